import PyProof.Rows.All
import Wide.All
import OpenK.AllK
import Wide.FinOn
import HandS.ForMost
import HandS.Wide
import HandS.IsInst
import HandS.TupLe
import HandS.SortInts
import HandS.TupAny
import HandS.Style
import HandS.Deep
import HandS.Zip
import HandS.Small
import HandS.More
import PySem.Challenge.RW_oathcoin_k83_broken_rules
set_option Elab.async false
set_option linter.all false
set_option maxRecDepth 100000
set_option autoImplicit false
namespace DL
open PySem L2

/-- plain data -/
inductive D where
  | non | bl (b : Bool) | int (i : Int) | str (x : Str)
  | lst (ds : List D) | tup (ds : List D) | obj (C : Addr) (fs : List (Str × D)) | ref (a : Addr) | ty (n : String)

mutual
inductive Dr (K : PySem.W.Frag) (B : Hp) : D → V → Prop
  | non : Dr K B .non .non
  | bl (b : Bool) : Dr K B (.bl b) (.bl b)
  | int (i : Int) : Dr K B (.int i) (.int i)
  | str (x : Str) : Dr K B (.str x) (.str x)
  | lst {a : Addr} {xs : List V} {ds : List D} : B a = some (.lst xs) → DrA K B ds xs → Dr K B (.lst ds) (.ref a)
  | tup {a : Addr} {xs : List V} {ds : List D} : SqT K B a xs → DrA K B ds xs → Dr K B (.tup ds) (.ref a)
  | obj {a C dx : Addr} {fs : List (Str × D)} {gs : List (Str × V)} : B a = some (.ins C dx gs) → DrF K B fs gs → Dr K B (.obj C fs) (.ref a)
  | ref (a : Addr) : Dr K B (.ref a) (.ref a)
  | ty (n : String) : Dr K B (.ty n) (.ty n)
inductive DrA (K : PySem.W.Frag) (B : Hp) : List D → List V → Prop
  | nil : DrA K B [] []
  | cons {d : D} {v : V} {ds : List D} {vs : List V} : Dr K B d v → DrA K B ds vs → DrA K B (d :: ds) (v :: vs)
inductive DrF (K : PySem.W.Frag) (B : Hp) : List (Str × D) → List (Str × V) → Prop
  | nil : DrF K B [] []
  | cons {f : Str} {d : D} {v : V} {ds : List (Str × D)} {vs : List (Str × V)} : Dr K B d v → DrF K B ds vs → DrF K B ((f, d) :: ds) ((f, v) :: vs)
end
section
variable {K : PySem.W.Frag} {B B' : Hp}
theorem sameT {a : Addr} {xs : List V} (e : Same B B') (h : SqT K B a xs) : SqT K B' a xs := by
  rcases h with (h | ⟨o, h⟩) | h
  · exact .inl (.inl (e _ _ h))
  · exact .inl (.inr ⟨o, e _ _ h⟩)
  · exact .inr h
mutual
theorem Dr.mono (e : Same B B') : ∀ {d : D} {v : V}, Dr K B d v → Dr K B' d v
  | _, _, .non => .non
  | _, _, .bl b => .bl b
  | _, _, .int i => .int i
  | _, _, .str x => .str x
  | _, _, .lst h r => .lst (e _ _ h) (DrA.mono e r)
  | _, _, .tup h r => .tup (sameT e h) (DrA.mono e r)
  | _, _, .obj h r => .obj (e _ _ h) (DrF.mono e r)
  | _, _, .ref a => .ref a
  | _, _, .ty n => .ty n
theorem DrA.mono (e : Same B B') : ∀ {ds : List D} {vs : List V}, DrA K B ds vs → DrA K B' ds vs
  | _, _, .nil => .nil
  | _, _, .cons h r => .cons (Dr.mono e h) (DrA.mono e r)
theorem DrF.mono (e : Same B B') : ∀ {ds : List (Str × D)} {vs : List (Str × V)}, DrF K B ds vs → DrF K B' ds vs
  | _, _, .nil => .nil
  | _, _, .cons h r => .cons (Dr.mono e h) (DrF.mono e r)
end
theorem DrA.len {ds : List D} {vs : List V} : DrA K B ds vs → ds.length = vs.length := by
  intro h
  induction ds generalizing vs with
  | nil => cases h; rfl
  | cons d r ih => cases h with | cons _ t => simp [ih t]
theorem DrA.get {ds : List D} {vs : List V} {i : Nat} {d : D} (h : DrA K B ds vs) (e : ds[i]? = some d) : ∃ v, vs[i]? = some v ∧ Dr K B d v := by
  induction ds generalizing vs i with
  | nil => simp at e
  | cons x r ih =>
    cases h with
    | cons h1 t =>
      cases i with
      | zero => simp at e; subst e; exact ⟨_, rfl, h1⟩
      | succ i => simp at e; obtain ⟨v, e1, e2⟩ := ih t e; exact ⟨v, by simpa using e1, e2⟩
theorem DrA.get' {ds : List D} {vs : List V} {i : Nat} {v : V} (h : DrA K B ds vs) (e : vs[i]? = some v) : ∃ d, ds[i]? = some d ∧ Dr K B d v := by
  have hl := h.len
  have : i < ds.length := by rw [hl]; exact (List.getElem?_eq_some_iff.mp e).1
  obtain ⟨w, e1, e2⟩ := h.get (List.getElem?_eq_getElem this)
  rw [e] at e1; cases e1
  exact ⟨_, List.getElem?_eq_getElem this, e2⟩
theorem DrA.append {ds es : List D} {vs ws : List V} (h : DrA K B ds vs) (h' : DrA K B es ws) : DrA K B (ds ++ es) (vs ++ ws) := by
  induction ds generalizing vs with
  | nil => cases h; exact h'
  | cons x r ih => cases h with | cons h1 t => exact .cons h1 (ih t)
theorem DrA.snoc {ds : List D} {vs : List V} {d : D} {v : V} (h : DrA K B ds vs) (h' : Dr K B d v) : DrA K B (ds ++ [d]) (vs ++ [v]) := h.append (.cons h' .nil)
theorem DrA.take {ds : List D} {vs : List V} (n : Nat) (h : DrA K B ds vs) : DrA K B (ds.take n) (vs.take n) := by
  induction ds generalizing vs n with
  | nil => cases h; simp; exact .nil
  | cons x r ih =>
    cases h with
    | cons h1 t =>
      cases n with
      | zero => exact .nil
      | succ n => exact .cons h1 (ih n t)
theorem DrA.drop {ds : List D} {vs : List V} (n : Nat) (h : DrA K B ds vs) : DrA K B (ds.drop n) (vs.drop n) := by
  induction ds generalizing vs n with
  | nil => cases h; simp; exact .nil
  | cons x r ih =>
    cases h with
    | cons h1 t =>
      cases n with
      | zero => exact .cons h1 t
      | succ n => exact ih n t
theorem DrA.set {ds : List D} {vs : List V} {d : D} {v : V} (n : Nat) (h : DrA K B ds vs) (h' : Dr K B d v) : DrA K B (ds.set n d) (vs.set n v) := by
  induction ds generalizing vs n with
  | nil => cases h; exact .nil
  | cons x r ih =>
    cases h with
    | cons h1 t =>
      cases n with
      | zero => exact .cons h' t
      | succ n => exact .cons h1 (ih n t)
theorem DrA.ints {ns : List Int} : DrA K B (ns.map D.int) (ns.map V.int) := by
  induction ns with
  | nil => exact .nil
  | cons x r ih => exact .cons (.int x) ih
theorem DrA.ints_inv {ns : List Int} {vs : List V} (h : DrA K B (ns.map D.int) vs) : vs = ns.map V.int := by
  induction ns generalizing vs with
  | nil => cases h; rfl
  | cons x r ih =>
    cases h with
    | cons h1 t => cases h1; rw [ih t]; rfl
theorem DrF.look {fs : List (Str × D)} {gs : List (Str × V)} {f : Str} {d : D} (h : DrF K B fs gs) (e : fs.lookup f = some d) : ∃ v, gs.lookup f = some v ∧ Dr K B d v := by
  induction fs generalizing gs with
  | nil => simp at e
  | cons x r ih =>
    cases h with
    | cons h1 t =>
      rw [List.lookup_cons] at e ⊢
      split at e
      · cases e; exact ⟨_, rfl, h1⟩
      · exact ih t e
theorem DrF.none {fs : List (Str × D)} {gs : List (Str × V)} {f : Str} (h : DrF K B fs gs) (e : fs.lookup f = none) : gs.lookup f = none := by
  induction fs generalizing gs with
  | nil => cases h; rfl
  | cons x r ih =>
    cases h with
    | cons h1 t =>
      rw [List.lookup_cons] at e ⊢
      split at e
      · cases e
      · exact ih t e
theorem DrF.len {ds : List (Str × D)} {vs : List (Str × V)} : DrF K B ds vs → ds.length = vs.length := by
  intro h
  induction ds generalizing vs with
  | nil => cases h; rfl
  | cons d r ih => cases h with | cons _ t => simp [ih t]
def putFD (f : Str) (d : D) : List (Str × D) → List (Str × D)
  | [] => [(f, d)]
  | (g, x) :: r => if g = f then (g, d) :: r else (g, x) :: putFD f d r
end

/-! ### worlds -/
structure Wd where
  B : Hp
  H : Hp
  sub : Same B H
structure Wd.le (w w' : Wd) : Prop where
  b : Same w.B w'.B
  h : Same w.H w'.H
  f : ∀ p o, w.H p = some o → w'.B p = w.B p
theorem Wd.rfl' (w : Wd) : w.le w := ⟨Same.refl _, Same.refl _, fun _ _ _ => rfl⟩
theorem Wd.le.trans {a b c : Wd} (h : a.le b) (h' : b.le c) : a.le c := ⟨h.b.trans h'.b, h.h.trans h'.h, fun p o e => (h'.f p o (h.h p o e)).trans (h.f p o e)⟩
theorem same_upd {H : Hp} {p : Addr} {o : HO} (h : H p = none) : Same H (upd H p o) := fun b x e => by
  rw [upd_ne (ne_of_none e h)]; exact e
/-- a new immutable object -/
def Wd.new (w : Wd) (p : Addr) (o : HO) (hp : w.H p = none) : Wd := ⟨upd w.B p o, upd w.H p o, fun b x e => by
  by_cases hb : b = p
  · subst hb; rw [upd_same] at e ⊢; exact e
  · rw [upd_ne hb] at e ⊢; exact w.sub b x e⟩
theorem Wd.freeB {w : Wd} {p : Addr} (h : w.H p = none) : w.B p = none := w.sub.free h
theorem Wd.le_new {w : Wd} {p : Addr} {o : HO} (hp : w.H p = none) : w.le (w.new p o hp) :=
  ⟨same_upd (w.freeB hp), same_upd hp, fun q u e => upd_ne (ne_of_none e hp)⟩
/-- a new object of one's own -/
def Wd.lay (w : Wd) (p : Addr) (o : HO) (hp : w.H p = none) : Wd := ⟨w.B, upd w.H p o, w.sub.trans (same_upd hp)⟩
theorem Wd.le_lay {w : Wd} {p : Addr} {o : HO} (hp : w.H p = none) : w.le (w.lay p o hp) := ⟨Same.refl _, same_upd hp, fun _ _ _ => rfl⟩
/-- an own object changed -/
def Wd.put (w : Wd) (p : Addr) (o : HO) (hp : w.B p = none) : Wd := ⟨w.B, upd w.H p o, fun b x e => by
  rw [upd_ne (ne_of_none e hp)]; exact w.sub b x e⟩
/-- an own object locked for ever -/
def Wd.frzL (w : Wd) (fp : List Addr) : Wd := ⟨fun a => if a ∈ fp then w.H a else w.B a, w.H, fun b x e => by
  by_cases hb : b ∈ fp
  · simpa [hb] using e
  · simp [hb] at e; exact w.sub b x e⟩

/-! ### trees of one's own -/
inductive OT where
  | imm (d : D) | lst (xs : List OT) | tup (xs : List OT) | dK (kvs : List (Key × OT)) | dT (kvs : List (List Key × OT)) | ins (C : Addr) (fs : List (Str × OT))
/-- a flat list -/
def oL (ds : List D) : OT := .lst (ds.map .imm)
mutual
inductive TR (K : PySem.W.Frag) (B H : Hp) : OT → V → List Addr → Prop
  | imm {d : D} {v : V} : Dr K B d v → TR K B H (.imm d) v []
  | lst {p : Addr} {xs : List OT} {vs : List V} {fp : List Addr} : H p = some (.lst vs) → TRs K B H xs vs fp → TR K B H (.lst xs) (.ref p) (p :: fp)
  | tup {p : Addr} {xs : List OT} {vs : List V} {fp : List Addr} : H p = some (.tup vs) → TRs K B H xs vs fp → TR K B H (.tup xs) (.ref p) (p :: fp)
  | dK {p : Addr} {xs : List (Key × OT)} {vs : List (Key × V)} {fp : List Addr} : H p = some (.dK vs) → vs.map (·.1) = xs.map (·.1) → TRs K B H (xs.map (·.2)) (vs.map (·.2)) fp → TR K B H (.dK xs) (.ref p) (p :: fp)
  | dT {p : Addr} {xs : List (List Key × OT)} {vs : List (List Key × V)} {fp : List Addr} : H p = some (.dT vs) → vs.map (·.1) = xs.map (·.1) → TRs K B H (xs.map (·.2)) (vs.map (·.2)) fp → TR K B H (.dT xs) (.ref p) (p :: fp)
  | ins {p C dx : Addr} {xs : List (Str × OT)} {vs : List (Str × V)} {fp : List Addr} : H p = some (.ins C dx vs) → vs.map (·.1) = xs.map (·.1) → TRs K B H (xs.map (·.2)) (vs.map (·.2)) fp → TR K B H (.ins C xs) (.ref p) (p :: fp)
inductive TRs (K : PySem.W.Frag) (B H : Hp) : List OT → List V → List Addr → Prop
  | nil : TRs K B H [] [] []
  | cons {x : OT} {v : V} {f1 f2 : List Addr} {xs : List OT} {vs : List V} : TR K B H x v f1 → TRs K B H xs vs f2 → TRs K B H (x :: xs) (v :: vs) (f1 ++ f2)
end
section
variable {K : PySem.W.Frag} {B B' H H' : Hp}
mutual
theorem TR.mono (hb : Same B B') : ∀ {t : OT} {v : V} {fp : List Addr}, TR K B H t v fp → (∀ p o, p ∈ fp → H p = some o → H' p = some o) → TR K B' H' t v fp
  | _, _, _, .imm h, _ => .imm (h.mono hb)
  | _, _, _, .lst h r, hh => .lst (hh _ _ (by simp) h) (TRs.mono hb r fun p o z => hh p o (by simp [z]))
  | _, _, _, .tup h r, hh => .tup (hh _ _ (by simp) h) (TRs.mono hb r fun p o z => hh p o (by simp [z]))
  | _, _, _, .dK h e r, hh => .dK (hh _ _ (by simp) h) e (TRs.mono hb r fun p o z => hh p o (by simp [z]))
  | _, _, _, .dT h e r, hh => .dT (hh _ _ (by simp) h) e (TRs.mono hb r fun p o z => hh p o (by simp [z]))
  | _, _, _, .ins h e r, hh => .ins (hh _ _ (by simp) h) e (TRs.mono hb r fun p o z => hh p o (by simp [z]))
theorem TRs.mono (hb : Same B B') : ∀ {t : List OT} {v : List V} {fp : List Addr}, TRs K B H t v fp → (∀ p o, p ∈ fp → H p = some o → H' p = some o) → TRs K B' H' t v fp
  | _, _, _, .nil, _ => .nil
  | _, _, _, .cons h r, hh => .cons (TR.mono hb h fun p o z => hh p o (by simp [z])) (TRs.mono hb r fun p o z => hh p o (by simp [z]))
end
mutual
theorem TR.there : ∀ {t : OT} {v : V} {fp : List Addr}, TR K B H t v fp → ∀ p ∈ fp, ∃ o, H p = some o
  | _, _, _, .imm h, p, z => by simp at z
  | _, _, _, .lst h r, p, z => by rcases List.mem_cons.mp z with e | z; exact ⟨_, e ▸ h⟩; exact TRs.there r p z
  | _, _, _, .tup h r, p, z => by rcases List.mem_cons.mp z with e | z; exact ⟨_, e ▸ h⟩; exact TRs.there r p z
  | _, _, _, .dK h _ r, p, z => by rcases List.mem_cons.mp z with e | z; exact ⟨_, e ▸ h⟩; exact TRs.there r p z
  | _, _, _, .dT h _ r, p, z => by rcases List.mem_cons.mp z with e | z; exact ⟨_, e ▸ h⟩; exact TRs.there r p z
  | _, _, _, .ins h _ r, p, z => by rcases List.mem_cons.mp z with e | z; exact ⟨_, e ▸ h⟩; exact TRs.there r p z
theorem TRs.there : ∀ {t : List OT} {v : List V} {fp : List Addr}, TRs K B H t v fp → ∀ p ∈ fp, ∃ o, H p = some o
  | _, _, _, .nil, p, z => by simp at z
  | _, _, _, .cons h r, p, z => by rcases List.mem_append.mp z with z | z; exact TR.there h p z; exact TRs.there r p z
end
theorem TRs.len {xs : List OT} {vs : List V} {fp : List Addr} (h : TRs K B H xs vs fp) : xs.length = vs.length := by
  induction xs generalizing vs fp with
  | nil => cases h; rfl
  | cons x r ih => cases h with | cons _ t => simp [ih t]
theorem TRs.imms {ds : List D} {vs : List V} (h : DrA K B ds vs) : TRs K B H (ds.map .imm) vs [] := by
  induction ds generalizing vs with
  | nil => cases h; exact .nil
  | cons d r ih => cases h with | cons a b => exact .cons (.imm a) (ih b)
theorem TRs.imms_inv {ds : List D} {vs : List V} {fp : List Addr} (h : TRs K B H (ds.map .imm) vs fp) : fp = [] ∧ DrA K B ds vs := by
  induction ds generalizing vs fp with
  | nil => cases h; exact ⟨rfl, .nil⟩
  | cons d r ih =>
    cases h with
    | cons a b =>
      cases a with
      | imm a =>
        obtain ⟨rfl, c⟩ := ih b
        exact ⟨rfl, .cons a c⟩
theorem TR.ofL {p : Addr} {ds : List D} {vs : List V} (h : H p = some (.lst vs)) (r : DrA K B ds vs) : TR K B H (oL ds) (.ref p) [p] := .lst h (TRs.imms r)
theorem TR.oL_inv {ds : List D} {v : V} {fp : List Addr} (h : TR K B H (DL.oL ds) v fp) : ∃ p vs, v = .ref p ∧ fp = [p] ∧ H p = some (.lst vs) ∧ DrA K B ds vs := by
  unfold DL.oL at h
  cases h with
  | lst h r =>
    obtain ⟨e, q⟩ := r.imms_inv
    subst e
    exact ⟨_, _, rfl, rfl, h, q⟩
theorem TRs.append {xs ys : List OT} {vs ws : List V} {f g : List Addr} (h : TRs K B H xs vs f) (h' : TRs K B H ys ws g) : TRs K B H (xs ++ ys) (vs ++ ws) (f ++ g) := by
  induction xs generalizing vs f with
  | nil => cases h; exact h'
  | cons x r ih => cases h with | cons a b => rw [List.append_assoc]; exact .cons a (ih b)
mutual
inductive TD : OT → D → Prop
  | imm (d : D) : TD (.imm d) d
  | lst {xs : List OT} {ds : List D} : TDs xs ds → TD (.lst xs) (.lst ds)
  | tup {xs : List OT} {ds : List D} : TDs xs ds → TD (.tup xs) (.tup ds)
  | ins {C : Addr} {fs : List (Str × OT)} {ds : List D} : TDs (fs.map (·.2)) ds → TD (.ins C fs) (.obj C ((fs.map (·.1)).zip ds))
inductive TDs : List OT → List D → Prop
  | nil : TDs [] []
  | cons {x : OT} {d : D} {xs : List OT} {ds : List D} : TD x d → TDs xs ds → TDs (x :: xs) (d :: ds)
end
theorem TD.oL (ds : List D) : TD (DL.oL ds) (.lst ds) := .lst (by
  induction ds with
  | nil => exact .nil
  | cons d r ih => exact .cons (.imm d) ih)
theorem DrF.zip {ds : List D} {vs : List (Str × V)} (h : DrA K B ds (vs.map (·.2))) : DrF K B ((vs.map (·.1)).zip ds) vs := by
  induction vs generalizing ds with
  | nil => exact .nil
  | cons v r ih =>
    cases ds with
    | nil => cases h
    | cons d ds => cases h with | cons a b => exact .cons a (ih b)
mutual
theorem TD.dr (hb : Same B B') : ∀ {t : OT} {d : D}, TD t d → ∀ {v : V} {fp : List Addr}, TR K B H t v fp → (∀ p o, p ∈ fp → H p = some o → B' p = some o) → Dr K B' d v
  | _, _, .imm d, _, _, .imm h, _ => h.mono hb
  | _, _, .lst q, _, _, .lst h r, k => .lst (k _ _ (by simp) h) (TDs.dr hb q r fun p o z => k p o (by simp [z]))
  | _, _, .tup q, _, _, .tup h r, k => .tup (.inl (.inl (k _ _ (by simp) h))) (TDs.dr hb q r fun p o z => k p o (by simp [z]))
  | _, _, .ins q, _, _, .ins h e r, k => .obj (k _ _ (by simp) h) (by
    have := DrF.zip (TDs.dr hb q r fun p o z => k p o (by simp [z]))
    rw [e] at this; exact this)
theorem TDs.dr (hb : Same B B') : ∀ {t : List OT} {d : List D}, TDs t d → ∀ {v : List V} {fp : List Addr}, TRs K B H t v fp → (∀ p o, p ∈ fp → H p = some o → B' p = some o) → DrA K B' d v
  | _, _, .nil, _, _, .nil, _ => .nil
  | _, _, .cons q qs, _, _, .cons h r, k => .cons (TD.dr hb q h fun p o z => k p o (by simp [z])) (TDs.dr hb qs r fun p o z => k p o (by simp [z]))
end
/-- one child -/
theorem TRs.focus {xs : List OT} {vs : List V} {fp : List Addr} {j : Nat} {s : OT} (h : TRs K B H xs vs fp) (e : xs[j]? = some s) :
    ∃ u f1 fs, vs[j]? = some u ∧ fp.Perm (f1 ++ fs) ∧ TR K B H s u fs ∧ ∀ (B' H' : Hp) (s' : OT) (fs' : List Addr), Same B B' → (∀ p o, p ∈ f1 → H p = some o → H' p = some o) → TR K B' H' s' u fs' → ∃ fp', TRs K B' H' (xs.set j s') vs fp' ∧ fp'.Perm (f1 ++ fs') := by
  induction xs generalizing vs fp j with
  | nil => simp at e
  | cons x r ih =>
    cases h with
    | @cons _ v fa fb _ vs h t =>
      cases j with
      | zero =>
        simp at e; subst e
        exact ⟨v, fb, fa, rfl, List.perm_append_comm, h, fun B' H' s' fs' hb hh q => ⟨fs' ++ fb, .cons q (t.mono hb hh), List.perm_append_comm⟩⟩
      | succ j =>
        simp at e
        obtain ⟨u, f1, fs, e1, pm, q, rb⟩ := ih t e
        refine ⟨u, fa ++ f1, fs, by simpa using e1, ?_, q, fun B' H' s' fs' hb hh q' => ?_⟩
        · rw [List.append_assoc]; exact List.Perm.append_left fa pm
        · obtain ⟨fp', z1, z2⟩ := rb B' H' s' fs' hb (fun p o z => hh p o (by simp [z])) q'
          exact ⟨fa ++ fp', .cons (h.mono hb fun p o z => hh p o (by simp [z])) z1, by rw [List.append_assoc]; exact List.Perm.append_left fa z2⟩
theorem perm3 {α : Type} {p : α} {a b c d e : List α} (h : a.Perm (b ++ c)) (h' : c.Perm (d ++ e)) : (p :: a).Perm ((p :: (b ++ d)) ++ e) := by
  show (p :: a).Perm (p :: ((b ++ d) ++ e))
  rw [List.append_assoc]
  exact List.Perm.cons p (h.trans (List.Perm.append_left b h'))
/-- s stands in t: its value, and t with another in its place -/
inductive AtV (H : Hp) : OT → V → OT → V → (OT → OT) → Prop
  | here {t : OT} {v : V} : AtV H t v t v id
  | lst {p : Addr} {xs : List OT} {vs : List V} {j : Nat} {c s : OT} {cv u : V} {f : OT → OT} : H p = some (.lst vs) → xs[j]? = some c → vs[j]? = some cv → AtV H c cv s u f → AtV H (.lst xs) (.ref p) s u (fun s' => .lst (xs.set j (f s')))
  | tup {p : Addr} {xs : List OT} {vs : List V} {j : Nat} {c s : OT} {cv u : V} {f : OT → OT} : H p = some (.tup vs) → xs[j]? = some c → vs[j]? = some cv → AtV H c cv s u f → AtV H (.tup xs) (.ref p) s u (fun s' => .tup (xs.set j (f s')))
  | dK {p : Addr} {xs : List (Key × OT)} {vs : List (Key × V)} {j : Nat} {k : Key} {c s : OT} {cv u : V} {f : OT → OT} : H p = some (.dK vs) → xs[j]? = some (k, c) → vs[j]? = some (k, cv) → AtV H c cv s u f → AtV H (.dK xs) (.ref p) s u (fun s' => .dK (xs.set j (k, f s')))
  | dT {p : Addr} {xs : List (List Key × OT)} {vs : List (List Key × V)} {j : Nat} {k : List Key} {c s : OT} {cv u : V} {f : OT → OT} : H p = some (.dT vs) → xs[j]? = some (k, c) → vs[j]? = some (k, cv) → AtV H c cv s u f → AtV H (.dT xs) (.ref p) s u (fun s' => .dT (xs.set j (k, f s')))
  | ins {p C dx : Addr} {xs : List (Str × OT)} {vs : List (Str × V)} {j : Nat} {k : Str} {c s : OT} {cv u : V} {f : OT → OT} : H p = some (.ins C dx vs) → xs[j]? = some (k, c) → vs[j]? = some (k, cv) → AtV H c cv s u f → AtV H (.ins C xs) (.ref p) s u (fun s' => .ins C (xs.set j (k, f s')))
theorem AtV.mono {t s : OT} {v u : V} {f : OT → OT} (hh : Same H H') (a : AtV H t v s u f) : AtV H' t v s u f := by
  induction a with
  | here => exact .here
  | lst h e1 e2 _ ih => exact .lst (hh _ _ h) e1 e2 ih
  | tup h e1 e2 _ ih => exact .tup (hh _ _ h) e1 e2 ih
  | dK h e1 e2 _ ih => exact .dK (hh _ _ h) e1 e2 ih
  | dT h e1 e2 _ ih => exact .dT (hh _ _ h) e1 e2 ih
  | ins h e1 e2 _ ih => exact .ins (hh _ _ h) e1 e2 ih
theorem set_fst {κ α : Type} {xs : List (κ × α)} {j : Nat} {k : κ} {c x : α} (e : xs[j]? = some (k, c)) : (xs.set j (k, x)).map (·.1) = xs.map (·.1) := by
  apply List.ext_getElem?
  intro i
  rw [List.getElem?_map, List.getElem?_map, List.getElem?_set]
  by_cases hj : j = i
  · subst hj
    have hl := (List.getElem?_eq_some_iff.mp e).1
    simp [hl, e]
    have := (List.getElem?_eq_some_iff.mp e).2
    rw [this]
  · simp [hj]
theorem set_snd {κ α : Type} {xs : List (κ × α)} {j : Nat} {k : κ} {x : α} : (xs.set j (k, x)).map (·.2) = (xs.map (·.2)).set j x := by rw [List.map_set]
theorem AtV.focus {t s : OT} {v u : V} {f : OT → OT} (a : AtV H t v s u f) : ∀ {fp : List Addr}, TR K B H t v fp →
    ∃ f1 fs, fp.Perm (f1 ++ fs) ∧ TR K B H s u fs ∧ ∀ (B' H' : Hp) (s' : OT) (fs' : List Addr), Same B B' → (∀ p o, p ∈ f1 → H p = some o → H' p = some o) → TR K B' H' s' u fs' → ∃ fp', TR K B' H' (f s') v fp' ∧ fp'.Perm (f1 ++ fs') := by
  induction a with
  | here => intro fp h; exact ⟨[], fp, by simp, h, fun B' H' s' fs' _ _ q => ⟨fs', q, by simp⟩⟩
  | @lst p xs vs j c s cv u f h e1 e2 _ ih =>
    intro fp hT
    cases hT with
    | @lst _ _ vs' fp h' r =>
      rw [h] at h'; cases h'
      obtain ⟨u1, f1, fs, g1, g2, g3, g4⟩ := r.focus e1
      rw [e2] at g1; cases g1
      obtain ⟨k1, ks, m1, m2, m3⟩ := ih g3
      refine ⟨p :: (f1 ++ k1), ks, ?_, m2, fun B' H' s' fs' hb hh q => ?_⟩
      · exact perm3 g2 m1
      · obtain ⟨fp1, n1, n2⟩ := m3 B' H' s' fs' hb (fun p o z => hh p o (by simp [z])) q
        obtain ⟨fp2, o1, o2⟩ := g4 B' H' _ fp1 hb (fun p o z => hh p o (by simp [z])) n1
        exact ⟨p :: fp2, .lst (hh p _ (by simp) h) o1, perm3 o2 n2⟩
  | @tup p xs vs j c s cv u f h e1 e2 _ ih =>
    intro fp hT
    cases hT with
    | @tup _ _ vs' fp h' r =>
      rw [h] at h'; cases h'
      obtain ⟨u1, f1, fs, g1, g2, g3, g4⟩ := r.focus e1
      rw [e2] at g1; cases g1
      obtain ⟨k1, ks, m1, m2, m3⟩ := ih g3
      refine ⟨p :: (f1 ++ k1), ks, ?_, m2, fun B' H' s' fs' hb hh q => ?_⟩
      · exact perm3 g2 m1
      · obtain ⟨fp1, n1, n2⟩ := m3 B' H' s' fs' hb (fun p o z => hh p o (by simp [z])) q
        obtain ⟨fp2, o1, o2⟩ := g4 B' H' _ fp1 hb (fun p o z => hh p o (by simp [z])) n1
        exact ⟨p :: fp2, .tup (hh p _ (by simp) h) o1, perm3 o2 n2⟩
  | @dK p xs vs j k c s cv u f h e1 e2 _ ih =>
    intro fp hT
    cases hT with
    | @dK _ _ vs' fp h' ek r =>
      rw [h] at h'; cases h'
      obtain ⟨u1, f1, fs, g1, g2, g3, g4⟩ := r.focus (j := j) (s := c) (by rw [List.getElem?_map, e1]; rfl)
      rw [List.getElem?_map, e2] at g1; cases g1
      obtain ⟨k1, ks, m1, m2, m3⟩ := ih g3
      refine ⟨p :: (f1 ++ k1), ks, ?_, m2, fun B' H' s' fs' hb hh q => ?_⟩
      · exact perm3 g2 m1
      · obtain ⟨fp1, n1, n2⟩ := m3 B' H' s' fs' hb (fun p o z => hh p o (by simp [z])) q
        obtain ⟨fp2, o1, o2⟩ := g4 B' H' _ fp1 hb (fun p o z => hh p o (by simp [z])) n1
        exact ⟨p :: fp2, .dK (hh p _ (by simp) h) (by rw [set_fst e1]; exact ek) (by rw [set_snd]; exact o1), perm3 o2 n2⟩
  | @dT p xs vs j k c s cv u f h e1 e2 _ ih =>
    intro fp hT
    cases hT with
    | @dT _ _ vs' fp h' ek r =>
      rw [h] at h'; cases h'
      obtain ⟨u1, f1, fs, g1, g2, g3, g4⟩ := r.focus (j := j) (s := c) (by rw [List.getElem?_map, e1]; rfl)
      rw [List.getElem?_map, e2] at g1; cases g1
      obtain ⟨k1, ks, m1, m2, m3⟩ := ih g3
      refine ⟨p :: (f1 ++ k1), ks, ?_, m2, fun B' H' s' fs' hb hh q => ?_⟩
      · exact perm3 g2 m1
      · obtain ⟨fp1, n1, n2⟩ := m3 B' H' s' fs' hb (fun p o z => hh p o (by simp [z])) q
        obtain ⟨fp2, o1, o2⟩ := g4 B' H' _ fp1 hb (fun p o z => hh p o (by simp [z])) n1
        exact ⟨p :: fp2, .dT (hh p _ (by simp) h) (by rw [set_fst e1]; exact ek) (by rw [set_snd]; exact o1), perm3 o2 n2⟩
  | @ins p C dx xs vs j k c s cv u f h e1 e2 _ ih =>
    intro fp hT
    cases hT with
    | @ins _ _ _ _ vs' fp h' ek r =>
      rw [h] at h'; cases h'
      obtain ⟨u1, f1, fs, g1, g2, g3, g4⟩ := r.focus (j := j) (s := c) (by rw [List.getElem?_map, e1]; rfl)
      rw [List.getElem?_map, e2] at g1; cases g1
      obtain ⟨k1, ks, m1, m2, m3⟩ := ih g3
      refine ⟨p :: (f1 ++ k1), ks, ?_, m2, fun B' H' s' fs' hb hh q => ?_⟩
      · exact perm3 g2 m1
      · obtain ⟨fp1, n1, n2⟩ := m3 B' H' s' fs' hb (fun p o z => hh p o (by simp [z])) q
        obtain ⟨fp2, o1, o2⟩ := g4 B' H' _ fp1 hb (fun p o z => hh p o (by simp [z])) n1
        exact ⟨p :: fp2, .ins (hh p _ (by simp) h) (by rw [set_fst e1]; exact ek) (by rw [set_snd]; exact o1), perm3 o2 n2⟩
end
/-! ### slots -/
/-- what a slot holds: nothing known; data for ever; a tree of one's own; a parameter's tree, the caller's; a list that is read; the script -/
inductive Sl where
  | un | val (d : D) | own (t : OT) | io (t : OT) | bor (ds : List D) | scr (ds : List D) | brt (t : OT)
/-- the world and the arguments at a def's entry -/
structure En where
  w0 : Wd
  args : List V
def Own (K : PySem.W.Frag) (H0 : Hp) (w : Wd) (t : OT) (v : V) (fp : List Addr) : Prop := TR K w.B w.H t v fp ∧ fp.Nodup ∧ ∀ p ∈ fp, H0 p = none ∧ w.B p = none
def SlS (K : PySem.W.Frag) (en : En) (w : Wd) (i : Nat) : Sl → Option V → List Addr → Prop
  | .un, _, fp => fp = []
  | .val d, o, fp => fp = [] ∧ ∃ v, o = some v ∧ Dr K w.B d v
  | .own t, o, fp => ∃ v, o = some v ∧ Own K en.w0.H w t v fp
  | .io t, o, fp => (∃ v, o = some v ∧ Own K en.w0.H w t v fp) ∧ en.args[i]? = o
  | .bor ds, o, fp => fp = [] ∧ ∃ p xs, o = some (.ref p) ∧ en.w0.H p = some (.lst xs) ∧ DrA K w.B ds xs
  | .scr ds, o, fp => fp = [] ∧ ∃ p xs, o = some (.ref p) ∧ SqL K en.w0.H p xs ∧ DrA K w.B ds xs
  | .brt t, o, fp => fp = [] ∧ ∃ v f', o = some v ∧ TR K w.B en.w0.H t v f'
/-- a result: w the world ahead, w' behind -/
def SlN (K : PySem.W.Frag) (w w' : Wd) : Sl → V → Prop
  | .un, _ => True
  | .val d, v => Dr K w'.B d v
  | .own t, v => ∃ fp, Own K w.H w' t v fp
  | .io _, _ => False
  | .bor ds, v => ∃ p xs, v = .ref p ∧ w'.H p = some (.lst xs) ∧ DrA K w'.B ds xs
  | .scr ds, v => ∃ p xs, v = .ref p ∧ SqL K w'.H p xs ∧ DrA K w'.B ds xs
  | .brt t, v => ∃ f', TR K w'.B w'.H t v f'
structure RelF (K : PySem.W.Frag) (en : En) (w : Wd) (env : List Sl) (σ : L2.St) (F : Nat → List Addr) : Prop where
  le : en.w0.le w
  len : env.length = σ.length
  an : en.args.length ≤ env.length
  sl : ∀ (i : Nat) s o, env[i]? = some s → σ[i]? = some o → SlS K en w i s o (F i)
  ap : ∀ (i j : Nat) p, i < env.length → j < env.length → p ∈ F i → p ∈ F j → i = j
def Rel (K : PySem.W.Frag) (en : En) (w : Wd) (env : List Sl) (σ : L2.St) : Prop := ∃ F, RelF K en w env σ F
section
variable {K : PySem.W.Frag} {en : En} {w w' w'' : Wd} {env : List Sl} {σ : L2.St} {F : Nat → List Addr}
theorem Own.keep {H0 : Hp} {t : OT} {v : V} {fp : List Addr} (hb : Same w.B w'.B) (hh : ∀ p o, p ∈ fp → w.H p = some o → w'.H p = some o ∧ (w.B p = none → w'.B p = none)) (h : Own K H0 w t v fp) : Own K H0 w' t v fp := by
  obtain ⟨a, b, c⟩ := h
  refine ⟨a.mono hb fun p o z e => (hh p o z e).1, b, fun p z => ⟨(c p z).1, ?_⟩⟩
  obtain ⟨o, e⟩ := a.there p z
  exact (hh p o z e).2 (c p z).2
theorem Own.grow {H0 : Hp} {t : OT} {v : V} {fp : List Addr} (e : w.le w') (h : Own K H0 w t v fp) : Own K H0 w' t v fp := h.keep e.b fun p o _ z => ⟨e.h _ _ z, fun n => (e.f p o z).trans n⟩
theorem SlS.keep {i : Nat} {s : Sl} {o : Option V} {fp : List Addr} (hb : Same w.B w'.B) (hh : ∀ p o, p ∈ fp → w.H p = some o → w'.H p = some o ∧ (w.B p = none → w'.B p = none)) (h : SlS K en w i s o fp) : SlS K en w' i s o fp := by
  cases s with
  | un => exact h
  | val d => obtain ⟨e0, v, e1, r⟩ := h; exact ⟨e0, v, e1, r.mono hb⟩
  | own t => obtain ⟨v, e1, r⟩ := h; exact ⟨v, e1, r.keep hb hh⟩
  | io t => obtain ⟨⟨v, e1, r⟩, q⟩ := h; exact ⟨⟨v, e1, r.keep hb hh⟩, q⟩
  | bor ds => obtain ⟨e0, p, xs, e1, e2, r⟩ := h; exact ⟨e0, p, xs, e1, e2, r.mono hb⟩
  | scr ds => obtain ⟨e0, p, xs, e1, e2, r⟩ := h; exact ⟨e0, p, xs, e1, e2, r.mono hb⟩
  | brt t => obtain ⟨e0, v, f', e1, r⟩ := h; exact ⟨e0, v, f', e1, r.mono hb fun _ _ _ z => z⟩
theorem SlS.grow {i : Nat} {s : Sl} {o : Option V} {fp : List Addr} (e : w.le w') (h : SlS K en w i s o fp) : SlS K en w' i s o fp := h.keep e.b fun p o _ z => ⟨e.h _ _ z, fun n => (e.f p o z).trans n⟩
/-- a slot's own nodes stand in the heap, not in what is data -/
theorem SlS.fp {i : Nat} {s : Sl} {o : Option V} {fp : List Addr} (h : SlS K en w i s o fp) : ∀ p ∈ fp, (∃ o, w.H p = some o) ∧ en.w0.H p = none ∧ w.B p = none := by
  have own : ∀ {t v}, Own K en.w0.H w t v fp → ∀ p ∈ fp, (∃ o, w.H p = some o) ∧ en.w0.H p = none ∧ w.B p = none := fun h p z => ⟨h.1.there p z, h.2.2 p z⟩
  cases s with
  | un => intro p z; rw [show fp = [] from h] at z; simp at z
  | val d => intro p z; rw [h.1] at z; simp at z
  | own t => obtain ⟨v, _, r⟩ := h; exact own r
  | io t => obtain ⟨⟨v, _, r⟩, _⟩ := h; exact own r
  | bor ds => intro p z; rw [h.1] at z; simp at z
  | scr ds => intro p z; rw [h.1] at z; simp at z
  | brt ds => intro p z; rw [h.1] at z; simp at z
theorem SlN.grow {s : Sl} {v : V} (e : w'.le w'') (h : SlN K w w' s v) : SlN K w w'' s v := by
  cases s with
  | un => trivial
  | val d => exact Dr.mono e.b h
  | own t => obtain ⟨fp, r⟩ := h; exact ⟨fp, r.grow e⟩
  | io t => exact h
  | bor ds => obtain ⟨p, xs, e1, e2, r⟩ := h; exact ⟨p, xs, e1, e.h _ _ e2, r.mono e.b⟩
  | scr ds => obtain ⟨p, xs, e1, e2, r⟩ := h; exact ⟨p, xs, e1, e.h.seq e2, r.mono e.b⟩
  | brt t => obtain ⟨f', r⟩ := h; exact ⟨f', r.mono e.b fun p o _ z => e.h p o z⟩
theorem SlN.back {s : Sl} {v : V} (e : w.le w') (h : SlN K w' w'' s v) : SlN K w w'' s v := by
  cases s with
  | own t => obtain ⟨fp, a, b, c⟩ := h; exact ⟨fp, a, b, fun p z => ⟨e.h.free (c p z).1, (c p z).2⟩⟩
  | un => trivial
  | val d => exact h
  | io t => exact h
  | bor ds => exact h
  | scr ds => exact h
  | brt ds => exact h
theorem RelF.grow (R : RelF K en w env σ F) (e : w.le w') : RelF K en w' env σ F := ⟨R.le.trans e, R.len, R.an, fun i s o a b => (R.sl i s o a b).grow e, R.ap⟩
theorem Rel.grow (R : Rel K en w env σ) (e : w.le w') : Rel K en w' env σ := let ⟨F, R⟩ := R; ⟨F, R.grow e⟩
theorem Rel.le (R : Rel K en w env σ) : en.w0.le w := let ⟨_, R⟩ := R; R.le
theorem Rel.an (R : Rel K en w env σ) : en.args.length ≤ env.length := let ⟨_, R⟩ := R; R.an
theorem Rel.len (R : Rel K en w env σ) : env.length = σ.length := let ⟨_, R⟩ := R; R.len
theorem RelF.at {i : Nat} {s : Sl} (R : RelF K en w env σ F) (e : env[i]? = some s) : ∃ o, σ[i]? = some o ∧ SlS K en w i s o (F i) := by
  have : i < σ.length := by rw [← R.len]; exact (List.getElem?_eq_some_iff.mp e).1
  exact ⟨σ[i], List.getElem?_eq_getElem this, R.sl i s _ e (List.getElem?_eq_getElem this)⟩
theorem Rel.at {i : Nat} {s : Sl} (R : Rel K en w env σ) (e : env[i]? = some s) : ∃ o fp, σ[i]? = some o ∧ SlS K en w i s o fp := let ⟨F, R⟩ := R; let ⟨o, a, b⟩ := R.at e; ⟨o, F i, a, b⟩
/-- one slot anew, perhaps another world -/
theorem RelF.upd {i : Nat} {s : Sl} {o : Option V} {fp : List Addr} (R : RelF K en w env σ F) (hle : en.w0.le w') (keep : ∀ (j : Nat) s o, j ≠ i → env[j]? = some s → SlS K en w j s o (F j) → SlS K en w' j s o (F j))
    (new : SlS K en w' i s o fp) (dis : ∀ (j : Nat) p, j ≠ i → j < env.length → p ∈ fp → p ∈ F j → False) : RelF K en w' (env.set i s) (σ.set i o) (fun j => if j = i then fp else F j) := by
  refine ⟨hle, by simp [R.len], by simpa using R.an, fun j s' o' a b => ?_, fun j k p hj hk a b => ?_⟩
  · by_cases hj : j = i
    · subst hj
      have h1 : j < env.length := by simpa using (List.getElem?_eq_some_iff.mp a).1
      rw [List.getElem?_set_self h1] at a
      rw [List.getElem?_set_self (by rw [← R.len]; exact h1)] at b
      cases a; cases b
      simpa using new
    · rw [List.getElem?_set_ne (Ne.symm hj)] at a b
      simp only [hj, if_false]
      exact keep j s' o' hj a (R.sl j s' o' a b)
  · simp only [List.length_set] at hj hk
    by_cases h1 : j = i
    · by_cases h2 : k = i
      · rw [h1, h2]
      · simp only [h1, if_true] at a; simp only [h2, if_false] at b
        exact (dis k p h2 hk a b).elim
    · by_cases h2 : k = i
      · simp only [h2, if_true] at b; simp only [h1, if_false] at a
        exact (dis j p h1 hj b a).elim
      · simp only [h1, if_false] at a; simp only [h2, if_false] at b
        exact R.ap j k p hj hk a b
theorem Rel.setVal {i : Nat} {d : D} {v : V} (R : Rel K en w env σ) (h : Dr K w.B d v) : Rel K en w (env.set i (.val d)) (σ.set i (some v)) := by
  obtain ⟨F, R⟩ := R
  exact ⟨_, R.upd (fp := []) R.le (fun _ _ _ _ _ z => z) ⟨rfl, v, rfl, h⟩ fun _ _ _ _ z => by simp at z⟩
theorem Rel.setUn {i : Nat} {v : Option V} (R : Rel K en w env σ) : Rel K en w (env.set i .un) (σ.set i v) := by
  obtain ⟨F, R⟩ := R
  exact ⟨_, R.upd (fp := []) R.le (fun _ _ _ _ _ z => z) rfl fun _ _ _ _ z => by simp at z⟩
theorem slot_at {i : Nat} (h : i < env.length) (hl : env.length = σ.length) : ∃ s o, env[i]? = some s ∧ σ[i]? = some o :=
  ⟨env[i], σ[i], List.getElem?_eq_getElem h, List.getElem?_eq_getElem (by omega)⟩
/-- a new tree is stored: w the world ahead of the expression -/
theorem Rel.setOwn {i : Nat} {t : OT} {v : V} (R : Rel K en w env σ) (e : w.le w') (h : SlN K w w' (.own t) v) : Rel K en w' (env.set i (.own t)) (σ.set i (some v)) := by
  obtain ⟨F, R⟩ := R
  obtain ⟨fp, a, b, c⟩ := h
  refine ⟨_, R.upd (w' := w') (fp := fp) (R.le.trans e) (fun j s o _ _ z => z.grow e) ⟨v, rfl, a, b, fun p z => ⟨R.le.h.free (c p z).1, (c p z).2⟩⟩ fun j p hj hl z1 z2 => ?_⟩
  obtain ⟨s, o, q1, q2⟩ := slot_at hl R.len
  obtain ⟨⟨o', h1⟩, _⟩ := (R.sl j s o q1 q2).fp p z2
  rw [(c p z1).1] at h1
  cases h1
/-- a node in a slot's tree is written: the subtree s at u becomes s', its nodes fs' -/
theorem Rel.node {i : Nat} {t s s' : OT} {v u : V} {f : OT → OT} {w1 : Wd} (R : Rel K en w env σ) (e : env[i]? = some (.own t) ∨ env[i]? = some (.io t)) (hv : σ[i]? = some (some v)) (a : AtV w.H t v s u f)
    (hb : Same w.B w1.B)
    (new : ∀ fs, TR K w.B w.H s u fs → fs.Nodup → (∀ p ∈ fs, en.w0.H p = none ∧ w.B p = none) →
      (∀ p o, p ∉ fs → w.H p = some o → w1.H p = some o ∧ (w.B p = none → w1.B p = none)) ∧ ∃ fs', TR K w1.B w1.H s' u fs' ∧ fs'.Nodup ∧ ∀ p ∈ fs', en.w0.H p = none ∧ w1.B p = none ∧ (p ∈ fs ∨ w.H p = none))
    (hf : ∀ p o, en.w0.H p = some o → w1.B p = en.w0.B p) :
    Rel K en w1 (env.set i (match env[i]? with | some (.io _) => .io (f s') | _ => .own (f s'))) σ := by
  obtain ⟨F, R⟩ := R
  have hl : i < env.length := by rcases e with e | e <;> exact (List.getElem?_eq_some_iff.mp e).1
  have own : Own K en.w0.H w t v (F i) := by
    rcases e with e | e
    · obtain ⟨v', z, r⟩ := R.sl i _ _ e hv; cases z; exact r
    · obtain ⟨⟨v', z, r⟩, _⟩ := R.sl i _ _ e hv; cases z; exact r
  obtain ⟨tr, nd, no⟩ := own
  obtain ⟨f1, fs, pm, ts, rb⟩ := a.focus tr
  have nd2 : (f1 ++ fs).Nodup := pm.nodup_iff.mp nd
  have inF : ∀ p, p ∈ f1 ∨ p ∈ fs → p ∈ F i := fun p z => pm.mem_iff.mpr (List.mem_append.mpr z)
  obtain ⟨keep, fs', ts', nd', no'⟩ := new fs ts (List.nodup_append.mp nd2).2.1 fun p z => no p (inF p (.inr z))
  have ndis : ∀ p, p ∈ f1 → p ∈ fs → False := fun p z1 z2 => (List.nodup_append.mp nd2).2.2 p z1 p z2 rfl
  obtain ⟨fp', tf, pm'⟩ := rb w1.B w1.H s' fs' hb (fun p o z q => (keep p o (ndis p z) q).1) ts'
  have kill : ∀ (j : Nat) p, j ≠ i → j < env.length → p ∈ F j → (∃ o, w.H p = some o) ∧ p ∉ F i ∧ en.w0.H p = none ∧ w.B p = none := fun j p hj hjl z => by
    obtain ⟨s, o, q1, q2⟩ := slot_at hjl R.len
    exact ⟨((R.sl j s o q1 q2).fp p z).1, fun z' => hj (R.ap j i p hjl hl z z'), ((R.sl j s o q1 q2).fp p z).2⟩
  have le1 : en.w0.le w1 := ⟨R.le.b.trans hb, fun p o z => (keep p o (fun z' => by
    have := (no p (inF p (.inr z'))).1
    rw [z] at this; cases this) (R.le.h p o z)).1, hf⟩
  have mem' : ∀ p, p ∈ fp' → p ∈ f1 ∨ p ∈ fs' := fun p z => List.mem_append.mp (pm'.mem_iff.mp z)
  have good : Own K en.w0.H w1 (f s') v fp' := by
    refine ⟨tf, pm'.nodup_iff.mpr (List.nodup_append.mpr ⟨(List.nodup_append.mp nd2).1, nd', fun p z q z2 e2 => ?_⟩), fun p z => ?_⟩
    · subst e2
      rcases (no' p z2).2.2 with h | h
      · exact ndis p z h
      · obtain ⟨o, h'⟩ := tr.there p (inF p (.inl z))
        rw [h] at h'; cases h'
    · rcases mem' p z with z | z
      · obtain ⟨o, h'⟩ := tr.there p (inF p (.inl z))
        exact ⟨(no p (inF p (.inl z))).1, (keep p o (ndis p z) h').2 (no p (inF p (.inl z))).2⟩
      · exact ⟨(no' p z).1, (no' p z).2.1⟩
  have hσ : σ.set i (some v) = σ := by
    apply List.ext_getElem?
    intro j
    rw [List.getElem?_set]
    by_cases hj : i = j
    · subst hj
      have : i < σ.length := by rw [← R.len]; exact hl
      simp [this, hv]
      have h2 := (List.getElem?_eq_some_iff.mp hv).2
      exact h2.symm
    · simp [hj]
  have main : ∀ s2, SlS K en w1 i s2 (some v) fp' → Rel K en w1 (env.set i s2) σ := fun s2 hs2 => by
    have := R.upd (w' := w1) (i := i) (s := s2) (o := some v) (fp := fp') le1 (fun j s3 o hj ej z => z.keep hb fun p o' hp q => by
      obtain ⟨_, k2, _⟩ := kill j p hj (List.getElem?_eq_some_iff.mp ej).1 hp
      exact keep p o' (fun z => k2 (inF p (.inr z))) q) hs2 (fun j p hj hjl z1 z2 => by
      obtain ⟨⟨o, k1⟩, k2, _⟩ := kill j p hj hjl z2
      rcases mem' p z1 with z | z
      · exact k2 (inF p (.inl z))
      · rcases (no' p z).2.2 with h | h
        · exact k2 (inF p (.inr h))
        · rw [k1] at h; cases h)
    rw [hσ] at this
    exact ⟨_, this⟩
  rcases e with e | e
  · rw [e]; exact main _ ⟨v, rfl, good⟩
  · rw [e]
    have q := R.sl i _ _ e hv
    exact main _ ⟨⟨v, rfl, good⟩, q.2⟩
end
end DL

set_option Elab.async false
set_option linter.all false
set_option maxRecDepth 100000
set_option autoImplicit false
namespace DL
open PySem L2
abbrev TSt := L2.St
/-! ### judgements -/
def EvE (K : PySem.W.Frag) (te : TE) (env : List Sl) (P : Sl → Prop) : Prop := ∀ (en : En) (w : Wd) (σ : TSt), Rel K en w env σ → ∀ Q : VK, (∀ s v w', w.le w' → P s → SlN K w w' s v → Q v w'.H) → te σ w.H Q
def EvT (K : PySem.W.Frag) (tt : TT) (env : List Sl) (P : Bool → Prop) : Prop := ∀ (en : En) (w : Wd) (σ : TSt), Rel K en w env σ → ∀ Q : Bool → Hp → Prop, (∀ b (w' : Wd), w.le w' → P b → Q b w'.H) → tt σ w.H Q
def SlA (K : PySem.W.Frag) (w w' : Wd) (ss : List Sl) (vs : List V) : Prop := Paired (SlN K w w') ss vs
def EvA (K : PySem.W.Frag) (ta : TA) (env : List Sl) (P : List Sl → Prop) : Prop := ∀ (en : En) (w : Wd) (σ : TSt), Rel K en w env σ → ∀ Q : List V → Hp → Prop, (∀ ss vs w', w.le w' → P ss → SlA K w w' ss vs → Q vs w'.H) → ta σ w.H Q
def EvO (K : PySem.W.Frag) (to : TO) (env : List Sl) (P : Option Int → Prop) : Prop := ∀ (en : En) (w : Wd) (σ : TSt), Rel K en w env σ → ∀ Q : Option Int → Hp → Prop, (∀ o (w' : Wd), w.le w' → P o → Q o w'.H) → to σ w.H Q
def RvP (K : PySem.W.Frag) (r : R2) (s1 s2 : Sl) (P : Sl → Prop) : Prop := ∀ (w wx : Wd) (x y : V), w.le wx → SlN K w wx s1 x → SlN K w wx s2 y → ∀ Q : VK, (∀ s v w', wx.le w' → P s → SlN K w w' s v → Q v w'.H) → r x y wx.H Q
def RuP (K : PySem.W.Frag) (r : V → Hp → VK → Prop) (s1 : Sl) (P : Sl → Prop) : Prop := ∀ (w wx : Wd) (x : V), w.le wx → SlN K w wx s1 x → ∀ Q : VK, (∀ s v w', wx.le w' → P s → SlN K w w' s v → Q v w'.H) → r x wx.H Q
def RaP (K : PySem.W.Frag) (r : List V → Hp → VK → Prop) (ss : List Sl) (P : Sl → Prop) : Prop := ∀ (w wx : Wd) (vs : List V), w.le wx → SlA K w wx ss vs → ∀ Q : VK, (∀ s v w', wx.le w' → P s → SlN K w w' s v → Q v w'.H) → r vs wx.H Q
/-- a method of a built-in: the receiver, the arguments -/
def RmP (K : PySem.W.Frag) (r : V → List V → Hp → VK → Prop) (s : Sl) (ss : List Sl) (P : Sl → Prop) : Prop := ∀ (w wx : Wd) (x : V) (vs : List V), w.le wx → SlN K w wx s x → SlA K w wx ss vs → ∀ Q : VK, (∀ s v w', wx.le w' → P s → SlN K w w' s v → Q v w'.H) → r x vs wx.H Q
section
variable {K : PySem.W.Frag} {env : List Sl} {te ta tb : TE} {tt tu : TT} {tA tB : TA} {P P' : Sl → Prop} {w w' w'' : Wd}
theorem SlA.grow {ss : List Sl} {vs : List V} (e : w'.le w'') (h : SlA K w w' ss vs) : SlA K w w'' ss vs := Paired.mapP h fun _ _ z => z.grow e
theorem SlA.back {ss : List Sl} {vs : List V} (e : w.le w') (h : SlA K w' w'' ss vs) : SlA K w w'' ss vs := Paired.mapP h fun _ _ z => z.back e
theorem EvE.imp (h : EvE K te env P) (k : ∀ s, P s → P' s) : EvE K te env P' := fun en w σ R Q q => h en w σ R Q fun s v w' e p r => q s v w' e (k s p) r
theorem EvT.imp {P P' : Bool → Prop} (h : EvT K tt env P) (k : ∀ b, P b → P' b) : EvT K tt env P' := fun en w σ R Q q => h en w σ R Q fun b w' e p => q b w' e (k b p)
theorem EvA.imp {P P' : List Sl → Prop} (h : EvA K tA env P) (k : ∀ b, P b → P' b) : EvA K tA env P' := fun en w σ R Q q => h en w σ R Q fun b v w' e p r => q b v w' e (k b p) r
/-! ### names, constants -/
theorem ev_val {i : Nat} {d : D} (e : env[i]? = some (.val d)) (p : P (.val d)) : EvE K (tVar i) env P := fun en w σ R Q q => by
  obtain ⟨o, fp, h1, _, v, rfl, r⟩ := R.at e
  exact ⟨v, h1, q _ v w w.rfl' p r⟩
theorem ev_own {i : Nat} {ds : List D} (e : env[i]? = some (.own (oL ds))) (p : P (.bor ds)) : EvE K (tVar i) env P := fun en w σ R Q q => by
  obtain ⟨o, fp, h1, v, rfl, r, _⟩ := R.at e
  obtain ⟨pp, vs, rfl, _, h3, r⟩ := r.oL_inv
  exact ⟨.ref pp, h1, q _ _ w w.rfl' p ⟨pp, _, rfl, h3, r⟩⟩
theorem ev_io {i : Nat} {ds : List D} (e : env[i]? = some (.io (oL ds))) (p : P (.bor ds)) : EvE K (tVar i) env P := fun en w σ R Q q => by
  obtain ⟨o, fp, h1, ⟨v, rfl, r, _⟩, _⟩ := R.at e
  obtain ⟨pp, vs, rfl, _, h3, r⟩ := r.oL_inv
  exact ⟨.ref pp, h1, q _ _ w w.rfl' p ⟨pp, _, rfl, h3, r⟩⟩
theorem ev_bor {i : Nat} {ds : List D} (e : env[i]? = some (.bor ds)) (p : P (.bor ds)) : EvE K (tVar i) env P := fun en w σ R Q q => by
  obtain ⟨o, fp, h1, _, pp, xs, rfl, h2, r⟩ := R.at e
  exact ⟨.ref pp, h1, q _ _ w w.rfl' p ⟨pp, _, rfl, R.le.h _ _ h2, r⟩⟩
theorem ev_scr {i : Nat} {ds : List D} (e : env[i]? = some (.scr ds)) (p : P (.scr ds)) : EvE K (tVar i) env P := fun en w σ R Q q => by
  obtain ⟨o, fp, h1, _, pp, xs, rfl, h2, r⟩ := R.at e
  exact ⟨.ref pp, h1, q _ _ w w.rfl' p ⟨pp, _, rfl, R.le.h.seq h2, r⟩⟩
theorem ev_ownT {i : Nat} {t : OT} (e : env[i]? = some (.own t)) (p : P (.brt t)) : EvE K (tVar i) env P := fun en w σ R Q q => by
  obtain ⟨o, fp, h1, v, rfl, r, _⟩ := R.at e
  exact ⟨v, h1, q _ _ w w.rfl' p ⟨fp, r⟩⟩
theorem ev_ioT {i : Nat} {t : OT} (e : env[i]? = some (.io t)) (p : P (.brt t)) : EvE K (tVar i) env P := fun en w σ R Q q => by
  obtain ⟨o, fp, h1, ⟨v, rfl, r, _⟩, _⟩ := R.at e
  exact ⟨v, h1, q _ _ w w.rfl' p ⟨fp, r⟩⟩
theorem ev_brt {i : Nat} {t : OT} (e : env[i]? = some (.brt t)) (p : P (.brt t)) : EvE K (tVar i) env P := fun en w σ R Q q => by
  obtain ⟨o, fp, h1, _, v, f', rfl, r⟩ := R.at e
  exact ⟨v, h1, q _ _ w w.rfl' p ⟨f', r.mono (Same.refl _) fun p o _ z => R.le.h p o z⟩⟩
theorem ev_int {i : Int} (p : P (.val (.int i))) : EvE K (tC (.int i)) env P := fun en w σ R Q q => q _ _ w w.rfl' p (.int i)
theorem ev_bl {i : Bool} (p : P (.val (.bl i))) : EvE K (tC (.bl i)) env P := fun en w σ R Q q => q _ _ w w.rfl' p (.bl i)
theorem ev_str {i : Str} (p : P (.val (.str i))) : EvE K (tC (.str i)) env P := fun en w σ R Q q => q _ _ w w.rfl' p (.str i)
theorem ev_non (p : P (.val .non)) : EvE K (tC .non) env P := fun en w σ R Q q => q _ _ w w.rfl' p .non
theorem ev_ref {a : Addr} (p : P (.val (.ref a))) : EvE K (tC (.ref a)) env P := fun en w σ R Q q => q _ _ w w.rfl' p (.ref a)
theorem ev_ty {n : String} (p : P (.val (.ty n))) : EvE K (tC (.ty n)) env P := fun en w σ R Q q => q _ _ w w.rfl' p (.ty n)
/-! ### forms -/
theorem ev_op {r : R2} (h : EvE K ta env fun s1 => EvE K tb env fun s2 => RvP K r s1 s2 P) : EvE K (tOp r ta tb) env P := fun en w σ R Q q =>
  h en w σ R _ fun s1 x w1 e1 h1 r1 => h1 en w1 σ (R.grow e1) _ fun s2 y w2 e2 h2 r2 => h2 w w2 x y (e1.trans e2) (r1.grow e2) (r2.back e1) Q fun s v w' e3 p r => q s v w' ((e1.trans e2).trans e3) p r
theorem ev_un {r : V → Hp → VK → Prop} (h : EvE K ta env fun s1 => RuP K r s1 P) : EvE K (tUn r ta) env P := fun en w σ R Q q =>
  h en w σ R _ fun s1 x w1 e1 h1 r1 => h1 w w1 x e1 r1 Q fun s v w' e3 p r => q s v w' (e1.trans e3) p r
theorem ev_cb {r : List V → Hp → VK → Prop} (h : EvA K tA env fun ss => RaP K r ss P) : EvE K (tCB r tA) env P := fun en w σ R Q q =>
  h en w σ R _ fun ss vs w1 e1 h1 r1 => h1 w w1 vs e1 r1 Q fun s v w' e3 p r => q s v w' (e1.trans e3) p r
theorem ev_if (h : EvT K tt env fun b => (b = true → EvE K ta env P) ∧ (b = false → EvE K tb env P)) : EvE K (tIf tt ta tb) env P := fun en w σ R Q q =>
  h en w σ R _ fun b w1 e1 h1 => by
    cases b with
    | true => exact h1.1 rfl en w1 σ (R.grow e1) Q fun s v w' e p r => q s v w' (e1.trans e) p (r.back e1)
    | false => exact h1.2 rfl en w1 σ (R.grow e1) Q fun s v w' e p r => q s v w' (e1.trans e) p (r.back e1)
theorem ev_andV (h : EvE K ta env fun s => ∃ c, s = .val (.bl c) ∧ (c = true → EvE K tb env P) ∧ (c = false → P (.val (.bl false)))) : EvE K (tAndV ta tb) env P := fun en w σ R Q q =>
  h en w σ R _ fun s v w1 e1 h1 r1 => by
    obtain ⟨c, rfl, h2, h3⟩ := h1
    cases r1
    refine ⟨c, rfl, ?_⟩
    cases c with
    | true => exact h2 rfl en w1 σ (R.grow e1) Q fun s v w' e p r => q s v w' (e1.trans e) p (r.back e1)
    | false => exact q _ _ w1 e1 (h3 rfl) (.bl false)
theorem ev_orV (h : EvE K ta env fun s => ∃ c, s = .val (.bl c) ∧ (c = false → EvE K tb env P) ∧ (c = true → P (.val (.bl true)))) : EvE K (tOrV ta tb) env P := fun en w σ R Q q =>
  h en w σ R _ fun s v w1 e1 h1 r1 => by
    obtain ⟨c, rfl, h2, h3⟩ := h1
    cases r1
    refine ⟨c, rfl, ?_⟩
    cases c with
    | false => exact h2 rfl en w1 σ (R.grow e1) Q fun s v w' e p r => q s v w' (e1.trans e) p (r.back e1)
    | true => exact q _ _ w1 e1 (h3 rfl) (.bl true)
theorem ev_notV (h : EvE K ta env fun s => ∃ c, s = .val (.bl c) ∧ P (.val (.bl (!c)))) : EvE K (tNotV ta) env P := fun en w σ R Q q =>
  h en w σ R _ fun s v w1 e1 h1 r1 => by
    obtain ⟨c, rfl, h2⟩ := h1
    cases r1
    exact ⟨c, rfl, q _ _ w1 e1 h2 (.bl _)⟩
theorem eva_nil {P : List Sl → Prop} (p : P []) : EvA K tNil env P := fun en w σ R Q q => q [] [] w w.rfl' p .nil
theorem eva_cons {P : List Sl → Prop} (h : EvE K ta env fun s => EvA K tB env fun ss => P (s :: ss)) : EvA K (tCons ta tB) env P := fun en w σ R Q q =>
  h en w σ R _ fun s v w1 e1 h1 r1 => h1 en w1 σ (R.grow e1) _ fun ss vs w2 e2 h2 r2 => q (s :: ss) (v :: vs) w2 (e1.trans e2) h2 (.cons (r1.grow e2) (r2.back e1))
/-- a result of one's own becomes data -/
inductive Frz : Sl → D → Prop
  | val {d : D} : Frz (.val d) d
  | oL {ds : List D} : Frz (.own (oL ds)) (.lst ds)
  | tree {t : OT} {d : D} : TD t d → Frz (.own t) d
theorem Frz.td {t : OT} {d : D} (h : Frz (.own t) d) : TD t d := by
  cases h with
  | oL => exact TD.oL _
  | tree h => exact h
theorem Own.frz {H0 : Hp} {t : OT} {d : D} {v : V} {fp : List Addr} (h : Own K H0 w' t v fp) (td : TD t d) : Same w'.B (w'.frzL fp).B ∧ Dr K (w'.frzL fp).B d v := by
  have sb : Same w'.B (w'.frzL fp).B := fun b o e => by
    show (if b ∈ fp then w'.H b else w'.B b) = some o
    by_cases hb : b ∈ fp
    · rw [(h.2.2 b hb).2] at e; cases e
    · rw [if_neg hb]; exact e
  exact ⟨sb, td.dr sb h.1 fun p o z e => by show (if p ∈ fp then w'.H p else w'.B p) = some o; rw [if_pos z]; exact e⟩
theorem frz_ok {s : Sl} {d : D} {v : V} (e : w.le w') (f : Frz s d) (h : SlN K w w' s v) : ∃ w'' : Wd, w''.H = w'.H ∧ w.le w'' ∧ Same w'.B w''.B ∧ Dr K w''.B d v := by
  have tree : ∀ {t}, TD t d → SlN K w w' (.own t) v → ∃ w'' : Wd, w''.H = w'.H ∧ w.le w'' ∧ Same w'.B w''.B ∧ Dr K w''.B d v := fun td h => by
    obtain ⟨fp, ho⟩ := h
    obtain ⟨sb, dr⟩ := ho.frz td
    refine ⟨w'.frzL fp, rfl, ⟨e.b.trans sb, e.h, fun q o z => ?_⟩, sb, dr⟩
    show (if q ∈ fp then w'.H q else w'.B q) = _
    rw [if_neg fun z2 => by rw [(ho.2.2 q z2).1] at z; cases z]
    exact e.f q o z
  cases f with
  | val => exact ⟨w', rfl, e, Same.refl _, h⟩
  | oL => exact tree (TD.oL _) h
  | tree td => exact tree td h
theorem ev_frz (h : EvE K te env fun s => ∃ d, Frz s d ∧ P (.val d)) : EvE K te env P := fun en w σ R Q q =>
  h en w σ R _ fun s v w1 e1 h1 r1 => by
    obtain ⟨d, f, p⟩ := h1
    obtain ⟨w2, e2, e3, _, r2⟩ := frz_ok e1 f r1
    have := q (.val d) v w2 e3 p r2
    rw [e2] at this
    exact this
theorem SlA.vals {ds : List D} {vs : List V} (h : SlA K w w' (ds.map .val) vs) : DrA K w'.B ds vs := by
  induction ds generalizing vs with
  | nil => cases h; exact .nil
  | cons x r ih => cases h with | cons h1 t => exact .cons h1 (ih t)
theorem ev_tup (h : EvA K tA env fun ss => ∃ ds : List D, ss = ds.map .val ∧ ds.length ≤ 1000 ∧ P (.val (.tup ds))) : EvE K (tTup tA) env P := fun en w σ R Q q =>
  h en w σ R _ fun ss vs w1 e1 h1 r1 => by
    obtain ⟨ds, rfl, hl, p⟩ := h1
    have rd := r1.vals
    refine ⟨by rw [← rd.len]; exact Nat.le_of_lt (small1000 hl), fun pp hp => ?_⟩
    exact q _ _ (w1.new pp (.tup vs) hp) (e1.trans (Wd.le_new hp)) p (Dr.tup (.inl (.inl upd_same)) (rd.mono (Wd.le_new hp).b))
theorem ev_lst (h : EvA K tA env fun ss => ∃ ds : List D, ss = ds.map .val ∧ ds.length ≤ 1000 ∧ P (.own (oL ds))) : EvE K (tLst tA) env P := fun en w σ R Q q =>
  h en w σ R _ fun ss vs w1 e1 h1 r1 => by
    obtain ⟨ds, rfl, hl, p⟩ := h1
    have rd := r1.vals
    refine ⟨by rw [← rd.len]; exact Nat.le_of_lt (small1000 hl), fun pp hp => ?_⟩
    exact q _ _ (w1.lay pp (.lst vs) hp) (e1.trans (Wd.le_lay hp)) p ⟨[pp], TR.ofL upd_same rd, by simp, fun q z => by
      have e : q = pp := by simpa using z
      subst e
      exact ⟨e1.h.free hp, (show w1.B q = none from Wd.freeB hp)⟩⟩
/-- a field of data -/
theorem ev_fld {f : Str} (h : EvE K ta env fun s => ∃ C fs d, s = .val (.obj C fs) ∧ Cls K C ∧ NoAttr K C f ∧ fs.lookup f = some d ∧ P (.val d)) : EvE K (tFld K ta f) env P := fun en w σ R Q q =>
  h en w σ R _ fun s v w1 e1 h1 r1 => by
    obtain ⟨C, fs, d, rfl, c1, c2, c3, p⟩ := h1
    cases r1 with
    | obj hb rf =>
      obtain ⟨v, e, rd⟩ := rf.look c3
      exact ⟨_, C, _, _, v, rfl, w1.sub _ _ hb, c1, c2, e, q _ v w1 e1 p rd⟩
/-! ### tests -/
theorem et_test {P : Bool → Prop} (h : EvE K te env fun s => ∃ b, s = .val (.bl b) ∧ P b) : EvT K (tTest te) env P := fun en w σ R Q q =>
  h en w σ R _ fun s v w1 e1 h1 r1 => by
    obtain ⟨b, rfl, p⟩ := h1
    cases r1
    exact ⟨b, rfl, q b w1 e1 p⟩
theorem et_B {P : Bool → Prop} (h : EvE K te env fun s => ∃ b, s = .val (.bl b) ∧ P b) : EvT K (L2.tB te) env P := fun en w σ R Q q =>
  h en w σ R _ fun s v w1 e1 h1 r1 => by
    obtain ⟨b, rfl, p⟩ := h1
    cases r1
    exact ⟨b, rfl, q b w1 e1 p⟩
theorem et_and {P : Bool → Prop} (h : EvT K tt env fun b => (b = true → EvT K tu env P) ∧ (b = false → P false)) : EvT K (tAnd tt tu) env P := fun en w σ R Q q =>
  h en w σ R _ fun b w1 e1 h1 => by
    cases b with
    | true => exact h1.1 rfl en w1 σ (R.grow e1) Q fun b w' e p => q b w' (e1.trans e) p
    | false => exact q false w1 e1 (h1.2 rfl)
theorem et_or {P : Bool → Prop} (h : EvT K tt env fun b => (b = false → EvT K tu env P) ∧ (b = true → P true)) : EvT K (tOr tt tu) env P := fun en w σ R Q q =>
  h en w σ R _ fun b w1 e1 h1 => by
    cases b with
    | false => exact h1.1 rfl en w1 σ (R.grow e1) Q fun b w' e p => q b w' (e1.trans e) p
    | true => exact q true w1 e1 (h1.2 rfl)
theorem et_not {P : Bool → Prop} (h : EvT K tt env fun b => P (!b)) : EvT K (tNot tt) env P := fun en w σ R Q q =>
  h en w σ R _ fun b w1 e1 h1 => q _ w1 e1 h1
theorem et_yes {P : Bool → Prop} (p : P true) : EvT K tYes env P := fun en w σ R Q q => q true w w.rfl' p
/-- truth of a list that is read, of an int, a text -/
def tTruth (K : PySem.W.Frag) (ta : TE) : TT := fun σ H Q => ta σ H fun x H' => ∃ k, TruV K x H' k ∧ Q k H'
def TruS : Sl → Bool → Prop
  | .val .non, b => b = false
  | .val (.bl c), b => b = c
  | .val (.int i), b => b = (i != 0)
  | .val (.str x), b => b = (x.length != 0)
  | .val (.lst ds), b => b = !ds.isEmpty
  | .val (.tup ds), b => b = !ds.isEmpty
  | .bor ds, b => b = !ds.isEmpty
  | .scr ds, b => b = !ds.isEmpty
  | .brt t, b => ∃ ds, t = oL ds ∧ b = !ds.isEmpty
  | .own t, b => ∃ ds, t = oL ds ∧ b = !ds.isEmpty
  | _, _ => False
/-! ### calls -/
/-- a promise by data -/
abbrev SpD := List Sl → (Sl → Prop) → Prop
/-- .. of a def that changes parameters' trees -/
abbrev SpM := List Sl → (Sl → List Sl → Prop) → Prop
/-- what may be stored, handed back -/
inductive StS : Sl → Prop
  | val (d : D) : StS (.val d)
  | own (o : OT) : StS (.own o)
def spM (K : PySem.W.Frag) (S : SpM) : Sp := fun vs H Q _ => ∃ (en : En) (w : Wd) (as : List Sl) (R : Sl → List Sl → Prop), en.args = vs ∧ w.H = H ∧ Rel K en w as (vs.map some) ∧ S as R ∧
  ∀ s v w' as', StS s → Same w.B w'.B → Rel K en w' (as' ++ [s]) (vs.map some ++ [some v]) → R s as' → Q v w'.H
def spD (K : PySem.W.Frag) (S : SpD) : Sp := spM K fun as R => S as fun s => ∀ as', R s as'
/-- how an argument is seen by the callee -/
inductive Co : Sl → Sl → Prop
  | val {d : D} : Co (.val d) (.val d)
  | bor {ds : List D} : Co (.bor ds) (.bor ds)
  | scr {ds : List D} : Co (.scr ds) (.scr ds)
  | own {ds : List D} : Co (.own (oL ds)) (.bor ds)
  | valB {ds : List D} : Co (.val (.lst ds)) (.bor ds)
  | borS {ds : List D} : Co (.bor ds) (.scr ds)
  | ownT {t : OT} : Co (.own t) (.brt t)
  | brt {t : OT} : Co (.brt t) (.brt t)
  | brtB {ds : List D} : Co (.brt (oL ds)) (.bor ds)
  | valT {d : D} : Co (.val d) (.brt (.imm d))
  | un {s : Sl} : Co s .un
theorem Co.ok {s t : Sl} {v : V} {vs : List V} (c : Co s t) (h : SlN K w w' s v) (i : Nat) : SlS K ⟨w', vs⟩ w' i t (some v) [] := by
  cases c with
  | val => exact ⟨rfl, v, rfl, h⟩
  | bor => obtain ⟨p, xs, rfl, h1, h2⟩ := h; exact ⟨rfl, p, xs, rfl, h1, h2⟩
  | scr => obtain ⟨p, xs, rfl, h1, h2⟩ := h; exact ⟨rfl, p, xs, rfl, h1, h2⟩
  | own => obtain ⟨fp, h, _⟩ := h; obtain ⟨p, xs, rfl, _, h1, h2⟩ := h.oL_inv; exact ⟨rfl, p, xs, rfl, h1, h2⟩
  | valB => cases h with | lst h1 r => exact ⟨rfl, _, _, rfl, w'.sub _ _ h1, r⟩
  | borS => obtain ⟨p, xs, rfl, h1, h2⟩ := h; exact ⟨rfl, p, xs, rfl, .inl (.inl h1), h2⟩
  | ownT => obtain ⟨fp, h, _⟩ := h; exact ⟨rfl, v, fp, rfl, h⟩
  | brt => obtain ⟨fp, h⟩ := h; exact ⟨rfl, v, fp, rfl, h⟩
  | brtB => obtain ⟨fp, h⟩ := h; obtain ⟨p, xs, rfl, _, h1, h2⟩ := h.oL_inv; exact ⟨rfl, p, xs, rfl, h1, h2⟩
  | valT => exact ⟨rfl, v, [], rfl, .imm h⟩
  | un => exact rfl
theorem coA {ss ts : List Sl} {vs us : List V} (c : Paired Co ss ts) (h : SlA K w w' ss vs) : ts.length = vs.length ∧ ∀ (i : Nat) t o, ts[i]? = some t → (vs.map some)[i]? = some o → ∀ j, SlS K ⟨w', us⟩ w' j t o [] := by
  induction c generalizing vs with
  | nil => cases h; exact ⟨rfl, fun i t o e => by simp at e⟩
  | cons c1 _ ih =>
    cases h with
    | cons h1 t =>
      obtain ⟨l, k⟩ := ih t
      refine ⟨by simp [l], fun i t o e1 e2 j => ?_⟩
      cases i with
      | zero => simp at e1 e2; subst e1 e2; exact c1.ok h1 j
      | succ i => exact k i t o (by simpa using e1) (by simpa using e2) j
/-- the last slot of a relation as a result -/
theorem Rel.last {en : En} {as : List Sl} {s : Sl} {v : V} {us : TSt} (st : StS s) (R : Rel K en w' (as ++ [s]) (us ++ [some v])) : SlN K en.w0 w' s v := by
  have hl := R.len
  simp at hl
  obtain ⟨o, fp, h1, h2⟩ := R.at (i := as.length) (s := s) (by simp)
  rw [hl] at h1
  simp at h1
  subst h1
  cases st with
  | val d => obtain ⟨_, v', e, r⟩ := h2; cases e; exact r
  | own t => obtain ⟨v', e, r⟩ := h2; cases e; exact ⟨fp, r⟩
theorem ev_call {S : SpD} {E : XK} (h : EvA K tA env fun ss => ∃ ts, Paired Co ss ts ∧ S ts P) : EvE K (tCall (spD K S) [] E tA) env P := fun en w σ R Q q =>
  h en w σ R _ fun ss vs w1 e1 h1 r1 => by
    obtain ⟨ts, c, p⟩ := h1
    rw [List.append_nil]
    obtain ⟨hl, hk⟩ := coA (us := vs) c r1
    exact ⟨⟨w1, vs⟩, w1, ts, fun s _ => P s, rfl, rfl, ⟨fun _ => [], w1.rfl', by simp [hl], by simp [hl], fun i t o a b => hk i t o a b i, fun i j p _ _ z => by simp at z⟩, by simpa using p, fun s v w' as' st _ R' z =>
      q s v w' (e1.trans R'.le) z ((Rel.last st R').back e1)⟩
end
end DL

set_option Elab.async false
set_option linter.all false
set_option maxRecDepth 100000
set_option autoImplicit false
namespace DL
open PySem L2
theorem own_new {K : PySem.W.Frag} {w wx : Wd} {l : Addr} {ds : List D} {xs : List V} (e : w.le wx) (hl : wx.H l = none) (r : DrA K wx.B ds xs) : SlN K w (wx.lay l (.lst xs) hl) (.own (oL ds)) (.ref l) :=
  ⟨[l], TR.ofL upd_same r, by simp, fun q z => by
    have e1 : q = l := by simpa using z
    subst e1
    exact ⟨e.h.free hl, (show wx.B q = none from Wd.freeB hl)⟩⟩
section
variable {K : PySem.W.Frag} {env : List Sl} {P P' : Sl → Prop} {w w' w'' : Wd}
/-! ### operators -/
theorem rv_i0 {g : Int → Int → Int} {i j : Int} (p : P (.val (.int (g i j)))) : RvP K (rI0 fun i j => .int (g i j)) (.val (.int i)) (.val (.int j)) P := fun w wx x y e r1 r2 Q q => by
  cases r1; cases r2
  exact ⟨i, j, rfl, rfl, q _ _ wx wx.rfl' p (.int _)⟩
theorem rv_b0 {g : Int → Int → Bool} {i j : Int} (p : P (.val (.bl (g i j)))) : RvP K (rI0 fun i j => .bl (g i j)) (.val (.int i)) (.val (.int j)) P := fun w wx x y e r1 r2 Q q => by
  cases r1; cases r2
  exact ⟨i, j, rfl, rfl, q _ _ wx wx.rfl' p (.bl _)⟩
theorem rv_i {C : Int → Int → Prop} {g : Int → Int → Int} {i j : Int} (c : C i j) (p : P (.val (.int (g i j)))) : RvP K (rI C fun i j => .int (g i j)) (.val (.int i)) (.val (.int j)) P := fun w wx x y e r1 r2 Q q => by
  cases r1; cases r2
  exact ⟨i, j, rfl, rfl, c, q _ _ wx wx.rfl' p (.int _)⟩
theorem rv_orL {r r' : R2} {s t : Sl} (h : RvP K r s t P) : RvP K (fun x y H Q => r x y H Q ∨ r' x y H Q) s t P := fun w wx x y e r1 r2 Q q => .inl (h w wx x y e r1 r2 Q q)
theorem rv_orR {r r' : R2} {s t : Sl} (h : RvP K r' s t P) : RvP K (fun x y H Q => r x y H Q ∨ r' x y H Q) s t P := fun w wx x y e r1 r2 Q q => .inr (h w wx x y e r1 r2 Q q)
theorem ru_neg {i : Int} (p : P (.val (.int (-i)))) : RuP K (rU fun i => .int (-i)) (.val (.int i)) P := fun w wx x e r1 Q q => by
  cases r1
  exact ⟨i, rfl, q _ _ wx wx.rfl' p (.int _)⟩
/-! ### equality -/
mutual
def toPy : D → PyData
  | .non => .none | .bl b => .bool b | .int i => .int i | .str x => .str x
  | .lst ds => .list (toPys ds) | .tup ds => .tuple (toPys ds) | .obj _ _ => .none | .ref _ => .none | .ty _ => .none
def toPys : List D → List PyData
  | [] => []
  | d :: r => toPy d :: toPys r
end
/-- plain data without bools, at most n deep -/
inductive Pl : Nat → D → Prop
  | non (n : Nat) : Pl n .non
  | int (n : Nat) (i : Int) : Pl n (.int i)
  | str (n : Nat) (x : Str) : PySem.PyData.strOk x = true → Pl n (.str x)
  | lst (n : Nat) (ds : List D) : (∀ d ∈ ds, Pl n d) → Pl (n + 1) (.lst ds)
  | tup (n : Nat) (ds : List D) : (∀ d ∈ ds, Pl n d) → Pl (n + 1) (.tup ds)
theorem toPys_map (ds : List D) : toPys ds = ds.map toPy := by
  induction ds with
  | nil => rfl
  | cons d r ih => simp [toPys, ih]

mutual
theorem Pl.dp {B H : Hp} (e : Same B H) : ∀ {n : Nat} {d : D} {v : V}, Pl n d → Dr K B d v → Dp K H v (toPy d)
  | _, _, _, .non n, h => by cases h; exact .non
  | _, _, _, .int n i, h => by cases h; exact .int i
  | _, _, _, .str n x _, h => by cases h; exact .str x
  | _, _, _, .lst n ds q, h => by cases h with | lst h1 r => exact .lst (.inl (.inl (e _ _ h1))) (Pl.dps e ds q r)
  | _, _, _, .tup n ds q, h => by cases h with | tup h1 r => exact .tup (sameT e h1) (Pl.dps e ds q r)
theorem Pl.dps {B H : Hp} (e : Same B H) : ∀ {n : Nat} (ds : List D) {vs : List V}, (∀ d ∈ ds, Pl n d) → DrA K B ds vs → DpAll K H vs (toPys ds)
  | _, [], _, _, h => by cases h; exact .nil
  | _, d :: r, _, q, h => by cases h with | cons h1 t => exact .cons (Pl.dp e (q d (by simp)) h1) (Pl.dps e r (fun x hx => q x (by simp [hx])) t)
end
mutual
theorem Pl.lay : ∀ {n : Nat} {d : D}, Pl n d → (toPy d).canLay0 = true
  | _, _, .non n => rfl
  | _, _, .int n i => rfl
  | _, _, .str n x h => h
  | _, _, .lst n ds q => Pl.lays ds q
  | _, _, .tup n ds q => Pl.lays ds q
theorem Pl.lays : ∀ {n : Nat} (ds : List D), (∀ d ∈ ds, Pl n d) → PyData.canLayAll0 (toPys ds) = true
  | _, [], _ => rfl
  | _, d :: r, q => by
    show ((toPy d).canLay0 && PyData.canLayAll0 (toPys r)) = true
    rw [Pl.lay (q d (by simp)), Pl.lays r (fun x hx => q x (by simp [hx]))]
    rfl
end
mutual
theorem Pl.dep : ∀ {n : Nat} {d : D}, Pl n d → (toPy d).depth ≤ n
  | _, _, .non n => Nat.zero_le _
  | _, _, .int n i => Nat.zero_le _
  | _, _, .str n x h => Nat.zero_le _
  | _, _, .lst n ds q => Nat.succ_le_succ (Pl.deps ds q)
  | _, _, .tup n ds q => Nat.succ_le_succ (Pl.deps ds q)
theorem Pl.deps : ∀ {n : Nat} (ds : List D), (∀ d ∈ ds, Pl n d) → PyData.depthAll (toPys ds) ≤ n
  | _, [], _ => Nat.zero_le _
  | _, d :: r, q => by
    show max (toPy d).depth (PyData.depthAll (toPys r)) ≤ _
    exact Nat.max_le.mpr ⟨Pl.dep (q d (by simp)), Pl.deps r (fun x hx => q x (by simp [hx]))⟩
end
theorem Pl.shaped {n : Nat} {d : D} (h : Pl n d) (hn : n ≤ 64) : SeqAt.shaped (toPy d) = true := by
  unfold SeqAt.shaped
  rw [h.lay, decide_eq_true (Nat.le_trans h.dep hn)]
  rfl
/-- Python's == on plain data -/
def eqD (d e : D) : Bool := PyData.eqv (toPy d) (toPy e)
mutual
theorem eqD_iff : ∀ {n m : Nat} {d e : D}, Pl n d → Pl m e → (eqD d e = true ↔ d = e)
  | _, _, _, _, .non n, h => by cases h <;> simp [eqD, toPy, PyData.eqv]
  | _, _, _, _, .int n i, h => by cases h <;> simp [eqD, toPy, PyData.eqv]
  | _, _, _, _, .str n x _, h => by cases h <;> simp [eqD, toPy, PyData.eqv]
  | _, _, _, _, .lst n ds q, h => by
    cases h with
    | lst m es q' =>
      have := eqDs_iff ds es q q'
      simp only [eqD, toPy, PyData.eqv, D.lst.injEq]
      exact this
    | _ => simp [eqD, toPy, PyData.eqv]
  | _, _, _, _, .tup n ds q, h => by
    cases h with
    | tup m es q' =>
      have := eqDs_iff ds es q q'
      simp only [eqD, toPy, PyData.eqv, D.tup.injEq]
      exact this
    | _ => simp [eqD, toPy, PyData.eqv]
theorem eqDs_iff : ∀ {n m : Nat} (ds es : List D), (∀ d ∈ ds, Pl n d) → (∀ d ∈ es, Pl m d) → (PyData.eqvAll (toPys ds) (toPys es) = true ↔ ds = es)
  | _, _, [], [], _, _ => by simp [toPys, PyData.eqvAll]
  | _, _, [], e :: es, _, _ => by simp [toPys, PyData.eqvAll]
  | _, _, d :: ds, [], _, _ => by simp [toPys, PyData.eqvAll]
  | _, _, d :: ds, e :: es, q, q' => by
    have h1 := eqD_iff (q d (by simp)) (q' e (by simp))
    have h2 := eqDs_iff ds es (fun x hx => q x (by simp [hx])) (fun x hx => q' x (by simp [hx]))
    simp only [toPys, PyData.eqvAll, Bool.and_eq_true, List.cons.injEq]
    exact and_congr h1 h2
end
/-- data that is compared -/
def ToD : Sl → D → Prop
  | .val d, e => e = d
  | .own t, e => ∃ ds, t = oL ds ∧ e = .lst ds
  | .bor ds, e => e = .lst ds
  | .brt t, e => ∃ ds, t = oL ds ∧ e = .lst ds
  | _, _ => False
theorem ToD.dp {s : Sl} {d : D} {v : V} {n : Nat} (t : ToD s d) (h : SlN K w w' s v) (p : Pl n d) : Dp K w'.H v (toPy d) := by
  cases s with
  | un => cases t
  | scr ds => cases t
  | val e => cases t; exact p.dp w'.sub h
  | bor ds =>
    cases t
    obtain ⟨q, xs, rfl, h1, h2⟩ := h
    cases p with | lst n _ hq => exact .lst (.inl (.inl h1)) (Pl.dps w'.sub ds hq h2)
  | io _ => cases t
  | brt od =>
    obtain ⟨ds, rfl, rfl⟩ := t
    obtain ⟨fp, hh⟩ := h
    obtain ⟨q, xs, rfl, _, h1, r⟩ := hh.oL_inv
    cases p with | lst n _ hq => exact .lst (.inl (.inl h1)) (Pl.dps w'.sub ds hq r)
  | own od =>
    obtain ⟨ds, rfl, rfl⟩ := t
    obtain ⟨fp, hh, _⟩ := h
    obtain ⟨q, xs, rfl, _, h1, r⟩ := hh.oL_inv
    cases p with | lst n _ hq => exact .lst (.inl (.inl h1)) (Pl.dps w'.sub ds hq r)
theorem rv_eqD {s t : Sl} {d e : D} {n m : Nat} (hs : ToD s d) (ht : ToD t e) (pd : Pl n d) (pe : Pl m e) (hn : n ≤ 64) (hm : m ≤ 64) (p : P (.val (.bl (eqD d e)))) : RvP K (rEqD K) s t P := fun w wx x y _ r1 r2 Q q =>
  ⟨toPy d, toPy e, hs.dp r1 pd, ht.dp r2 pe, pd.shaped hn, pe.shaped hm, q _ _ wx wx.rfl' p (.bl _)⟩
theorem rv_neD {s t : Sl} {d e : D} {n m : Nat} (hs : ToD s d) (ht : ToD t e) (pd : Pl n d) (pe : Pl m e) (hn : n ≤ 64) (hm : m ≤ 64) (p : P (.val (.bl (!eqD d e)))) : RvP K (rNeD K) s t P := fun w wx x y _ r1 r2 Q q =>
  ⟨toPy d, toPy e, hs.dp r1 pd, ht.dp r2 pe, pd.shaped hn, pe.shaped hm, q _ _ wx wx.rfl' p (.bl _)⟩
theorem rv_eqI {i j : Int} (p : P (.val (.bl (decide (i = j))))) : RvP K rEq (.val (.int i)) (.val (.int j)) P := fun w wx x y _ r1 r2 Q q => by
  cases r1; cases r2
  refine ⟨rfl, ?_⟩
  have e : decide (V.int i = V.int j) = decide (i = j) := by simp
  rw [e]; exact q _ _ wx wx.rfl' p (.bl _)
theorem rv_neI {i j : Int} (p : P (.val (.bl (!decide (i = j))))) : RvP K rNe (.val (.int i)) (.val (.int j)) P := fun w wx x y _ r1 r2 Q q => by
  cases r1; cases r2
  refine ⟨rfl, ?_⟩
  have e : decide (V.int i = V.int j) = decide (i = j) := by simp
  rw [e]; exact q _ _ wx wx.rfl' p (.bl _)
theorem rv_eqS {i j : Str} (p : P (.val (.bl (decide (i = j))))) : RvP K rEq (.val (.str i)) (.val (.str j)) P := fun w wx x y _ r1 r2 Q q => by
  cases r1; cases r2
  refine ⟨rfl, ?_⟩
  have e : decide (V.str i = V.str j) = decide (i = j) := by simp
  rw [e]; exact q _ _ wx wx.rfl' p (.bl _)
theorem rv_neS {i j : Str} (p : P (.val (.bl (!decide (i = j))))) : RvP K rNe (.val (.str i)) (.val (.str j)) P := fun w wx x y _ r1 r2 Q q => by
  cases r1; cases r2
  refine ⟨rfl, ?_⟩
  have e : decide (V.str i = V.str j) = decide (i = j) := by simp
  rw [e]; exact q _ _ wx wx.rfl' p (.bl _)
/-- is None -/
def isNon : D → Bool
  | .non => true
  | _ => false
theorem isNon_ok {B : Hp} {d : D} {v : V} (h : Dr K B d v) : decide (v = .non) = isNon d := by cases h <;> simp [isNon]
def rIsN0 : R2 := fun x y H Q => y = .non ∧ Q (.bl (decide (x = .non))) H
def rNotN0 : R2 := fun x y H Q => y = .non ∧ Q (.bl (!decide (x = .non))) H
theorem rv_isN {d : D} (p : P (.val (.bl (isNon d)))) : RvP K rIsN0 (.val d) (.val .non) P := fun w wx x y _ r1 r2 Q q => by
  cases r2
  refine ⟨rfl, ?_⟩
  rw [isNon_ok r1]; exact q _ _ wx wx.rfl' p (.bl _)
theorem rv_notN {d : D} (p : P (.val (.bl (!isNon d)))) : RvP K rNotN0 (.val d) (.val .non) P := fun w wx x y _ r1 r2 Q q => by
  cases r2
  refine ⟨rfl, ?_⟩
  rw [isNon_ok r1]; exact q _ _ wx wx.rfl' p (.bl _)
/-! ### sequences -/
/-- what is read as a list -/
inductive LsS : Sl → List D → Prop
  | val {ds : List D} : LsS (.val (.lst ds)) ds
  | bor {ds : List D} : LsS (.bor ds) ds
  | scr {ds : List D} : LsS (.scr ds) ds
  | own {ds : List D} : LsS (.own (oL ds)) ds
  | brt {ds : List D} : LsS (.brt (oL ds)) ds
theorem LsS.ok {s : Sl} {ds : List D} {v : V} (l : LsS s ds) (h : SlN K w w' s v) : ∃ p xs, v = .ref p ∧ SqL K w'.H p xs ∧ DrA K w'.B ds xs := by
  cases l with
  | val => cases h with | lst h1 r => exact ⟨_, _, rfl, .inl (.inl (w'.sub _ _ h1)), r⟩
  | bor => obtain ⟨p, xs, rfl, h1, h2⟩ := h; exact ⟨p, xs, rfl, .inl (.inl h1), h2⟩
  | scr => obtain ⟨p, xs, rfl, h1, h2⟩ := h; exact ⟨p, xs, rfl, h1, h2⟩
  | own => obtain ⟨fp, h, _⟩ := h; obtain ⟨p, xs, rfl, _, h1, r⟩ := h.oL_inv; exact ⟨p, _, rfl, .inl (.inl h1), r⟩
  | brt => obtain ⟨fp, h⟩ := h; obtain ⟨p, xs, rfl, _, h1, r⟩ := h.oL_inv; exact ⟨p, _, rfl, .inl (.inl h1), r⟩
theorem atI_D {B : Hp} {ds : List D} {xs : List V} {i : Int} {d : D} (r : DrA K B ds xs) (e : atI ds i = some d) : ∃ v, atI xs i = some v ∧ Dr K B d v := by
  unfold atI at e ⊢
  rw [← r.len]
  cases h : ixN ds.length i with
  | none => rw [h] at e; cases e
  | some j => rw [h] at e; exact r.get e
theorem rv_ixL {s : Sl} {ds : List D} {i : Int} {d : D} (l : LsS s ds) (e : atI ds i = some d) (p : P (.val d)) : RvP K (rIxL K) s (.val (.int i)) P := fun w wx x y _ r1 r2 Q q => by
  cases r2
  obtain ⟨a, xs, rfl, h1, h2⟩ := l.ok r1
  obtain ⟨v, h3, h4⟩ := atI_D h2 e
  exact ⟨a, xs, i, v, rfl, rfl, h1, h3, q _ v wx wx.rfl' p h4⟩
theorem rv_ixT {ds : List D} {i : Int} {d : D} (e : atI ds i = some d) (p : P (.val d)) : RvP K (rIxT K) (.val (.tup ds)) (.val (.int i)) P := fun w wx x y _ r1 r2 Q q => by
  cases r2
  cases r1 with
  | tup h1 h2 =>
    obtain ⟨v, h3, h4⟩ := atI_D h2 e
    exact ⟨_, _, i, v, rfl, rfl, sameT wx.sub h1, h3, q _ v wx wx.rfl' p h4⟩
theorem rv_ixS {z : Str} {i : Int} {c : Nat} (hz : z.length ≤ 1000000) (e : atI z.cps.toList i = some c) (p : P (.val (.str ⟨#[c]⟩))) : RvP K rIxS (.val (.str z)) (.val (.int i)) P := fun w wx x y _ r1 r2 Q q => by
  cases r1; cases r2
  exact ⟨z, i, c, rfl, rfl, Nat.le_trans hz (by decide), e, q _ _ wx wx.rfl' p (.str _)⟩
theorem sixL {s : Sl} {ds : List D} {i : Int} {d : D} (l : LsS s ds) (e : atI ds i = some d) (p : P (.val d)) : RvP K (rIx K) s (.val (.int i)) P := rv_orL (rv_ixL l e p)
theorem sixT {ds : List D} {i : Int} {d : D} (e : atI ds i = some d) (p : P (.val d)) : RvP K (rIx K) (.val (.tup ds)) (.val (.int i)) P := rv_orR (rv_orL (rv_ixT e p))
theorem sixS {z : Str} {i : Int} {c : Nat} (hz : z.length ≤ 1000000) (e : atI z.cps.toList i = some c) (p : P (.val (.str ⟨#[c]⟩))) : RvP K (rIx K) (.val (.str z)) (.val (.int i)) P := rv_orR (rv_orR (rv_ixS hz e p))
def rLenG (K : PySem.W.Frag) : List V → Hp → VK → Prop := fun xs H Q => ∃ x n, xs = [x] ∧ LenV K x H n ∧ Q (.int n) H
theorem ra_lenL {s : Sl} {ds : List D} (l : LsS s ds) (p : P (.val (.int ds.length))) : RaP K (rLenG K) [s] P := fun w wx vs _ r Q q => by
  cases r with
  | cons r t =>
    cases t
    obtain ⟨a, xs, rfl, h1, h2⟩ := l.ok r
    exact ⟨.ref a, xs.length, rfl, .inl ⟨xs, h1, rfl⟩, (by rw [← h2.len]; exact q _ _ wx wx.rfl' p (.int _))⟩
theorem ra_lenT {ds : List D} (p : P (.val (.int ds.length))) : RaP K (rLenG K) [.val (.tup ds)] P := fun w wx vs _ r Q q => by
  cases r with
  | cons r t =>
    cases t
    cases r with
    | tup h1 h2 => exact ⟨_, _, rfl, .inr ⟨_, sameT wx.sub h1, rfl⟩, (by rw [← h2.len]; exact q _ _ wx wx.rfl' p (.int _))⟩
theorem ra_lenS {z : Str} (hz : z.length ≤ 1000000) (p : P (.val (.int z.length))) : RaP K (rLenG K) [.val (.str z)] P := fun w wx vs _ r Q q => by
  cases r with
  | cons r t =>
    cases t
    cases r
    exact ⟨_, _, rfl, ⟨Nat.le_trans hz (by decide), rfl⟩, q _ _ wx wx.rfl' p (.int _)⟩
/-! ### built-ins -/
theorem ra_abs {i : Int} (p : P (.val (.int (if i < 0 then -i else i)))) : RaP K (fun xs H Q => ∃ i, xs = [.int i] ∧ Q (.int (if i < 0 then -i else i)) H) [.val (.int i)] P := fun w wx vs _ r Q q => by
  cases r with | cons r t => cases t; cases r; exact ⟨i, rfl, q _ _ wx wx.rfl' p (.int _)⟩
def rInt1 : List V → Hp → VK → Prop := fun xs H Q => (∃ i, xs = [.int i] ∧ Q (.int i) H) ∨ ∃ k, xs = [.bl k] ∧ Q (.int (if k then 1 else 0)) H
theorem ra_int {i : Int} (p : P (.val (.int i))) : RaP K rInt1 [.val (.int i)] P := fun w wx vs _ r Q q => by
  cases r with | cons r t => cases t; cases r; exact .inl ⟨i, rfl, q _ _ wx wx.rfl' p (.int _)⟩
theorem ra_intB {k : Bool} (p : P (.val (.int (if k then 1 else 0)))) : RaP K rInt1 [.val (.bl k)] P := fun w wx vs _ r Q q => by
  cases r with | cons r t => cases t; cases r; exact .inr ⟨k, rfl, q _ _ wx wx.rfl' p (.int _)⟩
theorem ra_max {i j : Int} (p : P (.val (.int (if j > i then j else i)))) : RaP K (fun xs H Q => ∃ i j, xs = [.int i, .int j] ∧ Q (.int (if j > i then j else i)) H) [.val (.int i), .val (.int j)] P := fun w wx vs _ r Q q => by
  cases r with | cons r t => cases t with | cons r2 t => cases t; cases r; cases r2; exact ⟨i, j, rfl, q _ _ wx wx.rfl' p (.int _)⟩
theorem ra_min {i j : Int} (p : P (.val (.int (if j < i then j else i)))) : RaP K (fun xs H Q => ∃ i j, xs = [.int i, .int j] ∧ Q (.int (if j < i then j else i)) H) [.val (.int i), .val (.int j)] P := fun w wx vs _ r Q q => by
  cases r with | cons r t => cases t with | cons r2 t => cases t; cases r; cases r2; exact ⟨i, j, rfl, q _ _ wx wx.rfl' p (.int _)⟩
theorem ra_sum {s : Sl} {ns : List Int} (l : LsS s (ns.map D.int)) (p : P (.val (.int ns.sum))) : RaP K (rSum K) [s] P := fun w wx vs _ r Q q => by
  cases r with
  | cons r t =>
    cases t
    obtain ⟨a, xs, rfl, h1, h2⟩ := l.ok r
    rw [h2.ints_inv] at h1
    exact ⟨a, ns, rfl, h1, q _ _ wx wx.rfl' p (.int _)⟩
def rListG (K : PySem.W.Frag) : List V → Hp → VK → Prop := fun xs H Q => ∃ p ys, xs = [.ref p] ∧ (SqL K H p ys ∨ SqT K H p ys) ∧ ∀ l, H l = none → Q (.ref l) (upd H l (.lst ys))
theorem ra_listL {s : Sl} {ds : List D} (l : LsS s ds) (p : P (.own (oL ds))) : RaP K (rListG K) [s] P := fun w wx vs e r Q q => by
  cases r with
  | cons r t =>
    cases t
    obtain ⟨a, xs, rfl, h1, h2⟩ := l.ok r
    exact ⟨a, xs, rfl, .inl h1, fun l hl => q _ _ (wx.lay l _ hl) (Wd.le_lay hl) p (own_new e hl h2)⟩
theorem ra_listT {ds : List D} (p : P (.own (oL ds))) : RaP K (rListG K) [.val (.tup ds)] P := fun w wx vs e r Q q => by
  cases r with
  | cons r t =>
    cases t
    cases r with
    | tup h1 h2 => exact ⟨_, _, rfl, .inr (sameT wx.sub h1), fun l hl => q _ _ (wx.lay l _ hl) (Wd.le_lay hl) p (own_new e hl h2)⟩
def rTupG (K : PySem.W.Frag) : List V → Hp → VK → Prop := fun xs H Q => ∃ p ys, xs = [.ref p] ∧ ((SqL K H p ys ∧ ∀ l, H l = none → Q (.ref l) (upd H l (.tup ys))) ∨ (SqT K H p ys ∧ Q (.ref p) H))
theorem ra_tupL {s : Sl} {ds : List D} (l : LsS s ds) (p : P (.val (.tup ds))) : RaP K (rTupG K) [s] P := fun w wx vs e r Q q => by
  cases r with
  | cons r t =>
    cases t
    obtain ⟨a, xs, rfl, h1, h2⟩ := l.ok r
    exact ⟨a, xs, rfl, .inl ⟨h1, fun l hl => q _ _ (wx.new l _ hl) (Wd.le_new hl) p (Dr.tup (.inl (.inl upd_same)) (h2.mono (Wd.le_new hl).b))⟩⟩
theorem ra_tupT {ds : List D} (p : P (.val (.tup ds))) : RaP K (rTupG K) [.val (.tup ds)] P := fun w wx vs e r Q q => by
  cases r with
  | cons r t =>
    cases t
    cases r with
    | tup h1 h2 => exact ⟨_, _, rfl, .inr ⟨sameT wx.sub h1, q _ _ wx wx.rfl' p (.tup h1 h2)⟩⟩
theorem ra_sortedI {s : Sl} {ns : List Int} (l : LsS s (ns.map D.int)) (p : ∀ ms : List Int, ms.Perm ns → ms.Pairwise (· ≤ ·) → P (.own (oL (ms.map D.int)))) : RaP K (rSortedI K) [s] P := fun w wx vs e r Q q => by
  cases r with
  | cons r t =>
    cases t
    obtain ⟨a, xs, rfl, h1, h2⟩ := l.ok r
    rw [h2.ints_inv] at h1
    exact ⟨a, ns, rfl, h1, fun ms l hp hs hl => q _ _ (wx.lay l _ hl) (Wd.le_lay hl) (p ms hp hs) (own_new e hl DrA.ints)⟩
/-! ### slices -/
def cutD (ds : List D) (lo hi : Option Int) : List D := (ds.drop (HT.sIx ds.length 0 lo)).take (HT.sIx ds.length ds.length hi - HT.sIx ds.length 0 lo)
theorem cut_ok {B : Hp} {ds : List D} {xs : List V} {lo hi : Option Int} (r : DrA K B ds xs) : DrA K B (cutD ds lo hi) (cutV xs lo hi) := by
  unfold cutD cutV
  rw [← r.len]
  exact (r.drop _).take _
theorem evo_none {Po : Option Int → Prop} (p : Po none) : EvO K tNoPart env Po := fun en w σ R Q q => q none w w.rfl' p
theorem evo_some {Po : Option Int → Prop} {te : TE} (h : EvE K te env fun s => ∃ i, s = .val (.int i) ∧ Po (some i)) : EvO K (tPart te) env Po := fun en w σ R Q q =>
  h en w σ R _ fun s v w1 e1 h1 r1 => by
    obtain ⟨i, rfl, p⟩ := h1
    cases r1
    exact ⟨i, rfl, q _ w1 e1 p⟩
def RsP (K : PySem.W.Frag) (r : V → Option Int → Option Int → Hp → VK → Prop) (s : Sl) (lo hi : Option Int) (P : Sl → Prop) : Prop := ∀ (w wx : Wd) (x : V), w.le wx → SlN K w wx s x → ∀ Q : VK, (∀ s v w', wx.le w' → P s → SlN K w w' s v → Q v w'.H) → r x lo hi wx.H Q
theorem ev_sl {r : V → Option Int → Option Int → Hp → VK → Prop} {te : TE} {tl th : TO} (h : EvE K te env fun s => EvO K tl env fun lo => EvO K th env fun hi => RsP K r s lo hi P) : EvE K (tSl r te tl th) env P := fun en w σ R Q q =>
  h en w σ R _ fun s v w1 e1 h1 r1 => h1 en w1 σ (R.grow e1) _ fun lo w2 e2 h2 => h2 en w2 σ (R.grow (e1.trans e2)) _ fun hi w3 e3 h3 =>
    h3 w w3 v ((e1.trans e2).trans e3) (r1.grow (e2.trans e3)) Q fun s v w' e p r => q s v w' (((e1.trans e2).trans e3).trans e) p r
theorem rs_list {s : Sl} {ds : List D} {lo hi : Option Int} (l : LsS s ds) (p : P (.own (oL (cutD ds lo hi)))) : RsP K (rSlL K) s lo hi P := fun w wx x e r Q q => by
  obtain ⟨a, xs, rfl, h1, h2⟩ := l.ok r
  exact ⟨a, xs, rfl, h1, fun l hl => q _ _ (wx.lay l _ hl) (Wd.le_lay hl) p (own_new e hl (cut_ok h2))⟩
theorem rs_str {z : Str} {lo hi : Option Int} (hz : z.length ≤ 1000000) (p : P (.val (.str (cutS z lo hi)))) : RsP K rSlS (.val (.str z)) lo hi P := fun w wx x e r Q q => by
  cases r
  exact ⟨z, rfl, Nat.le_trans hz (by decide), q _ _ wx wx.rfl' p (.str _)⟩
/-- a child that is read -/
def chS : OT → Sl
  | .imm d => .val d
  | t => .brt t
theorem chS_ok {t : OT} {v : V} {fp : List Addr} (h : TR K w'.B w'.H t v fp) : SlN K w w' (chS t) v := by
  cases h with
  | imm h => exact h
  | lst a b => exact ⟨_, .lst a b⟩
  | tup a b => exact ⟨_, .tup a b⟩
  | dK a b c => exact ⟨_, .dK a b c⟩
  | dT a b c => exact ⟨_, .dT a b c⟩
  | ins a b c => exact ⟨_, .ins a b c⟩
inductive TlS : Sl → List OT → Prop
  | brt {xs : List OT} : TlS (.brt (.lst xs)) xs
  | own {xs : List OT} : TlS (.own (.lst xs)) xs
inductive TtS : Sl → List OT → Prop
  | brt {xs : List OT} : TtS (.brt (.tup xs)) xs
  | own {xs : List OT} : TtS (.own (.tup xs)) xs
theorem sixTl {s : Sl} {xs : List OT} {i : Int} {c : OT} (l : TlS s xs) (e : atI xs i = some c) (p : P (chS c)) : RvP K (rIx K) s (.val (.int i)) P := rv_orL fun w wx x y _ r1 r2 Q q => by
  cases r2
  have : ∃ f', TR K wx.B wx.H (.lst xs) x f' := by
    cases l with
    | brt => exact r1
    | own => obtain ⟨f, r, _⟩ := r1; exact ⟨f, r⟩
  obtain ⟨f', r⟩ := this
  cases r with
  | @lst pp _ vs fp hp rs =>
    unfold atI at e
    cases h : ixN xs.length i with
    | none => rw [h] at e; cases e
    | some j =>
      rw [h] at e
      obtain ⟨u, _, _, hu, _, tr, _⟩ := rs.focus e
      refine ⟨pp, vs, i, u, rfl, rfl, .inl (.inl hp), ?_, q _ u wx wx.rfl' p (chS_ok tr)⟩
      unfold atI; rw [← rs.len, h]; exact hu
theorem sixTt {s : Sl} {xs : List OT} {i : Int} {c : OT} (l : TtS s xs) (e : atI xs i = some c) (p : P (chS c)) : RvP K (rIx K) s (.val (.int i)) P := rv_orR (rv_orL fun w wx x y _ r1 r2 Q q => by
  cases r2
  have : ∃ f', TR K wx.B wx.H (.tup xs) x f' := by
    cases l with
    | brt => exact r1
    | own => obtain ⟨f, r, _⟩ := r1; exact ⟨f, r⟩
  obtain ⟨f', r⟩ := this
  cases r with
  | @tup pp _ vs fp hp rs =>
    unfold atI at e
    cases h : ixN xs.length i with
    | none => rw [h] at e; cases e
    | some j =>
      rw [h] at e
      obtain ⟨u, _, _, hu, _, tr, _⟩ := rs.focus e
      refine ⟨pp, vs, i, u, rfl, rfl, .inl (.inl hp), ?_, q _ u wx wx.rfl' p (chS_ok tr)⟩
      unfold atI; rw [← rs.len, h]; exact hu)
theorem ra_lenTt {s : Sl} {xs : List OT} (l : TtS s xs) (p : P (.val (.int xs.length))) : RaP K (rLenG K) [s] P := fun w wx vs _ r Q q => by
  cases r with
  | cons r t =>
    cases t
    rename_i v0
    have : ∃ f', TR K wx.B wx.H (.tup xs) v0 f' := by
      cases l with
      | brt => exact r
      | own => obtain ⟨f, r, _⟩ := r; exact ⟨f, r⟩
    obtain ⟨f', r⟩ := this
    cases r with
    | @tup pp _ vs fp hp rs => exact ⟨_, _, rfl, .inr ⟨vs, .inl (.inl hp), rfl⟩, (by rw [← rs.len]; exact q _ _ wx wx.rfl' p (.int _))⟩
end
end DL

set_option Elab.async false
set_option linter.all false
set_option maxRecDepth 100000
set_option autoImplicit false
namespace DL
open PySem L2
/-! ### statements -/
structure Post where
  nx : List Sl → Prop
  rt : Sl → List Sl → Prop
  bk : List Sl → Prop := fun _ => False
  ct : List Sl → Prop := fun _ => False
def Nx (K : PySem.W.Frag) (en : En) (w : Wd) (N : List Sl → Prop) (d : TSt → Hp → Prop) : Prop := ∀ (w' : Wd) σ' env', Same w.B w'.B → Rel K en w' env' σ' → N env' → d σ' w'.H
def Rt (K : PySem.W.Frag) (en : En) (w : Wd) (R : Sl → List Sl → Prop) (d : VK) : Prop := ∀ s v (w' : Wd) σ' env', StS s → Same w.B w'.B → σ'.length = env'.length → en.args.length ≤ env'.length → Rel K en w' (env' ++ [s]) (σ' ++ [some v]) → R s env' → d v w'.H
def Wp (K : PySem.W.Frag) (t : TS) (env : List Sl) (P : Post) : Prop := ∀ (en : En) (w : Wd) (σ : TSt), Rel K en w env σ → ∀ D : Ends, Nx K en w P.nx D.nx → Nx K en w P.bk D.bk → Nx K en w P.ct D.ct → Rt K en w P.rt D.rt → t D σ w.H
section
variable {K : PySem.W.Frag} {env : List Sl} {P P' : Post} {en : En} {w w' w'' : Wd} {t u : TS} {te ta tb : TE} {tt : TT} {N : List Sl → Prop} {d : TSt → Hp → Prop}
theorem Nx.back (h : Nx K en w N d) (e : Same w.B w'.B) : Nx K en w' N d := fun w2 σ' env' s R n => h w2 σ' env' (e.trans s) R n
theorem Rt.back {R : Sl → List Sl → Prop} {d : VK} (h : Rt K en w R d) (e : Same w.B w'.B) : Rt K en w' R d := fun s v w2 σ' env' st sb hl ha R' n => h s v w2 σ' env' st (e.trans sb) hl ha R' n
theorem wp_seq (h : Wp K t env { P with nx := fun e => Wp K u e P }) : Wp K (tSeq t u) env P := fun en w σ R D hn hb hc hr =>
  h en w σ R { D with nx := u D } (fun w' σ' env' s R' n => n en w' σ' R' D (hn.back s) (hb.back s) (hc.back s) (hr.back s)) hb hc hr
theorem wp_next (p : P.nx env) : Wp K tNext env P := fun en w σ R D hn _ _ _ => hn w σ env (Same.refl _) R p
theorem wp_break (p : P.bk env) : Wp K tBreak env P := fun en w σ R D _ hb _ _ => hb w σ env (Same.refl _) R p
theorem wp_cont (p : P.ct env) : Wp K tCont env P := fun en w σ R D _ _ hc _ => hc w σ env (Same.refl _) R p
theorem wp_if (h : EvT K tt env fun b => (b = true → Wp K t env P) ∧ (b = false → Wp K u env P)) : Wp K (tIfS tt t u) env P := fun en w σ R D hn hb hc hr =>
  h en w σ R _ fun b w1 e1 h1 => by
    cases b with
    | true => exact h1.1 rfl en w1 σ (R.grow e1) D (hn.back e1.b) (hb.back e1.b) (hc.back e1.b) (hr.back e1.b)
    | false => exact h1.2 rfl en w1 σ (R.grow e1) D (hn.back e1.b) (hb.back e1.b) (hc.back e1.b) (hr.back e1.b)
theorem wp_asg {i : Nat} (h : EvE K te env fun s => StS s ∧ P.nx (env.set i s)) : Wp K (tAsg te (gName i)) env P := fun en w σ R D hn _ _ _ =>
  h en w σ R _ fun s v w1 e1 h1 r1 => by
    obtain ⟨st, p⟩ := h1
    cases st with
    | val d => exact hn w1 _ _ e1.b ((R.grow e1).setVal r1) p
    | own o => exact hn w1 _ _ e1.b (R.setOwn e1 r1) p
/-- a result beside the slots -/
theorem Rel.push {σ : TSt} {s : Sl} {v : V} (R : Rel K en w env σ) (e : w.le w') (h : SlN K w w' s v) (st : StS s) : Rel K en w' (env ++ [s]) (σ ++ [some v]) := by
  obtain ⟨F, R⟩ := R
  have main : ∀ fp, SlS K en w' env.length s (some v) fp → (∀ p ∈ fp, w.H p = none) → Rel K en w' (env ++ [s]) (σ ++ [some v]) := fun fp hs hf => by
    refine ⟨fun j => if j = env.length then fp else F j, R.le.trans e, by simp [R.len], (by have := R.an; simp; omega), fun j s' o a b => ?_, fun j k p hj hk a b => ?_⟩
    · by_cases hj : j < env.length
      · rw [List.getElem?_append_left hj] at a
        rw [List.getElem?_append_left (by rw [← R.len]; exact hj)] at b
        simp only [Nat.ne_of_lt hj, if_false]
        exact (R.sl j s' o a b).grow e
      · have : j = env.length := by
          have := (List.getElem?_eq_some_iff.mp a).1
          simp at this; omega
        subst this
        simp at a
        rw [R.len] at b
        simp at b
        subst a b
        simpa using hs
    · simp at hj hk
      have old : ∀ (i : Nat) p, i < env.length → p ∈ F i → ∃ o, w.H p = some o := fun i p hi z => by
        obtain ⟨s1, o1, q1, q2⟩ := slot_at hi R.len
        exact ((R.sl i s1 o1 q1 q2).fp p z).1
      by_cases h1 : j = env.length
      · by_cases h2 : k = env.length
        · rw [h1, h2]
        · simp only [h1, if_true] at a; simp only [h2, if_false] at b
          obtain ⟨o, h3⟩ := old k p (by omega) b
          rw [hf p a] at h3; cases h3
      · by_cases h2 : k = env.length
        · simp only [h2, if_true] at b; simp only [h1, if_false] at a
          obtain ⟨o, h3⟩ := old j p (by omega) a
          rw [hf p b] at h3; cases h3
        · simp only [h1, if_false] at a; simp only [h2, if_false] at b
          exact R.ap j k p (by omega) (by omega) a b
  cases st with
  | val d => exact main [] ⟨rfl, v, rfl, h⟩ (by simp)
  | own t =>
    obtain ⟨fp, a, b, c⟩ := h
    exact main fp ⟨v, rfl, a, b, fun p z => ⟨R.le.h.free (c p z).1, (c p z).2⟩⟩ fun p z => (c p z).1
theorem wp_ret (h : EvE K te env fun s => StS s ∧ P.rt s env) : Wp K (tRet te) env P := fun en w σ R D _ _ _ hr =>
  h en w σ R _ fun s v w1 e1 h1 r1 => hr s v w1 σ env h1.1 e1.b R.len.symm R.an (R.push e1 r1 h1.1) h1.2
/-- a name of one's own is handed back -/
theorem wp_retOwn {i : Nat} {o : OT} (e : env[i]? = some (.own o)) (p : P.rt (.own o) (env.set i .un)) : Wp K (tRet (tVar i)) env P := fun en w σ R D _ _ _ hr => by
  obtain ⟨F, R⟩ := R
  obtain ⟨x, h1, v, rfl, r⟩ := R.at e
  have hi : i < env.length := (List.getElem?_eq_some_iff.mp e).1
  refine ⟨v, h1, hr (.own o) v w σ (env.set i .un) (.own o) (Same.refl _) (by simp [R.len]) (by simpa using R.an) ⟨fun j => if j = env.length then F i else if j = i then [] else F j, R.le, by simp [R.len], (by have := R.an; simp; omega), fun j s' o' a b => ?_, fun j k p hj hk a b => ?_⟩ p⟩
  · by_cases hj : j < env.length
    · rw [List.getElem?_append_left (by simpa using hj)] at a
      rw [List.getElem?_append_left (by rw [← R.len]; exact hj)] at b
      simp only [Nat.ne_of_lt hj, if_false]
      by_cases hij : j = i
      · subst hij
        rw [List.getElem?_set_self hj] at a; cases a
        simp [SlS]
      · rw [List.getElem?_set_ne (Ne.symm hij)] at a
        simp only [hij, if_false]
        exact R.sl j s' o' a b
    · have : j = env.length := by
        have := (List.getElem?_eq_some_iff.mp a).1
        simp at this; omega
      subst this
      have a' : (env.set i .un ++ [Sl.own o])[(env.set i .un).length]? = some s' := by simpa using a
      rw [List.getElem?_concat_length] at a'
      rw [R.len, List.getElem?_concat_length] at b
      cases a'; cases b
      simp only [if_true]
      exact ⟨v, rfl, r⟩
  · simp at hj hk
    have ne : i ≠ env.length := Nat.ne_of_lt hi
    by_cases h1 : j = env.length
    · by_cases h2 : k = env.length
      · rw [h1, h2]
      · simp only [h1, if_true] at a; simp only [h2, if_false] at b
        by_cases h3 : k = i
        · simp [h3] at b
        · simp only [h3, if_false] at b
          exact (h3 (R.ap k i p (by omega) hi b a)).elim
    · by_cases h2 : k = env.length
      · simp only [h2, if_true] at b; simp only [h1, if_false] at a
        by_cases h3 : j = i
        · simp [h3] at a
        · simp only [h3, if_false] at a
          exact (h3 (R.ap j i p (by omega) hi a b)).elim
      · simp only [h1, if_false] at a; simp only [h2, if_false] at b
        by_cases h3 : j = i
        · simp [h3] at a
        · by_cases h4 : k = i
          · simp [h4] at b
          · simp only [h3, if_false] at a; simp only [h4, if_false] at b
            exact R.ap j k p (by omega) (by omega) a b
/-- return (x, e), x a name of one's own -/
theorem wp_retT2 {i : Nat} {o : OT} (e : env[i]? = some (.own o)) (h : EvE K te (env.set i .un) fun s => ∃ d, s = .val d ∧ P.rt (.own (.tup [o, .imm d])) (env.set i .un)) : Wp K (tRet (tTup (tCons (tVar i) (tCons te tNil)))) env P := fun en w σ R D _ _ _ hr => by
  obtain ⟨F, R⟩ := R
  obtain ⟨x, h1, v, rfl, own⟩ := R.at e
  have hi : i < env.length := (List.getElem?_eq_some_iff.mp e).1
  refine ⟨v, h1, ?_⟩
  have Ru : Rel K en w (env.set i .un) σ := ⟨fun j => if j = i then [] else F j, R.le, by simp [R.len], by simpa using R.an, fun j s' o' a b => by
    by_cases hij : j = i
    · subst hij
      rw [List.getElem?_set_self hi] at a; cases a
      simp [SlS]
    · rw [List.getElem?_set_ne (Ne.symm hij)] at a
      simp only [hij, if_false]
      exact R.sl j s' o' a b, fun j k p hj hk a b => by
    simp at hj hk
    by_cases h3 : j = i
    · simp [h3] at a
    · by_cases h4 : k = i
      · simp [h4] at b
      · simp only [h3, if_false] at a; simp only [h4, if_false] at b
        exact R.ap j k p hj hk a b⟩
  refine h en w σ Ru _ fun s y w1 e1 p1 r1 => ?_
  obtain ⟨d, rfl, p⟩ := p1
  refine ⟨by show 2 ≤ sizeLine; decide, fun pp hp => ?_⟩
  have own1 := own.grow e1
  obtain ⟨o2, h2⟩ : ∃ o2 : HO, o2 = .tup [v, y] := ⟨_, rfl⟩
  have hpF : pp ∉ F i := fun z => by
    obtain ⟨o3, z3⟩ := own1.1.there pp z
    rw [hp] at z3; cases z3
  have le2 := Wd.le_lay (o := .tup [v, y]) hp
  have tr2 : TR K (w1.lay pp (.tup [v, y]) hp).B (w1.lay pp (.tup [v, y]) hp).H (.tup [o, .imm d]) (.ref pp) (pp :: (F i ++ ([] ++ []))) :=
    .tup upd_same (.cons (own1.grow le2).1 (.cons (.imm (Dr.mono le2.b r1)) .nil))
  have own2 : Own K en.w0.H (w1.lay pp (.tup [v, y]) hp) (.tup [o, .imm d]) (.ref pp) (pp :: (F i ++ ([] ++ []))) := by
    refine ⟨tr2, by simpa using ⟨hpF, own1.2.1⟩, fun q z => ?_⟩
    have z : q = pp ∨ q ∈ F i := by simpa using z
    rcases z with rfl | z
    · exact ⟨(R.le.trans e1).h.free hp, (show w1.B q = none from Wd.freeB hp)⟩
    · exact (own1.grow le2).2.2 q z
  have R2 := Ru.grow (e1.trans le2)
  obtain ⟨F2, R2⟩ := R2
  refine hr (.own (.tup [o, .imm d])) (.ref pp) (w1.lay pp (.tup [v, y]) hp) σ (env.set i .un) (.own _) (e1.trans le2).b (by simp [R.len]) (by simpa using R.an) ⟨fun j => if j = env.length then pp :: (F i ++ ([] ++ [])) else if j = i then [] else F j, R2.le, by simp [R.len], (by have := R.an; simp; omega), fun j s' o' a b => ?_, fun j k p hj hk a b => ?_⟩ p
  · by_cases hj : j < env.length
    · rw [List.getElem?_append_left (by simpa using hj)] at a
      rw [List.getElem?_append_left (by rw [← R.len]; exact hj)] at b
      simp only [Nat.ne_of_lt hj, if_false]
      by_cases hij : j = i
      · subst hij
        rw [List.getElem?_set_self hj] at a; cases a
        simp [SlS]
      · rw [List.getElem?_set_ne (Ne.symm hij)] at a
        simp only [hij, if_false]
        exact (R.sl j s' o' a b).grow (e1.trans le2)
    · have : j = env.length := by
        have := (List.getElem?_eq_some_iff.mp a).1
        simp at this; omega
      subst this
      have a' : (env.set i .un ++ [Sl.own (.tup [o, .imm d])])[(env.set i .un).length]? = some s' := by simpa using a
      rw [List.getElem?_concat_length] at a'
      rw [R.len, List.getElem?_concat_length] at b
      cases a'; cases b
      simp only [if_true]
      exact ⟨_, rfl, own2⟩
  · simp at hj hk
    have old : ∀ (j : Nat) p, j ≠ i → j < env.length → p ∈ F j → p ∉ pp :: (F i ++ ([] ++ [])) := fun j p hji hj z z2 => by
      have z2 : p = pp ∨ p ∈ F i := by simpa using z2
      rcases z2 with rfl | z2
      · obtain ⟨s1, o1, q1, q2⟩ := slot_at hj R.len
        obtain ⟨⟨o3, q3⟩, _⟩ := (R.sl j s1 o1 q1 q2).fp p z
        rw [e1.h _ _ q3] at hp; cases hp
      · exact hji (R.ap j i p hj hi z z2)
    by_cases h1 : j = env.length
    · by_cases h2 : k = env.length
      · rw [h1, h2]
      · rw [if_pos h1] at a; rw [if_neg h2] at b
        by_cases h3 : k = i
        · rw [if_pos h3] at b; simp at b
        · rw [if_neg h3] at b
          exact (old k p h3 (by omega) b a).elim
    · by_cases h2 : k = env.length
      · rw [if_pos h2] at b; rw [if_neg h1] at a
        by_cases h3 : j = i
        · rw [if_pos h3] at a; simp at a
        · rw [if_neg h3] at a
          exact (old j p h3 (by omega) a b).elim
      · rw [if_neg h1] at a; rw [if_neg h2] at b
        by_cases h3 : j = i
        · rw [if_pos h3] at a; simp at a
        · by_cases h4 : k = i
          · rw [if_pos h4] at b; simp at b
          · rw [if_neg h3] at a; rw [if_neg h4] at b
            exact R.ap j k p (by omega) (by omega) a b
theorem wp_retN (p : P.rt (.val .non) env) : Wp K tRetN env P := fun en w σ R D _ _ _ hr => hr _ _ w σ env (.val _) (Same.refl _) R.len.symm R.an (R.push w.rfl' .non (.val _)) p
theorem wp_drop (h : EvE K te env fun _ => P.nx env) : Wp K (tDrop te) env P := fun en w σ R D hn _ _ _ =>
  h en w σ R _ fun s v w1 e1 h1 r1 => hn w1 _ _ e1.b (R.grow e1) h1
theorem wp_imp (h : Wp K t env P) (k1 : ∀ e, P.nx e → P'.nx e) (k2 : ∀ s e, P.rt s e → P'.rt s e) (k3 : ∀ e, P.bk e → P'.bk e) (k4 : ∀ e, P.ct e → P'.ct e) : Wp K t env P' := fun en w σ R D hn hb hc hr =>
  h en w σ R D (fun w' σ' e s R p => hn w' σ' e s R (k1 e p)) (fun w' σ' e s R p => hb w' σ' e s R (k3 e p)) (fun w' σ' e s R p => hc w' σ' e s R (k4 e p)) fun s v w' σ' env' st sb hl ha R' p => hr s v w' σ' env' st sb hl ha R' (k2 s env' p)
/-- a word between two statements -/
theorem wp_cut (M : List Sl → Prop) (h : Wp K t env { P with nx := M }) (k : ∀ e, M e → P.nx e) : Wp K t env P := wp_imp h k (fun _ _ z => z) (fun _ z => z) fun _ z => z
/-- a tree becomes data -/
theorem Rel.frzAt {i : Nat} {t : OT} {d : D} {σ : TSt} (R : Rel K en w env σ) (e : env[i]? = some (.own t)) (td : TD t d) : ∃ w', w'.H = w.H ∧ Same w.B w'.B ∧ Rel K en w' (env.set i (.val d)) σ := by
  obtain ⟨F, R⟩ := R
  have hl : i < env.length := (List.getElem?_eq_some_iff.mp e).1
  obtain ⟨x, h1, v, rfl, own⟩ := R.at e
  obtain ⟨sb, dr⟩ := own.frz td
  have hσ : σ.set i (some v) = σ := by
    apply List.ext_getElem?
    intro j
    rw [List.getElem?_set]
    by_cases hj : i = j
    · subst hj
      have : i < σ.length := by rw [← R.len]; exact hl
      simp [this, h1]
      exact ((List.getElem?_eq_some_iff.mp h1).2).symm
    · simp [hj]
  have := R.upd (w' := w.frzL (F i)) (i := i) (s := .val d) (o := some v) (fp := []) ⟨R.le.b.trans sb, R.le.h, fun p o z => by
      show (if p ∈ F i then w.H p else w.B p) = _
      rw [if_neg fun z2 => by rw [(own.2.2 p z2).1] at z; cases z]
      exact R.le.f p o z⟩
    (fun j s o hj ej z => z.keep sb fun p o' hp q => ⟨q, fun n => by
      show (if p ∈ F i then w.H p else w.B p) = none
      rw [if_neg fun z2 => hj (R.ap j i p (List.getElem?_eq_some_iff.mp ej).1 hl hp z2)]
      exact n⟩) ⟨rfl, v, rfl, dr⟩ (fun _ _ _ _ z => by simp at z)
  rw [hσ] at this
  exact ⟨w.frzL (F i), rfl, sb, _, this⟩
theorem wp_frz {i : Nat} {ot : OT} {dd : D} (e : env[i]? = some (.own ot)) (td : TD ot dd) (h : Wp K t (env.set i (.val dd)) P) : Wp K t env P := fun en w σ R D hn hb hc hr => by
  obtain ⟨w', e1, e2, R'⟩ := R.frzAt e td
  rw [← e1]
  exact h en w' σ R' D (hn.back e2) (hb.back e2) (hc.back e2) (hr.back e2)
theorem Rel.weak {env' : List Sl} {σ : TSt} (R : Rel K en w env σ) (hl : env'.length = env.length) (h : ∀ (i : Nat) s, env'[i]? = some s → env[i]? = some s ∨ s = .un) : Rel K en w env' σ := by
  obtain ⟨F, R⟩ := R
  refine ⟨fun i => match env'[i]? with | some .un => [] | _ => F i, R.le, hl.trans R.len, (by rw [hl]; exact R.an), fun i s o a b => ?_, fun i j p hi hj a b => ?_⟩
  · rw [a]
    rcases h i s a with z | z
    · have := R.sl i s o z b
      cases s with
      | un => simp [SlS]
      | val d => exact this
      | own d => exact this
      | io d => exact this
      | bor d => exact this
      | scr d => exact this
      | brt d => exact this
    · subst z; simp [SlS]
  · have f : ∀ (i : Nat) p, p ∈ (match env'[i]? with | some .un => [] | _ => F i) → p ∈ F i := fun i p z => by
      split at z
      · simp at z
      · exact z
    exact R.ap i j p (by omega) (by omega) (f i p a) (f j p b)
theorem wp_weak {env' : List Sl} (hl : env'.length = env.length) (hk : ∀ (i : Nat) s, env'[i]? = some s → env[i]? = some s ∨ s = .un) (h : Wp K t env' P) : Wp K t env P := fun en w σ R D hn hb hc hr => h en w σ (R.weak hl hk) D hn hb hc hr
/-- name op= e -/
theorem wp_aug {i : Nat} {f : Int → Int → Int} {a : Int} (e : env[i]? = some (.val (.int a))) (h : EvE K te env fun s => ∃ b, s = .val (.int b) ∧ P.nx (env.set i (.val (.int (f a b))))) : Wp K (tAug i te (ipI f)) env P := fun en w σ R D hn _ _ _ => by
  obtain ⟨x, _, h1, _, v, rfl, r⟩ := R.at e
  refine ⟨v, h1, ?_⟩
  exact h en w σ R _ fun s y w1 e1 p1 r1 => by
    obtain ⟨b, rfl, p⟩ := p1
    cases r1; cases r
    exact ⟨a, b, rfl, rfl, hn w1 _ _ e1.b ((R.grow e1).setVal (.int _)) p⟩
/-! ### nodes -/
/-- te is a node of the tree in slot i -/
def EvN (K : PySem.W.Frag) (te : TE) (env : List Sl) (P : Nat → OT → (OT → OT) → Prop) : Prop := ∀ (en : En) (w : Wd) (σ : TSt), Rel K en w env σ → ∀ Q : VK,
  (∀ i t s f vr u (w' : Wd), w.le w' → (env[i]? = some (.own t) ∨ env[i]? = some (.io t)) → σ[i]? = some (some vr) → AtV w'.H t vr s u f → P i s f → Q u w'.H) → te σ w.H Q
theorem en_var {i : Nat} {t : OT} {Pn : Nat → OT → (OT → OT) → Prop} (e : env[i]? = some (.own t) ∨ env[i]? = some (.io t)) (p : Pn i t id) : EvN K (tVar i) env Pn := fun en w σ R Q q => by
  have : ∃ v, σ[i]? = some (some v) := by
    rcases e with e | e
    · obtain ⟨o, fp, h1, v, rfl, _⟩ := R.at e; exact ⟨v, h1⟩
    · obtain ⟨o, fp, h1, ⟨v, rfl, _⟩, _⟩ := R.at e; exact ⟨v, h1⟩
  obtain ⟨v, h1⟩ := this
  exact ⟨v, h1, q i t t id v v w w.rfl' e h1 .here p⟩
theorem AtV.trans {H : Hp} {t s c : OT} {v u cv : V} {f g : OT → OT} (a : AtV H t v s u f) (b : AtV H s u c cv g) : AtV H t v c cv (fun x => f (g x)) := by
  induction a with
  | here => exact b
  | lst h e1 e2 _ ih => exact .lst h e1 e2 (ih b)
  | tup h e1 e2 _ ih => exact .tup h e1 e2 (ih b)
  | dK h e1 e2 _ ih => exact .dK h e1 e2 (ih b)
  | dT h e1 e2 _ ih => exact .dT h e1 e2 (ih b)
  | ins h e1 e2 _ ih => exact .ins h e1 e2 (ih b)
/-- the tree at a node -/
theorem Rel.nodeTR {i : Nat} {t s : OT} {vr u : V} {f : OT → OT} {σ : TSt} (R : Rel K en w env σ) (e : env[i]? = some (.own t) ∨ env[i]? = some (.io t)) (hv : σ[i]? = some (some vr)) (a : AtV w.H t vr s u f) : ∃ fs, TR K w.B w.H s u fs := by
  rcases e with e | e
  · obtain ⟨o, fp, h1, v, rfl, own⟩ := R.at e
    rw [hv] at h1; cases h1
    obtain ⟨f1, fs, _, ts, _⟩ := a.focus own.1
    exact ⟨fs, ts⟩
  · obtain ⟨o, fp, h1, ⟨v, rfl, own⟩, _⟩ := R.at e
    rw [hv] at h1; cases h1
    obtain ⟨f1, fs, _, ts, _⟩ := a.focus own.1
    exact ⟨fs, ts⟩
theorem en_ixL {ti : TE} {Pn : Nat → OT → (OT → OT) → Prop} (h : EvN K tb env fun i s f => ∃ xs, s = .lst xs ∧ EvE K ti env fun s2 => ∃ k j c, s2 = .val (.int k) ∧ ixN xs.length k = some j ∧ xs[j]? = some c ∧ Pn i c (fun x => f (.lst (xs.set j x)))) : EvN K (tOp (rIx K) tb ti) env Pn := fun en w σ R Q q =>
  h en w σ R _ fun i t s f vr u w1 e1 et hv a p => by
    obtain ⟨xs, rfl, p⟩ := p
    exact p en w1 σ (R.grow e1) _ fun s2 y w2 e2 p2 r2 => by
      obtain ⟨k, j, c, rfl, hj, hc, p⟩ := p2
      cases r2
      have a2 := a.mono e2.h
      obtain ⟨fs, tr⟩ := (R.grow (e1.trans e2)).nodeTR et hv a2
      cases tr with
      | @lst pp _ vs fp hp rs =>
        obtain ⟨cv, _, _, hcv, _⟩ := rs.focus hc
        refine .inl ⟨pp, vs, k, cv, rfl, rfl, .inl (.inl hp), ?_, q i t c _ vr cv w2 (e1.trans e2) et hv (a2.trans (.lst hp hc hcv .here)) p⟩
        unfold atI
        rw [← rs.len, hj]
        exact hcv
theorem en_ixT {ti : TE} {Pn : Nat → OT → (OT → OT) → Prop} (h : EvN K tb env fun i s f => ∃ xs, s = .tup xs ∧ EvE K ti env fun s2 => ∃ k j c, s2 = .val (.int k) ∧ ixN xs.length k = some j ∧ xs[j]? = some c ∧ Pn i c (fun x => f (.tup (xs.set j x)))) : EvN K (tOp (rIx K) tb ti) env Pn := fun en w σ R Q q =>
  h en w σ R _ fun i t s f vr u w1 e1 et hv a p => by
    obtain ⟨xs, rfl, p⟩ := p
    exact p en w1 σ (R.grow e1) _ fun s2 y w2 e2 p2 r2 => by
      obtain ⟨k, j, c, rfl, hj, hc, p⟩ := p2
      cases r2
      have a2 := a.mono e2.h
      obtain ⟨fs, tr⟩ := (R.grow (e1.trans e2)).nodeTR et hv a2
      cases tr with
      | @tup pp _ vs fp hp rs =>
        obtain ⟨cv, _, _, hcv, _⟩ := rs.focus hc
        refine .inr (.inl ⟨pp, vs, k, cv, rfl, rfl, .inl (.inl hp), ?_, q i t c _ vr cv w2 (e1.trans e2) et hv (a2.trans (.tup hp hc hcv .here)) p⟩)
        unfold atI
        rw [← rs.len, hj]
        exact hcv
/-- a node that is data, or a flat list, read -/
theorem ev_node {Pe : Sl → Prop} (h : EvN K te env fun i s f => (∃ d, s = .imm d ∧ Pe (.val d)) ∨ (∃ ds, s = oL ds ∧ Pe (.bor ds))) : EvE K te env Pe := fun en w σ R Q q =>
  h en w σ R _ fun i t s f vr u w1 e1 et hv a p => by
    obtain ⟨fs, tr⟩ := (R.grow e1).nodeTR et hv a
    rcases p with ⟨d, rfl, p⟩ | ⟨ds, rfl, p⟩
    · cases tr with | imm r => exact q _ u w1 e1 p r
    · obtain ⟨pp, vs, rfl, _, h3, r⟩ := tr.oL_inv
      exact q _ _ w1 e1 p ⟨pp, vs, rfl, h3, r⟩
/-- what a node becomes in the slots -/
def putS (env : List Sl) (i : Nat) (t : OT) : List Sl := env.set i (match env[i]? with | some (.io _) => .io t | _ => .own t)
/-- a node that is one object is written: its object o becomes o', the subtree s' -/
theorem Rel.write {i : Nat} {t s s' : OT} {vr : V} {p : Addr} {o o' : HO} {f : OT → OT} {σ : TSt} (R : Rel K en w env σ) (e : env[i]? = some (.own t) ∨ env[i]? = some (.io t)) (hv : σ[i]? = some (some vr)) (a : AtV w.H t vr s (.ref p) f)
    (new : ∀ fs, TR K w.B w.H s (.ref p) fs → fs.Nodup → (∀ q ∈ fs, en.w0.H q = none ∧ w.B q = none) → p ∈ fs ∧ ∀ H', H' p = some o' → (∀ q o, q ≠ p → w.H q = some o → H' q = some o) → ∃ fs', TR K w.B H' s' (.ref p) fs' ∧ fs'.Nodup ∧ ∀ q ∈ fs', en.w0.H q = none ∧ w.B q = none ∧ (q ∈ fs ∨ w.H q = none)) :
    ∃ w1 : Wd, w1.H = upd w.H p o' ∧ Same w.B w1.B ∧ Rel K en w1 (putS env i (f s')) σ := by
  obtain ⟨F, R0⟩ := id R
  have own : Own K en.w0.H w t vr (F i) := by
    rcases e with e | e
    · obtain ⟨v', z, r⟩ := R0.sl i _ _ e hv; cases z; exact r
    · obtain ⟨⟨v', z, r⟩, _⟩ := R0.sl i _ _ e hv; cases z; exact r
  obtain ⟨f1, fs, pm, ts, rb⟩ := a.focus own.1
  have inF : ∀ q, q ∈ fs → q ∈ F i := fun q z => pm.mem_iff.mpr (List.mem_append.mpr (.inr z))
  have nd : fs.Nodup := (List.nodup_append.mp (pm.nodup_iff.mp own.2.1)).2.1
  obtain ⟨hp, _⟩ := new fs ts nd fun q z => own.2.2 q (inF q z)
  have hB : w.B p = none := (own.2.2 p (inF p hp)).2
  refine ⟨w.put p o' hB, rfl, Same.refl _, ?_⟩
  refine R.node (w1 := w.put p o' hB) (s' := s') e hv a (Same.refl _) (fun fs ts nd no => ?_) (fun q o z => R0.le.f q o z)
  obtain ⟨hp, k⟩ := new fs ts nd no
  refine ⟨fun q o z1 z2 => ⟨?_, fun n => n⟩, ?_⟩
  · show upd w.H p o' q = some o
    rw [upd_ne (fun z => by subst z; exact z1 hp)]; exact z2
  · obtain ⟨fs', b1, b2, b3⟩ := k (upd w.H p o') upd_same fun q o z1 z2 => by rw [upd_ne z1]; exact z2
    exact ⟨fs', b1, b2, b3⟩
/-- xs.append(e), xs a node -/
theorem wp_appN {tr : TE} (h : EvN K tr env fun i s f => ∃ xs, s = .lst xs ∧ xs.length < 1000000 ∧ EvE K te env fun s2 => ∃ d, Frz s2 d ∧ P.nx (putS env i (f (.lst (xs ++ [.imm d]))))) :
    Wp K (tDrop (tBM K "list" rAppend tr (tCons te tNil))) env P := fun en w σ R D hn _ _ _ =>
  h en w σ R _ fun i t s f vr u w1 e1 et hv a p => by
    obtain ⟨xs, rfl, hl, p⟩ := p
    have R1 := R.grow e1
    obtain ⟨fs, ts⟩ := R1.nodeTR et hv a
    cases ts with
    | @lst pp _ vs fp hp rs =>
      refine ⟨.inl ⟨rfl, _, .inl (.inl hp)⟩, ?_⟩
      exact ev_frz (P := fun s2 => ∃ d, s2 = .val d ∧ P.nx (putS env i (f (.lst (xs ++ [.imm d]))))) (p.imp fun s2 ⟨d, fz, z⟩ => ⟨d, fz, d, rfl, z⟩) en w1 σ R1 _ fun s2 y w2 e2 p2 r2 => by
        obtain ⟨d, rfl, p⟩ := p2
        have a2 := a.mono e2.h
        have R2 := R1.grow e2
        have hp2 := e2.h _ _ hp
        refine ⟨pp, vs, y, rfl, rfl, hp2, Nat.lt_of_lt_of_le (by rw [← rs.len]; exact hl) (by decide), ?_⟩
        obtain ⟨w3, h3, b3, R3⟩ := R2.write (s' := .lst (xs ++ [.imm d])) (o := .lst vs) (o' := .lst (vs ++ [y])) et hv a2 (fun fs ts nd no => by
          cases ts with
          | @lst _ _ vs' fp' hp' rs' =>
            rw [hp2] at hp'; cases hp'
            refine ⟨by simp, fun H' q1 q2 => ⟨pp :: (fp' ++ ([] ++ [])), .lst q1 ((rs'.mono (Same.refl _) fun q o z1 z2 => q2 q o (fun e => by
                subst e; exact (List.nodup_cons.mp nd).1 z1) z2).append (.cons (.imm r2) .nil)), by simpa using nd, fun q z => ?_⟩⟩
            have : q ∈ pp :: fp' := by simpa using z
            exact ⟨(no q this).1, (no q this).2, .inl this⟩)
        rw [← h3]
        exact hn w3 σ _ ((e1.trans e2).b.trans b3) R3 p
theorem putS_own {i : Nat} {t t' : OT} (e : env[i]? = some (.own t)) : putS env i t' = env.set i (.own t') := by unfold putS; rw [e]
theorem putS_io {i : Nat} {t t' : OT} (e : env[i]? = some (.io t)) : putS env i t' = env.set i (.io t') := by unfold putS; rw [e]
theorem oL_app (ds : List D) (d : D) : OT.lst (ds.map .imm ++ [.imm d]) = oL (ds ++ [d]) := by simp [oL]
/-- xs.append(e), a flat list of one's own -/
theorem wp_app {i : Nat} {ds : List D} (e : env[i]? = some (.own (oL ds))) (hl : ds.length < 1000000) (h : EvE K te env fun s => ∃ d, Frz s d ∧ P.nx (env.set i (.own (oL (ds ++ [d]))))) :
    Wp K (tDrop (tBM K "list" rAppend (tVar i) (tCons te tNil))) env P :=
  wp_appN (en_var (.inl e) ⟨ds.map .imm, rfl, by simpa using hl, h.imp fun s ⟨d, f, p⟩ => ⟨d, f, by
    show P.nx (putS env i (.lst (ds.map .imm ++ [.imm d])))
    rw [oL_app, putS_own e]; exact p⟩⟩)
/-- xs[j] = e -/
theorem wp_setLN {tr ti : TE} (h : EvE K te env fun s => ∃ d, Frz s d ∧ EvN K tr env fun i s f => ∃ xs, s = .lst xs ∧ EvE K ti env fun s2 => ∃ k j, s2 = .val (.int k) ∧ ixN xs.length k = some j ∧ (∃ d0, xs[j]? = some (.imm d0)) ∧ P.nx (putS env i (f (.lst (xs.set j (.imm d)))))) :
    Wp K (tAsg te (gSub tr ti rSetL)) env P := fun en w σ R D hn _ _ _ =>
  ev_frz (P := fun s => ∃ d, s = .val d ∧ EvN K tr env fun i s f => ∃ xs, s = .lst xs ∧ EvE K ti env fun s2 => ∃ k j, s2 = .val (.int k) ∧ ixN xs.length k = some j ∧ (∃ d0, xs[j]? = some (.imm d0)) ∧ P.nx (putS env i (f (.lst (xs.set j (.imm d)))))) (h.imp fun s2 ⟨d, fz, z⟩ => ⟨d, fz, d, rfl, z⟩) en w σ R _ fun s y w1 e1 p1 r1 => by
    obtain ⟨d, rfl, p⟩ := p1
    exact p en w1 σ (R.grow e1) _ fun i t s f vr u w2 e2 et hv a p => by
      obtain ⟨xs, rfl, p⟩ := p
      exact p en w2 σ (R.grow (e1.trans e2)) _ fun s3 y3 w3 e3 p3 r3 => by
        obtain ⟨k, j, rfl, hj, ⟨d0, hd0⟩, p⟩ := p3
        cases r3
        have a3 := a.mono e3.h
        have R3 := R.grow ((e1.trans e2).trans e3)
        obtain ⟨fs, ts⟩ := R3.nodeTR et hv a3
        cases ts with
        | @lst pp _ vs fp hp rs =>
          have hjl : j < xs.length := (List.getElem?_eq_some_iff.mp hd0).1
          refine ⟨pp, vs, k, j, rfl, rfl, hp, (by rw [← rs.len]; exact hj), ?_⟩
          have r3 : Dr K w3.B d y := Dr.mono (e2.trans e3).b r1
          obtain ⟨w4, h4, b4, R4⟩ := R3.write (s' := .lst (xs.set j (.imm d))) (o := .lst vs) (o' := .lst (vs.set j y)) et hv a3 (fun fs ts nd no => by
            cases ts with
            | @lst _ _ vs' fp' hp' rs' =>
              rw [hp] at hp'; cases hp'
              refine ⟨by simp, fun H' q1 q2 => ?_⟩
              have rs2 := rs'.mono (H' := H') (Same.refl _) fun q o z1 z2 => q2 q o (fun e => by subst e; exact (List.nodup_cons.mp nd).1 z1) z2
              have key : ∀ {xs : List OT} {vs : List V} {fp : List Addr} {j : Nat}, TRs K w3.B H' xs vs fp → xs[j]? = some (.imm d0) → TRs K w3.B H' (xs.set j (.imm d)) (vs.set j y) fp := by
                intro xs
                induction xs with
                | nil => intro vs fp j h e; simp at e
                | cons x r ih =>
                  intro vs fp j h e
                  cases h with
                  | @cons _ v fa fb _ vs h1 t =>
                    cases j with
                    | zero => simp at e; subst e; cases h1; exact .cons (f1 := []) (.imm r3) t
                    | succ j => simp at e; exact .cons h1 (ih t e)
              exact ⟨pp :: fp', .lst q1 (key rs2 hd0), nd, fun q z => ⟨(no q z).1, (no q z).2, .inl z⟩⟩)
          rw [← h4]
          exact hn w4 σ _ (((e1.trans e2).trans e3).b.trans b4) R4 p
theorem oL_set (ds : List D) (j : Nat) (d : D) : OT.lst ((ds.map .imm).set j (.imm d)) = oL (ds.set j d) := by simp [oL, List.map_set]
theorem wp_setL {i : Nat} {ds : List D} {ti : TE} (e : env[i]? = some (.own (oL ds))) (h : EvE K te env fun s => ∃ d, Frz s d ∧ EvE K ti env fun s2 => ∃ k j, s2 = .val (.int k) ∧ ixN ds.length k = some j ∧ j < ds.length ∧ P.nx (env.set i (.own (oL (ds.set j d))))) :
    Wp K (tAsg te (gSub (tVar i) ti rSetL)) env P :=
  wp_setLN (h.imp fun s ⟨d, f, z⟩ => ⟨d, f, en_var (.inl e) ⟨ds.map .imm, rfl, z.imp fun s2 ⟨k, j, e2, hj, hl, p⟩ => ⟨k, j, e2, by simpa using hj, ⟨ds[j], by simp [hl]⟩, by
    show P.nx (putS env i (.lst ((ds.map .imm).set j (.imm d))))
    rw [oL_set, putS_own e]; exact p⟩⟩⟩)
/-! ### what a for walks -/
/-- J yields the data ys, as long as L holds of the world -/
def ItD (K : PySem.W.Frag) (J : It) (L : Wd → Prop) (ys : List D) : Prop :=
  ∀ w : Wd, L w → (∀ (i : Nat) d, ys[i]? = some d → J.go i w.H ∧ ∀ x H', J.yld i w.H x H' → ∃ w' : Wd, w'.H = H' ∧ w.le w' ∧ Dr K w'.B d x) ∧ ∀ i, ys.length ≤ i → J.stop i w.H
/-- b: the heap as it is stays (a comprehension); else the frame's objects may change -/
def Lw (b : Bool) (w0 w1 : Wd) : Wd → Prop := fun w' => match b with
  | true => w1.le w'
  | false => Same w1.B w'.B ∧ w0.le w'
def EvI (K : PySem.W.Frag) (b : Bool) (wi : TI) (env : List Sl) (P : List D → Prop) : Prop := ∀ (en : En) (w : Wd) (σ : TSt), Rel K en w env σ → ∀ R : It → Hp → Prop, (∀ J ys w', w.le w' → P ys → ItD K J (Lw b en.w0 w') ys → R J w'.H) → wi σ w.H R
theorem itd_list {a : Addr} {xs : List V} {ds : List D} {L : Wd → Prop} (h1 : ∀ w, L w → SqL K w.H a xs) (h2 : ∀ w, L w → DrA K w.B ds xs) : ItD K (Itl K a) L ds := fun w hw => by
  have s := h1 w hw
  have r := h2 w hw
  refine ⟨fun i d e => ?_, fun i hi => ⟨xs, s, by rw [← r.len]; exact hi⟩⟩
  obtain ⟨v, hv, rd⟩ := r.get e
  refine ⟨⟨xs, v, s, hv⟩, fun x H' y => ?_⟩
  obtain ⟨rfl, y⟩ := y
  have := y xs s
  rw [hv] at this; cases this
  exact ⟨w, rfl, w.rfl', rd⟩
theorem itd_tup {a : Addr} {xs : List V} {ds : List D} {L : Wd → Prop} (h1 : ∀ w, L w → SqT K w.H a xs) (h2 : ∀ w, L w → DrA K w.B ds xs) : ItD K (Itt K a) L ds := fun w hw => by
  have s := h1 w hw
  have r := h2 w hw
  refine ⟨fun i d e => ?_, fun i hi => ⟨xs, s, by rw [← r.len]; exact hi⟩⟩
  obtain ⟨v, hv, rd⟩ := r.get e
  refine ⟨⟨xs, v, s, hv⟩, fun x H' y => ?_⟩
  obtain ⟨rfl, y⟩ := y
  have := y xs s
  rw [hv] at this; cases this
  exact ⟨w, rfl, w.rfl', rd⟩
theorem Lw.b {b : Bool} {w0 w1 w' : Wd} (h : Lw b w0 w1 w') : Same w1.B w'.B := by
  cases b with
  | true => exact Wd.le.b h
  | false => exact h.1
theorem Lw.le0 {b : Bool} {w0 w1 w' : Wd} (e : w0.le w1) (h : Lw b w0 w1 w') : w0.le w' := by
  cases b with
  | true => exact e.trans h
  | false => exact h.2
theorem Lw.refl {b : Bool} {w0 w1 : Wd} (e : w0.le w1) : Lw b w0 w1 w1 := by
  cases b with
  | true => exact w1.rfl'
  | false => exact ⟨Same.refl _, e⟩
/-- one of two ways to walk -/
def iOr (a b : TI) : TI := fun σ H R => a σ H R ∨ b σ H R
theorem pi_or {X : Cx} {tg l : Expr} {a b : TI} (ha : PI X tg l a) (hb : PI X tg l b) : PI X tg l (iOr a b) :=
  ⟨fun pins s σ H R I h => h.elim (ha.run pins s σ H R I) (hb.run pins s σ H R I)⟩
def iSeq (K : PySem.W.Frag) (te : TE) : TI := iOr (iList K te) (iTup K te)
theorem pi_seq {X : Cx} {tg l : Expr} {tl : TE} (hl : PE X l tl) : PI X tg l (iSeq X.K tl) := pi_or (pi_list hl) (pi_tup hl)
section
variable {b : Bool} {Pd : List D → Prop}
/-- over data: a list, a tuple (a list of one's own becomes data) -/
theorem ei_val (h : EvE K te env fun s => ∃ ds, Frz s (.lst ds) ∧ Pd ds) : EvI K b (iSeq K te) env Pd := fun en w σ R Q q =>
  .inl (ev_frz (P := fun s => ∃ ds, s = .val (.lst ds) ∧ Pd ds) (h.imp fun s ⟨ds, f, p⟩ => ⟨_, f, ds, rfl, p⟩) en w σ R _ fun s v w1 e1 h1 r1 => by
    obtain ⟨ds, rfl, p⟩ := h1
    cases r1 with
    | lst ha r => exact ⟨_, rfl, ⟨_, .inl (.inl (w1.sub _ _ ha))⟩, q _ ds w1 e1 p (itd_list (fun w' l => .inl (.inl (w'.sub _ _ (l.b _ _ ha)))) fun w' l => r.mono l.b)⟩)
theorem ei_tup (h : EvE K te env fun s => ∃ ds, s = .val (.tup ds) ∧ Pd ds) : EvI K b (iSeq K te) env Pd := fun en w σ R Q q =>
  .inr (h en w σ R _ fun s v w1 e1 h1 r1 => by
    obtain ⟨ds, rfl, p⟩ := h1
    cases r1 with
    | tup ha r => exact ⟨_, rfl, ⟨_, sameT w1.sub ha⟩, q _ ds w1 e1 p (itd_tup (fun w' l => sameT w'.sub (sameT l.b ha)) fun w' l => r.mono l.b)⟩)
/-- over a parameter that is read -/
theorem ei_bor {i : Nat} {ds : List D} (e : env[i]? = some (.bor ds)) (p : Pd ds) : EvI K b (iSeq K (tVar i)) env Pd := fun en w σ R Q q => by
  obtain ⟨o, _, h1, _, pp, xs, rfl, h2, r⟩ := R.at e
  exact .inl ⟨.ref pp, h1, pp, rfl, ⟨xs, .inl (.inl (R.le.h _ _ h2))⟩, q _ ds w w.rfl' p (itd_list (fun w' l => .inl (.inl ((l.le0 R.le).h _ _ h2))) fun w' l => r.mono l.b)⟩
theorem ei_scr {i : Nat} {ds : List D} (e : env[i]? = some (.scr ds)) (p : Pd ds) : EvI K b (iSeq K (tVar i)) env Pd := fun en w σ R Q q => by
  obtain ⟨o, _, h1, _, pp, xs, rfl, h2, r⟩ := R.at e
  exact .inl ⟨.ref pp, h1, pp, rfl, ⟨xs, R.le.h.seq h2⟩, q _ ds w w.rfl' p (itd_list (fun w' l => (l.le0 R.le).h.seq h2) fun w' l => r.mono l.b)⟩
/-- in a comprehension: a list of one's own as it is -/
theorem ei_own {i : Nat} {ds : List D} (e : env[i]? = some (.own (oL ds))) (p : Pd ds) : EvI K true (iSeq K (tVar i)) env Pd := fun en w σ R Q q => by
  obtain ⟨o, fp, h1, v, rfl, tr, _⟩ := R.at e
  obtain ⟨pp, xs, rfl, _, h3, r⟩ := tr.oL_inv
  exact .inl ⟨.ref pp, h1, pp, rfl, ⟨_, .inl (.inl h3)⟩, q _ ds w w.rfl' p (itd_list (fun w' (l : w.le w') => .inl (.inl (l.h _ _ h3))) fun w' (l : w.le w') => r.mono l.b)⟩
/-- range -/
def rngD (lo : Int) (n : Nat) : List D := (List.range n).map fun i : Nat => D.int (lo + (i : Int))
theorem itd_range {lo : Int} {n : Nat} {L : Wd → Prop} : ItD K (Itr lo n) L (rngD lo n) := fun w hw => by
  refine ⟨fun i d e => ?_, fun i hi => by
    show n ≤ i
    simpa [rngD] using hi⟩
  have hi : i < n := by
    have := (List.getElem?_eq_some_iff.mp e).1
    simpa [rngD] using this
  refine ⟨hi, fun x H' y => ?_⟩
  obtain ⟨rfl, rfl⟩ := y
  have : d = .int (lo + (i : Int)) := by
    simp only [rngD, List.getElem?_map, List.getElem?_range hi, Option.map_some, Option.some.injEq] at e
    exact e.symm
  subst this
  exact ⟨w, rfl, w.rfl', .int _⟩
theorem ei_rng1 {tA : TA} (h : EvA K tA env fun ss => ∃ j : Int, ss = [.val (.int j)] ∧ -1000000000 ≤ j ∧ j ≤ 1000000000 ∧ Pd (rngD 0 j.toNat)) : EvI K b (iRng1 tA) env Pd := fun en w σ R Q q =>
  h en w σ R _ fun ss vs w1 e1 h1 r1 => by
    obtain ⟨j, rfl, l1, l2, p⟩ := h1
    cases r1 with
    | cons r t => cases t; cases r; exact ⟨j, rfl, by omega, by omega, q _ _ w1 e1 p itd_range⟩
theorem ei_rng2 {tA : TA} (h : EvA K tA env fun ss => ∃ i j : Int, ss = [.val (.int i), .val (.int j)] ∧ -1000000000 ≤ i ∧ i ≤ 1000000000 ∧ -1000000000 ≤ j ∧ j ≤ 1000000000 ∧ Pd (rngD i (j - i).toNat)) : EvI K b (iRng2 tA) env Pd := fun en w σ R Q q =>
  h en w σ R _ fun ss vs w1 e1 h1 r1 => by
    obtain ⟨i, j, rfl, l1, l2, l3, l4, p⟩ := h1
    cases r1 with
    | cons r t => cases t with | cons r2 t => cases t; cases r; cases r2; exact ⟨i, j, rfl, ⟨by omega, by omega, by omega, by omega⟩, q _ _ w1 e1 p itd_range⟩
def enumD : Nat → List D → List D
  | _, [] => []
  | k, d :: r => .tup [.int k, d] :: enumD (k + 1) r
end
/-! ### targets -/
/-- the target g stores of the datum d these data in these slots -/
inductive GD (K : PySem.W.Frag) : TG → D → List (Nat × D) → Prop
  | name {i : Nat} {d : D} : GD K (gName i) d [(i, d)]
  | tup2 {g1 g2 : TG} {d1 d2 : D} {u1 u2 : List (Nat × D)} : GD K g1 d1 u1 → GD K g2 d2 u2 → GD K (gTup K 2 (gCons g1 (gCons g2 gNil))) (.tup [d1, d2]) (u1 ++ u2)
  | tup3 {g1 g2 g3 : TG} {d1 d2 d3 : D} {u1 u2 u3 : List (Nat × D)} : GD K g1 d1 u1 → GD K g2 d2 u2 → GD K g3 d3 u3 → GD K (gTup K 3 (gCons g1 (gCons g2 (gCons g3 gNil)))) (.tup [d1, d2, d3]) (u1 ++ (u2 ++ u3))
  | tup4 {g1 g2 g3 g4 : TG} {d1 d2 d3 d4 : D} {u1 u2 u3 u4 : List (Nat × D)} : GD K g1 d1 u1 → GD K g2 d2 u2 → GD K g3 d3 u3 → GD K g4 d4 u4 → GD K (gTup K 4 (gCons g1 (gCons g2 (gCons g3 (gCons g4 gNil))))) (.tup [d1, d2, d3, d4]) (u1 ++ (u2 ++ (u3 ++ u4)))
def sets (us : List (Nat × D)) (env : List Sl) : List Sl := us.foldl (fun e p => e.set p.1 (.val p.2)) env
def setv (us : List (Nat × V)) (σ : TSt) : TSt := us.foldl (fun e p => e.set p.1 (some p.2)) σ
def GV (K : PySem.W.Frag) (B : Hp) (us : List (Nat × D)) (vs : List (Nat × V)) : Prop := Paired (fun (p : Nat × D) (q : Nat × V) => p.1 = q.1 ∧ Dr K B p.2 q.2) us vs
theorem paired_app {α β : Type} {F : α → β → Prop} {a c : List α} {b d : List β} (h : Paired F a b) (h' : Paired F c d) : Paired F (a ++ c) (b ++ d) := by
  induction h with
  | nil => exact h'
  | cons r _ ih => exact .cons r ih
theorem GD.run {g : TG} {d : D} {us : List (Nat × D)} (G : GD K g d us) : ∀ {v : V} {σ : TSt} {Q : TSt → Hp → Prop}, Dr K w.B d v → (∀ vs, GV K w.B us vs → Q (setv vs σ) w.H) → g v σ w.H Q := by
  induction G with
  | @name i d => intro v σ Q h q; exact q [(i, v)] (.cons ⟨rfl, h⟩ .nil)
  | tup2 _ _ i1 i2 =>
    intro v σ Q h q
    cases h with
    | tup ha r =>
      cases r with | cons r1 r => cases r with | cons r2 r => cases r; exact ⟨_, _, rfl, sameT w.sub ha, rfl, _, _, rfl, i1 r1 fun vs1 g1 => ⟨_, _, rfl, i2 r2 fun vs2 g2 => ⟨rfl, by
        have := q _ (paired_app g1 g2)
        simpa [setv, List.foldl_append] using this⟩⟩⟩
  | tup3 _ _ _ i1 i2 i3 =>
    intro v σ Q h q
    cases h with
    | tup ha r =>
      cases r with | cons r1 r => cases r with | cons r2 r => cases r with | cons r3 r => cases r; exact ⟨_, _, rfl, sameT w.sub ha, rfl, _, _, rfl, i1 r1 fun vs1 g1 => ⟨_, _, rfl, i2 r2 fun vs2 g2 => ⟨_, _, rfl, i3 r3 fun vs3 g3 => ⟨rfl, by
        have := q _ (paired_app g1 (paired_app g2 g3))
        simpa [setv, List.foldl_append] using this⟩⟩⟩⟩
  | tup4 _ _ _ _ i1 i2 i3 i4 =>
    intro v σ Q h q
    cases h with
    | tup ha r =>
      cases r with | cons r1 r => cases r with | cons r2 r => cases r with | cons r3 r => cases r with | cons r4 r => cases r; exact ⟨_, _, rfl, sameT w.sub ha, rfl, _, _, rfl, i1 r1 fun vs1 g1 => ⟨_, _, rfl, i2 r2 fun vs2 g2 => ⟨_, _, rfl, i3 r3 fun vs3 g3 => ⟨_, _, rfl, i4 r4 fun vs4 g4 => ⟨rfl, by
        have := q _ (paired_app g1 (paired_app g2 (paired_app g3 g4)))
        simpa [setv, List.foldl_append] using this⟩⟩⟩⟩⟩
theorem Rel.sets {us : List (Nat × D)} {vs : List (Nat × V)} (g : GV K w.B us vs) : ∀ {env : List Sl} {σ : TSt}, Rel K en w env σ → Rel K en w (DL.sets us env) (setv vs σ) := by
  induction g with
  | nil => intro env σ R; exact R
  | @cons p q us vs h _ ih =>
    intro env σ R
    have e := h.1
    have := ih (R.setVal (i := p.1) h.2)
    rw [e] at this
    show Rel K en w (DL.sets us (env.set p.1 (.val p.2))) (setv vs (σ.set q.1 (some q.2)))
    rw [e]
    exact this
/-! ### for -/
theorem wp_for {wi : TI} {g : TG} {tb : TS} (Inv : Nat → List Sl → Prop) (ys : List D) (h : EvI K false wi env fun ds => ds = ys) (h0 : Inv 0 env)
    (hs : ∀ i d env', ys[i]? = some d → Inv i env' → ∃ us, GD K g d us ∧ Wp K tb (sets us env') { nx := Inv (i + 1), ct := Inv (i + 1), bk := P.nx, rt := P.rt })
    (hd : ∀ env', Inv ys.length env' → P.nx env') : Wp K (tFor wi g tb) env P := fun en w σ R D hn hb hc hr =>
  h en w σ R _ fun J ds w1 e1 hy it => by
    subst hy
    refine ⟨fun i m σ' H' => m = ds.length - i ∧ i ≤ ds.length ∧ ∃ w' env', w'.H = H' ∧ Same w1.B w'.B ∧ Rel K en w' env' σ' ∧ Inv i env', ⟨ds.length, by simp, Nat.zero_le _, w1, env, rfl, Same.refl _, R.grow e1, h0⟩, ?_⟩
    rintro i m σ' H' ⟨rfl, hi, w', env', rfl, sb, R', iv⟩
    have itw := it w' ⟨sb, R'.le⟩
    by_cases hlt : i < ds.length
    · right
      obtain ⟨go, yl⟩ := itw.1 i ds[i] (List.getElem?_eq_getElem hlt)
      refine ⟨go, fun σ2 H2 => ∃ w2 env2, w2.H = H2 ∧ Same w1.B w2.B ∧ Rel K en w2 env2 σ2 ∧ Inv (i + 1) env2, fun σ2 H2 ⟨w2, env2, q1, q2, q3, q4⟩ => ⟨ds.length - (i + 1), by omega, rfl, hlt, w2, env2, q1, q2, q3, q4⟩, fun x H2 y => ?_⟩
      obtain ⟨w2, rfl, e2, rd⟩ := yl x H2 y
      obtain ⟨us, G, body⟩ := hs i ds[i] env' (List.getElem?_eq_getElem hlt) iv
      refine G.run rd fun vs gv => ?_
      have sb2 := sb.trans e2.b
      refine body en w2 _ ((R'.grow e2).sets gv) _ (fun w3 σ3 env3 s3 R3 n3 => ⟨w3, env3, rfl, sb2.trans s3, R3, n3⟩) (fun w3 σ3 env3 s3 R3 n3 => hn w3 σ3 env3 ((e1.b.trans sb2).trans s3) R3 n3) (fun w3 σ3 env3 s3 R3 n3 => ⟨w3, env3, rfl, sb2.trans s3, R3, n3⟩) (hr.back (e1.b.trans sb2))
    · left
      have e : i = ds.length := by omega
      subst e
      exact ⟨itw.2 _ (Nat.le_refl _), hn w' σ' env' (e1.b.trans sb) R' (hd env' iv)⟩
/-! ### comprehensions -/
def wipeS (env : List Sl) : List Nat → List Sl
  | [] => env
  | v :: vs => (wipeS env vs).set v .un
theorem Rel.wipe {σ : TSt} (R : Rel K en w env σ) : ∀ vs : List Nat, Rel K en w (wipeS env vs) (L2.wipe σ vs)
  | [] => R
  | v :: vs => (R.wipe vs).setUn
theorem wipe_get {σ : TSt} {i : Nat} : ∀ vs : List Nat, (L2.wipe σ vs)[i]? = if i ∈ vs then σ[i]?.map (fun _ => none) else σ[i]?
  | [] => by simp [L2.wipe]
  | v :: vs => by
    have ih := wipe_get (σ := σ) (i := i) vs
    show ((L2.wipe σ vs).set v none)[i]? = _
    rw [List.getElem?_set]
    by_cases hv : v = i
    · subst hv
      simp only [if_true, L2.wipe_length, List.mem_cons, true_or]
      by_cases hl : v < σ.length
      · simp [hl]
      · simp [hl]
    · simp only [hv, if_false, ih, List.mem_cons]
      have : ¬ i = v := fun z => hv z.symm
      simp [this]
theorem wipe_set {σ : TSt} {j : Nat} {x : Option V} {vs : List Nat} (h : j ∈ vs) : L2.wipe (σ.set j x) vs = L2.wipe σ vs := by
  apply List.ext_getElem?
  intro i
  rw [wipe_get, wipe_get]
  by_cases hi : i ∈ vs
  · simp only [hi, if_true, List.getElem?_set]
    by_cases hj : j = i
    · subst hj
      by_cases hl : j < σ.length <;> simp [hl]
    · simp [hj]
  · have : j ≠ i := fun z => hi (z ▸ h)
    simp [hi, List.getElem?_set_ne this]
theorem wipe_wipe {σ : TSt} {vs : List Nat} : L2.wipe (L2.wipe σ vs) vs = L2.wipe σ vs := by
  apply List.ext_getElem?
  intro i
  rw [wipe_get, wipe_get]
  by_cases hi : i ∈ vs
  · simp only [hi, if_true]
    cases σ[i]? <;> rfl
  · simp [hi]
theorem wipe_setv {vs : List Nat} {B : Hp} {us : List (Nat × D)} {gs : List (Nat × V)} (g : GV K B us gs) (hu : ∀ u ∈ us, u.1 ∈ vs) : ∀ {σ : TSt}, L2.wipe (setv gs σ) vs = L2.wipe σ vs := by
  induction g with
  | nil => intro σ; rfl
  | @cons p q us gs h _ ih =>
    intro σ
    have e := h.1
    show L2.wipe (setv gs (σ.set q.1 (some q.2))) vs = _
    rw [ih (fun u z => hu u (List.mem_cons_of_mem _ z)), wipe_set (by rw [← e]; exact hu p List.mem_cons_self)]
theorem ev_lcI {wi : TI} {g : TG} {te : TE} {tt : TT} {vs : List Nat} {Q : Sl → Prop} (Inv : Nat → List D → Prop) (ys : List D) (hy : ys.length ≤ 1000000) (h : EvI K true wi env fun ds => ds = ys) (h0 : Inv 0 [])
    (hs : ∀ i d acc, ys[i]? = some d → Inv i acc → ∃ us, GD K g d us ∧ (∀ u ∈ us, u.1 ∈ vs) ∧ EvT K tt (sets us (wipeS env vs)) fun b => (b = true → EvE K te (sets us (wipeS env vs)) fun s => ∃ y, Frz s y ∧ Inv (i + 1) (acc ++ [y])) ∧ (b = false → Inv (i + 1) acc))
    (hd : ∀ acc, Inv ys.length acc → Q (.own (oL acc))) : EvE K (tLc wi g tt te vs) env Q := fun en w σ R Q0 q =>
  h en w σ R _ fun J ds w1 e1 hyy it => by
    subst hyy
    intro Dl hD
    refine ⟨fun i m H' => m = ds.length - i ∧ i ≤ ds.length ∧ ∃ (w' : Wd) (acc : List D) (xs : List V), w'.H = H' ∧ w1.le w' ∧ w'.B Dl = none ∧ w'.H Dl = some (.lst xs) ∧ DrA K w'.B acc xs ∧ acc.length ≤ i ∧ Inv i acc,
      ⟨ds.length, by simp, Nat.zero_le _, w1.lay Dl (.lst []) hD, [], [], rfl, Wd.le_lay hD, (show w1.B Dl = none from Wd.freeB hD), upd_same, .nil, Nat.le_refl _, h0⟩, ?_⟩
    rintro i m H' ⟨rfl, hi, w', acc, xs, rfl, le1, hB, hX, ra, hal, iv⟩
    have itw := it w' le1
    by_cases hlt : i < ds.length
    · right
      obtain ⟨go, yl⟩ := itw.1 i ds[i] (List.getElem?_eq_getElem hlt)
      refine ⟨go, fun H2 => ∃ (w2 : Wd) (acc2 : List D) (xs2 : List V), w2.H = H2 ∧ w1.le w2 ∧ w2.B Dl = none ∧ w2.H Dl = some (.lst xs2) ∧ DrA K w2.B acc2 xs2 ∧ acc2.length ≤ i + 1 ∧ Inv (i + 1) acc2, fun H2 hh => ⟨ds.length - (i + 1), by omega, rfl, hlt, hh⟩, fun x H2 y => ?_⟩
      obtain ⟨w2, rfl, e2, rd⟩ := yl x H2 y
      obtain ⟨us, G, hu, body⟩ := hs i ds[i] acc (List.getElem?_eq_getElem hlt) iv
      refine G.run rd fun gs gv => ⟨by rw [wipe_setv gv hu, wipe_wipe], ?_⟩
      have R2 : Rel K en w2 (sets us (wipeS env vs)) (setv gs (L2.wipe σ vs)) := (((R.grow ((e1.trans le1).trans e2)).wipe vs)).sets gv
      refine body en w2 _ R2 _ fun b w3 e3 p3 => ?_
      cases b with
      | true =>
        refine ev_frz (P := fun s => ∃ y, s = .val y ∧ Inv (i + 1) (acc ++ [y])) ((p3.1 rfl).imp fun s ⟨y, f, z⟩ => ⟨y, f, y, rfl, z⟩) en w3 _ (R2.grow e3) _ fun s v w4 e4 p4 r4 => ?_
        obtain ⟨y, rfl, p4⟩ := p4
        have e24 := (e2.trans e3).trans e4
        have hB4 : w4.B Dl = none := (e24.f _ _ hX).trans hB
        refine ⟨xs, e24.h _ _ hX, Nat.lt_of_lt_of_le (by rw [← ra.len]; omega) (show 1000000 ≤ sizeLine by decide), w4.put Dl (.lst (xs ++ [v])) hB4, acc ++ [y], xs ++ [v], rfl, ?_, hB4, upd_same, (ra.mono e24.b).snoc r4, (by simp; omega), p4⟩
        have e14 := le1.trans e24
        refine ⟨e14.b, fun c o z => ?_, e14.f⟩
        show upd w4.H Dl _ c = some o
        rw [upd_ne (ne_of_none z hD)]
        exact e14.h c o z
      | false =>
        have e23 := e2.trans e3
        exact ⟨w3, acc, xs, rfl, le1.trans e23, (e23.f _ _ hX).trans hB, e23.h _ _ hX, ra.mono e23.b, by omega, p3.2 rfl⟩
    · left
      have e : i = ds.length := by omega
      subst e
      exact ⟨itw.2 _ (Nat.le_refl _), q _ _ w' (e1.trans le1) (hd acc iv) ⟨[Dl], TR.ofL hX ra, by simp, fun q z => by
        have e : q = Dl := by simpa using z
        subst e
        exact ⟨e1.h.free hD, hB⟩⟩⟩
/-- each item gives one -/
theorem ev_map {wi : TI} {g : TG} {te : TE} {vs : List Nat} {Q : Sl → Prop} (f : D → D) (ys : List D) (hy : ys.length ≤ 1000000) (h : EvI K true wi env fun ds => ds = ys)
    (hs : ∀ d, d ∈ ys → ∃ us, GD K g d us ∧ (∀ u ∈ us, u.1 ∈ vs) ∧ EvE K te (sets us (wipeS env vs)) fun s => Frz s (f d)) (p : Q (.own (oL (ys.map f)))) : EvE K (tLc wi g tYes te vs) env Q :=
  ev_lcI (fun i acc => acc = (ys.take i).map f) ys hy h rfl (fun i d acc e ha => by
    obtain ⟨us, G, hu, he⟩ := hs d (List.mem_of_getElem? e)
    refine ⟨us, G, hu, et_yes ⟨fun _ => he.imp fun s z => ⟨f d, z, ?_⟩, fun z => by cases z⟩⟩
    rw [ha, List.take_add_one, e]; simp) fun acc ha => by rw [ha, List.take_length]; exact p
/-- with a test -/
theorem ev_filt {wi : TI} {g : TG} {te : TE} {tt : TT} {vs : List Nat} {Q : Sl → Prop} (c : D → Bool) (f : D → D) (ys : List D) (hy : ys.length ≤ 1000000) (h : EvI K true wi env fun ds => ds = ys)
    (hs : ∀ d, d ∈ ys → ∃ us, GD K g d us ∧ (∀ u ∈ us, u.1 ∈ vs) ∧ EvT K tt (sets us (wipeS env vs)) (fun b => b = c d) ∧ (c d = true → EvE K te (sets us (wipeS env vs)) fun s => Frz s (f d))) (p : Q (.own (oL ((ys.filter c).map f)))) : EvE K (tLc wi g tt te vs) env Q :=
  ev_lcI (fun i acc => acc = ((ys.take i).filter c).map f) ys hy h rfl (fun i d acc e ha => by
    obtain ⟨us, G, hu, ht, he⟩ := hs d (List.mem_of_getElem? e)
    refine ⟨us, G, hu, ht.imp fun b hb => ⟨fun z => (he (by rw [← hb, z])).imp fun s z2 => ⟨f d, z2, ?_⟩, fun z => ?_⟩⟩
    · rw [ha, List.take_add_one, e]; subst hb; simp [z]
    · rw [ha, List.take_add_one, e]; subst hb; simp [z]) fun acc ha => by rw [ha, List.take_length]; exact p
end
/-! ### defs -/
section
variable {Pr : Program} {wd : World} {K : PySem.W.Frag} {mg : Str → Option Value} {base : Heap}
/-- the parameters' trees in the slots -/
def ioS (n : Nat) (env : List Sl) : List Sl := (env.take n).map fun | .io t => .io t | _ => .un
theorem rel_start {en : En} {w : Wd} {as : List Sl} {vs : List V} {N : List Str} {n : Nat} (R : Rel K en w as (vs.map some)) (hn : vs.length = n) (hN : n ≤ N.length) : Rel K en w (as ++ List.replicate (N.length - n) .un) (L2.start N vs) := by
  obtain ⟨F, R⟩ := R
  have hl : as.length = vs.length := by simpa using R.len
  refine ⟨fun i => if i < n then F i else [], R.le, by simp [L2.start, hl, hn], (by have := R.an; simp; omega), fun i s o a b => ?_, fun i j p hi hj a b => ?_⟩
  · by_cases hi : i < as.length
    · rw [List.getElem?_append_left hi] at a
      unfold L2.start at b
      rw [List.getElem?_append_left (by simp; omega)] at b
      rw [if_pos (by omega)]
      exact R.sl i s o a b
    · rw [List.getElem?_append_right (by omega)] at a
      have : s = .un := by
        obtain ⟨_, e⟩ := List.getElem?_eq_some_iff.mp a
        simpa using e.symm
      subst this
      rw [if_neg (by omega)]
      exact rfl
  · by_cases h1 : i < n
    · by_cases h2 : j < n
      · rw [if_pos h1] at a; rw [if_pos h2] at b
        exact R.ap i j p (by omega) (by omega) a b
      · rw [if_neg h2] at b; simp at b
    · rw [if_neg h1] at a; simp at a
/-- what is handed back to the caller -/
theorem rel_back {en : En} {w : Wd} {env : List Sl} {s : Sl} {v : V} {vs : List V} {σ : TSt} {n : Nat} (st : StS s) (ha : en.args = vs) (hn : vs.length = n) (hl : σ.length = env.length) (hN : n ≤ env.length) (R : Rel K en w (env ++ [s]) (σ ++ [some v])) : Rel K en w (ioS n env ++ [s]) (vs.map some ++ [some v]) := by
  obtain ⟨F, R⟩ := R
  have hil : (ioS n env).length = n := by simp [ioS, hN]
  refine ⟨fun i => if i = n then F env.length else match env[i]? with | some (.io _) => F i | _ => [], R.le, by simp [hil, hn], by simp [hil, ha, hn], fun i s' o a b => ?_, fun i j p hi hj a b => ?_⟩
  · by_cases hi : i < n
    · rw [List.getElem?_append_left (by omega)] at a
      rw [List.getElem?_append_left (by simp; omega)] at b
      simp only [Nat.ne_of_lt hi, if_false]
      have hie : i < env.length := by omega
      have e1 : (ioS n env)[i]? = some (match env[i] with | .io t => .io t | _ => .un) := by
        simp only [ioS, List.getElem?_map, List.getElem?_take, hi, if_true, List.getElem?_eq_getElem hie, Option.map_some]
      rw [e1] at a
      rw [List.getElem?_eq_getElem hie]
      cases h : env[i] with
      | io t =>
        rw [h] at a
        cases a
        obtain ⟨o2, q1, q2⟩ := R.at (i := i) (s := .io t) (by rw [List.getElem?_append_left hie, List.getElem?_eq_getElem hie, h])
        have q3 := q2.2
        rw [ha] at q3
        rw [List.getElem?_map] at b
        have : o2 = o := by
          rw [← q3]
          cases hv : vs[i]? with
          | none => rw [hv] at b; cases b
          | some x => rw [hv] at b; cases b; rfl
        subst this
        exact q2
      | un => rw [h] at a; cases a; exact rfl
      | val d => rw [h] at a; cases a; exact rfl
      | own d => rw [h] at a; cases a; exact rfl
      | bor d => rw [h] at a; cases a; exact rfl
      | scr d => rw [h] at a; cases a; exact rfl
      | brt d => rw [h] at a; cases a; exact rfl
    · have hi2 : i = n := by
        have := (List.getElem?_eq_some_iff.mp a).1
        simp [hil] at this; omega
      subst hi2
      rw [if_pos rfl]
      have a' : s = s' := by
        have : (ioS i env ++ [s])[i]? = (ioS i env ++ [s])[(ioS i env).length]? := by rw [hil]
        rw [this, List.getElem?_concat_length] at a
        exact Option.some.inj a
      have b' : some v = o := by
        have : (vs.map some ++ [some v])[i]? = (vs.map some ++ [some v])[(vs.map some).length]? := by simp [hn]
        rw [this, List.getElem?_concat_length] at b
        exact Option.some.inj b
      subst a' b'
      obtain ⟨o2, q1, q2⟩ := R.at (i := env.length) (s := s) (by simp)
      rw [← hl] at q1
      rw [List.getElem?_concat_length] at q1
      cases q1
      cases st with
      | val d => exact q2
      | own d => exact q2
  · simp [hil] at hi hj
    have f : ∀ (i : Nat) p, i < n → p ∈ (match env[i]? with | some (.io _) => F i | _ => []) → p ∈ F i := fun i p _ z => by
      split at z
      · exact z
      · simp at z
    have hlen : (env ++ [s]).length = env.length + 1 := by simp
    by_cases h1 : i = n
    · by_cases h2 : j = n
      · rw [h1, h2]
      · simp only [h1, if_true] at a; simp only [h2, if_false] at b
        have := R.ap env.length j p (by omega) (by omega) a (f j p (by omega) b)
        omega
    · by_cases h2 : j = n
      · simp only [h2, if_true] at b; simp only [h1, if_false] at a
        have := R.ap i env.length p (by omega) (by omega) (f i p (by omega) a) b
        omega
      · simp only [h1, if_false] at a; simp only [h2, if_false] at b
        exact R.ap i j p (by omega) (by omega) (f i p (by omega) a) (f j p (by omega) b)
theorem okM {x qual : Str} {st : Stmt} {f : Addr} {fd : FuncData} {N ps : List Str} {k : Nat} {S : SpM} (F : Fun K x qual st f fd) (Sc : FnScope N ps (defScope st)) (hl : ∀ as R, S as R → as.length = ps.length)
    (hb : ∀ (cdv : Value) (A : Around) (outer : List Env) (s : Shared) (H : Hp) (E : XK), Room k (A.deeper (PyProof.Rows.envOfC qual (defScope st) s.heap.objs.size f cdv)) →
      ∃ t, PSs (cxOf CX0 Pr wd K mg base N qual (defScope st) f cdv A outer s H E).nox (defBody st) t ∧ ∀ as R, S as R → Wp K t (as ++ List.replicate (N.length - ps.length) .un) { nx := fun e => R (.val .non) (ioS ps.length e), rt := fun s e => R s (ioS ps.length e) }) :
    FnOk Pr wd K mg base CX0 (k + 1) f fd ps (spM K S) := by
  have hvs : ∀ {en : En} {w : Wd} {as : List Sl} {vs : List V} {R : Sl → List Sl → Prop}, Rel K en w as (vs.map some) → S as R → vs.length = ps.length := fun pr sp => by
    have h1 := hl _ _ sp
    have h2 := pr.len
    simp at h2; omega
  have hN : ps.length ≤ N.length := by
    have := congrArg List.length Sc.pre
    simp at this
    omega
  refine F.ok Sc (fun vs H Q E h => ?_) (fun cdv A outer s H vs Q E hr h => ?_)
  · obtain ⟨en, w, as, R, _, _, pr, sp, _⟩ := h
    exact hvs pr sp
  · obtain ⟨t, ht, hw⟩ := hb cdv A outer s H E hr
    refine ⟨t, ht, ?_⟩
    obtain ⟨en, w, as, R, ha, rfl, pr, sp, q⟩ := h
    have hv := hvs pr sp
    have han : ∀ {m : Nat}, en.args.length ≤ m → ps.length ≤ m := fun z => by rw [ha, hv] at z; exact z
    exact hw as R sp en w (L2.start N vs) (rel_start pr hv hN) _
      (fun w' σ' env' sb R' n => q (.val .non) .non w' (ioS ps.length env') (.val _) sb (rel_back (.val _) ha hv R'.len.symm (han R'.an) (R'.push w'.rfl' .non (.val _))) n)
      (fun w' σ' env' _ _ n => n.elim) (fun w' σ' env' _ _ n => n.elim) fun s v w' σ' env' st sb hl' ha' R' z => q s v w' _ st sb (rel_back st ha hv hl' (han ha') R') z
theorem okD {x qual : Str} {st : Stmt} {f : Addr} {fd : FuncData} {N ps : List Str} {k : Nat} {S : SpD} (F : Fun K x qual st f fd) (Sc : FnScope N ps (defScope st)) (hl : ∀ as R, S as R → as.length = ps.length)
    (hb : ∀ (cdv : Value) (A : Around) (outer : List Env) (s : Shared) (H : Hp) (E : XK), Room k (A.deeper (PyProof.Rows.envOfC qual (defScope st) s.heap.objs.size f cdv)) →
      ∃ t, PSs (cxOf CX0 Pr wd K mg base N qual (defScope st) f cdv A outer s H E).nox (defBody st) t ∧ ∀ as R, S as R → Wp K t (as ++ List.replicate (N.length - ps.length) .un) { nx := fun _ => R (.val .non), rt := fun s _ => R s }) :
    FnOk Pr wd K mg base CX0 (k + 1) f fd ps (spD K S) :=
  okM F Sc (fun as R h => hl as _ h) fun cdv A outer s H E hr => by
    obtain ⟨t, ht, hw⟩ := hb cdv A outer s H E hr
    exact ⟨t, ht, fun as R h => wp_imp (hw as _ h) (fun _ z => z _) (fun _ _ z => z _) (fun _ z => z) fun _ z => z⟩
def spLaw : SpD := fun as R => ∃ ns : List Int, as = [.scr (ns.map .int)] ∧ ns.length ≤ 63 ∧ R (.val (.bl true))
theorem law_end {H : Hp} {a : Addr} {ns : List Int} (hl : ns.length ≤ 63) (h : SqL K H a (ns.map V.int)) : spD K spLaw [.ref a] H (fun v _ => v = .bl true) fun _ _ _ => False := by
  refine ⟨⟨⟨H, H, Same.refl _⟩, [.ref a]⟩, ⟨H, H, Same.refl _⟩, [.scr (ns.map .int)], fun s _ => s = .val (.bl true), rfl, rfl, ⟨fun _ => [], Wd.rfl' _, rfl, Nat.le_refl _, fun i s o e1 e2 => ?_, fun i j p _ _ z => by simp at z⟩, ⟨ns, rfl, hl, fun _ => rfl⟩, fun s v w' as' st _ R e => ?_⟩
  · cases i with
    | zero => simp at e1 e2; subst e1 e2; exact ⟨rfl, a, _, rfl, h, DrA.ints⟩
    | succ i => simp at e1
  · subst e
    have := Rel.last st R
    cases this
    rfl
end
end DL

set_option Elab.async false
set_option linter.all false
set_option maxRecDepth 100000
set_option autoImplicit false
namespace DL
open PySem L2
/-! ### rules for whatever the kinds are -/
def rAddI : R2 := rI0 fun i j => .int (i + j)
def rSubI : R2 := rI0 fun i j => .int (i - j)
def rAddS : R2 := fun x y H Q => ∃ i j, x = .str i ∧ y = .str j ∧ i.length + j.length ≤ sizeLine ∧ Q (.str (i ++ j)) H
def rOr (r r' : R2) : R2 := fun x y H Q => r x y H Q ∨ r' x y H Q
def rAddG (K : PySem.W.Frag) : R2 := rOr rAddI (rOr rAddS (rOr rCat (rCatA K)))
def rMulG : R2 := rOr (rI CMul fun i j => .int (i * j)) (rOr (rI CMulW fun i j => .int (i * j)) rRep)
def rDivG : R2 := rOr (rI CDiv fun i j => .int (i / j)) (rOr (rI CDivW fun i j => .int (i / j)) (rI CDivN fun i j => .int (i.fdiv j)))
def rModG : R2 := rOr (rI (fun _ j => 0 < j) fun i j => .int (i % j)) (rI (fun _ j => j ≠ 0) fun i j => .int (i.fmod j))
def rPowI : R2 := rI CPow fun i j => .int (i ^ j.toNat)
def rEqG (K : PySem.W.Frag) : R2 := rOr rEq (rEqD K)
def rNeG (K : PySem.W.Frag) : R2 := rOr rNe (rNeD K)
def rLtI : R2 := rI0 fun i j => .bl (decide (i < j))
def rLeI : R2 := rI0 fun i j => .bl (decide (i ≤ j))
def rGtI : R2 := rI0 fun i j => .bl (decide (j < i))
def rGeI : R2 := rI0 fun i j => .bl (decide (j ≤ i))
def rInStr : R2 := fun x y H Q => ∃ i j, x = .str i ∧ y = .str j ∧ Q (.bl (!(Builtin.Str.occurrences j i 0 j.length 1).isEmpty)) H
def rNotInStr : R2 := fun x y H Q => ∃ i j, x = .str i ∧ y = .str j ∧ Q (.bl (!(!(Builtin.Str.occurrences j i 0 j.length 1).isEmpty))) H
def rInG (K : PySem.W.Frag) : R2 := rOr (rInD K) (rOr (rIn K false) rInStr)
def rNotInG (K : PySem.W.Frag) : R2 := rOr (rNotInD K) (rOr (rIn K true) rNotInStr)
def rNegI : V → Hp → VK → Prop := rU fun i => .int (-i)
def rAbsI : List V → Hp → VK → Prop := fun xs H Q => ∃ i, xs = [.int i] ∧ Q (.int (if i < 0 then -i else i)) H
def rMax2I : List V → Hp → VK → Prop := fun xs H Q => ∃ i j, xs = [.int i, .int j] ∧ Q (.int (if j > i then j else i)) H
def rMin2I : List V → Hp → VK → Prop := fun xs H Q => ∃ i j, xs = [.int i, .int j] ∧ Q (.int (if j < i then j else i)) H
def rSlG (K : PySem.W.Frag) : V → Option Int → Option Int → Hp → VK → Prop := fun x lo hi H Q => rSlL K x lo hi H Q ∨ (rSlS x lo hi H Q ∨ rSlA K x lo hi H Q)
def rIsiG (K : PySem.W.Frag) : List V → Hp → VK → Prop := rIsi K
section
variable {X : Cx}
variable {K : PySem.W.Frag}
theorem g_add (hK : X.K = K := by rfl) : OpR X (binaryOp .Add) (rAddG K) := hK ▸ op_add.or (op_add_str.or (op_cat.or op_catA))
theorem g_sub : OpR X (binaryOp .Sub) rSubI := op_sub
theorem g_mul : OpR X (binaryOp .Mult) rMulG := op_mul.or (op_mulW.or op_rep)
theorem g_div : OpR X (binaryOp .FloorDiv) rDivG := op_fdiv.or (op_fdivW.or op_fdivN)
theorem g_mod : OpR X (binaryOp .Mod) rModG := op_mod.or op_modN
theorem g_pow : OpR X (binaryOp .Pow) rPowI := op_pow
theorem g_eq (hu : X.A.units + 64 < cLine) (hK : X.K = K := by rfl) : OpR X (compareOp .Eq) (rEqG K) := hK ▸ op_eq.or (op_eqD hu)
theorem g_ne (hu : X.A.units + 64 < cLine) (hK : X.K = K := by rfl) : OpR X (compareOp .NotEq) (rNeG K) := hK ▸ op_ne.or (op_neD hu)
theorem g_lt : OpR X (compareOp .Lt) rLtI := op_lt
theorem g_le : OpR X (compareOp .LtE) rLeI := op_le
theorem g_gt : OpR X (compareOp .Gt) rGtI := op_gt
theorem g_ge : OpR X (compareOp .GtE) rGeI := op_ge
theorem g_in (hu : X.A.units + 65 < cLine) (hK : X.K = K := by rfl) : OpR X (compareOp .In) (rInG K) := hK ▸ (op_inD hu).or (op_in_seq.or op_in_str)
theorem g_notIn (hu : X.A.units + 65 < cLine) (hK : X.K = K := by rfl) : OpR X (compareOp .NotIn) (rNotInG K) := hK ▸ (op_notInD hu).or (op_notIn_seq.or op_notIn_str)
theorem g_is : OpR X (compareOp .Is) rIsN0 := op_isN
theorem g_isnot : OpR X (compareOp .IsNot) rNotN0 := op_notN
theorem g_neg : UnR X (unaryOp .USub) rNegI := un_neg
theorem g_ix (hK : X.K = K := by rfl) : IxR X (rIx K) := hK ▸ ix_seq
theorem g_sl (hK : X.K = K := by rfl) : SlR X (rSlG K) := hK ▸ sl_list.or (sl_str.or sl_tupA)
theorem b_len (hK : X.K = K := by rfl) : CallR X (.builtin "len") (rLenG K) := hK ▸ call_len
theorem b_abs : CallR X (.builtin "abs") rAbsI := call_abs
theorem b_int : CallR X (.type "int") rInt1 := call_int1
theorem b_max (hc : X.calm = true) : CallR X (.builtin "max") rMax2I := call_max2 hc
theorem b_min (hc : X.calm = true) : CallR X (.builtin "min") rMin2I := call_min2 hc
theorem b_sum (hc : X.calm = true) (hK : X.K = K := by rfl) : CallR X (.builtin "sum") (rSum K) := hK ▸ cr_sum hc
theorem b_sortedI (hK : X.K = K := by rfl) : CallR X (.builtin "sorted") (rSortedI K) := hK ▸ cr_sortedI
theorem b_list (hK : X.K = K := by rfl) : CallR X (.type "list") (rListG K) := hK ▸ call_list_of
theorem b_tuple (hK : X.K = K := by rfl) : CallR X (.type "tuple") (rTupG K) := hK ▸ call_tuple_of
theorem b_isi (hK : X.K = K := by rfl) : CallR X (.builtin "isinstance") (rIsiG K) := hK ▸ call_isi
theorem hu64 {k : Nat} {A : Around} (r : Room k A) : A.units + 64 < cLine := r.units
theorem hu65 {k : Nat} {A : Around} (r : Room k A) : A.units + 65 < cLine := by have := r.un; omega
theorem pt_tr {a : Expr} {ta : TE} (ha : PE X a ta) (he : ∀ whole, isTrue a X.env whole = (do let v ← whole; standAt a.pos; holding [v] (truthy v))) (hK : X.K = K := by rfl) : PT X a (tTruth K ta) := hK ▸ pt_truth ha he
theorem pi_seqK {tg l : Expr} {tl : TE} (hl : PE X l tl) (hK : X.K = K := by rfl) : PI X tg l (iSeq K tl) := hK ▸ pi_seq hl
theorem pg_tupK {es : List Expr} {k : Nat} {t : TGs} {n : Nat} {pos : Pos} (hc : X.calm = true) (h : PGs X es t) (hn : (assignEach es X.env).length = n := by rfl) (hst : (assignEach es X.env).findIdx? (·.1) = none := by rfl) (hK : X.K = K := by rfl) : PG X (.Tuple es k pos) (gTup K n t) := hK ▸ pg_tup hc h hn hst
theorem pe_fldK {e : Expr} {f : Str} {pos : Pos} {ta : TE} (he : PE X e ta) (hb : attributeBase e f X.env (eval e X.env) = eval e X.env) (hK : X.K = K := by rfl) : PE X (.Attribute e f pos) (tFld K ta f) := hK ▸ pe_fld he hb
theorem pe_revLK {e : Expr} {te : TE} {k : Nat} {p1 p2 p3 pos : Pos} (he : PE X e te) (hK : X.K = K := by rfl) : PE X (.Subscript e (.Slice none none (some (.UnaryOp .USub (.Constant (.int 1) k p1) p2)) p3) pos) (tRevL K te) := hK ▸ pe_revL he
/-! ### calls of defs -/
/-- the def that the module's name x is -/
structure Cal (Pr : Program) (wd : World) (K : PySem.W.Frag) (mg : Str → Option Value) (base : Heap) (x : Str) (k : Nat) (ps : List Str) (sp : Sp) : Prop where
  ex : ∃ f fd, FnOk Pr wd K mg base CX0 k f fd ps sp ∧ mg x = some (.ref f) ∧ PySem.W.keepIn K (.ref f) = true ∧ Binds K fd ps []
theorem pe_cal {x : Str} {k : Nat} {ps : List Str} {sp : Sp} {p pos : Pos} {e : Expr} {es : List Expr} {t : TA} (C : Cal X.prog X.w X.K X.mg X.base x k ps sp) (hr : Room k X.A) (hg : Gl X x) (ha : PA X (e :: es) t)
    (hdb : (x == ("__debug__" : Str)) = false := by decide) (he : starEach (e :: es) X.env = (false, eval e X.env) :: starEach es X.env := by rfl) (hpl : (backTo pos (starEach es X.env)).any (·.1) = false := by rfl) :
    PE X (.Call (.Name x p) (e :: es) [] pos) (tCall sp [] E0 t) := by
  obtain ⟨f, fd, F, hm, hk, hb⟩ := C.ex
  exact pe_call F hr hg hm hk hb .nil pass0 ha hdb he hpl
theorem pe_cal0 {x : Str} {k : Nat} {ps : List Str} {sp : Sp} {p pos : Pos} (C : Cal X.prog X.w X.K X.mg X.base x k ps sp) (hr : Room k X.A) (hg : Gl X x)
    (hdb : (x == ("__debug__" : Str)) = false := by decide) : PE X (.Call (.Name x p) [] [] pos) (tCall sp [] E0 tNil) := by
  obtain ⟨f, fd, F, hm, hk, hb⟩ := C.ex
  exact pe_call0 F hr hg hm hk hb .nil pass0 hdb
end
section
variable {K : PySem.W.Frag} {env : List Sl} {P P' : Sl → Prop} {w w' w'' : Wd}
theorem rv_L {r r' : R2} {s t : Sl} (h : RvP K r s t P) : RvP K (rOr r r') s t P := fun w wx x y e r1 r2 Q q => .inl (h w wx x y e r1 r2 Q q)
theorem rv_R {r r' : R2} {s t : Sl} (h : RvP K r' s t P) : RvP K (rOr r r') s t P := fun w wx x y e r1 r2 Q q => .inr (h w wx x y e r1 r2 Q q)
theorem d_addI {i j : Int} (p : P (.val (.int (i + j)))) : RvP K (rAddG K) (.val (.int i)) (.val (.int j)) P := rv_L (rv_i0 (g := fun i j => i + j) p)
theorem d_addS {i j : Str} (hl : i.length + j.length ≤ 1000000) (p : P (.val (.str (i ++ j)))) : RvP K (rAddG K) (.val (.str i)) (.val (.str j)) P := rv_R (rv_L fun w wx x y e r1 r2 Q q => by
  cases r1; cases r2
  exact ⟨i, j, rfl, rfl, Nat.le_trans hl (by decide), q _ _ wx wx.rfl' p (.str _)⟩)
/-- lists that stand in the heap -/
inductive LtS : Sl → List D → Prop
  | val {ds : List D} : LtS (.val (.lst ds)) ds
  | bor {ds : List D} : LtS (.bor ds) ds
  | own {ds : List D} : LtS (.own (oL ds)) ds
theorem LtS.ok {s : Sl} {ds : List D} {v : V} (l : LtS s ds) (h : SlN K w w' s v) : ∃ p xs, v = .ref p ∧ w'.H p = some (.lst xs) ∧ DrA K w'.B ds xs := by
  cases l with
  | val => cases h with | lst h1 r => exact ⟨_, _, rfl, w'.sub _ _ h1, r⟩
  | bor => obtain ⟨p, xs, rfl, h1, h2⟩ := h; exact ⟨p, xs, rfl, h1, h2⟩
  | own => obtain ⟨fp, h, _⟩ := h; obtain ⟨p, xs, rfl, _, h1, r⟩ := h.oL_inv; exact ⟨p, _, rfl, h1, r⟩
theorem d_addL {s t : Sl} {ds es : List D} (h1 : LtS s ds) (h2 : LtS t es) (hl : ds.length + es.length ≤ 1000000) (p : P (.own (oL (ds ++ es)))) : RvP K (rAddG K) s t P := rv_R (rv_R (rv_L fun w wx x y e r1 r2 Q q => by
  obtain ⟨a, xs, rfl, ha, ra⟩ := h1.ok r1
  obtain ⟨b, ys, rfl, hb, rb⟩ := h2.ok r2
  exact ⟨a, b, xs, ys, rfl, rfl, ha, hb, (by rw [← ra.len, ← rb.len]; exact Nat.le_trans hl (by decide)), fun l hl => q _ _ (wx.lay l _ hl) (Wd.le_lay hl) p (own_new e hl (ra.append rb))⟩))
theorem d_addT {ds es : List D} (hl : ds.length + es.length ≤ 1000000) (p : P (.val (.tup (ds ++ es)))) : RvP K (rAddG K) (.val (.tup ds)) (.val (.tup es)) P := rv_R (rv_R (rv_R fun w wx x y e r1 r2 Q q => by
  cases r1 with
  | @tup a xs _ ha ra =>
    cases r2 with
    | @tup b ys _ hb rb =>
      have l1 := ra.len
      have l2 := rb.len
      have e1 : ∀ {zs : List D} {us : List V}, DrA K wx.B zs us → us = [] → zs = [] := fun r e => by subst e; cases r; rfl
      refine ⟨a, b, xs, ys, rfl, rfl, sameT wx.sub ha, sameT wx.sub hb, (by rw [← l1, ← l2]; exact Nat.le_trans hl (by decide)), fun e => ?_, fun _ e => ?_, fun _ _ l hl => ?_⟩
      · have := e1 ra e; subst this
        exact q _ _ wx wx.rfl' p (show Dr K wx.B (.tup ([] ++ es)) (.ref b) from Dr.tup hb rb)
      · have := e1 rb e; subst this
        exact q _ _ wx wx.rfl' p (show Dr K wx.B (.tup (ds ++ [])) (.ref a) by rw [List.append_nil]; exact Dr.tup ha ra)
      · exact q _ _ (wx.new l _ hl) (Wd.le_new hl) p (Dr.tup (.inl (.inl upd_same)) ((ra.append rb).mono (Wd.le_new hl).b))))
theorem d_sub {i j : Int} (p : P (.val (.int (i - j)))) : RvP K rSubI (.val (.int i)) (.val (.int j)) P := rv_i0 (g := fun i j => i - j) p
theorem d_mul {i j : Int} (c : CMul i j) (p : P (.val (.int (i * j)))) : RvP K rMulG (.val (.int i)) (.val (.int j)) P := rv_L (rv_i (g := fun i j => i * j) c p)
theorem d_mulW {i j : Int} (c : CMulW i j) (p : P (.val (.int (i * j)))) : RvP K rMulG (.val (.int i)) (.val (.int j)) P := rv_R (rv_L (rv_i (g := fun i j => i * j) c p))
theorem d_div {i j : Int} (c : 0 < j ∧ j < 1073741824) (p : P (.val (.int (i / j)))) : RvP K rDivG (.val (.int i)) (.val (.int j)) P := rv_L (rv_i (g := fun i j => i / j) c p)
theorem d_divW {i j : Int} (c : CDivW i j) (p : P (.val (.int (i / j)))) : RvP K rDivG (.val (.int i)) (.val (.int j)) P := rv_R (rv_L (rv_i (g := fun i j => i / j) c p))
theorem d_mod {i j : Int} (c : 0 < j) (p : P (.val (.int (i % j)))) : RvP K rModG (.val (.int i)) (.val (.int j)) P := rv_L (rv_i (C := fun _ j => 0 < j) (g := fun i j => i % j) c p)
theorem d_pow {i j : Int} (c : CPow i j) (p : P (.val (.int (i ^ j.toNat)))) : RvP K rPowI (.val (.int i)) (.val (.int j)) P := rv_i (g := fun i j => i ^ j.toNat) c p
theorem d_neg {i : Int} (p : P (.val (.int (-i)))) : RuP K rNegI (.val (.int i)) P := ru_neg p
theorem d_eqI {i j : Int} (p : P (.val (.bl (decide (i = j))))) : RvP K (rEqG K) (.val (.int i)) (.val (.int j)) P := rv_L (rv_eqI p)
theorem d_neI {i j : Int} (p : P (.val (.bl (!decide (i = j))))) : RvP K (rNeG K) (.val (.int i)) (.val (.int j)) P := rv_L (rv_neI p)
theorem d_eqS {i j : Str} (p : P (.val (.bl (decide (i = j))))) : RvP K (rEqG K) (.val (.str i)) (.val (.str j)) P := rv_L (rv_eqS p)
theorem d_neS {i j : Str} (p : P (.val (.bl (!decide (i = j))))) : RvP K (rNeG K) (.val (.str i)) (.val (.str j)) P := rv_L (rv_neS p)
theorem d_eqD {s t : Sl} {d e : D} (n m : Nat) (hs : ToD s d) (ht : ToD t e) (pd : Pl n d) (pe : Pl m e) (hn : n ≤ 64) (hm : m ≤ 64) (p : P (.val (.bl (eqD d e)))) : RvP K (rEqG K) s t P := rv_R (rv_eqD hs ht pd pe hn hm p)
theorem d_neD {s t : Sl} {d e : D} (n m : Nat) (hs : ToD s d) (ht : ToD t e) (pd : Pl n d) (pe : Pl m e) (hn : n ≤ 64) (hm : m ≤ 64) (p : P (.val (.bl (!eqD d e)))) : RvP K (rNeG K) s t P := rv_R (rv_neD hs ht pd pe hn hm p)
theorem d_lt {i j : Int} (p : P (.val (.bl (decide (i < j))))) : RvP K rLtI (.val (.int i)) (.val (.int j)) P := rv_b0 (g := fun i j => decide (i < j)) p
theorem d_le {i j : Int} (p : P (.val (.bl (decide (i ≤ j))))) : RvP K rLeI (.val (.int i)) (.val (.int j)) P := rv_b0 (g := fun i j => decide (i ≤ j)) p
theorem d_gt {i j : Int} (p : P (.val (.bl (decide (j < i))))) : RvP K rGtI (.val (.int i)) (.val (.int j)) P := rv_b0 (g := fun i j => decide (j < i)) p
theorem d_ge {i j : Int} (p : P (.val (.bl (decide (j ≤ i))))) : RvP K rGeI (.val (.int i)) (.val (.int j)) P := rv_b0 (g := fun i j => decide (j ≤ i)) p
theorem any_eqD (ds : List D) (d : D) : ((toPys ds).any fun z => PyData.eqv z (toPy d)) = ds.any fun e => eqD e d := by
  rw [toPys_map, List.any_map]; rfl
theorem d_in {s t : Sl} {d : D} {ds : List D} (n m : Nat) (hs : ToD s d) (ht : ToD t (.lst ds)) (pd : Pl n d) (pe : Pl m (.lst ds)) (hn : n ≤ 64) (hm : m ≤ 64) (p : P (.val (.bl (ds.any fun e => eqD e d)))) : RvP K (rInG K) s t P := rv_L fun w wx x y _ r1 r2 Q q =>
  ⟨toPy d, toPys ds, hs.dp r1 pd, ht.dp r2 pe, pd.shaped hn, pe.shaped hm, by rw [any_eqD]; exact q _ _ wx wx.rfl' p (.bl _)⟩
theorem d_notIn {s t : Sl} {d : D} {ds : List D} (n m : Nat) (hs : ToD s d) (ht : ToD t (.lst ds)) (pd : Pl n d) (pe : Pl m (.lst ds)) (hn : n ≤ 64) (hm : m ≤ 64) (p : P (.val (.bl (!ds.any fun e => eqD e d)))) : RvP K (rNotInG K) s t P := rv_L fun w wx x y _ r1 r2 Q q =>
  ⟨toPy d, toPys ds, hs.dp r1 pd, ht.dp r2 pe, pd.shaped hn, pe.shaped hm, by rw [any_eqD]; exact q _ _ wx wx.rfl' p (.bl _)⟩
theorem d_slL {s : Sl} {ds : List D} {lo hi : Option Int} (l : LsS s ds) (p : P (.own (oL (cutD ds lo hi)))) : RsP K (rSlG K) s lo hi P := fun w wx x e r Q q => .inl (rs_list l p w wx x e r Q q)
theorem d_slS {z : Str} {lo hi : Option Int} (hz : z.length ≤ 1000000) (p : P (.val (.str (cutS z lo hi)))) : RsP K (rSlG K) (.val (.str z)) lo hi P := fun w wx x e r Q q => .inr (.inl (rs_str hz p w wx x e r Q q))
theorem d_slT {ds : List D} {lo hi : Option Int} (p : P (.val (.tup (cutD ds lo hi)))) : RsP K (rSlG K) (.val (.tup ds)) lo hi P := fun w wx x e r Q q => .inr (.inr (by
  cases r with
  | @tup a xs _ ha ra =>
    refine ⟨a, xs, rfl, sameT wx.sub ha, fun hw => ?_, fun _ l hl => ?_⟩
    · have : cutD ds lo hi = ds := by
        unfold cutD
        rw [ra.len, hw.1, hw.2, List.drop_zero, ← ra.len]
        simp
      rw [this] at p
      exact q _ _ wx wx.rfl' p (.tup ha ra)
    · exact q _ _ (wx.new l _ hl) (Wd.le_new hl) p (Dr.tup (.inl (.inl upd_same)) ((cut_ok ra).mono (Wd.le_new hl).b))))
/-- xs[::-1] -/
theorem ev_rev {te : TE} (h : EvE K te env fun s => ∃ ds, LsS s ds ∧ P (.own (oL ds.reverse))) : EvE K (tRevL K te) env P := fun en w σ R Q q =>
  h en w σ R _ fun s v w1 e1 h1 r1 => by
    obtain ⟨ds, l, p⟩ := h1
    obtain ⟨a, xs, rfl, h2, h3⟩ := l.ok r1
    have rr : DrA K w1.B ds.reverse xs.reverse := by
      clear h2 q p l r1
      induction ds generalizing xs with
      | nil => cases h3; exact .nil
      | cons d r ih => cases h3 with | cons a b => rw [List.reverse_cons, List.reverse_cons]; exact (ih _ b).snoc a
    exact ⟨a, xs, rfl, h2, fun l hl => q _ _ (w1.lay l _ hl) (e1.trans (Wd.le_lay hl)) p (own_new e1 hl rr)⟩
/-! ### truth -/
theorem bne_len (n : Nat) : ((n : Int) != 0) = (n != 0) := by
  cases n with
  | zero => rfl
  | succ n =>
    have : (((n + 1 : Nat) : Int) != 0) = true := by
      rw [bne_iff_ne]; omega
    rw [this]; rfl
theorem isEmpty_dr {B : Hp} {ds : List D} {xs : List V} (r : DrA K B ds xs) : xs.isEmpty = ds.isEmpty := by cases r <;> rfl
theorem et_tr {te : TE} {Pb : Bool → Prop} (h : EvE K te env fun s => ∃ b, TruS s b ∧ (∀ x, s = .val (.str x) → x.length ≤ 1000000) ∧ Pb b) : EvT K (tTruth K te) env Pb := fun en w σ R Q q =>
  h en w σ R _ fun s v w1 e1 h1 r1 => by
    obtain ⟨b, t, hz, p⟩ := h1
    refine ⟨b, ?_, q b w1 e1 p⟩
    cases s with
    | un => cases t
    | val d =>
      cases r1 with
      | non => exact t
      | bl c => exact t
      | int i => exact t
      | str x => exact ⟨Nat.le_trans (hz x rfl) (by decide), by rw [bne_len]; exact t⟩
      | lst ha r => exact .inl ⟨_, .inl (.inl (w1.sub _ _ ha)), by rw [isEmpty_dr r]; exact t⟩
      | tup ha r => exact .inr (.inl ⟨_, sameT w1.sub ha, by rw [isEmpty_dr r]; exact t⟩)
      | obj _ _ => cases t
      | ref _ => cases t
      | ty _ => cases t
    | bor ds => obtain ⟨p, xs, rfl, h1, r⟩ := r1; exact .inl ⟨_, .inl (.inl h1), by rw [isEmpty_dr r]; exact t⟩
    | scr ds => obtain ⟨p, xs, rfl, h1, r⟩ := r1; exact .inl ⟨_, h1, by rw [isEmpty_dr r]; exact t⟩
    | io _ => cases t
    | brt od =>
      obtain ⟨ds, rfl, t⟩ := t
      obtain ⟨fp, r1⟩ := r1
      obtain ⟨p, xs, rfl, _, h1, r⟩ := r1.oL_inv
      exact .inl ⟨_, .inl (.inl h1), by rw [isEmpty_dr r]; exact t⟩
    | own od =>
      obtain ⟨ds, rfl, t⟩ := t
      obtain ⟨fp, r1, _⟩ := r1
      obtain ⟨p, xs, rfl, _, h1, r⟩ := r1.oL_inv
      exact .inl ⟨_, .inl (.inl h1), by rw [isEmpty_dr r]; exact t⟩
/-- a test that is a bool's truth -/
theorem et_trB {te : TE} {Pb : Bool → Prop} (h : EvE K te env fun s => ∃ b, s = .val (.bl b) ∧ Pb b) : EvT K (tTruth K te) env Pb := et_tr (h.imp fun s ⟨b, e, p⟩ => ⟨b, by subst e; rfl, fun x z => (by subst e; cases z), p⟩)
/-! ### isinstance -/
def tyD : D → Option String
  | .non => some "NoneType" | .bl _ => some "bool" | .int _ => some "int" | .str _ => some "str" | .lst _ => some "list" | .tup _ => some "tuple" | _ => none
def tyS : Sl → Option String
  | .val d => tyD d | .own (.lst _) => some "list" | .own (.tup _) => some "tuple" | .bor _ => some "list" | .brt (.lst _) => some "list" | .brt (.tup _) => some "tuple" | _ => none
theorem tyD_ok {d : D} {v : V} {n : String} (r : Dr K w.B d v) (h : tyD d = some n) : TyX K w.H v (.type n) := by
  cases r with
  | non => cases h; exact .base .non
  | bl b => cases h; exact .base (.bl b)
  | int b => cases h; exact .base (.int b)
  | str b => cases h; exact .base (.str b)
  | lst ha r => cases h; exact .base (.lst (w.sub _ _ ha))
  | tup ha r =>
    cases h
    rcases ha with (ha | ⟨o, ha⟩) | ⟨o, its, m, k1, k2, _⟩
    · exact .base (.tup (w.sub _ _ ha))
    · exact .fTuple (w.sub _ _ ha)
    · exact .kTuple k1 k2
  | obj _ _ => cases h
  | ref _ => cases h
  | ty _ => cases h
theorem ra_isi {s : Sl} {n m : String} {b : Bool} (h : tyS s = some n) (hk : kitB n m = some b) (p : P (.val (.bl b))) : RaP K (rIsiG K) [s, .val (.ty m)] P := fun w wx vs _ r Q q => by
  cases r with
  | cons r t =>
    cases t with
    | cons r2 t =>
      cases t
      cases r2
      refine ⟨_, _, _, _, b, rfl, .ty m, ?_, kit_ty hk, q _ _ wx wx.rfl' p (.bl _)⟩
      cases s with
      | val d => exact tyD_ok r h
      | own od =>
        cases od with
        | lst ds =>
          cases h
          obtain ⟨fp, r, _⟩ := r
          cases r with | lst h1 _ => exact .base (.lst h1)
        | tup ds =>
          cases h
          obtain ⟨fp, r, _⟩ := r
          cases r with | tup h1 _ => exact .base (.tup h1)
        | imm _ => cases h
        | ins _ _ => cases h
        | dK _ => cases h
        | dT _ => cases h
      | io _ => cases h
      | bor ds => cases h; obtain ⟨p, xs, rfl, h1, r⟩ := r; exact .base (.lst h1)
      | un => cases h
      | scr _ => cases h
      | brt od =>
        cases od with
        | lst ds =>
          cases h
          obtain ⟨fp, r⟩ := r
          cases r with | lst h1 _ => exact .base (.lst h1)
        | tup ds =>
          cases h
          obtain ⟨fp, r⟩ := r
          cases r with | tup h1 _ => exact .base (.tup h1)
        | imm _ => cases h
        | ins _ _ => cases h
        | dK _ => cases h
        | dT _ => cases h
theorem d_abs {i : Int} (p : P (.val (.int (if i < 0 then -i else i)))) : RaP K rAbsI [.val (.int i)] P := ra_abs p
theorem d_max {i j : Int} (p : P (.val (.int (if j > i then j else i)))) : RaP K rMax2I [.val (.int i), .val (.int j)] P := ra_max p
theorem d_min {i j : Int} (p : P (.val (.int (if j < i then j else i)))) : RaP K rMin2I [.val (.int i), .val (.int j)] P := ra_min p
/-! ### the same, for the walk -/
theorem x_val {i : Nat} (h : ∃ d, env[i]? = some (.val d) ∧ P (.val d)) : EvE K (tVar i) env P := let ⟨_, a, b⟩ := h; ev_val a b
theorem x_own {i : Nat} (h : ∃ ds, env[i]? = some (.own (oL ds)) ∧ P (.bor ds)) : EvE K (tVar i) env P := let ⟨_, a, b⟩ := h; ev_own a b
theorem x_ownT {i : Nat} (h : ∃ t, env[i]? = some (.own t) ∧ P (.brt t)) : EvE K (tVar i) env P := let ⟨_, a, b⟩ := h; ev_ownT a b
theorem x_ioT {i : Nat} (h : ∃ t, env[i]? = some (.io t) ∧ P (.brt t)) : EvE K (tVar i) env P := let ⟨_, a, b⟩ := h; ev_ioT a b
theorem x_brt {i : Nat} (h : ∃ t, env[i]? = some (.brt t) ∧ P (.brt t)) : EvE K (tVar i) env P := let ⟨_, a, b⟩ := h; ev_brt a b
theorem x_lenTt {s : Sl} (h : ∃ xs, TtS s xs ∧ P (.val (.int xs.length))) : RaP K (rLenG K) [s] P := let ⟨_, a, b⟩ := h; ra_lenTt a b
theorem x_retT2 {i : Nat} {te : TE} {Pp : Post} (h : ∃ o, env[i]? = some (.own o) ∧ EvE K te (env.set i .un) fun s => ∃ d, s = .val d ∧ Pp.rt (.own (.tup [o, .imm d])) (env.set i .un)) : Wp K (tRet (tTup (tCons (tVar i) (tCons te tNil)))) env Pp := let ⟨_, a, b⟩ := h; wp_retT2 a b
theorem x_bor {i : Nat} (h : ∃ ds, env[i]? = some (.bor ds) ∧ P (.bor ds)) : EvE K (tVar i) env P := let ⟨_, a, b⟩ := h; ev_bor a b
theorem x_scr {i : Nat} (h : ∃ ds, env[i]? = some (.scr ds) ∧ P (.scr ds)) : EvE K (tVar i) env P := let ⟨_, a, b⟩ := h; ev_scr a b
theorem x_lenL {s : Sl} (h : ∃ ds, LsS s ds ∧ P (.val (.int ds.length))) : RaP K (rLenG K) [s] P := let ⟨_, a, b⟩ := h; ra_lenL a b
theorem x_isi {s : Sl} {m : String} (h : ∃ n, tyS s = some n ∧ (kitB n m).isSome = true ∧ P (.val (.bl ((kitB n m).getD false)))) : RaP K (rIsiG K) [s, .val (.ty m)] P := by
  obtain ⟨n, a, b, c⟩ := h
  cases e : kitB n m with
  | none => rw [e] at b; cases b
  | some r => rw [e] at c; exact ra_isi a e c
theorem x_slL {s : Sl} {lo hi : Option Int} (h : ∃ ds, LsS s ds ∧ P (.own (oL (cutD ds lo hi)))) : RsP K (rSlG K) s lo hi P := let ⟨_, a, b⟩ := h; d_slL a b
theorem x_list {s : Sl} (h : ∃ ds, LsS s ds ∧ P (.own (oL ds))) : RaP K (rListG K) [s] P := let ⟨_, a, b⟩ := h; ra_listL a b
theorem x_tup {s : Sl} (h : ∃ ds, LsS s ds ∧ P (.val (.tup ds))) : RaP K (rTupG K) [s] P := let ⟨_, a, b⟩ := h; ra_tupL a b
theorem x_app {i : Nat} {te : TE} {Pp : Post} (h : ∃ ds, env[i]? = some (.own (oL ds)) ∧ ds.length < 1000000 ∧ EvE K te env fun s => ∃ d, Frz s d ∧ Pp.nx (env.set i (.own (oL (ds ++ [d]))))) :
    Wp K (tDrop (tBM K "list" rAppend (tVar i) (tCons te tNil))) env Pp := let ⟨_, a, b, c⟩ := h; wp_app a b c
theorem x_setL {i : Nat} {te ti : TE} {Pp : Post} (h : ∃ ds, env[i]? = some (.own (oL ds)) ∧ EvE K te env fun s => ∃ d, Frz s d ∧ EvE K ti env fun s2 => ∃ k j, s2 = .val (.int k) ∧ ixN ds.length k = some j ∧ j < ds.length ∧ Pp.nx (env.set i (.own (oL (ds.set j d))))) :
    Wp K (tAsg te (gSub (tVar i) ti rSetL)) env Pp := let ⟨_, a, b⟩ := h; wp_setL a b
theorem x_retOwn {i : Nat} {Pp : Post} (h : ∃ o, env[i]? = some (.own o) ∧ Pp.rt (.own o) (env.set i .un)) : Wp K (tRet (tVar i)) env Pp := let ⟨_, a, b⟩ := h; wp_retOwn a b
theorem atI_of {α : Type} {xs : List α} {k : Int} {x : α} (h0 : 0 ≤ k) (h : xs[k.toNat]? = some x) : atI xs k = some x := by
  have := atI_nat h
  rwa [Int.toNat_of_nonneg h0] at this
/-- an item at a place in bounds, of a list of ints -/
theorem atI_ints {ns : List Int} {k : Int} (h0 : 0 ≤ k) (h1 : k < ns.length) : atI (ns.map D.int) k = some (.int (ns.getD k.toNat 0)) := by
  refine atI_of h0 ?_
  have : k.toNat < ns.length := by omega
  rw [List.getElem?_map, List.getElem?_eq_getElem this, List.getD_eq_getElem?_getD, List.getElem?_eq_getElem this]
  rfl
theorem getD_mem {ns : List Int} {p : Int → Prop} (h : ∀ n ∈ ns, p n) {k : Nat} (hk : k < ns.length) : p (ns.getD k 0) := by
  rw [List.getD_eq_getElem?_getD, List.getElem?_eq_getElem hk]
  exact h _ (List.getElem_mem hk)
/-- the items of a display -/
def EvV (K : PySem.W.Frag) (tA : TA) (env : List Sl) (Pd : List D → Prop) : Prop := EvA K tA env fun ss => ∃ ds : List D, ss = ds.map .val ∧ Pd ds
theorem evv_nil {Pd : List D → Prop} (p : Pd []) : EvV K tNil env Pd := eva_nil ⟨[], rfl, p⟩
theorem evv_cons {Pd : List D → Prop} {ta : TE} {tB : TA} (h : EvE K ta env fun s => ∃ d, Frz s d ∧ EvV K tB env fun ds => Pd (d :: ds)) : EvV K (tCons ta tB) env Pd :=
  eva_cons (ev_frz (P := fun s => EvA K tB env fun ss => ∃ ds : List D, s :: ss = ds.map .val ∧ Pd ds) (h.imp fun s ⟨d, e, z⟩ => ⟨d, e, EvA.imp z fun ss ⟨ds, e2, p⟩ => ⟨d :: ds, by rw [e2]; rfl, p⟩⟩))
theorem x_tupD {tA : TA} (h : EvV K tA env fun ds => ds.length ≤ 1000 ∧ P (.val (.tup ds))) : EvE K (tTup tA) env P := ev_tup (EvA.imp h fun _ ⟨ds, e, a, b⟩ => ⟨ds, e, a, b⟩)
theorem x_lstD {tA : TA} (h : EvV K tA env fun ds => ds.length ≤ 1000 ∧ P (.own (oL ds))) : EvE K (tLst tA) env P := ev_lst (EvA.imp h fun _ ⟨ds, e, a, b⟩ => ⟨ds, e, a, b⟩)
theorem cmul_l {i j : Int} (h1 : -18446744073709551616 < i) (h2 : i < 18446744073709551616) : CMul i j := .inl ⟨by omega, by omega⟩
theorem cmul_r {i j : Int} (h1 : -18446744073709551616 < j) (h2 : j < 18446744073709551616) : CMul i j := .inr ⟨by omega, by omega⟩
theorem d_mulL {i j : Int} (h1 : -18446744073709551616 < i) (h2 : i < 18446744073709551616) (p : P (.val (.int (i * j)))) : RvP K rMulG (.val (.int i)) (.val (.int j)) P := d_mul (cmul_l h1 h2) p
theorem d_mulR {i j : Int} (h1 : -18446744073709551616 < j) (h2 : j < 18446744073709551616) (p : P (.val (.int (i * j)))) : RvP K rMulG (.val (.int i)) (.val (.int j)) P := d_mul (cmul_r h1 h2) p
theorem d_div' {i j : Int} (c : 0 < j) (c2 : j < 1073741824) (p : P (.val (.int (i / j)))) : RvP K rDivG (.val (.int i)) (.val (.int j)) P := d_div ⟨c, c2⟩ p
theorem d_pow' {i j : Int} (c : 0 ≤ j) (c1 : j ≤ 1000000) (c2 : i.natAbs < 18446744073709551616) (p : P (.val (.int (i ^ j.toNat)))) : RvP K rPowI (.val (.int i)) (.val (.int j)) P := d_pow ⟨c, c1, c2⟩ p
theorem rng_at {lo : Int} {n i : Nat} {d : D} (h : (rngD lo n)[i]? = some d) : i < n ∧ d = .int (lo + (i : Int)) := by
  have hi := (List.getElem?_eq_some_iff.mp h).1
  simp only [rngD, List.length_map, List.length_range] at hi
  simp only [rngD, List.getElem?_map, List.getElem?_range hi, Option.map_some, Option.some.injEq] at h
  exact ⟨hi, h.symm⟩
theorem rng_len {lo : Int} {n : Nat} : (rngD lo n).length = n := by simp [rngD]
end
end DL

set_option Elab.async false
set_option linter.all false
set_option maxRecDepth 100000
set_option autoImplicit false
namespace DL
open PySem L2
section
variable {K : PySem.W.Frag} {env : List Sl} {P P' : Sl → Prop} {Pp : Post} {w w' w'' : Wd} {te ta tb ti : TE}
/-! ### what is read for good: parameters' trees -/
def EvS (K : PySem.W.Frag) (te : TE) (env : List Sl) (P : OT → Prop) : Prop := ∀ (en : En) (w : Wd) (σ : TSt), Rel K en w env σ → ∀ Q : VK, (∀ t v (w' : Wd), w.le w' → (∃ f, TR K w'.B en.w0.H t v f) → P t → Q v w'.H) → te σ w.H Q
theorem es_brt {i : Nat} {t : OT} {Po : OT → Prop} (e : env[i]? = some (.brt t)) (p : Po t) : EvS K (tVar i) env Po := fun en w σ R Q q => by
  obtain ⟨o, fp, h1, _, v, f', rfl, r⟩ := R.at e
  exact ⟨v, h1, q _ _ w w.rfl' ⟨f', r⟩ p⟩
theorem es_bor {i : Nat} {ds : List D} {Po : OT → Prop} (e : env[i]? = some (.bor ds)) (p : Po (oL ds)) : EvS K (tVar i) env Po := fun en w σ R Q q => by
  obtain ⟨o, fp, h1, _, pp, xs, rfl, h2, r⟩ := R.at e
  exact ⟨_, h1, q _ _ w w.rfl' ⟨[pp], TR.ofL h2 r⟩ p⟩
theorem es_ixT {Po : OT → Prop} (h : EvS K tb env fun t => ∃ xs, t = .tup xs ∧ EvE K ti env fun s2 => ∃ k c, s2 = .val (.int k) ∧ atI xs k = some c ∧ Po c) : EvS K (tOp (rIx K) tb ti) env Po := fun en w σ R Q q =>
  h en w σ R _ fun t v w1 e1 r1 p => by
    obtain ⟨xs, rfl, p⟩ := p
    exact p en w1 σ (R.grow e1) _ fun s2 y w2 e2 p2 r2 => by
      obtain ⟨k, c, rfl, hc, p⟩ := p2
      cases r2
      obtain ⟨f, r1⟩ := r1
      cases r1 with
      | @tup pp _ vs fp hp rs =>
        unfold atI at hc
        cases hk : ixN xs.length k with
        | none => rw [hk] at hc; cases hc
        | some j =>
          rw [hk] at hc
          obtain ⟨u, _, fs, hu, _, tr, _⟩ := rs.focus hc
          refine .inr (.inl ⟨pp, vs, k, u, rfl, rfl, .inl (.inl ((R.le.trans (e1.trans e2)).h _ _ hp)), ?_, q c u w2 (e1.trans e2) ⟨fs, tr.mono e2.b fun _ _ _ z => z⟩ p⟩)
          unfold atI; rw [← rs.len, hk]; exact hu
theorem ei_S {b : Bool} {Pd : List D → Prop} (h : EvS K te env fun t => ∃ ds, t = oL ds ∧ Pd ds) : EvI K b (iSeq K te) env Pd := fun en w σ R Q q =>
  .inl (h en w σ R _ fun t v w1 e1 r1 p => by
    obtain ⟨ds, rfl, p⟩ := p
    obtain ⟨f, r1⟩ := r1
    obtain ⟨pp, xs, rfl, _, h2, r⟩ := r1.oL_inv
    have R1 := R.grow e1
    exact ⟨pp, rfl, ⟨xs, .inl (.inl (R1.le.h _ _ h2))⟩, q _ ds w1 e1 p (itd_list (fun w' l => .inl (.inl ((l.le0 R1.le).h _ _ h2))) fun w' l => r.mono l.b)⟩)
/-! ### comprehensions over encoded lists -/
theorem ev_mapE {α : Type} {wi : TI} {g : TG} {vs : List Nat} {Q : Sl → Prop} (enc : α → D) (f : α → D) (xs : List α) (hy : xs.length ≤ 1000000) (h : EvI K true wi env fun ds => ds = xs.map enc)
    (hs : ∀ x, x ∈ xs → ∃ us, GD K g (enc x) us ∧ (∀ u ∈ us, u.1 ∈ vs) ∧ EvE K te (sets us (wipeS env vs)) fun s => Frz s (f x)) (p : Q (.own (oL (xs.map f)))) : EvE K (tLc wi g tYes te vs) env Q :=
  ev_lcI (fun i acc => acc = (xs.take i).map f) (xs.map enc) (by simpa using hy) h rfl (fun i d acc e ha => by
    rw [List.getElem?_map] at e
    cases hx : xs[i]? with
    | none => rw [hx] at e; cases e
    | some x =>
      rw [hx] at e; cases e
      obtain ⟨us, G, hu, he⟩ := hs x (List.mem_of_getElem? hx)
      refine ⟨us, G, hu, et_yes ⟨fun _ => he.imp fun s z => ⟨f x, z, ?_⟩, fun z => by cases z⟩⟩
      rw [ha, List.take_add_one, hx]; simp) fun acc ha => by rw [ha, List.length_map, List.take_length]; exact p
theorem ev_mapI {α : Type} {wi : TI} {g : TG} {vs : List Nat} {Q : Sl → Prop} (enc : α → D) (f : α → Int) (xs : List α) (hy : xs.length ≤ 1000000) (h : EvI K true wi env fun ds => ds = xs.map enc)
    (hs : ∀ x, x ∈ xs → ∃ us, GD K g (enc x) us ∧ (∀ u ∈ us, u.1 ∈ vs) ∧ EvE K te (sets us (wipeS env vs)) fun s => Frz s (.int (f x))) (p : Q (.own (oL ((xs.map f).map .int)))) : EvE K (tLc wi g tYes te vs) env Q :=
  ev_mapE enc (fun x => .int (f x)) xs hy h hs (by rw [List.map_map] at p; exact p)
theorem ev_filtE {α : Type} {wi : TI} {g : TG} {tt : TT} {vs : List Nat} {Q : Sl → Prop} (enc : α → D) (c : α → Bool) (f : α → D) (xs : List α) (hy : xs.length ≤ 1000000) (h : EvI K true wi env fun ds => ds = xs.map enc)
    (hs : ∀ x, x ∈ xs → ∃ us, GD K g (enc x) us ∧ (∀ u ∈ us, u.1 ∈ vs) ∧ EvT K tt (sets us (wipeS env vs)) (fun b => b = c x) ∧ (c x = true → EvE K te (sets us (wipeS env vs)) fun s => Frz s (f x))) (p : Q (.own (oL ((xs.filter c).map f)))) : EvE K (tLc wi g tt te vs) env Q :=
  ev_lcI (fun i acc => acc = ((xs.take i).filter c).map f) (xs.map enc) (by simpa using hy) h rfl (fun i d acc e ha => by
    rw [List.getElem?_map] at e
    cases hx : xs[i]? with
    | none => rw [hx] at e; cases e
    | some x =>
      rw [hx] at e; cases e
      obtain ⟨us, G, hu, ht, he⟩ := hs x (List.mem_of_getElem? hx)
      refine ⟨us, G, hu, ht.imp fun b hb => ⟨fun z => (he (by rw [← hb, z])).imp fun s z2 => ⟨f x, z2, ?_⟩, fun z => ?_⟩⟩
      · rw [ha, List.take_add_one, hx]; subst hb; simp [z]
      · rw [ha, List.take_add_one, hx]; subst hb; simp [z]) fun acc ha => by rw [ha, List.length_map, List.take_length]; exact p
/-- targets of tuples -/
theorem wp_asgG {g : TG} (h : EvE K te env fun s => ∃ d us, s = .val d ∧ GD K g d us ∧ Pp.nx (sets us env)) : Wp K (tAsg te g) env Pp := fun en w σ R D hn _ _ _ =>
  h en w σ R _ fun s v w1 e1 h1 r1 => by
    obtain ⟨d, us, rfl, G, p⟩ := h1
    exact G.run r1 fun vs gv => hn w1 _ _ e1.b ((R.grow e1).sets gv) p
/-! ### items of lists of ints -/
theorem d_ixI {s : Sl} {ns : List Int} {k : Int} (l : LsS s (ns.map D.int)) (h0 : 0 ≤ k) (h1 : k < ns.length) (p : P (.val (.int (ns.getD k.toNat 0)))) : RvP K (rIx K) s (.val (.int k)) P := sixL l (atI_ints h0 h1) p
theorem d_ixB {s : Sl} {ns : List Int} {k lo hi : Int} (l : LsS s (ns.map D.int)) (hb : ∀ n ∈ ns, lo ≤ n ∧ n < hi) (h0 : 0 ≤ k) (h1 : k < ns.length) (p : ∀ n : Int, lo ≤ n → n < hi → P (.val (.int n))) : RvP K (rIx K) s (.val (.int k)) P :=
  sixL l (atI_ints h0 h1) (p _ (getD_mem hb (by omega)).1 (getD_mem hb (by omega)).2)
theorem d_ixM {s : Sl} {ns : List Int} {x lo hi : Int} (l : LsS s (ns.map D.int)) (hb : ∀ n ∈ ns, lo ≤ n ∧ n < hi) (h0 : 0 < ns.length) (p : ∀ n : Int, lo ≤ n → n < hi → P (.val (.int n))) : RvP K (rIx K) s (.val (.int (x % (ns.length : Int)))) P :=
  d_ixB l hb (Int.emod_nonneg x (by omega)) (Int.emod_lt_of_pos x (by omega)) p
theorem d_ixE {α : Type} {s : Sl} {enc : α → D} {xs : List α} {k : Int} {x : α} (l : LsS s (xs.map enc)) (h0 : 0 ≤ k) (e : xs[k.toNat]? = some x) (p : P (.val (enc x))) : RvP K (rIx K) s (.val (.int k)) P := sixL l (atI_of h0 (by rw [List.getElem?_map, e]; rfl)) p
theorem emod_rng {x lo hi : Int} (h : lo ≤ hi) : lo ≤ lo + x % (hi - lo + 1) ∧ lo + x % (hi - lo + 1) ≤ hi := by
  have h1 := Int.emod_nonneg x (b := hi - lo + 1) (by omega)
  have h2 := Int.emod_lt_of_pos x (b := hi - lo + 1) (by omega)
  omega
theorem cdivw_of {i j : Int} (h : 0 < j) (h2 : j < 18446744073709551616) : CDivW i j := wide_div (b := 64) h (by omega) (by decide) (by decide)
theorem d_divW' {i j : Int} (h : 0 < j) (h2 : j < 18446744073709551616) (p : P (.val (.int (i / j)))) : RvP K rDivG (.val (.int i)) (.val (.int j)) P := d_divW (cdivw_of h h2) p
theorem x_sum {s : Sl} (h : ∃ ns : List Int, LsS s (ns.map D.int) ∧ P (.val (.int ns.sum))) : RaP K (rSum K) [s] P := let ⟨_, a, b⟩ := h; ra_sum a b
/-! ### kinds of built-ins -/
theorem k_ii : (kitB "int" "int").getD false = true := by decide +kernel
theorem k_ib : (kitB "int" "bool").getD false = false := by decide +kernel
theorem k_bi : (kitB "bool" "int").getD false = true := by decide +kernel
theorem k_bb : (kitB "bool" "bool").getD false = true := by decide +kernel
theorem k_tt : (kitB "tuple" "tuple").getD false = true := by decide +kernel
theorem k_tl : (kitB "tuple" "list").getD false = false := by decide +kernel
theorem k_ll : (kitB "list" "list").getD false = true := by decide +kernel
theorem k_lt : (kitB "list" "tuple").getD false = false := by decide +kernel
theorem k_ss : (kitB "str" "str").getD false = true := by decide +kernel
theorem k_ns : (kitB "NoneType" "str").getD false = false := by decide +kernel
theorem chS_oL (ds : List D) : chS (oL ds) = .brt (oL ds) := rfl
theorem chS_imm (d : D) : chS (.imm d) = .val d := rfl
theorem x_ixTt {s : Sl} {i : Int} (h : ∃ xs c, TtS s xs ∧ atI xs i = some c ∧ P (chS c)) : RvP K (rIx K) s (.val (.int i)) P := let ⟨_, _, a, b, c⟩ := h; sixTt a b c
theorem x_ixT {ds : List D} {i : Int} (h : ∃ d, atI ds i = some d ∧ P (.val d)) : RvP K (rIx K) (.val (.tup ds)) (.val (.int i)) P := let ⟨_, a, b⟩ := h; sixT a b
/-! ### slices -/
theorem cutD_from {ds : List D} {k : Int} (h : 0 ≤ k) : cutD ds (some k) none = ds.drop k.toNat := by
  unfold cutD
  have e : HT.sIx ds.length 0 (some k) = min k.toNat ds.length := by
    have := HT.sIx_nat ds.length 0 k.toNat
    rwa [Int.toNat_of_nonneg h] at this
  rw [e, HT.sIx_none]
  by_cases hk : k.toNat ≤ ds.length
  · rw [Nat.min_eq_left hk, List.take_of_length_le (by simp)]
  · rw [Nat.min_eq_right (by omega), List.drop_of_length_le (by omega), List.drop_of_length_le (by omega)]; simp
theorem cutD_to {ds : List D} {k : Int} (h : 0 ≤ k) : cutD ds none (some k) = ds.take k.toNat := by
  unfold cutD
  have e : HT.sIx ds.length ds.length (some k) = min k.toNat ds.length := by
    have := HT.sIx_nat ds.length ds.length k.toNat
    rwa [Int.toNat_of_nonneg h] at this
  rw [e, HT.sIx_none, List.drop_zero, Nat.sub_zero]
  by_cases hk : k.toNat ≤ ds.length
  · rw [Nat.min_eq_left hk]
  · rw [Nat.min_eq_right (by omega), List.take_of_length_le (by omega), List.take_of_length_le (by omega)]
/-! ### tests whose answer is known -/
theorem b_ff {A B : Prop} (h : B) : (false = true → A) ∧ (false = false → B) := ⟨fun z => (nomatch z), fun _ => h⟩
theorem b_tt {A B : Prop} (h : A) : (true = true → A) ∧ (true = false → B) := ⟨fun _ => h, fun z => (nomatch z)⟩
theorem b_ff' {A B : Prop} (h : B) : (false = false → B) ∧ (false = true → A) := ⟨fun _ => h, fun z => (nomatch z)⟩
theorem b_tt' {A B : Prop} (h : A) : (true = false → B) ∧ (true = true → A) := ⟨fun z => (nomatch z), fun _ => h⟩
theorem x_powE {i j : Int} (c : 0 ≤ j) (c1 : j ≤ 1000000) (c2 : i.natAbs < 18446744073709551616) (h : ∃ v, i ^ j.toNat = v ∧ P (.val (.int v))) : RvP K rPowI (.val (.int i)) (.val (.int j)) P := let ⟨_, e, p⟩ := h; d_pow' c c1 c2 (by rw [e]; exact p)
theorem x_lenM {α : Type} {xs : List α} {f : α → D} {s : Sl} (l : LsS s (xs.map f)) (p : P (.val (.int xs.length))) : RaP K (rLenG K) [s] P := ra_lenL l (by rw [List.length_map]; exact p)
theorem kk_ii : kitB "int" "int" = some true := by decide +kernel
theorem kk_ib : kitB "int" "bool" = some false := by decide +kernel
theorem kk_it : kitB "int" "tuple" = some false := by decide +kernel
theorem kk_il : kitB "int" "list" = some false := by decide +kernel
theorem kk_is : kitB "int" "str" = some false := by decide +kernel
theorem kk_bi : kitB "bool" "int" = some true := by decide +kernel
theorem kk_bb : kitB "bool" "bool" = some true := by decide +kernel
theorem kk_bt : kitB "bool" "tuple" = some false := by decide +kernel
theorem kk_bs : kitB "bool" "str" = some false := by decide +kernel
theorem kk_tt : kitB "tuple" "tuple" = some true := by decide +kernel
theorem kk_tl : kitB "tuple" "list" = some false := by decide +kernel
theorem kk_ti : kitB "tuple" "int" = some false := by decide +kernel
theorem kk_tb : kitB "tuple" "bool" = some false := by decide +kernel
theorem kk_ts : kitB "tuple" "str" = some false := by decide +kernel
theorem kk_ll : kitB "list" "list" = some true := by decide +kernel
theorem kk_lt : kitB "list" "tuple" = some false := by decide +kernel
theorem kk_ss : kitB "str" "str" = some true := by decide +kernel
theorem kk_si : kitB "str" "int" = some false := by decide +kernel
theorem kk_sb : kitB "str" "bool" = some false := by decide +kernel
theorem kk_st : kitB "str" "tuple" = some false := by decide +kernel
theorem kk_ns : kitB "NoneType" "str" = some false := by decide +kernel
theorem x_isiE {s : Sl} {m : String} (h : ∃ n b, tyS s = some n ∧ kitB n m = some b ∧ P (.val (.bl b))) : RaP K (rIsiG K) [s, .val (.ty m)] P := let ⟨_, _, a, b, c⟩ := h; ra_isi a b c
theorem x_ixTtL {s : Sl} {i : Int} (h : ∃ xs ds, TtS s xs ∧ atI xs i = some (oL ds) ∧ P (.brt (oL ds))) : RvP K (rIx K) s (.val (.int i)) P := let ⟨_, _, a, b, c⟩ := h; sixTt a b c
theorem x_ixTtI {s : Sl} {i : Int} (h : ∃ xs d, TtS s xs ∧ atI xs i = some (.imm d) ∧ P (.val d)) : RvP K (rIx K) s (.val (.int i)) P := let ⟨_, _, a, b, c⟩ := h; sixTt a b c
theorem b_fT {A B : Prop} (h : B) : (false = true → A) ∧ (True → B) := ⟨fun z => (nomatch z), fun _ => h⟩
theorem b_tF {A B : Prop} (h : A) : (True → A) ∧ (true = false → B) := ⟨fun _ => h, fun z => (nomatch z)⟩
theorem d_ixB3 {s : Sl} {ns : List Int} {k : Int} (l : LsS s (ns.map D.int)) (hb : ∀ n ∈ ns, 0 ≤ n ∧ n < 1000) (h0 : 0 ≤ k) (h1 : k < ns.length) (p : ∀ n : Int, 0 ≤ n → n < 1000 → P (.val (.int n))) : RvP K (rIx K) s (.val (.int k)) P := d_ixB l hb h0 h1 p
theorem d_ixM3 {s : Sl} {ns : List Int} {x : Int} (l : LsS s (ns.map D.int)) (hb : ∀ n ∈ ns, 0 ≤ n ∧ n < 1000) (h0 : 0 < ns.length) (p : ∀ n : Int, 0 ≤ n → n < 1000 → P (.val (.int n))) : RvP K (rIx K) s (.val (.int (x % (ns.length : Int)))) P := d_ixM l hb h0 p
theorem b_nt {A B : Prop} (h : B) : ((!true) = true → A) ∧ ((!true) = false → B) := ⟨fun z => (nomatch z), fun _ => h⟩
theorem b_nf {A B : Prop} (h : A) : ((!false) = true → A) ∧ ((!false) = false → B) := ⟨fun _ => h, fun z => (nomatch z)⟩
theorem b_nt' {A B : Prop} (h : A) : ((!true) = false → A) ∧ ((!true) = true → B) := ⟨fun _ => h, fun z => (nomatch z)⟩
theorem b_nf' {A B : Prop} (h : B) : ((!false) = false → A) ∧ ((!false) = true → B) := ⟨fun z => (nomatch z), fun _ => h⟩
theorem x_ixE {α : Type} {s : Sl} {enc : α → D} {xs : List α} {k : Int} (l : LsS s (xs.map enc)) (h0 : 0 ≤ k) (h : ∃ x, xs[k.toNat]? = some x ∧ P (.val (enc x))) : RvP K (rIx K) s (.val (.int k)) P := let ⟨_, e, p⟩ := h; d_ixE l h0 e p
theorem d_slF3 {s : Sl} {ns : List Int} {k : Int} (l : LsS s (ns.map D.int)) (hb : ∀ n ∈ ns, 0 ≤ n ∧ n < 1000) (h0 : 0 ≤ k) (p : ∀ ms : List Int, ms.length = ns.length - k.toNat → (∀ n ∈ ms, 0 ≤ n ∧ n < 1000) → P (.own (oL (ms.map .int)))) : RsP K (rSlG K) s (some k) none P :=
  d_slL l (by rw [cutD_from h0, ← List.map_drop]; exact p _ (by simp) fun n hn => hb n (List.mem_of_mem_drop hn))
theorem x_slFE {α : Type} {enc : α → D} {s : Sl} {xs : List α} {k : Int} (l : LsS s (xs.map enc)) (h0 : 0 ≤ k) (p : P (.own (oL ((xs.drop k.toNat).map enc)))) : RsP K (rSlG K) s (some k) none P :=
  d_slL l (by rw [cutD_from h0, ← List.map_drop]; exact p)
theorem x_slTE {α : Type} {enc : α → D} {s : Sl} {xs : List α} {k : Int} (l : LsS s (xs.map enc)) (h0 : 0 ≤ k) (p : P (.own (oL ((xs.take k.toNat).map enc)))) : RsP K (rSlG K) s none (some k) P :=
  d_slL l (by rw [cutD_to h0, ← List.map_take]; exact p)
inductive IL : List D → List Int → Prop
  | nil : IL [] []
  | cons {n : Int} {ds : List D} {ns : List Int} : IL ds ns → IL (.int n :: ds) (n :: ns)
theorem IL.eq {ds : List D} {ns : List Int} (h : IL ds ns) : ds = ns.map .int := by
  induction h with
  | nil => rfl
  | cons _ ih => rw [ih]; rfl
theorem x_ixDi {s : Sl} {ds : List D} {ns : List Int} {k : Int} (l : LsS s ds) (e : IL ds ns) (h0 : 0 ≤ k) (h1 : k < ns.length) (p : ∀ v : Int, v ∈ ns → P (.val (.int v))) : RvP K (rIx K) s (.val (.int k)) P := by
  rw [e.eq] at l
  refine d_ixI l h0 h1 (p _ ?_)
  rw [List.getD_eq_getElem?_getD, List.getElem?_eq_getElem (by omega)]
  exact List.getElem_mem _
end
end DL

set_option Elab.async false
set_option linter.all false
set_option maxRecDepth 100000
set_option autoImplicit false
namespace DL
open PySem L2
/-! ### dicts of one's own -/
def keyD : Key → D
  | .inl i => .int i
  | .inr x => .str x
theorem keyD_v {K : PySem.W.Frag} {B : Hp} {k : Key} {v : V} (h : Dr K B (keyD k) v) : v = kV k := by
  cases k with
  | inl i => cases h; rfl
  | inr i => cases h; rfl
section
variable {α κ : Type} [DecidableEq κ]
def getO (kvs : List (κ × α)) (k : κ) : Option α := (kvs.find? fun kv => decide (kv.1 = k)).map (·.2)
def putO (kvs : List (κ × α)) (k : κ) (v : α) : List (κ × α) :=
  if (getO kvs k).isSome = true then kvs.map (fun kv => if kv.1 = k then (kv.1, v) else kv) else kvs ++ [(k, v)]
theorem getO_nil {k : κ} : getO ([] : List (κ × α)) k = none := rfl
theorem getO_pos {p : κ × α} {r : List (κ × α)} {k : κ} (e : p.1 = k) : getO (p :: r) k = some p.2 := by simp [getO, List.find?_cons, e]
theorem getO_neg {p : κ × α} {r : List (κ × α)} {k : κ} (e : ¬ p.1 = k) : getO (p :: r) k = getO r k := by simp [getO, List.find?_cons, e]
theorem getO_snoc {kvs : List (κ × α)} {k j : κ} {v : α} (h : getO kvs k = none) : getO (kvs ++ [(k, v)]) j = if j = k then some v else getO kvs j := by
  induction kvs with
  | nil =>
    by_cases e : j = k
    · subst e; simp [getO]
    · have e' : ¬ k = j := fun z => e z.symm
      simp [getO, e, e']
  | cons p r ih =>
    by_cases e : p.1 = j
    · rw [List.cons_append, getO_pos e, getO_pos e]
      split
      · rename_i e2; subst e2; rw [getO_pos e] at h; cases h
      · rfl
    · rw [List.cons_append, getO_neg e, getO_neg e]
      by_cases e2 : p.1 = k
      · rw [getO_pos e2] at h; cases h
      · rw [getO_neg e2] at h; exact ih h
theorem getO_map (k j : κ) (y : α) : ∀ kvs : List (κ × α), getO (kvs.map fun kv => if kv.1 = k then (kv.1, y) else kv) j = (getO kvs j).map fun x => if j = k then y else x
  | [] => rfl
  | p :: r => by
    have ih := getO_map k j y r
    by_cases e : p.1 = j
    · rw [getO_pos e, List.map_cons, getO_pos (by split <;> exact e)]
      by_cases e2 : p.1 = k
      · simp [e2, show j = k from e ▸ e2]
      · simp [e2, show ¬ j = k from fun z => e2 (e.trans z)]
    · rw [getO_neg e, List.map_cons, getO_neg (by split <;> exact e)]; exact ih
theorem getO_put {kvs : List (κ × α)} {k j : κ} {v : α} : getO (putO kvs k v) j = if j = k then some v else getO kvs j := by
  unfold putO
  split
  · rename_i h
    rw [getO_map]
    by_cases e : j = k
    · subst e
      obtain ⟨x, hx⟩ := Option.isSome_iff_exists.mp h
      simp [hx]
    · simp [e]
  · rename_i h
    exact getO_snoc (by simpa using h)
theorem keys_put {kvs : List (κ × α)} {k : κ} {v : α} : (putO kvs k v).map (·.1) = if (getO kvs k).isSome = true then kvs.map (·.1) else kvs.map (·.1) ++ [k] := by
  unfold putO
  split
  · rw [List.map_map]
    refine List.map_congr_left fun x _ => ?_
    simp only [Function.comp]; split <;> rfl
  · simp
end
section
variable {K : PySem.W.Frag} {B B' H H' : Hp} {κ : Type} [DecidableEq κ]
theorem dget_ok {xs : List (κ × OT)} : ∀ {vs : List (κ × V)} {fp : List Addr} {k : κ} {c : OT}, vs.map (·.1) = xs.map (·.1) → TRs K B H (xs.map (·.2)) (vs.map (·.2)) fp → getO xs k = some c →
    ∃ (u : V) (fs : List Addr) (j : Nat), valV vs k = some u ∧ TR K B H c u fs ∧ xs[j]? = some (k, c) ∧ vs[j]? = some (k, u) := by
  induction xs with
  | nil => intro vs fp k c e r h; cases h
  | cons p r ih =>
    intro vs fp k c e t h
    cases vs with
    | nil => cases e
    | cons q s =>
      simp only [List.map_cons, List.cons.injEq] at e t
      cases t with
      | cons t1 t2 =>
        by_cases hk : p.1 = k
        · rw [getO_pos hk] at h; cases h
          refine ⟨q.2, _, 0, valV_pos (e.1.trans hk), t1, ?_, ?_⟩
          · subst hk; rfl
          · have := e.1.trans hk; subst this; rfl
        · rw [getO_neg hk] at h
          obtain ⟨u, fs, j, a, b, c1, c2⟩ := ih e.2 t2 h
          exact ⟨u, fs, j + 1, by rw [valV_neg (fun z => hk (e.1.symm.trans z))]; exact a, b, c1, c2⟩
theorem dget_some {xs : List (κ × OT)} : ∀ {vs : List (κ × V)} {k : κ}, vs.map (·.1) = xs.map (·.1) → (valV vs k).isSome = (getO xs k).isSome := by
  induction xs with
  | nil => intro vs k e; cases vs with | nil => rfl | cons _ _ => cases e
  | cons p r ih =>
    intro vs k e
    cases vs with
    | nil => cases e
    | cons q s =>
      simp only [List.map_cons, List.cons.injEq] at e
      by_cases hk : p.1 = k
      · rw [getO_pos hk, valV_pos (e.1.trans hk)]; rfl
      · rw [getO_neg hk, valV_neg (fun z => hk (e.1.symm.trans z))]; exact ih e.2
theorem AtV.back {w w2 : Wd} (hh : w.le w2) {t s : OT} {v u : V} {f : OT → OT} (a : AtV w2.H t v s u f) : ∀ {fp : List Addr}, TR K w.B w.H t v fp → AtV w.H t v s u f := by
  have kid : ∀ {xs : List OT} {vs : List V} {fp : List Addr} {j : Nat} {c : OT} {cv : V}, TRs K w.B w.H xs vs fp → xs[j]? = some c → vs[j]? = some cv → ∃ fs, TR K w.B w.H c cv fs := by
    intro xs vs fp j c cv r e1 e2
    obtain ⟨u, _, fs, e3, _, t, _⟩ := r.focus e1
    rw [e2] at e3; cases e3
    exact ⟨fs, t⟩
  induction a with
  | here => intro fp _; exact .here
  | lst h e1 e2 _ ih =>
    intro fp r
    cases r with
    | lst h' r =>
      have := hh.h _ _ h'
      rw [h] at this; cases this
      obtain ⟨fs, r'⟩ := kid r e1 e2
      exact .lst h' e1 e2 (ih r')
  | tup h e1 e2 _ ih =>
    intro fp r
    cases r with
    | tup h' r =>
      have := hh.h _ _ h'
      rw [h] at this; cases this
      obtain ⟨fs, r'⟩ := kid r e1 e2
      exact .tup h' e1 e2 (ih r')
  | dK h e1 e2 _ ih =>
    intro fp r
    cases r with
    | dK h' ek r =>
      have := hh.h _ _ h'
      rw [h] at this; cases this
      obtain ⟨fs, r'⟩ := kid r (by rw [List.getElem?_map, e1]; rfl) (by rw [List.getElem?_map, e2]; rfl)
      exact .dK h' e1 e2 (ih r')
  | dT h e1 e2 _ ih =>
    intro fp r
    cases r with
    | dT h' ek r =>
      have := hh.h _ _ h'
      rw [h] at this; cases this
      obtain ⟨fs, r'⟩ := kid r (by rw [List.getElem?_map, e1]; rfl) (by rw [List.getElem?_map, e2]; rfl)
      exact .dT h' e1 e2 (ih r')
  | ins h e1 e2 _ ih =>
    intro fp r
    cases r with
    | ins h' ek r =>
      have := hh.h _ _ h'
      rw [h] at this; cases this
      obtain ⟨fs, r'⟩ := kid r (by rw [List.getElem?_map, e1]; rfl) (by rw [List.getElem?_map, e2]; rfl)
      exact .ins h' e1 e2 (ih r')
end
section
variable {K : PySem.W.Frag} {env : List Sl} {P P' : Sl → Prop} {Pp : Post} {w w' w'' : Wd} {te ta tb td ti : TE} {en : En}
/-- a node is written with what was made since w -/
theorem Rel.write2 {i : Nat} {t s s' : OT} {vr : V} {p : Addr} {o' : HO} {f : OT → OT} {σ : TSt} {w3 : Wd} (R : Rel K en w env σ) (ew : w.le w3) (e : env[i]? = some (.own t) ∨ env[i]? = some (.io t)) (hv : σ[i]? = some (some vr)) (a : AtV w3.H t vr s (.ref p) f)
    (new : ∀ fs, TR K w.B w.H s (.ref p) fs → fs.Nodup → (∀ q ∈ fs, en.w0.H q = none ∧ w3.B q = none) → p ∈ fs ∧ ∀ H', H' p = some o' → (∀ q o, q ≠ p → w3.H q = some o → H' q = some o) → ∃ fs', TR K w3.B H' s' (.ref p) fs' ∧ fs'.Nodup ∧ ∀ q ∈ fs', en.w0.H q = none ∧ w3.B q = none ∧ (q ∈ fs ∨ w.H q = none)) :
    ∃ w4 : Wd, w4.H = upd w3.H p o' ∧ Same w3.B w4.B ∧ Rel K en w4 (putS env i (f s')) σ := by
  obtain ⟨F, R0⟩ := id R
  have own : Own K en.w0.H w t vr (F i) := by
    rcases e with e | e
    · obtain ⟨v', z, r⟩ := R0.sl i _ _ e hv; cases z; exact r
    · obtain ⟨⟨v', z, r⟩, _⟩ := R0.sl i _ _ e hv; cases z; exact r
  have a0 : AtV w.H t vr s (.ref p) f := a.back ew own.1
  obtain ⟨f1, fs, pm, ts, rb⟩ := a0.focus own.1
  have inF : ∀ q, q ∈ fs → q ∈ F i := fun q z => pm.mem_iff.mpr (List.mem_append.mpr (.inr z))
  have nd : fs.Nodup := (List.nodup_append.mp (pm.nodup_iff.mp own.2.1)).2.1
  have noB : ∀ q, q ∈ F i → w3.B q = none := fun q z => by
    obtain ⟨o, ho⟩ := own.1.there q z
    exact (ew.f q o ho).trans (own.2.2 q z).2
  obtain ⟨hp, _⟩ := new fs ts nd fun q z => ⟨(own.2.2 q (inF q z)).1, noB q (inF q z)⟩
  have hB : w3.B p = none := noB p (inF p hp)
  refine ⟨w3.put p o' hB, rfl, Same.refl _, ?_⟩
  refine R.node (w1 := w3.put p o' hB) (s' := s') e hv a0 ew.b (fun fs ts nd no => ?_) (fun q o z => ?_)
  · have no' : ∀ q ∈ fs, en.w0.H q = none ∧ w3.B q = none := fun q z => ⟨(no q z).1, by
      obtain ⟨o, ho⟩ := ts.there q z
      exact (ew.f q o ho).trans (no q z).2⟩
    obtain ⟨hp, k⟩ := new fs ts nd no'
    refine ⟨fun q o z1 z2 => ⟨?_, fun n => (ew.f q o z2).trans n⟩, ?_⟩
    · show upd w3.H p o' q = some o
      rw [upd_ne (fun z => by subst z; exact z1 hp)]; exact ew.h _ _ z2
    · exact k (upd w3.H p o') upd_same fun q o z1 z2 => by rw [upd_ne z1]; exact z2
  · exact (ew.f q o (R0.le.h _ _ z)).trans (R0.le.f q o z)
/-! ### reading -/
def rDG : R2 := fun x y H Q => ∃ a v, x = .ref a ∧ DGet H a y (some v) ∧ Q v H
def rDIn : R2 := fun y x H Q => ∃ a o, x = .ref a ∧ DGet H a y o ∧ Q (.bl o.isSome) H
def rDNotIn : R2 := fun y x H Q => ∃ a o, x = .ref a ∧ DGet H a y o ∧ Q (.bl (!o.isSome)) H
theorem pe_dgetO {X : Cx} {o i : Expr} {pos : Pos} (hu : X.A.units + 64 < cLine) (ho : PE X o td) (hi : PE X i ti) (hs : NoSl i) : PE X (.Subscript o i pos) (tOp rDG td ti) := pe_dget (by omega) ho hi hs
theorem g_dIn {X : Cx} (hu : X.A.units + 64 < cLine) : OpR X (compareOp .In) rDIn := by
  intro pins s σ H x y v u Q I rx ry h
  obtain ⟨a, o, rfl, g, q⟩ := h
  cases (show u = Value.ref a from ry)
  exact L2.d_in (by omega) I g rx fun s' I' => ⟨.bl _, H, I', rfl, q⟩
theorem g_dNotIn {X : Cx} (hu : X.A.units + 64 < cLine) : OpR X (compareOp .NotIn) rDNotIn := by
  intro pins s σ H x y v u Q I rx ry h
  obtain ⟨a, o, rfl, g, q⟩ := h
  cases (show u = Value.ref a from ry)
  exact L2.d_notIn (by omega) I g rx fun s' I' => ⟨.bl _, H, I', rfl, q⟩
inductive TdS : Sl → List (Key × OT) → Prop
  | brt {xs : List (Key × OT)} : TdS (.brt (.dK xs)) xs
  | own {xs : List (Key × OT)} : TdS (.own (.dK xs)) xs
theorem TdS.tr {s : Sl} {xs : List (Key × OT)} {x : V} (l : TdS s xs) (r : SlN K w w' s x) : ∃ a vs fp, x = .ref a ∧ w'.H a = some (.dK vs) ∧ vs.map (·.1) = xs.map (·.1) ∧ TRs K w'.B w'.H (xs.map (·.2)) (vs.map (·.2)) fp := by
  have : ∃ f', TR K w'.B w'.H (.dK xs) x f' := by
    cases l with
    | brt => exact r
    | own => obtain ⟨f, r, _⟩ := r; exact ⟨f, r⟩
  obtain ⟨f', r2⟩ := this
  cases r2 with
  | dK h e r3 => exact ⟨_, _, _, rfl, h, e, r3⟩
theorem x_dget {s : Sl} {k : Key} {sk : Sl} (ek : sk = .val (keyD k)) (h : ∃ xs c, TdS s xs ∧ getO xs k = some c ∧ P (chS c)) : RvP K rDG s sk P := fun w wx x y _ r1 r2 Q q => by
  subst ek
  obtain ⟨xs, c, l, e, p⟩ := h
  have := keyD_v r2
  subst this
  obtain ⟨a, vs, fp, rfl, h1, h2, h3⟩ := l.tr r1
  obtain ⟨u, fs, j, e1, t, _, _⟩ := dget_ok h2 h3 e
  refine ⟨a, u, rfl, .inl ⟨vs, k, .inl h1, rfl, e1.symm⟩, q _ _ wx wx.rfl' p (chS_ok t)⟩
theorem x_din {s : Sl} {k : Key} {sk : Sl} (ek : sk = .val (keyD k)) (h : ∃ xs, TdS s xs ∧ P (.val (.bl (getO xs k).isSome))) : RvP K rDIn sk s P := fun w wx x y _ r1 r2 Q q => by
  subst ek
  obtain ⟨xs, l, p⟩ := h
  have := keyD_v r1
  subst this
  obtain ⟨a, vs, fp, rfl, h1, h2, h3⟩ := l.tr r2
  exact ⟨a, valV vs k, rfl, .inl ⟨vs, k, .inl h1, rfl, rfl⟩, q (.val (.bl _)) _ wx wx.rfl' p (by rw [← dget_some h2]; exact .bl _)⟩
theorem x_dnotin {s : Sl} {k : Key} {sk : Sl} (ek : sk = .val (keyD k)) (h : ∃ xs, TdS s xs ∧ P (.val (.bl (!(getO xs k).isSome)))) : RvP K rDNotIn sk s P := fun w wx x y _ r1 r2 Q q => by
  subst ek
  obtain ⟨xs, l, p⟩ := h
  have := keyD_v r1
  subst this
  obtain ⟨a, vs, fp, rfl, h1, h2, h3⟩ := l.tr r2
  exact ⟨a, valV vs k, rfl, .inl ⟨vs, k, .inl h1, rfl, rfl⟩, q (.val (.bl _)) _ wx wx.rfl' p (by rw [← dget_some h2]; exact .bl _)⟩
/-- list(d) -/
def rListDK : List V → Hp → VK → Prop := fun xs H Q => ∃ (a : Addr) (kvs : List (Key × V)), xs = [.ref a] ∧ Rd H a (.dK kvs) ∧ ∀ p, H p = none → Q (.ref p) (upd H p (.lst (kvs.map fun kv => kV kv.1)))
theorem b_listDK {X : Cx} (hc : X.calm = true) : CallR X (.type "list") rListDK := call_listD hc
theorem dra_keys {B : Hp} : ∀ ks : List Key, DrA K B (ks.map keyD) (ks.map kV)
  | [] => .nil
  | .inl i :: r => .cons (.int i) (dra_keys r)
  | .inr x :: r => .cons (.str x) (dra_keys r)
theorem x_listDK {s : Sl} (h : ∃ xs, TdS s xs ∧ P (.own (oL ((xs.map (·.1)).map keyD)))) : RaP K rListDK [s] P := fun w wx vs e r Q q => by
  obtain ⟨xs, l, p⟩ := h
  cases r with
  | cons r t =>
    cases t
    obtain ⟨a, vs, fp, rfl, h1, h2, h3⟩ := l.tr r
    refine ⟨a, vs, rfl, .inl h1, fun l hl => q _ _ (wx.lay l _ hl) (Wd.le_lay hl) p ?_⟩
    have : (vs.map fun kv => kV kv.1) = ((xs.map (·.1)).map kV) := by rw [← h2, List.map_map]; rfl
    rw [this]
    exact own_new e hl (dra_keys _)
/-! ### a node in a dict -/
theorem en_dK {Pn : Nat → OT → (OT → OT) → Prop} (h : EvN K tb env fun i s f => ∃ xs, s = .dK xs ∧ EvE K ti env fun s2 => ∃ k, s2 = .val (keyD k) ∧ ∃ c, getO xs k = some c ∧ (∀ j : Nat, xs[j]? = some (k, c) → Pn i c (fun x => f (.dK (xs.set j (k, x)))))) : EvN K (tOp rDG tb ti) env Pn := fun en w σ R Q q =>
  h en w σ R _ fun i t s f vr u w1 e1 et hv a p => by
    obtain ⟨xs, rfl, p⟩ := p
    exact p en w1 σ (R.grow e1) _ fun s2 y w2 e2 p2 r2 => by
      obtain ⟨k, rfl, c, hc, p⟩ := p2
      have := keyD_v r2
      subst this
      have a2 := a.mono e2.h
      obtain ⟨fs, tr⟩ := (R.grow (e1.trans e2)).nodeTR et hv a2
      cases tr with
      | @dK pp _ vs fp hp ek rs =>
        obtain ⟨cv, fs, j, hcv, _, j1, j2⟩ := dget_ok ek rs hc
        exact ⟨pp, cv, rfl, .inl ⟨vs, k, .inl hp, rfl, hcv.symm⟩, q i t c _ vr cv w2 (e1.trans e2) et hv (a2.trans (.dK hp j1 j2 .here)) (p j j1)⟩
/-- {} -/
theorem x_newK {te' : TE} (e : te' = tDNewK) (p : P (.own (.dK []))) : EvE K te' env P := by
  subst e
  exact fun en w σ R Q q l hl => q _ _ (w.lay l _ hl) (Wd.le_lay hl) p ⟨[l], .dK upd_same rfl .nil, by simp, fun z hz => by
    have e1 : z = l := by simpa using hz
    subst e1
    exact ⟨hl, (show w.B z = none from Wd.freeB hl)⟩⟩
/-- d[k] = a list of one's own, a new key -/
theorem wp_dputO (h : EvE K te env fun s => ∃ t, s = .own t ∧ EvN K td env fun i s f => ∃ xs, s = .dK xs ∧ EvE K ti env fun s2 => ∃ k, s2 = .val (keyD k) ∧ getO xs k = none ∧ xs.length < 1000000 ∧ Pp.nx (putS env i (f (.dK (xs ++ [(k, t)]))))) :
    Wp K (tAsg te (gSub td ti rSetD)) env Pp := fun en w σ R D hn _ _ _ =>
  h en w σ R _ fun s v w1 e1 p1 r1 => by
    obtain ⟨tn, rfl, p⟩ := p1
    exact p en w1 σ (R.grow e1) _ fun i t s f vr u w2 e2 et hv a p => by
      obtain ⟨xs, rfl, p⟩ := p
      exact p en w2 σ (R.grow (e1.trans e2)) _ fun s3 y w3 e3 p3 r3 => by
        obtain ⟨k, rfl, hk, hl, p⟩ := p3
        have := keyD_v r3
        subst this
        have a3 := a.mono e3.h
        have ew := (e1.trans e2).trans e3
        obtain ⟨fs, ts⟩ := (R.grow ew).nodeTR et hv a3
        obtain ⟨fn, on⟩ := r1
        have on := on.grow (e2.trans e3)
        cases ts with
        | @dK pp _ vs fp hp ek rs =>
          have hn0 : valV vs k = none := by
            have := dget_some (k := k) ek
            rw [hk] at this
            simpa using this
          have hlv : vs.length = xs.length := by simpa using congrArg List.length ek
          refine ⟨pp, _, rfl, .inl ⟨vs, k, hp, rfl, Nat.lt_of_lt_of_le (by rw [hlv]; exact hl) (by decide), rfl⟩, ?_⟩
          obtain ⟨w4, h4, b4, R4⟩ := R.write2 (s' := .dK (xs ++ [(k, tn)])) (o' := .dK (putK vs k v)) ew et hv a3 (fun fs ts nd no => by
            cases ts with
            | @dK _ _ vs' fp' hp' ek' rs' =>
              have hp'' := ew.h _ _ hp'
              rw [hp] at hp''; cases hp''
              have npp : pp ∉ fn := fun z => by rw [(on.2.2 pp z).1] at hp'; cases hp'
              refine ⟨by simp, fun H' q1 q2 => ⟨pp :: (fp' ++ (fn ++ [])), .dK q1 ?_ ?_, ?_, fun q z => ?_⟩⟩
              · rw [putK_new v hn0]; simp [ek']
              · rw [putK_new v hn0, List.map_append, List.map_append]
                refine TRs.append (rs'.mono (H' := H') ew.b fun q o z1 z2 => q2 q o (fun e => by subst e; exact (List.nodup_cons.mp nd).1 z1) (ew.h _ _ z2)) (.cons (on.1.mono (H' := H') (Same.refl _) fun q o z1 z2 => q2 q o (fun e => by subst e; exact npp z1) z2) .nil)
              · rw [List.append_nil]
                have nd' := List.nodup_cons.mp nd
                refine List.nodup_cons.mpr ⟨fun z => ?_, List.nodup_append.mpr ⟨nd'.2, on.2.1, fun x z1 y z2 e => ?_⟩⟩
                · rcases List.mem_append.mp z with z | z
                  · exact nd'.1 z
                  · exact npp z
                · subst e
                  obtain ⟨o, ho⟩ := rs'.there x z1
                  rw [(on.2.2 x z2).1] at ho; cases ho
              · rw [List.append_nil] at z
                have : q ∈ pp :: fp' ∨ q ∈ fn := by
                  rcases List.mem_cons.mp z with z | z
                  · exact .inl (by simp [z])
                  · rcases List.mem_append.mp z with z | z
                    · exact .inl (by simp [z])
                    · exact .inr z
                rcases this with z | z
                · exact ⟨(no q z).1, (no q z).2, .inl z⟩
                · obtain ⟨F, R0⟩ := id R
                  exact ⟨R0.le.h.free (on.2.2 q z).1, (on.2.2 q z).2, .inr (on.2.2 q z).1⟩)
          rw [← h4]
          exact hn w4 σ _ (ew.b.trans b4) R4 p
theorem set_dictO {X : Cx} (hu : X.A.units + 64 < cLine) : PSet X rSetD := set_dict (by omega)
/-! ### enumerate -/
theorem enumD_get : ∀ (ds : List D) (k i : Nat), (enumD k ds)[i]? = (ds[i]?).map fun d => .tup [.int ((k + i : Nat) : Int), d]
  | [], k, i => by simp [enumD]
  | d :: r, k, 0 => by simp [enumD]
  | d :: r, k, i + 1 => by
    rw [enumD, List.getElem?_cons_succ, enumD_get r (k + 1) i, List.getElem?_cons_succ]
    congr 2
    funext d
    rw [show k + 1 + i = k + (i + 1) by omega]
theorem enumD_len : ∀ (ds : List D) (k : Nat), (enumD k ds).length = ds.length
  | [], _ => rfl
  | d :: r, k => by simp [enumD, enumD_len r (k + 1)]
theorem itd_enum {a : Addr} {xs : List V} {ds : List D} {L : Wd → Prop} (h1 : ∀ w, L w → SqL K w.H a xs) (h2 : ∀ w, L w → DrA K w.B ds xs) : ItD K (Ite K a) L (enumD 0 ds) := fun w hw => by
  have s := h1 w hw
  have r := h2 w hw
  refine ⟨fun i d e => ?_, fun i hi => ⟨xs, s, by rw [← r.len, ← enumD_len ds 0]; exact hi⟩⟩
  rw [enumD_get] at e
  cases hd : ds[i]? with
  | none => rw [hd] at e; cases e
  | some d0 =>
    rw [hd] at e; cases e
    obtain ⟨v, hv, rd⟩ := r.get hd
    refine ⟨⟨xs, v, s, hv⟩, fun x H' y => ?_⟩
    obtain ⟨T, x', rfl, hT, rfl, y⟩ := y
    have := y xs s
    rw [hv] at this; cases this
    refine ⟨w.new T _ hT, rfl, Wd.le_new hT, .tup (.inl (.inl upd_same)) (.cons ?_ (.cons (rd.mono (Wd.le_new hT).b) .nil))⟩
    rw [Nat.zero_add]; exact .int _
theorem ei_enum {b : Bool} {Pd : List D → Prop} {i : Nat} {ds : List D} (e : env[i]? = some (.bor ds)) (p : Pd (enumD 0 ds)) : EvI K b (iEnum K (tCons (tVar i) tNil)) env Pd := fun en w σ R Q q => by
  obtain ⟨o, _, h1, _, pp, xs, rfl, h2, r⟩ := R.at e
  exact ⟨.ref pp, h1, pp, xs, rfl, .inl (.inl (R.le.h _ _ h2)), q _ (enumD 0 ds) w w.rfl' p (itd_enum (fun w' l => .inl (.inl ((l.le0 R.le).h _ _ h2))) fun w' l => r.mono l.b)⟩
theorem enum_at {ds : List D} {i : Nat} {d : D} (h : (enumD 0 ds)[i]? = some d) : ∃ d0, ds[i]? = some d0 ∧ d = .tup [.int i, d0] := by
  rw [enumD_get] at h
  cases hd : ds[i]? with
  | none => rw [hd] at h; cases h
  | some d0 => rw [hd] at h; cases h; exact ⟨d0, rfl, by rw [Nat.zero_add]⟩
/-! ### more -/
theorem x_ixTi {ds : List D} {ns : List Int} {k : Int} (e : IL ds ns) (h0 : 0 ≤ k) (h1 : k < ns.length) (p : ∀ v : Int, v ∈ ns → P (.val (.int v))) : RvP K (rIx K) (.val (.tup ds)) (.val (.int k)) P := by
  rw [e.eq]
  refine sixT (atI_ints h0 h1) (p _ ?_)
  rw [List.getD_eq_getElem?_getD, List.getElem?_eq_getElem (by omega)]
  exact List.getElem_mem _
theorem x_ixA {α : Type} {s : Sl} {enc : α → D} {xs : List α} {k : Int} (l : LsS s (xs.map enc)) (h0 : 0 ≤ k) (h1 : k < xs.length) (p : ∀ x, xs[k.toNat]? = some x → P (.val (enc x))) : RvP K (rIx K) s (.val (.int k)) P := by
  have : xs[k.toNat]? = some (xs[k.toNat]'(by omega)) := List.getElem?_eq_getElem _
  exact x_ixE l h0 ⟨_, this, p _ this⟩
def srtd (ks : List Int) : List Int := ks.mergeSort fun a b => decide (a ≤ b)
theorem srt_eq {ks ms : List Int} (hp : ms.Perm ks) (hs : ms.Pairwise (· ≤ ·)) : ms = srtd ks := by
  refine List.Perm.eq_of_pairwise (le := (· ≤ ·)) (fun a b _ _ h1 h2 => Int.le_antisymm h1 h2) hs ?_ (hp.trans (List.mergeSort_perm _ _).symm)
  have := List.pairwise_mergeSort (le := fun a b : Int => decide (a ≤ b)) (fun a b c h1 h2 => by simp only [decide_eq_true_eq] at *; omega) (fun a b => by simp only [Bool.or_eq_true, decide_eq_true_eq]; omega) ks
  exact this.imp fun h => by simpa using h
theorem srtd_len {ks : List Int} : (srtd ks).length = ks.length := (List.mergeSort_perm _ _).length_eq
theorem x_sorted {s : Sl} (h : ∃ ns : List Int, LsS s (ns.map D.int) ∧ P (.own (oL ((srtd ns).map D.int)))) : RaP K (rSortedI K) [s] P := let ⟨_, a, b⟩ := h; ra_sortedI a fun ms h1 h2 => by rw [srt_eq h1 h2]; exact b
theorem any_int (ks : List Int) (k : Int) : ((ks.map D.int).any fun e => eqD e (.int k)) = decide (k ∈ ks) := by
  rw [List.any_map]
  induction ks with
  | nil => rfl
  | cons x r ih =>
    rw [List.any_cons, ih]
    have : eqD (.int x) (.int k) = decide (k = x) := by
      rw [show eqD (.int x) (.int k) = decide (x = k) from rfl]
      by_cases h : x = k
      · simp [h]
      · have h' : ¬ k = x := fun z => h z.symm
        simp [h, h']
    simp only [Function.comp, this, List.mem_cons]
    by_cases h : k = x <;> simp [h]
theorem pl_ints (ks : List Int) : Pl 1 (.lst (ks.map .int)) := .lst 0 _ fun d hd => by
  obtain ⟨r, _, rfl⟩ := List.mem_map.mp hd
  exact .int _ _
theorem d_notInI {s : Sl} {ks : List Int} {k : Int} (l : ToD s (.lst (ks.map .int))) (p : P (.val (.bl (!decide (k ∈ ks))))) : RvP K (rNotInG K) (.val (.int k)) s P :=
  d_notIn 0 1 rfl l (.int _ _) (pl_ints ks) (by decide) (by decide) (by rw [any_int]; exact p)
theorem d_inI {s : Sl} {ks : List Int} {k : Int} (l : ToD s (.lst (ks.map .int))) (p : P (.val (.bl (decide (k ∈ ks))))) : RvP K (rInG K) (.val (.int k)) s P :=
  d_in 0 1 rfl l (.int _ _) (pl_ints ks) (by decide) (by decide) (by rw [any_int]; exact p)
theorem drop_at {α : Type} {xs : List α} {i : Nat} {x : α} (h : xs[i]? = some x) : xs.drop i = x :: xs.drop (i + 1) := by
  obtain ⟨hl, rfl⟩ := List.getElem?_eq_some_iff.mp h
  exact List.drop_eq_getElem_cons hl
theorem eqD_self {n : Nat} {d : D} (h : Pl n d) : eqD d d = true := (eqD_iff h h).mpr rfl
theorem enc_at {α : Type} {enc : α → D} {xs : List α} {i : Nat} {d : D} (h : (xs.map enc)[i]? = some d) : ∃ x, xs[i]? = some x ∧ d = enc x := by
  rw [List.getElem?_map] at h
  cases hx : xs[i]? with
  | none => rw [hx] at h; cases h
  | some x => rw [hx] at h; cases h; exact ⟨x, rfl, rfl⟩
theorem set_key {α : Type} {kvs : List (Key × α)} {j : Nat} {k : Key} {c c' : α} (h : kvs[j]? = some (k, c)) : (kvs.set j (k, c')).map (·.1) = kvs.map (·.1) := by
  induction kvs generalizing j with
  | nil => rfl
  | cons p r ih =>
    cases j with
    | zero => simp at h; subst h; rfl
    | succ j => simp at h; simp [ih h]
theorem getO_set {α : Type} {kvs : List (Key × α)} {j : Nat} {k q : Key} {c c' : α} (nd : (kvs.map (·.1)).Nodup) (h : kvs[j]? = some (k, c)) : getO (kvs.set j (k, c')) q = if q = k then some c' else getO kvs q := by
  induction kvs generalizing j with
  | nil => simp at h
  | cons p r ih =>
    have nd' := List.nodup_cons.mp nd
    cases j with
    | zero =>
      simp at h; subst h
      rw [List.set_cons_zero]
      by_cases e : k = q
      · rw [getO_pos e, if_pos e.symm]
      · rw [getO_neg e, getO_neg e, if_neg fun z => e z.symm]
    | succ j =>
      simp at h
      rw [List.set_cons_succ]
      by_cases e : p.1 = q
      · rw [getO_pos e, getO_pos e]
        have : ¬ q = k := fun z => nd'.1 (List.mem_map.mpr ⟨(k, c), List.mem_of_getElem? h, (z ▸ e.symm : k = p.1)⟩)
        rw [if_neg this]
      · rw [getO_neg e, getO_neg e]; exact ih nd'.2 h
theorem x_keyI {i : Int} {Q : Key → Prop} (h : Q (.inl i)) : ∃ k, Sl.val (.int i) = .val (keyD k) ∧ Q k := ⟨.inl i, rfl, h⟩
theorem x_keyS {i : Str} {Q : Key → Prop} (h : Q (.inr i)) : ∃ k, Sl.val (.str i) = .val (keyD k) ∧ Q k := ⟨.inr i, rfl, h⟩
theorem x_getO {xs : List (Key × OT)} {k : Key} {c : OT} {Q : OT → Prop} (e : getO xs k = some c) (h : Q c) : ∃ c, getO xs k = some c ∧ Q c := ⟨c, e, h⟩
theorem wp_appNL {tr : TE} (h : EvN K tr env fun i s f => ∃ ds, s = oL ds ∧ ds.length < 1000000 ∧ EvE K te env fun s2 => ∃ d, Frz s2 d ∧ Pp.nx (putS env i (f (oL (ds ++ [d]))))) :
    Wp K (tDrop (tBM K "list" rAppend tr (tCons te tNil))) env Pp :=
  wp_appN fun en w σ R Q q => h en w σ R Q fun i t s f vr u w' e1 e2 e3 e4 p => q i t s f vr u w' e1 e2 e3 e4 (by
    obtain ⟨ds, e, hl, p⟩ := p
    exact ⟨ds.map .imm, e, by simpa using hl, p.imp fun s2 ⟨d, fz, z⟩ => ⟨d, fz, by rw [oL_app]; exact z⟩⟩)
theorem en_own {i : Nat} {Pn : Nat → OT → (OT → OT) → Prop} (h : ∃ t, env[i]? = some (.own t) ∧ Pn i t id) : EvN K (tVar i) env Pn := let ⟨_, e, p⟩ := h; en_var (.inl e) p
theorem en_io {i : Nat} {Pn : Nat → OT → (OT → OT) → Prop} (h : ∃ t, env[i]? = some (.io t) ∧ Pn i t id) : EvN K (tVar i) env Pn := let ⟨_, e, p⟩ := h; en_var (.inr e) p
theorem x_dgetI {s : Sl} {k : Int} (h : ∃ xs, TdS s xs ∧ ∃ c, getO xs (.inl k) = some c ∧ P (chS c)) : RvP K rDG s (.val (.int k)) P := let ⟨xs, a, c, b, d⟩ := h; x_dget (k := .inl k) rfl ⟨xs, c, a, b, d⟩
theorem ixN_pos {n : Nat} {k : Int} (h0 : 0 ≤ k) (h1 : k < n) : ixN n k = some k.toNat := by
  unfold ixN
  simp only [h0, h1, if_true, true_and, and_self]
theorem x_ixJ {n : Nat} {k : Int} {Q : Nat → Prop} (h0 : 0 ≤ k) (h1 : k < n) (h : Q k.toNat) : ∃ k' j, Sl.val (.int k) = .val (.int k') ∧ ixN n k' = some j ∧ j < n ∧ Q j := ⟨k, k.toNat, rfl, ixN_pos h0 h1, by omega, h⟩
end
end DL

set_option Elab.async false
set_option linter.all false
set_option maxRecDepth 100000
set_option autoImplicit false
set_option maxHeartbeats 4000000

namespace Law
open PySem L2 DL

def topS (i : Nat) : Stmt := PySem.Challenge.pw_oathcoin_k83_broken_rules.main.body.getD i (.Pass ⟨0, 0, 0, 0⟩)
local macro_rules | `(tactic| walk_at "nrm") => `(tactic| try dsimp only [DL.sets, DL.wipeS, List.foldl_cons, List.foldl_nil, List.set_cons_zero, List.set_cons_succ, List.cons_append, List.nil_append])
local macro_rules | `(tactic| walk_at "init") => `(tactic| ((try dsimp only [L2.cxOf]); simp only [List.cons_append, List.nil_append, List.length_cons, List.length_nil, List.replicate, Nat.reduceAdd, Nat.reduceSub]))
local macro_rules | `(tactic| walk_at "len") => `(tactic| first | (simp only [List.length_map, List.length_append, List.length_cons, List.length_nil, List.length_take]; omega) | (simp; omega) | assumption)
local macro_rules | `(tactic| walk_at "e1") => `(tactic| first
  | with_reducible refine ev_op ?_
  | (with_reducible refine x_val ?_; refine ⟨_, rfl, ?_⟩)
  | (with_reducible refine x_bor ?_; refine ⟨_, rfl, ?_⟩)
  | (with_reducible refine x_own ?_; refine ⟨_, rfl, ?_⟩)
  | (with_reducible refine x_scr ?_; refine ⟨_, rfl, ?_⟩)
  | (with_reducible refine x_brt ?_; refine ⟨_, rfl, ?_⟩)
  | (with_reducible refine x_ownT ?_; refine ⟨_, rfl, ?_⟩)
  | (with_reducible refine x_ioT ?_; refine ⟨_, rfl, ?_⟩)
  | with_reducible refine ev_int ?_
  | with_reducible refine ev_bl ?_
  | with_reducible refine ev_str ?_
  | with_reducible refine ev_non ?_
  | with_reducible refine ev_ty ?_
  | with_reducible refine ev_cb ?_
  | with_reducible refine ev_call ?_
  | with_reducible refine eva_cons ?_
  | with_reducible refine eva_nil ?_
  | with_reducible refine evv_cons ?_
  | with_reducible refine evv_nil ?_
  | with_reducible refine ev_un ?_
  | with_reducible refine d_addI ?_
  | with_reducible refine d_sub ?_
  | (with_reducible refine d_mulR ?_ ?_ ?_; omega; omega)
  | (with_reducible refine d_mulL ?_ ?_ ?_; omega; omega)
  | (with_reducible refine d_div' ?_ ?_ ?_; omega; omega)
  | (with_reducible refine d_divW' ?_ ?_ ?_; omega; omega)
  | (with_reducible refine d_mod ?_ ?_; first | omega | (simp only [List.mem_cons, List.not_mem_nil, or_false] at *; omega))
  | (with_reducible refine x_powE ?_ ?_ ?_ ?_; omega; omega; omega; refine ⟨_, (by simp only [Int.reduceToNat, Int.reducePow]; rfl), ?_⟩)
  | with_reducible refine d_neg ?_
  | with_reducible refine d_eqI ?_
  | with_reducible refine d_neI ?_
  | with_reducible refine d_eqS ?_
  | with_reducible refine d_neS ?_
  | with_reducible refine d_lt ?_
  | with_reducible refine d_le ?_
  | with_reducible refine d_gt ?_
  | with_reducible refine d_ge ?_
  | with_reducible refine rv_isN ?_
  | with_reducible refine rv_notN ?_
  | with_reducible refine d_abs ?_
  | with_reducible refine d_max ?_
  | with_reducible refine d_min ?_
  | with_reducible refine ra_int ?_
  | with_reducible refine ra_intB ?_
  | (with_reducible refine x_lenM (by constructor) ?_)
  | (with_reducible refine x_lenL ?_; refine ⟨_, by constructor, ?_⟩)
  | with_reducible refine ra_lenT ?_
  | (with_reducible refine x_lenTt ?_; refine ⟨_, by constructor, ?_⟩)
  | (with_reducible refine x_isiE ?_; refine ⟨_, _, rfl, by first | exact kk_ii | exact kk_ib | exact kk_tt | exact kk_ll | exact kk_ss | exact kk_it | exact kk_il | exact kk_is | exact kk_bi | exact kk_bb | exact kk_bt | exact kk_bs | exact kk_tl | exact kk_ti | exact kk_tb | exact kk_ts | exact kk_lt | exact kk_si | exact kk_sb | exact kk_st | exact kk_ns, ?_⟩)
  | (with_reducible refine x_sum ?_; refine ⟨_, by constructor, ?_⟩)
  | (with_reducible refine d_ixM3 (by constructor) ?_ ?_ ?_; assumption; omega; intro _ _ _)
  | (with_reducible refine d_ixB3 (by constructor) ?_ ?_ ?_ ?_; assumption; omega; omega; intro _ _ _)
  | (with_reducible refine x_ixDi (by constructor) (by repeat constructor) ?_ ?_ ?_; omega; (simp only [List.length_cons, List.length_nil]; omega); intro _ _)
  | (with_reducible refine x_ixE (by constructor) ?_ ?_; omega; refine ⟨_, by assumption, ?_⟩)
  | (with_reducible refine x_ixA (by constructor) ?_ ?_ ?_; omega; omega; intro _ _)
  | (with_reducible refine x_sorted ?_; refine ⟨_, by constructor, ?_⟩)
  | (with_reducible refine d_notInI ?_ ?_; exact rfl)
  | (with_reducible refine d_inI ?_ ?_; exact rfl)
  | (with_reducible refine x_ixJ ?_ ?_ ?_; omega; (simp only [List.length_map, List.length_set, List.length_cons, List.length_nil]; omega))
  | (with_reducible refine d_addL (by constructor) (by constructor) ?_ ?_; (first | omega | (simp only [List.length_map, List.length_append, List.length_cons, List.length_nil]; omega)))
  | (with_reducible refine x_ixTtL ?_; refine ⟨_, _, by constructor, rfl, ?_⟩)
  | (with_reducible refine x_ixTtI ?_; refine ⟨_, _, by constructor, rfl, ?_⟩)
  | (with_reducible refine x_ixT ?_; refine ⟨_, rfl, ?_⟩)
  | (with_reducible refine x_ixTi (by repeat constructor) ?_ ?_ ?_; omega; (simp only [List.length_cons, List.length_nil]; omega); intro _ _)
  | with_reducible refine x_newK rfl ?_
  | (with_reducible refine x_din (k := .inl _) rfl ?_; refine ⟨_, (by constructor), ?_⟩)
  | (with_reducible refine x_dnotin (k := .inl _) rfl ?_; refine ⟨_, (by constructor), ?_⟩)
  | (with_reducible refine x_dgetI ?_; refine ⟨_, (by constructor), ?_⟩)
  | (with_reducible refine x_getO (by assumption) ?_; first | intro _ _ | skip)
  | with_reducible refine x_keyI ?_
  | with_reducible refine x_keyS ?_
  | (with_reducible refine en_own ?_; refine ⟨_, rfl, ?_⟩)
  | (with_reducible refine en_io ?_; refine ⟨_, rfl, ?_⟩)
  | with_reducible refine en_dK ?_
  | (with_reducible refine x_listDK ?_; refine ⟨_, (by constructor), ?_⟩)
  | with_reducible refine ra_listT ?_
  | with_reducible refine ev_rev ?_
  | with_reducible refine et_test ?_
  | with_reducible refine et_trB ?_
  | with_reducible refine et_and ?_
  | with_reducible refine et_or ?_
  | with_reducible refine et_not ?_
  | with_reducible refine et_yes ?_
  | with_reducible refine ev_if ?_
  | with_reducible refine ev_andV ?_
  | with_reducible refine ev_orV ?_
  | with_reducible refine ev_notV ?_
  | with_reducible refine ev_sl ?_
  | with_reducible refine evo_none ?_
  | with_reducible refine evo_some ?_
  | (with_reducible refine d_slF3 (by constructor) ?_ ?_ ?_; assumption; omega; intro _ _ _)
  | (with_reducible refine x_slFE (by constructor) ?_ ?_; omega)
  | (with_reducible refine x_slTE (by constructor) ?_ ?_; omega)
  | (with_reducible refine x_slL ?_; refine ⟨_, by constructor, ?_⟩)
  | (with_reducible refine x_list ?_; refine ⟨_, by constructor, ?_⟩)
  | (with_reducible refine x_tup ?_; refine ⟨_, by constructor, ?_⟩)
  | with_reducible refine ra_tupT ?_
  | with_reducible refine ra_listT ?_
  | (with_reducible refine x_tupD ?_)
  | (with_reducible refine x_lstD ?_)
  | (with_reducible refine And.intro (Nat.le_of_ble_eq_true rfl) ?_)
  | (with_reducible refine Exists.intro _ (And.intro rfl ?_))
  | (refine Exists.intro _ (And.intro (by first | exact LsS.own | exact LsS.bor | exact LsS.scr) ?_))
  | fail)
local macro_rules | `(tactic| walk_at "s1") => `(tactic| first
  | (with_reducible refine b_ff ?_)
  | (with_reducible refine b_tt ?_)
  | (with_reducible refine b_ff' ?_)
  | (with_reducible refine b_tt' ?_)
  | (with_reducible refine b_nt ?_)
  | (with_reducible refine b_nf ?_)
  | (with_reducible refine b_nt' ?_)
  | (with_reducible refine b_nf' ?_)
  | (with_reducible refine b_fT ?_)
  | (with_reducible refine b_tF ?_)
  | (with_reducible refine wp_seq ?_)
  | (with_reducible refine wp_if ?_)
  | (with_reducible refine x_app ?_; refine ⟨_, rfl, (by walk_at "len"), ?_⟩)
  | (with_reducible refine x_setL ?_; refine ⟨_, rfl, ?_⟩)
  | (with_reducible refine wp_asg ?_)
  | (with_reducible refine wp_appNL ?_)
  | (with_reducible refine wp_dputO ?_)
  | (with_reducible refine wp_asgG ?_)
  | (refine ⟨_, _, rfl, GD.tup2 GD.name GD.name, ?_⟩; walk_at "nrm")
  | (with_reducible refine x_retOwn ?_; refine ⟨_, rfl, ?_⟩)
  | (with_reducible refine x_retT2 ?_; refine ⟨_, rfl, ?_⟩; walk_at "nrm")
  | (with_reducible refine wp_ret ?_)
  | (with_reducible refine wp_next ?_; walk_at "nrm")
  | (with_reducible refine wp_cont ?_)
  | (with_reducible refine wp_break ?_)
  | (with_reducible refine And.intro (StS.val _) ?_; walk_at "nrm")
  | (with_reducible refine And.intro (StS.own _) ?_; walk_at "nrm")
  | (refine Exists.intro _ (And.intro Frz.val ?_); walk_at "nrm")
  | (refine Exists.intro _ (And.intro Frz.oL ?_); walk_at "nrm")
  | fail)
local macro_rules | `(tactic| walk_at "go") => `(tactic| repeat (first | walk_at "e1" | walk_at "s1" | fail))
local macro_rules | `(tactic| walk_at "br") => `(tactic| ((refine And.intro (fun hb => ?_) (fun hb => ?_) <;> try simp only [decide_eq_true_eq, decide_eq_false_iff_not, List.length_map, List.length_cons, List.length_nil, Nat.reduceAdd, Nat.zero_add, Int.reduceEq, Int.reduceNe, not_true_eq_false, not_false_eq_true, Bool.not_eq_true, Bool.not_eq_false, Bool.not_eq_true', Bool.not_eq_false', Bool.not_true, Bool.not_false, reduceCtorEq, Option.isSome_eq_false_iff, Option.isNone_iff_eq_none] at hb) <;> try (exfalso; omega)))
local macro_rules | `(tactic| walk_at "run") => `(tactic| repeat' (first | walk_at "e1" | walk_at "s1" | walk_at "br" | fail))
local macro_rules | `(tactic| walk_at "asg") => `(tactic| (refine wp_seq ?_; refine wp_asg ?_; (repeat walk_at "e1"); refine And.intro (by constructor) ?_; walk_at "nrm"))


structure Bl (mg : Str → Option Value) : Prop where
  len' : mg "len" = none
  range' : mg "range" = none
  int' : mg "int" = none
  abs' : mg "abs" = none
  enumerate' : mg "enumerate" = none
  sorted' : mg "sorted" = none
  list' : mg "list" = none
  tuple' : mg "tuple" = none
  isinstance' : mg "isinstance" = none
  bool' : mg "bool" = none
  str' : mg "str" = none

/-! ### _law_cell -/
abbrev s_ulaw_cell : Stmt := topS 6
abbrev N_ulaw_cell : List Str := ["script", "k"]
theorem sc_ulaw_cell : FnScope N_ulaw_cell ["script", "k"] (defScope s_ulaw_cell) := ⟨rfl, rfl, rfl, by decide +kernel, rfl, by decide +kernel, by decide +kernel⟩

def sp_ulaw_cell : SpD := fun as R => ∃ (ns : List Int) (k : Int), as = [.scr (ns.map .int), .val (.int k)] ∧ 0 ≤ k ∧ R (.val (.int (ns.getD k.toNat 0)))
theorem ok_ulaw_cell {Pr : Program} {wd : World} {K : PySem.W.Frag} {mg : Str → Option Value} {base : Heap} (z : Bl mg)  {f : Addr} {fd : FuncData} (F : Fun K "_law_cell" "_law_cell" s_ulaw_cell f fd) : FnOk Pr wd K mg base CX0 1 f fd ["script", "k"] (spD K sp_ulaw_cell) := by
  refine okD F sc_ulaw_cell (fun as R h => ?_) (fun cdv A outer s H E hr => ⟨_, (pss_cons (ps_if (pt_cmpR g_lt (pv 1) (pe_callB (b_len (K := K)) (by rfl) z.len' (by decide +kernel) (pa_cons (pv 0) pa_nil)) (nomark _))
      (pss_one (ps_ret (pe_ix (g_ix (K := K)) (pv 0) (pv 1) (fun _ _ => rfl))))
      pss_nil)
      (pss_one (ps_ret pe_int))), fun as R h => ?_⟩)
  · obtain ⟨_, _, rfl, _⟩ := h; rfl
  · obtain ⟨ns, k, rfl, h0, h⟩ := h
    walk_at "init"
    walk_at "go"
    walk_at "br"
    · rename_i hb
      walk_at "go"
      rename_i x hx
      rw [List.getD_eq_getElem?_getD, hx] at h
      exact h
    · rename_i hb
      walk_at "go"
      rw [List.getD_eq_getElem?_getD, List.getElem?_eq_none (by omega)] at h
      exact h
local macro_rules | `(tactic| walk_at "e1") => `(tactic| ((with_reducible show ∃ ts, Paired Co _ ts ∧ sp_ulaw_cell ts _); refine ⟨_, .cons (by first | exact .scr | exact .borS) (.cons .val .nil), _, _, rfl, by omega, ?_⟩))

/-! ### _law_numbers -/
abbrev s_ulaw_numbers : Stmt := topS 7
abbrev N_ulaw_numbers : List Str := ["cell", "many", "rest", "size", "numbers", "k", "mixed"]
theorem sc_ulaw_numbers : FnScope N_ulaw_numbers ["cell", "many"] (defScope s_ulaw_numbers) := ⟨rfl, rfl, rfl, by decide +kernel, rfl, by decide +kernel, by decide +kernel⟩
def I_numbers (c m : Int) (i : Nat) (env : List Sl) : Prop := ∃ (r sz : Int) (ns : List Int) (s5 s6 : Sl), env = [.val (.int c), .val (.int m), .val (.int r), .val (.int sz), .own (oL (ns.map .int)), s5, s6] ∧ 0 ≤ r ∧ ns.length = i ∧ ∀ n ∈ ns, 0 ≤ n ∧ n < 1000
theorem I_numbers_put {c m r sz x : Int} {ns : List Int} {s5 s6 : Sl} {i : Nat} (hr : 0 ≤ r) (hl : ns.length = i) (hn : ∀ n ∈ ns, 0 ≤ n ∧ n < 1000) (hx : 0 ≤ x ∧ x < 1000) : I_numbers c m (i + 1) [.val (.int c), .val (.int m), .val (.int r), .val (.int sz), .own (oL (ns.map .int ++ [.int x])), s5, s6] :=
  ⟨r, sz, ns ++ [x], s5, s6, by simp, hr, by simp [hl], fun n h => by
    rcases List.mem_append.mp h with h | h
    · exact hn n h
    · simp at h; subst h; exact hx⟩
def sp_ulaw_numbers : SpD := fun as R => ∃ (c m : Int), as = [.val (.int c), .val (.int m)] ∧ 0 ≤ m ∧ m ≤ 1000 ∧ ∀ ns : List Int, ns.length = m.toNat → (∀ n ∈ ns, 0 ≤ n ∧ n < 1000) → R (.own (oL (ns.map .int)))
theorem ok_ulaw_numbers {Pr : Program} {wd : World} {K : PySem.W.Frag} {mg : Str → Option Value} {base : Heap} (z : Bl mg)  {f : Addr} {fd : FuncData} (F : Fun K "_law_numbers" "_law_numbers" s_ulaw_numbers f fd) : FnOk Pr wd K mg base CX0 1 f fd ["cell", "many"] (spD K sp_ulaw_numbers) := by
  refine okD F sc_ulaw_numbers (fun as R h => ?_) (fun cdv A outer s H E hr => ⟨_, (pss_cons (ps_set (i := 2) sc_ulaw_numbers.nd rfl (by first | exact Or.inl rfl | exact Or.inr rfl) (pe_callB b_abs (by rfl) z.abs' (by decide +kernel) (pa_cons (pv 0) pa_nil)))
      (pss_cons (ps_set (i := 3) sc_ulaw_numbers.nd rfl (by first | exact Or.inl rfl | exact Or.inr rfl) (pv 2))
      (pss_cons (ps_set (i := 4) sc_ulaw_numbers.nd rfl (by first | exact Or.inl rfl | exact Or.inr rfl) (pe_lst pa_nil))
      (pss_cons (ps_for PassesOwn.never rfl (pi_range1 (by rfl) z.range' (pa_cons (pv 1) pa_nil)) (pg_name (i := 5) sc_ulaw_numbers.nd rfl (by first | exact Or.inl rfl | exact Or.inr rfl))
      (pss_one (ps_if (PW.pt (pw_and (pt_cmpR g_ge (pv 3) (pe_op g_pow pe_int pe_int) (nomark _)) (pw_and1 (pt_cmpR g_gt (pv 2) pe_int (nomark _)))))
      (pss_cons (ps_expr (pe_bm PySem.F.plainAttrs_list PySem.F.slot_list_append PySem.F.type_list_append mt_append (pv 4) (pa_cons (pe_op g_mod (pe_callTy b_int (by rfl) z.int' (by decide +kernel) (pa_cons (pv 2) pa_nil)) pe_int) pa_nil)))
      (pss_one (ps_set (i := 2) sc_ulaw_numbers.nd rfl (by first | exact Or.inl rfl | exact Or.inr rfl) (pe_op g_div (pv 2) pe_int))))
      (pss_cons (ps_set (i := 6) sc_ulaw_numbers.nd rfl (by first | exact Or.inl rfl | exact Or.inr rfl) (pe_op g_mod (pe_callTy b_int (by rfl) z.int' (by decide +kernel) (pa_cons (pe_op (g_add (K := K)) (pe_op (g_add (K := K)) (pe_op g_mul (pv 3) pe_int) (pe_op g_mul (pv 5) pe_int)) pe_int) pa_nil)) pe_int))
      (pss_cons (ps_set (i := 6) sc_ulaw_numbers.nd rfl (by first | exact Or.inl rfl | exact Or.inr rfl) (pe_op g_mod (pe_callTy b_int (by rfl) z.int' (by decide +kernel) (pa_cons (pe_op (g_add (K := K)) (pe_op (g_add (K := K)) (pe_op g_mul (pv 6) (pv 6)) (pe_op g_mul pe_int (pv 5))) pe_int) pa_nil)) pe_int))
      (pss_one (ps_expr (pe_bm PySem.F.plainAttrs_list PySem.F.slot_list_append PySem.F.type_list_append mt_append (pv 4) (pa_cons (pe_op g_mod (pe_callTy b_int (by rfl) z.int' (by decide +kernel) (pa_cons (pe_op g_div (pv 6) pe_int) pa_nil)) pe_int) pa_nil)))))))))
      (pss_one (ps_ret (pv 4))))))), fun as R h => ?_⟩)
  · obtain ⟨_, _, rfl, _⟩ := h; rfl
  · obtain ⟨c, m, rfl, h0, h1, h⟩ := h
    walk_at "init"
    walk_at "go"
    refine wp_for (I_numbers c m) (rngD 0 m.toNat) ?_ ?_ ?_ ?_
    · refine ei_rng1 ?_
      walk_at "go"
      exact ⟨by omega, by omega, rfl⟩
    · exact ⟨_, _, [], _, _, rfl, by split <;> omega, rfl, by simp⟩
    · rintro i d env' hd ⟨r, sz, ns, s5, s6, rfl, hr0, hl, hn⟩
      obtain ⟨hi, rfl⟩ := rng_at hd
      refine ⟨_, .name, ?_⟩
      walk_at "nrm"
      walk_at "go"
      walk_at "br"
      · walk_at "go"
        walk_at "br"
        · walk_at "go"
          refine I_numbers_put ?_ hl hn ⟨?_, ?_⟩
          · exact Int.ediv_nonneg hr0 (by decide)
          · omega
          · omega
        · walk_at "go"
          exact I_numbers_put hr0 hl hn ⟨by omega, by omega⟩
      · walk_at "go"
        exact I_numbers_put hr0 hl hn ⟨by omega, by omega⟩
    · rintro env' ⟨r, sz, ns, s5, s6, rfl, _, hl, hn⟩
      rw [rng_len] at hl
      walk_at "nrm"
      walk_at "go"
      exact h ns hl hn
local macro_rules | `(tactic| walk_at "e1") => `(tactic| ((with_reducible show ∃ ts, Paired Co _ ts ∧ sp_ulaw_numbers ts _); refine ⟨_, .cons .val (.cons .val .nil), _, _, rfl, by omega, by omega, fun _ _ _ => ?_⟩))

/-! ### goes_around -/
abbrev s_goes_around : Stmt := topS 1
abbrev N_goes_around : List Str := ["first", "second"]
theorem sc_goes_around : FnScope N_goes_around ["first", "second"] (defScope s_goes_around) := ⟨rfl, rfl, rfl, by decide +kernel, rfl, by decide +kernel, by decide +kernel⟩
abbrev Vote := Int × Int × Int × Int
abbrev encV (v : Vote) : D := .tup [.int v.1, .int v.2.1, .int v.2.2.1, .int v.2.2.2]
def gaF (a b : Vote) : Bool := decide (a.2.1 < b.2.1) && decide (b.2.2.2 < a.2.2.2)
def sp_goes_around : SpD := fun as R => ∃ (a b : Vote), as = [.val (encV a), .val (encV b)] ∧ R (.val (.bl (gaF a b)))
theorem ok_goes_around {Pr : Program} {wd : World} {K : PySem.W.Frag} {mg : Str → Option Value} {base : Heap} (z : Bl mg)  {f : Addr} {fd : FuncData} (F : Fun K "goes_around" "goes_around" s_goes_around f fd) : FnOk Pr wd K mg base CX0 1 f fd ["first", "second"] (spD K sp_goes_around) := by
  refine okD F sc_goes_around (fun as R h => ?_) (fun cdv A outer s H E hr => ⟨_, (pss_one (ps_ret (pe_and (pe_cmpR g_lt (pe_ix (g_ix (K := K)) (pv 0) pe_int (fun _ _ => rfl)) (pe_ix (g_ix (K := K)) (pv 1) pe_int (fun _ _ => rfl)) (nomark _)) (pe_one (pe_cmpR g_lt (pe_ix (g_ix (K := K)) (pv 1) pe_int (fun _ _ => rfl)) (pe_ix (g_ix (K := K)) (pv 0) pe_int (fun _ _ => rfl)) (nomark _)))))), fun as R h => ?_⟩)
  · obtain ⟨_, _, rfl, _⟩ := h; rfl
  · obtain ⟨a, b, rfl, h⟩ := h
    walk_at "init"
    walk_at "run"
    · rw [gaF, decide_eq_true (by assumption), Bool.true_and] at h
      exact h
    · rw [gaF, decide_eq_false (by assumption), Bool.false_and] at h
      exact h
local macro_rules | `(tactic| walk_at "e1") => `(tactic| ((with_reducible show ∃ ts, Paired Co _ ts ∧ sp_goes_around ts _); refine ⟨_, .cons .val (.cons .val .nil), _, _, rfl, ?_⟩))

/-! ### breaks -/
abbrev s_breaks : Stmt := topS 2
abbrev N_breaks : List Str := ["first", "second"]
theorem sc_breaks : FnScope N_breaks ["first", "second"] (defScope s_breaks) := ⟨rfl, rfl, rfl, by decide +kernel, rfl, by decide +kernel, by decide +kernel⟩
def brF (a b : Vote) : D := if ¬ a.1 = b.1 then .non else if a.2.2.2 = b.2.2.2 then .str "twice" else if gaF a b = true ∨ gaF b a = true then .str "around" else .non
def sp_breaks : SpD := fun as R => ∃ (a b : Vote), as = [.val (encV a), .val (encV b)] ∧ R (.val (brF a b))
theorem ok_breaks {Pr : Program} {wd : World} {K : PySem.W.Frag} {mg : Str → Option Value} {base : Heap} (z : Bl mg) (c_goes_around : Cal Pr wd K mg base "goes_around" 1 ["first", "second"] (spD K sp_goes_around)) {f : Addr} {fd : FuncData} (F : Fun K "breaks" "breaks" s_breaks f fd) : FnOk Pr wd K mg base CX0 2 f fd ["first", "second"] (spD K sp_breaks) := by
  refine okD F sc_breaks (fun as R h => ?_) (fun cdv A outer s H E hr => ⟨_, (pss_cons (ps_if (pt_cmpR (g_ne (K := K) (hu64 hr)) (pe_ix (g_ix (K := K)) (pv 0) pe_int (fun _ _ => rfl)) (pe_ix (g_ix (K := K)) (pv 1) pe_int (fun _ _ => rfl)) (nomark _))
      (pss_one (ps_ret pe_non))
      pss_nil)
      (pss_cons (ps_if (pt_cmpR (g_eq (K := K) (hu64 hr)) (pe_ix (g_ix (K := K)) (pv 0) pe_int (fun _ _ => rfl)) (pe_ix (g_ix (K := K)) (pv 1) pe_int (fun _ _ => rfl)) (nomark _))
      (pss_one (ps_ret pe_str))
      pss_nil)
      (pss_cons (ps_if (PW.pt (pw_or (pt_tr (K := K) (pe_cal c_goes_around (hr.mono (by decide)) (by rfl) (pa_cons (pv 0) (pa_cons (pv 1) pa_nil))) (by intro _; rfl)) (pw_or1 (pt_tr (K := K) (pe_cal c_goes_around (hr.mono (by decide)) (by rfl) (pa_cons (pv 1) (pa_cons (pv 0) pa_nil))) (by intro _; rfl)))))
      (pss_one (ps_ret pe_str))
      pss_nil)
      (pss_one (ps_ret pe_non))))), fun as R h => ?_⟩)
  · obtain ⟨_, _, rfl, _⟩ := h; rfl
  · obtain ⟨a, b, rfl, h⟩ := h
    unfold brF at h
    walk_at "init"
    walk_at "run"
    all_goals (simp [*] at h; exact h)
local macro_rules | `(tactic| walk_at "e1") => `(tactic| ((with_reducible show ∃ ts, Paired Co _ ts ∧ sp_breaks ts _); refine ⟨_, .cons .val (.cons .val .nil), _, _, rfl, ?_⟩))

/-! ### first_break -/
abbrev s_first_break : Stmt := topS 3
abbrev N_first_break : List Str := ["votes", "index", "first", "second"]
theorem sc_first_break : FnScope N_first_break ["votes"] (defScope s_first_break) := ⟨rfl, rfl, rfl, by decide +kernel, rfl, by decide +kernel, by decide +kernel⟩
def brk (a b : Vote) : Bool := !isNon (brF a b)
def fbF : List Vote → Option (Vote × Vote)
  | [] => none
  | v :: r => match r.find? (brk v) with
    | some s => some (v, s)
    | none => fbF r
def fbD : Option (Vote × Vote) → D
  | none => .non
  | some (a, b) => .tup [encV a, encV b]
theorem fb_some {v s : Vote} {r : List Vote} (h : r.find? (brk v) = some s) : fbF (v :: r) = some (v, s) := by rw [fbF, h]
theorem fb_none {v : Vote} {r : List Vote} (h : r.find? (brk v) = none) : fbF (v :: r) = fbF r := by rw [fbF, h]
def sp_first_break : SpD := fun as R => ∃ (vs : List Vote), as = [.bor (vs.map encV)] ∧ vs.length ≤ 1000 ∧ R (.val (fbD (fbF vs)))
theorem ok_first_break {Pr : Program} {wd : World} {K : PySem.W.Frag} {mg : Str → Option Value} {base : Heap} (z : Bl mg) (c_breaks : Cal Pr wd K mg base "breaks" 2 ["first", "second"] (spD K sp_breaks)) {f : Addr} {fd : FuncData} (F : Fun K "first_break" "first_break" s_first_break f fd) : FnOk Pr wd K mg base CX0 3 f fd ["votes"] (spD K sp_first_break) := by
  refine okD F sc_first_break (fun as R h => ?_) (fun cdv A outer s H E hr => ⟨_, (pss_cons (ps_for PassesOwn.never rfl (pi_enum (by rfl) z.enumerate' (pa_cons (pv 0) pa_nil)) (pg_tupK (K := K) (n := 2) rfl (pgs_cons (pg_name (i := 1) sc_first_break.nd rfl (by first | exact Or.inl rfl | exact Or.inr rfl)) (pgs_cons (pg_name (i := 2) sc_first_break.nd rfl (by first | exact Or.inl rfl | exact Or.inr rfl)) pgs_nil)))
      (pss_one (ps_for PassesOwn.never rfl (pi_seqK (K := K) (pe_slice (g_sl (K := K)) (pv 0) (po_some (pe_op (g_add (K := K)) (pv 1) pe_int)) po_none)) (pg_name (i := 3) sc_first_break.nd rfl (by first | exact Or.inl rfl | exact Or.inr rfl))
      (pss_one (ps_if (pt_cmpR g_isnot (pe_cal c_breaks (hr.mono (by decide)) (by rfl) (pa_cons (pv 2) (pa_cons (pv 3) pa_nil))) pe_non (nomark _))
      (pss_one (ps_ret (pe_tup (pa_cons (pv 2) (pa_cons (pv 3) pa_nil)))))
      pss_nil)))))
      (pss_one (ps_ret pe_non))), fun as R h => ?_⟩)
  · obtain ⟨_, rfl, _⟩ := h; rfl
  · obtain ⟨vs, rfl, hl, h⟩ := h
    walk_at "init"
    walk_at "run"
    refine wp_for (fun i e => fbF vs = fbF (vs.drop i) ∧ ∃ s1 s2 s3, e = [.bor (vs.map encV), s1, s2, s3]) (enumD 0 (vs.map encV)) (ei_enum rfl rfl) ⟨rfl, _, _, _, rfl⟩ ?_ ?_
    · rintro i d env' hd ⟨hf, s1, s2, s3, rfl⟩
      obtain ⟨d0, hd0, rfl⟩ := enum_at hd
      obtain ⟨v, hv, rfl⟩ := enc_at hd0
      rw [drop_at hv] at hf
      refine ⟨_, .tup2 .name .name, ?_⟩
      walk_at "nrm"
      refine wp_for (fun j e => ((vs.drop (i + 1)).drop j).find? (brk v) = (vs.drop (i + 1)).find? (brk v) ∧ ∃ s3, e = [.bor (vs.map encV), .val (.int i), .val (encV v), s3]) ((vs.drop (i + 1)).map encV) (ei_val ?_) ⟨rfl, _, rfl⟩ ?_ ?_
      · walk_at "run"
        rw [show ((i : Int) + 1).toNat = i + 1 by omega]
      · rintro j d env' hd ⟨hg, s3, rfl⟩
        obtain ⟨q, hq, rfl⟩ := enc_at hd
        rw [drop_at hq] at hg
        refine ⟨_, .name, ?_⟩
        walk_at "nrm"
        walk_at "run"
        · rename_i hb
          have hb : brk v q = true := by unfold brk; rw [hb]; rfl
          rw [List.find?_cons, hb] at hg
          rw [hf, fb_some hg.symm] at h
          exact h
        · rename_i hb
          have hb : brk v q = false := by unfold brk; rw [hb]; rfl
          rw [List.find?_cons, hb] at hg
          exact ⟨hg, _, rfl⟩
      · rintro env' ⟨hg, s3, rfl⟩
        walk_at "nrm"
        walk_at "run"
        rw [List.length_map, List.drop_length] at hg
        exact ⟨by rw [hf, fb_none hg.symm], _, _, _, rfl⟩
    · rintro env' ⟨hf, s1, s2, s3, rfl⟩
      rw [enumD_len, List.length_map, List.drop_length] at hf
      walk_at "nrm"
      walk_at "run"
      rw [hf] at h
      exact h
local macro_rules | `(tactic| walk_at "e1") => `(tactic| ((with_reducible show ∃ ts, Paired Co _ ts ∧ sp_first_break ts _); refine ⟨_, .cons (by first | exact .bor | exact .own | exact .brtB | exact .valB) .nil, _, rfl, by omega, ?_⟩))

/-! ### _law_word -/
abbrev s_ulaw_word : Stmt := topS 10
abbrev N_ulaw_word : List Str := ["one", "two", "small", "large"]
theorem sc_ulaw_word : FnScope N_ulaw_word ["one", "two"] (defScope s_ulaw_word) := ⟨rfl, rfl, rfl, by decide +kernel, rfl, by decide +kernel, by decide +kernel⟩
def wdF (a b : Vote) : D := if ¬ a.1 = b.1 then .non else if a.2.2.2 = b.2.2.2 then .str "twice" else if (if b.2.2.2 < a.2.2.2 then a.2.1 < b.2.1 else b.2.1 < a.2.1) then .str "around" else .non
theorem wd_br (a b : Vote) : wdF a b = brF a b := by
  unfold wdF brF gaF
  by_cases h1 : a.1 = b.1
  · by_cases h2 : a.2.2.2 = b.2.2.2
    · simp [h1, h2]
    · simp only [h1, h2, not_true_eq_false, if_false, Bool.and_eq_true, decide_eq_true_eq]
      have : (if b.2.2.2 < a.2.2.2 then a.2.1 < b.2.1 else b.2.1 < a.2.1) ↔ (a.2.1 < b.2.1 ∧ b.2.2.2 < a.2.2.2 ∨ b.2.1 < a.2.1 ∧ a.2.2.2 < b.2.2.2) := by
        split <;> omega
      simp only [this]
  · simp [h1]
def sp_ulaw_word : SpD := fun as R => ∃ (a b : Vote), as = [.val (encV a), .val (encV b)] ∧ R (.val (brF a b))
theorem ok_ulaw_word {Pr : Program} {wd : World} {K : PySem.W.Frag} {mg : Str → Option Value} {base : Heap} (z : Bl mg)  {f : Addr} {fd : FuncData} (F : Fun K "_law_word" "_law_word" s_ulaw_word f fd) : FnOk Pr wd K mg base CX0 1 f fd ["one", "two"] (spD K sp_ulaw_word) := by
  refine okD F sc_ulaw_word (fun as R h => ?_) (fun cdv A outer s H E hr => ⟨_, (pss_cons (ps_if (pt_cmpR (g_ne (K := K) (hu64 hr)) (pe_ix (g_ix (K := K)) (pv 0) pe_int (fun _ _ => rfl)) (pe_ix (g_ix (K := K)) (pv 1) pe_int (fun _ _ => rfl)) (nomark _))
      (pss_one (ps_ret pe_non))
      pss_nil)
      (pss_cons (ps_if (pt_cmpR (g_eq (K := K) (hu64 hr)) (pe_ix (g_ix (K := K)) (pv 0) pe_int (fun _ _ => rfl)) (pe_ix (g_ix (K := K)) (pv 1) pe_int (fun _ _ => rfl)) (nomark _))
      (pss_one (ps_ret pe_str))
      pss_nil)
      (pss_cons (ps_set (i := 2) sc_ulaw_word.nd rfl (by first | exact Or.inl rfl | exact Or.inr rfl) (pv 0))
      (pss_cons (ps_set (i := 3) sc_ulaw_word.nd rfl (by first | exact Or.inl rfl | exact Or.inr rfl) (pv 1))
      (pss_cons (ps_if (pt_cmpR g_lt (pe_ix (g_ix (K := K)) (pv 1) pe_int (fun _ _ => rfl)) (pe_ix (g_ix (K := K)) (pv 0) pe_int (fun _ _ => rfl)) (nomark _))
      (pss_cons (ps_set (i := 2) sc_ulaw_word.nd rfl (by first | exact Or.inl rfl | exact Or.inr rfl) (pv 1))
      (pss_one (ps_set (i := 3) sc_ulaw_word.nd rfl (by first | exact Or.inl rfl | exact Or.inr rfl) (pv 0))))
      pss_nil)
      (pss_cons (ps_if (pt_cmpR g_lt (pe_ix (g_ix (K := K)) (pv 3) pe_int (fun _ _ => rfl)) (pe_ix (g_ix (K := K)) (pv 2) pe_int (fun _ _ => rfl)) (nomark _))
      (pss_one (ps_ret pe_str))
      pss_nil)
      (pss_one (ps_ret pe_non)))))))), fun as R h => ?_⟩)
  · obtain ⟨_, _, rfl, _⟩ := h; rfl
  · obtain ⟨a, b, rfl, h⟩ := h
    rw [← wd_br] at h
    unfold wdF at h
    walk_at "init"
    walk_at "run"
    all_goals (simp [*] at h; exact h)
local macro_rules | `(tactic| walk_at "e1") => `(tactic| ((with_reducible show ∃ ts, Paired Co _ ts ∧ sp_ulaw_word ts _); refine ⟨_, .cons .val (.cons .val .nil), _, _, rfl, ?_⟩))

/-! ### guilty -/
abbrev s_guilty : Stmt := topS 4
abbrev N_guilty : List Str := ["votes", "cast", "vote", "found", "key", "pair"]
theorem sc_guilty : FnScope N_guilty ["votes"] (defScope s_guilty) := ⟨rfl, rfl, rfl, by decide +kernel, rfl, by decide +kernel, by decide +kernel⟩
def keysF (vs : List Vote) : List Int := vs.foldl (fun ks v => if v.1 ∈ ks then ks else ks ++ [v.1]) []
theorem keysF_snoc (p : List Vote) (v : Vote) : keysF (p ++ [v]) = if v.1 ∈ keysF p then keysF p else keysF p ++ [v.1] := by
  unfold keysF; rw [List.foldl_append]; rfl
theorem keysF_nd (p : List Vote) : (keysF p).Nodup := by
  suffices ∀ (q : List Vote) (ks : List Int), ks.Nodup → (q.foldl (fun ks v => if v.1 ∈ ks then ks else ks ++ [v.1]) ks).Nodup from this p [] (by simp)
  intro q
  induction q with
  | nil => intro ks h; exact h
  | cons v r ih =>
    intro ks h
    rw [List.foldl_cons]
    refine ih _ ?_
    split
    · exact h
    · rename_i n
      refine List.nodup_append.mpr ⟨h, by simp, fun a ha b hb e => ?_⟩
      simp at hb; subst hb; subst e; exact n ha
theorem keysF_mem (p : List Vote) : ∀ v ∈ p, v.1 ∈ keysF p := by
  suffices ∀ (q : List Vote) (ks : List Int), (∀ k ∈ ks, k ∈ q.foldl (fun ks v => if v.1 ∈ ks then ks else ks ++ [v.1]) ks) ∧ ∀ v ∈ q, v.1 ∈ q.foldl (fun ks v => if v.1 ∈ ks then ks else ks ++ [v.1]) ks from (this p []).2
  intro q
  induction q with
  | nil => intro ks; exact ⟨fun k h => h, by simp⟩
  | cons v r ih =>
    intro ks
    rw [List.foldl_cons]
    have := ih (if v.1 ∈ ks then ks else ks ++ [v.1])
    refine ⟨fun k h => this.1 k (by split <;> simp [h]), fun u hu => ?_⟩
    rcases List.mem_cons.mp hu with rfl | hu
    · exact this.1 _ (by split <;> simp [*])
    · exact this.2 u hu
theorem keysF_le (p : List Vote) : (keysF p).length ≤ p.length := by
  suffices ∀ (q : List Vote) (ks : List Int), (q.foldl (fun ks v => if v.1 ∈ ks then ks else ks ++ [v.1]) ks).length ≤ ks.length + q.length by
    have := this p []; simp only [List.length_nil, Nat.zero_add] at this; exact this
  intro q
  induction q with
  | nil => intro ks; simp
  | cons v r ih =>
    intro ks
    rw [List.foldl_cons]
    refine Nat.le_trans (ih _) ?_
    split <;> simp <;> omega
def ownF (vs : List Vote) (k : Int) : List Vote := vs.filter fun v => decide (v.1 = k)
theorem ownF_nil {p : List Vote} {k : Int} (h : ¬ k ∈ keysF p) : ownF p k = [] := by
  unfold ownF
  refine List.filter_eq_nil_iff.mpr fun v hv e => h ?_
  have := keysF_mem p v hv
  simp at e; rw [e] at this; exact this
theorem ownF_snoc (p : List Vote) (v : Vote) (k : Int) : ownF (p ++ [v]) k = ownF p k ++ if v.1 = k then [v] else [] := by
  unfold ownF; rw [List.filter_append]; by_cases h : v.1 = k <;> simp [h]
def Cst (ks : List Int) (p : List Vote) (kvs : List (Key × OT)) : Prop := kvs.map (·.1) = ks.map .inl ∧ ∀ k, getO kvs (.inl k) = if k ∈ ks then some (oL ((ownF p k).map encV)) else none
theorem Cst.len {ks : List Int} {p : List Vote} {kvs : List (Key × OT)} (c : Cst ks p kvs) : kvs.length = ks.length := by simpa using congrArg List.length c.1
theorem Cst.new {p : List Vote} {v : Vote} {kvs : List (Key × OT)} (c : Cst (keysF p) p kvs) (h : ¬ v.1 ∈ keysF p) : Cst (keysF (p ++ [v])) p (kvs ++ [(.inl v.1, oL [])]) := by
  rw [keysF_snoc, if_neg h]
  refine ⟨by rw [List.map_append, c.1]; simp, fun k => ?_⟩
  rw [getO_snoc (by rw [c.2, if_neg h]), c.2]
  by_cases e : k = v.1
  · subst e; simp [ownF_nil h]
  · have : ¬ (Sum.inl k : Key) = Sum.inl v.1 := fun z => e (Sum.inl.inj z)
    simp [e]
theorem Cst.same {p : List Vote} {v : Vote} {kvs : List (Key × OT)} (c : Cst (keysF p) p kvs) (h : v.1 ∈ keysF p) : Cst (keysF (p ++ [v])) p kvs := by
  rw [keysF_snoc, if_pos h]; exact c
theorem Cst.at {p : List Vote} {v : Vote} {kvs : List (Key × OT)} (c : Cst (keysF (p ++ [v])) p kvs) : getO kvs (.inl v.1) = some (oL ((ownF p v.1).map encV)) := by
  rw [c.2, if_pos (keysF_mem _ v (by simp))]
theorem Cst.put {p : List Vote} {v : Vote} {kvs : List (Key × OT)} {j : Nat} {x : OT} (c : Cst (keysF (p ++ [v])) p kvs) (h : kvs[j]? = some (.inl v.1, x)) : Cst (keysF (p ++ [v])) (p ++ [v]) (kvs.set j (.inl v.1, oL ((ownF p v.1).map encV ++ [encV v]))) := by
  refine ⟨by rw [set_key h]; exact c.1, fun k => ?_⟩
  rw [getO_set (by rw [c.1]; exact (keysF_nd _).map _ fun a b n e => n (Sum.inl.inj e)) h, c.2, ownF_snoc]
  by_cases e : k = v.1
  · subst e; simp [keysF_mem (p ++ [v]) v (by simp)]
  · have e' : ¬ v.1 = k := fun z => e z.symm
    simp [e, e']
abbrev Row := Int × Vote × Vote
abbrev encR (r : Row) : D := .tup [.int r.1, encV r.2.1, encV r.2.2]
def rowF (vs : List Vote) (k : Int) : List Row := match fbF (ownF vs k) with
  | none => []
  | some (a, b) => [(k, a, b)]
def duF (vs : List Vote) : List Row := (srtd (keysF vs)).flatMap (rowF vs)
theorem rowF_le (vs : List Vote) (k : Int) : (rowF vs k).length ≤ 1 := by unfold rowF; split <;> simp
theorem flat_le (vs : List Vote) : ∀ ks : List Int, (ks.flatMap (rowF vs)).length ≤ ks.length
  | [] => by simp
  | k :: r => by
    have := rowF_le vs k
    have := flat_le vs r
    simp only [List.flatMap_cons, List.length_append, List.length_cons]; omega
theorem duF_le (vs : List Vote) : (duF vs).length ≤ vs.length := Nat.le_trans (flat_le vs _) (by rw [srtd_len]; exact keysF_le vs)
theorem flat_take {vs : List Vote} {ks : List Int} {i : Nat} {k : Int} (h : ks[i]? = some k) : (ks.take (i + 1)).flatMap (rowF vs) = (ks.take i).flatMap (rowF vs) ++ rowF vs k := by
  rw [List.take_add_one, h, List.flatMap_append]; simp
theorem flat_take_le (vs : List Vote) (ks : List Int) (i : Nat) : ((ks.take i).flatMap (rowF vs)).length ≤ ks.length := Nat.le_trans (flat_le vs _) (by rw [List.length_take]; omega)
theorem keys_own {ks : List Int} {p : List Vote} {kvs : List (Key × OT)} (c : Cst ks p kvs) : LsS (.own (oL ((kvs.map (·.1)).map keyD))) (ks.map .int) := by
  rw [c.1, List.map_map]; exact .own
def sp_guilty : SpD := fun as R => ∃ (vs : List Vote), as = [.bor (vs.map encV)] ∧ vs.length ≤ 1000 ∧ R (.own (oL ((duF vs).map encR)))
theorem ok_guilty {Pr : Program} {wd : World} {K : PySem.W.Frag} {mg : Str → Option Value} {base : Heap} (z : Bl mg) (c_first_break : Cal Pr wd K mg base "first_break" 3 ["votes"] (spD K sp_first_break)) {f : Addr} {fd : FuncData} (F : Fun K "guilty" "guilty" s_guilty f fd) : FnOk Pr wd K mg base CX0 4 f fd ["votes"] (spD K sp_guilty) := by
  refine okD F sc_guilty (fun as R h => ?_) (fun cdv A outer s H E hr => ⟨_, (pss_cons (ps_set (i := 1) sc_guilty.nd rfl (by first | exact Or.inl rfl | exact Or.inr rfl) pe_dnewK)
      (pss_cons (ps_for PassesOwn.never rfl (pi_seqK (K := K) (pv 0)) (pg_name (i := 2) sc_guilty.nd rfl (by first | exact Or.inl rfl | exact Or.inr rfl))
      (pss_cons (ps_if (pt_cmpR (g_dNotIn (hu64 hr)) (pe_ix (g_ix (K := K)) (pv 2) pe_int (fun _ _ => rfl)) (pv 1) (by rfl))
      (pss_one (ps_asg (pe_lst pa_nil) (pg_sub (pv 1) (pe_ix (g_ix (K := K)) (pv 2) pe_int (fun _ _ => rfl)) (set_dictO (hu64 hr)))))
      pss_nil)
      (pss_one (ps_expr (pe_bm PySem.F.plainAttrs_list PySem.F.slot_list_append PySem.F.type_list_append mt_append (pe_dgetO (hu64 hr) (pv 1) (pe_ix (g_ix (K := K)) (pv 2) pe_int (fun _ _ => rfl)) (fun _ _ => rfl)) (pa_cons (pv 2) pa_nil))))))
      (pss_cons (ps_set (i := 3) sc_guilty.nd rfl (by first | exact Or.inl rfl | exact Or.inr rfl) (pe_lst pa_nil))
      (pss_cons (ps_for PassesOwn.never rfl (pi_seqK (K := K) (pe_callB (b_sortedI (K := K)) (by rfl) z.sorted' (by decide +kernel) (pa_cons (pe_callTy (b_listDK rfl) (by rfl) z.list' (by decide +kernel) (pa_cons (pv 1) pa_nil)) pa_nil))) (pg_name (i := 4) sc_guilty.nd rfl (by first | exact Or.inl rfl | exact Or.inr rfl))
      (pss_cons (ps_set (i := 5) sc_guilty.nd rfl (by first | exact Or.inl rfl | exact Or.inr rfl) (pe_cal c_first_break (hr.mono (by decide)) (by rfl) (pa_cons (pe_dgetO (hu64 hr) (pv 1) (pv 4) (fun _ _ => rfl)) pa_nil)))
      (pss_one (ps_if (pt_cmpR g_isnot (pv 5) pe_non (nomark _))
      (pss_one (ps_expr (pe_bm PySem.F.plainAttrs_list PySem.F.slot_list_append PySem.F.type_list_append mt_append (pv 3) (pa_cons (pe_tup (pa_cons (pv 4) (pa_cons (pe_ix (g_ix (K := K)) (pv 5) pe_int (fun _ _ => rfl)) (pa_cons (pe_ix (g_ix (K := K)) (pv 5) pe_int (fun _ _ => rfl)) pa_nil)))) pa_nil))))
      pss_nil))))
      (pss_one (ps_ret (pv 3))))))), fun as R h => ?_⟩)
  · obtain ⟨_, rfl, _⟩ := h; rfl
  · obtain ⟨vs, rfl, hl, h⟩ := h
    walk_at "init"
    walk_at "run"
    refine wp_for (fun i e => ∃ kvs s2 s3 s4 s5, Cst (keysF (vs.take i)) (vs.take i) kvs ∧ e = [.bor (vs.map encV), .own (.dK kvs), s2, s3, s4, s5]) (vs.map encV) (ei_bor rfl rfl) ⟨[], _, _, _, _, ⟨rfl, fun k => rfl⟩, rfl⟩ ?_ ?_
    · rintro i d env' hd ⟨kvs, s2, s3, s4, s5, hC, rfl⟩
      obtain ⟨v, hv, rfl⟩ := enc_at hd
      have ht : vs.take (i + 1) = vs.take i ++ [v] := by rw [List.take_add_one, hv]; rfl
      have hkl := hC.len
      have hkl2 := keysF_le (vs.take i)
      have hkl3 : (vs.take i).length ≤ i := by rw [List.length_take]; omega
      have hil : i < vs.length := (List.getElem?_eq_some_iff.mp hv).1
      have hol : (ownF (vs.take i) v.1).length ≤ i := Nat.le_trans (List.length_filter_le _ _) hkl3
      refine ⟨_, .name, ?_⟩
      walk_at "nrm"
      walk_at "run"
      · rename_i hb
        have hn : ¬ v.1 ∈ keysF (vs.take i) := fun hm => by
          have := hC.2 v.1
          rw [if_pos hm, hb] at this; cases this
        have hC1 := hC.new hn
        refine ⟨hb, by omega, ?_⟩
        walk_at "run"
        refine ⟨_, hC1.at, fun j hj => ⟨_, rfl, by rw [List.length_map]; omega, ?_⟩⟩
        walk_at "run"
        exact ⟨_, _, _, _, _, by rw [ht]; exact hC1.put hj, rfl⟩
      · rename_i hb
        have hm : v.1 ∈ keysF (vs.take i) := by
          by_cases hm : v.1 ∈ keysF (vs.take i)
          · exact hm
          · have := hC.2 v.1
            rw [if_neg hm] at this; rw [this] at hb; cases hb
        have hC1 := hC.same hm
        refine ⟨_, hC1.at, fun j hj => ⟨_, rfl, by rw [List.length_map]; omega, ?_⟩⟩
        walk_at "run"
        exact ⟨_, _, _, _, _, by rw [ht]; exact hC1.put hj, rfl⟩
    · rintro env' ⟨kvs, s2, s3, s4, s5, hC, rfl⟩
      rw [List.length_map, List.take_length] at hC
      have hkeys := keysF_le vs
      walk_at "nrm"
      walk_at "run"
      refine wp_for (fun i e => ∃ s4 s5, e = [.bor (vs.map encV), .own (.dK kvs), s2, .own (oL ((((srtd (keysF vs)).take i).flatMap (rowF vs)).map encR)), s4, s5]) ((srtd (keysF vs)).map .int) (ei_val ?_) ⟨_, _, rfl⟩ ?_ ?_
      · walk_at "run"
        refine x_sorted ⟨_, keys_own hC, ?_⟩
        walk_at "run"
      · rintro i d env' hd ⟨s4, s5, rfl⟩
        obtain ⟨k, hk, rfl⟩ := enc_at hd
        have hkm : k ∈ keysF vs := (List.mergeSort_perm _ _).mem_iff.mp (List.mem_of_getElem? hk)
        have hg := hC.2 k
        rw [if_pos hkm] at hg
        have hft := flat_take (vs := vs) hk
        have hfl := flat_take_le vs (srtd (keysF vs)) i
        rw [srtd_len] at hfl
        have hol : (ownF vs k).length ≤ vs.length := List.length_filter_le _ _
        refine ⟨_, .name, ?_⟩
        walk_at "nrm"
        walk_at "run"
        · rename_i hb
          cases hf : fbF (ownF vs k) with
          | none => rw [hf] at hb; cases hb
          | some ab =>
            obtain ⟨a, b⟩ := ab
            have hr : rowF vs k = [(k, a, b)] := by unfold rowF; rw [hf]
            rw [hr] at hft
            simp only [fbD]
            walk_at "run"
            exact ⟨_, _, by rw [hft, List.map_append]; rfl⟩
        · rename_i hb
          cases hf : fbF (ownF vs k) with
          | some ab => rw [hf] at hb; cases hb
          | none =>
            have hr : rowF vs k = [] := by unfold rowF; rw [hf]
            rw [hr, List.append_nil] at hft
            exact ⟨_, _, by rw [hft]⟩
      · rintro env' ⟨s4, s5, rfl⟩
        rw [List.length_map, List.take_length]
        walk_at "nrm"
        walk_at "run"
        exact h
local macro_rules | `(tactic| walk_at "e1") => `(tactic| ((with_reducible show ∃ ts, Paired Co _ ts ∧ sp_guilty ts _); refine ⟨_, .cons (by first | exact .bor | exact .own | exact .brtB | exact .valB) .nil, _, rfl, by omega, ?_⟩))

/-! ### _law_vote -/
abbrev s_ulaw_vote : Stmt := topS 8
abbrev N_ulaw_vote : List Str := ["n", "k", "before", "base", "width", "key", "vote", "other", "place", "row"]
theorem sc_ulaw_vote : FnScope N_ulaw_vote ["n", "k", "before"] (defScope s_ulaw_vote) := ⟨rfl, rfl, rfl, by decide +kernel, rfl, by decide +kernel, by decide +kernel⟩
theorem set_vote (o : Vote) (j : Nat) (x : Int) : ∃ w : Vote, D.tup ([D.int o.1, .int o.2.1, .int o.2.2.1, .int o.2.2.2].set j (.int x)) = encV w := by
  match j with
  | 0 => exact ⟨(x, o.2), rfl⟩
  | 1 => exact ⟨(o.1, x, o.2.2), rfl⟩
  | 2 => exact ⟨(o.1, o.2.1, x, o.2.2.2), rfl⟩
  | 3 => exact ⟨(o.1, o.2.1, o.2.2.1, x), rfl⟩
  | j + 4 => exact ⟨o, rfl⟩
def sp_ulaw_vote : SpD := fun as R => ∃ (ns : List Int) (k : Int) (before : List Vote), as = [.bor (ns.map .int), .val (.int k), .bor (before.map encV)] ∧ ns.length = 9 ∧ (∀ n ∈ ns, 0 ≤ n ∧ n < 1000) ∧ k = before.length ∧ before.length ≤ 1000 ∧ ∀ v : Vote, R (.val (encV v))
theorem ok_ulaw_vote {Pr : Program} {wd : World} {K : PySem.W.Frag} {mg : Str → Option Value} {base : Heap} (z : Bl mg)  {f : Addr} {fd : FuncData} (F : Fun K "_law_vote" "_law_vote" s_ulaw_vote f fd) : FnOk Pr wd K mg base CX0 1 f fd ["n", "k", "before"] (spD K sp_ulaw_vote) := by
  refine okD F sc_ulaw_vote (fun as R h => ?_) (fun cdv A outer s H E hr => ⟨_, (pss_cons (ps_set (i := 3) sc_ulaw_vote.nd rfl (by first | exact Or.inl rfl | exact Or.inr rfl) (pe_ix (g_ix (K := K)) (pe_lst (pa_cons pe_int (pa_cons pe_int (pa_cons pe_int (pa_cons (pe_un g_neg pe_int) (pa_cons (pe_op g_mul (pe_ix (g_ix (K := K)) (pv 0) pe_int (fun _ _ => rfl)) (pe_op g_pow pe_int pe_int)) (pa_cons (pe_op g_sub (pe_un g_neg pe_int) (pe_op g_mul (pe_ix (g_ix (K := K)) (pv 0) pe_int (fun _ _ => rfl)) (pe_op g_pow pe_int pe_int))) pa_nil))))))) (pe_op g_mod (pe_ix (g_ix (K := K)) (pv 0) pe_int (fun _ _ => rfl)) pe_int) (fun _ _ => rfl)))
      (pss_cons (ps_set (i := 4) sc_ulaw_vote.nd rfl (by first | exact Or.inl rfl | exact Or.inr rfl) (pe_ix (g_ix (K := K)) (pe_lst (pa_cons pe_int (pa_cons pe_int (pa_cons pe_int (pa_cons pe_int pa_nil))))) (pe_op g_mod (pe_op g_div (pe_ix (g_ix (K := K)) (pv 0) pe_int (fun _ _ => rfl)) pe_int) pe_int) (fun _ _ => rfl)))
      (pss_cons (ps_set (i := 5) sc_ulaw_vote.nd rfl (by first | exact Or.inl rfl | exact Or.inr rfl) (pe_ix (g_ix (K := K)) (pe_lst (pa_cons (pe_op g_mod (pe_ix (g_ix (K := K)) (pv 0) pe_int (fun _ _ => rfl)) pe_int) (pa_cons (pe_op g_mod (pe_ix (g_ix (K := K)) (pv 0) pe_int (fun _ _ => rfl)) pe_int) (pa_cons (pe_op g_mul (pe_op g_mod (pe_ix (g_ix (K := K)) (pv 0) pe_int (fun _ _ => rfl)) pe_int) pe_int) pa_nil)))) (pe_op g_mod (pe_op g_div (pe_ix (g_ix (K := K)) (pv 0) pe_int (fun _ _ => rfl)) pe_int) pe_int) (fun _ _ => rfl)))
      (pss_cons (ps_if (pt_cmpR (g_eq (K := K) (hu64 hr)) (pe_op g_mod (pe_ix (g_ix (K := K)) (pv 0) pe_int (fun _ _ => rfl)) pe_int) pe_int (nomark _))
      (pss_one (ps_ret (pe_tup (pa_cons (pe_op g_sub (pe_op g_mul (pe_ix (g_ix (K := K)) (pv 0) pe_int (fun _ _ => rfl)) (pe_op g_pow pe_int pe_int)) (pe_ix (g_ix (K := K)) (pv 0) pe_int (fun _ _ => rfl))) (pa_cons (pe_op g_sub (pe_ix (g_ix (K := K)) (pv 0) pe_int (fun _ _ => rfl)) (pe_op g_mul (pe_ix (g_ix (K := K)) (pv 0) pe_int (fun _ _ => rfl)) (pe_op g_pow pe_int pe_int))) (pa_cons (pe_ix (g_ix (K := K)) (pv 0) pe_int (fun _ _ => rfl)) (pa_cons (pe_op g_sub (pe_op g_mul (pe_ix (g_ix (K := K)) (pv 0) pe_int (fun _ _ => rfl)) (pe_op g_pow pe_int pe_int)) (pe_op g_mul (pe_ix (g_ix (K := K)) (pv 0) pe_int (fun _ _ => rfl)) (pe_op g_pow pe_int pe_int))) pa_nil)))))))
      pss_nil)
      (pss_cons (ps_set (i := 6) sc_ulaw_vote.nd rfl (by first | exact Or.inl rfl | exact Or.inr rfl) (pe_tup (pa_cons (pv 5) (pa_cons (pe_op (g_add (K := K)) (pv 3) (pe_op g_mod (pe_ix (g_ix (K := K)) (pv 0) pe_int (fun _ _ => rfl)) (pv 4))) (pa_cons (pe_op (g_add (K := K)) (pe_op g_mod (pe_ix (g_ix (K := K)) (pv 0) pe_int (fun _ _ => rfl)) pe_int) (pe_op g_mul pe_int (pe_op g_mod (pe_ix (g_ix (K := K)) (pv 0) pe_int (fun _ _ => rfl)) pe_int))) (pa_cons (pe_op (g_add (K := K)) (pv 3) (pe_op g_mod (pe_ix (g_ix (K := K)) (pv 0) pe_int (fun _ _ => rfl)) (pv 4))) pa_nil))))))
      (pss_cons (ps_if (PW.pt (pw_and (pt_cmpR (g_eq (K := K) (hu64 hr)) (pe_op g_mod (pe_ix (g_ix (K := K)) (pv 0) pe_int (fun _ _ => rfl)) pe_int) pe_int (nomark _)) (pw_and1 (pt_cmpR g_gt (pv 1) pe_int (nomark _)))))
      (pss_cons (ps_set (i := 7) sc_ulaw_vote.nd rfl (by first | exact Or.inl rfl | exact Or.inr rfl) (pe_ix (g_ix (K := K)) (pv 2) (pe_op g_mod (pe_ix (g_ix (K := K)) (pv 0) pe_int (fun _ _ => rfl)) (pv 1)) (fun _ _ => rfl)))
      (pss_cons (ps_set (i := 8) sc_ulaw_vote.nd rfl (by first | exact Or.inl rfl | exact Or.inr rfl) (pe_op g_mod (pe_op g_div (pe_ix (g_ix (K := K)) (pv 0) pe_int (fun _ _ => rfl)) pe_int) pe_int))
      (pss_cons (ps_set (i := 9) sc_ulaw_vote.nd rfl (by first | exact Or.inl rfl | exact Or.inr rfl) (pe_callTy (b_list (K := K)) (by rfl) z.list' (by decide +kernel) (pa_cons (pv 7) pa_nil)))
      (pss_cons (ps_if (pt_cmpR g_lt (pv 8) pe_int (nomark _))
      (pss_one (ps_asg (pe_ix (g_ix (K := K)) (pv 6) (pv 8) (fun _ _ => rfl)) (pg_sub (pv 9) (pv 8) set_list)))
      pss_nil)
      (pss_one (ps_set (i := 6) sc_ulaw_vote.nd rfl (by first | exact Or.inl rfl | exact Or.inr rfl) (pe_callTy (b_tuple (K := K)) (by rfl) z.tuple' (by decide +kernel) (pa_cons (pv 9) pa_nil))))))))
      pss_nil)
      (pss_one (ps_ret (pv 6))))))))), fun as R h => ?_⟩)
  · obtain ⟨_, _, _, rfl, _⟩ := h; rfl
  · obtain ⟨ns, k, before, rfl, hl, hn, rfl, hbl, h⟩ := h
    walk_at "init"
    walk_at "run"
    · exact h (_, _, _, _)
    · refine x_ixA .bor (Int.emod_nonneg _ (by omega)) (Int.emod_lt_of_pos _ (by omega)) (fun o _ => ?_)
      clear hbl
      walk_at "run"
      · obtain ⟨w, hw⟩ := set_vote ..
        rw [hw]
        exact h w
      · exact h o
    · exact h (_, _, _, _)
    · exact h (_, _, _, _)
local macro_rules | `(tactic| walk_at "e1") => `(tactic| ((with_reducible show ∃ ts, Paired Co _ ts ∧ sp_ulaw_vote ts _); refine ⟨_, .cons (by first | exact .bor | exact .own | exact .brtB | exact .valB) (.cons .val (.cons (by first | exact .bor | exact .own | exact .brtB | exact .valB) .nil)), _, _, _, rfl, by first | assumption | omega, by assumption, by omega, by omega, fun _ => ?_⟩))

/-! ### _law_votes -/
abbrev s_ulaw_votes : Stmt := topS 9
abbrev N_ulaw_votes : List Str := ["script", "n", "count", "votes", "first", "k", "m"]
theorem sc_ulaw_votes : FnScope N_ulaw_votes ["script"] (defScope s_ulaw_votes) := ⟨rfl, rfl, rfl, by decide +kernel, rfl, by decide +kernel, by decide +kernel⟩
theorem set_bd {ns : List Int} {j : Nat} {x : Int} (h : ∀ n ∈ ns, 0 ≤ n ∧ n < 1000) (hx : 0 ≤ x ∧ x < 1000) : ∀ n ∈ ns.set j x, 0 ≤ n ∧ n < 1000 := fun n hn => by
  rcases List.mem_or_eq_of_mem_set hn with hn | rfl
  · exact h n hn
  · exact hx
def sp_ulaw_votes : SpD := fun as R => ∃ (ms : List Int), as = [.scr (ms.map .int)] ∧ ∀ vs : List Vote, 2 ≤ vs.length → vs.length ≤ 1000 → R (.own (oL (vs.map encV)))
theorem ok_ulaw_votes {Pr : Program} {wd : World} {K : PySem.W.Frag} {mg : Str → Option Value} {base : Heap} (z : Bl mg) (c_ulaw_vote : Cal Pr wd K mg base "_law_vote" 1 ["n", "k", "before"] (spD K sp_ulaw_vote)) (c_ulaw_numbers : Cal Pr wd K mg base "_law_numbers" 1 ["cell", "many"] (spD K sp_ulaw_numbers)) (c_ulaw_cell : Cal Pr wd K mg base "_law_cell" 1 ["script", "k"] (spD K sp_ulaw_cell)) {f : Addr} {fd : FuncData} (F : Fun K "_law_votes" "_law_votes" s_ulaw_votes f fd) : FnOk Pr wd K mg base CX0 2 f fd ["script"] (spD K sp_ulaw_votes) := by
  refine okD F sc_ulaw_votes (fun as R h => ?_) (fun cdv A outer s H E hr => ⟨_, (pss_cons (ps_set (i := 1) sc_ulaw_votes.nd rfl (by first | exact Or.inl rfl | exact Or.inr rfl) (pe_cal c_ulaw_numbers (hr.mono (by decide)) (by rfl) (pa_cons (pe_cal c_ulaw_cell (hr.mono (by decide)) (by rfl) (pa_cons (pv 0) (pa_cons pe_int pa_nil))) (pa_cons pe_int pa_nil))))
      (pss_cons (ps_set (i := 2) sc_ulaw_votes.nd rfl (by first | exact Or.inl rfl | exact Or.inr rfl) (pe_op (g_add (K := K)) pe_int (pe_op g_mod (pe_ix (g_ix (K := K)) (pv 1) pe_int (fun _ _ => rfl)) pe_int)))
      (pss_cons (ps_if (pt_cmpR (g_eq (K := K) (hu64 hr)) (pe_op g_mod (pe_ix (g_ix (K := K)) (pv 1) pe_int (fun _ _ => rfl)) pe_int) pe_int (nomark _))
      (pss_one (ps_set (i := 2) sc_ulaw_votes.nd rfl (by first | exact Or.inl rfl | exact Or.inr rfl) (pe_op (g_add (K := K)) pe_int (pe_op g_mod (pe_ix (g_ix (K := K)) (pv 1) pe_int (fun _ _ => rfl)) pe_int))))
      pss_nil)
      (pss_cons (ps_if (pt_cmpR (g_eq (K := K) (hu64 hr)) (pe_op g_mod (pe_ix (g_ix (K := K)) (pv 1) pe_int (fun _ _ => rfl)) pe_int) pe_int (nomark _))
      (pss_one (ps_set (i := 2) sc_ulaw_votes.nd rfl (by first | exact Or.inl rfl | exact Or.inr rfl) pe_int))
      pss_nil)
      (pss_cons (ps_set (i := 3) sc_ulaw_votes.nd rfl (by first | exact Or.inl rfl | exact Or.inr rfl) (pe_lst pa_nil))
      (pss_cons (ps_set (i := 4) sc_ulaw_votes.nd rfl (by first | exact Or.inl rfl | exact Or.inr rfl) (pe_cal c_ulaw_numbers (hr.mono (by decide)) (by rfl) (pa_cons (pe_cal c_ulaw_cell (hr.mono (by decide)) (by rfl) (pa_cons (pv 0) (pa_cons pe_int pa_nil))) (pa_cons pe_int pa_nil))))
      (pss_cons (ps_for PassesOwn.never rfl (pi_range1 (by rfl) z.range' (pa_cons (pv 2) pa_nil)) (pg_name (i := 5) sc_ulaw_votes.nd rfl (by first | exact Or.inl rfl | exact Or.inr rfl))
      (pss_cons (ps_set (i := 6) sc_ulaw_votes.nd rfl (by first | exact Or.inl rfl | exact Or.inr rfl) (pe_cal c_ulaw_numbers (hr.mono (by decide)) (by rfl) (pa_cons (pe_op (g_add (K := K)) (pe_cal c_ulaw_cell (hr.mono (by decide)) (by rfl) (pa_cons (pv 0) (pa_cons (pe_op (g_add (K := K)) pe_int (pe_op g_mod (pe_callTy b_int (by rfl) z.int' (by decide +kernel) (pa_cons (pv 5) pa_nil)) pe_int)) pa_nil))) (pe_ix (g_ix (K := K)) (pe_lst (pa_cons pe_int (pa_cons (pe_op g_mul pe_int (pv 5)) pa_nil))) (pe_callTy b_int (by rfl) z.int' (by decide +kernel) (pa_cons (pe_or (pe_cmpR g_ge (pv 5) pe_int (nomark _)) (pe_one (pe_cmpR g_ge (pe_op (g_add (K := K)) (pv 5) pe_int) (pe_callB (b_len (K := K)) (by rfl) z.len' (by decide +kernel) (pa_cons (pv 0) pa_nil)) (nomark _)))) pa_nil)) (fun _ _ => rfl))) (pa_cons pe_int pa_nil))))
      (pss_cons (ps_asg (pe_ix (g_ix (K := K)) (pe_lst (pa_cons (pe_ix (g_ix (K := K)) (pv 4) pe_int (fun _ _ => rfl)) (pa_cons (pe_ix (g_ix (K := K)) (pv 4) pe_int (fun _ _ => rfl)) (pa_cons (pe_ix (g_ix (K := K)) (pv 6) pe_int (fun _ _ => rfl)) pa_nil)))) (pe_op g_mod (pe_ix (g_ix (K := K)) (pv 1) pe_int (fun _ _ => rfl)) pe_int) (fun _ _ => rfl)) (pg_sub (pv 6) pe_int set_list))
      (pss_cons (ps_asg (pe_ix (g_ix (K := K)) (pv 4) pe_int (fun _ _ => rfl)) (pg_sub (pv 6) pe_int set_list))
      (pss_one (ps_expr (pe_bm PySem.F.plainAttrs_list PySem.F.slot_list_append PySem.F.type_list_append mt_append (pv 3) (pa_cons (pe_cal c_ulaw_vote (hr.mono (by decide)) (by rfl) (pa_cons (pv 6) (pa_cons (pv 5) (pa_cons (pv 3) pa_nil)))) pa_nil))))))))
      (pss_one (ps_ret (pv 3)))))))))), fun as R h => ?_⟩)
  · obtain ⟨_, rfl, _⟩ := h; rfl
  · obtain ⟨ms, rfl, h⟩ := h
    walk_at "init"
    walk_at "asg"
    rename_i n3 hn3 hn3b
    have hn3 : n3.length = 3 := hn3
    walk_at "asg"
    refine wp_seq ?_
    refine wp_cut (fun e => ∃ c : Int, 2 ≤ c ∧ c ≤ 300 ∧ e = [.scr (ms.map .int), .own (oL (n3.map .int)), .val (.int c), .un, .un, .un, .un]) ?_ ?_
    · walk_at "run"
      all_goals exact ⟨_, by omega, by omega, rfl⟩
    rintro _ ⟨c, hc0, hc1, rfl⟩
    refine wp_seq ?_
    refine wp_cut (fun e => ∃ c : Int, 2 ≤ c ∧ c ≤ 300 ∧ e = [.scr (ms.map .int), .own (oL (n3.map .int)), .val (.int c), .un, .un, .un, .un]) ?_ ?_
    · walk_at "run"
      all_goals exact ⟨_, by omega, by omega, rfl⟩
    clear hc0 hc1 c
    rintro _ ⟨c, hc0, hc1, rfl⟩
    walk_at "asg"
    walk_at "asg"
    rename_i n2 hn2 hn2b
    have hn2 : n2.length = 2 := hn2
    refine wp_seq ?_
    refine wp_for (fun i e => ∃ (vs : List Vote) (s5 s6 : Sl), vs.length = i ∧ e = [.scr (ms.map .int), .own (oL (n3.map .int)), .val (.int c), .own (oL (vs.map encV)), .own (oL (n2.map .int)), s5, s6]) (rngD 0 c.toNat) ?_ ⟨[], _, _, rfl, rfl⟩ ?_ ?_
    · refine ei_rng1 ?_
      walk_at "run"
      exact ⟨by omega, by omega, rfl⟩
    · rintro i d env' hd ⟨vs, s5, s6, hvl, rfl⟩
      obtain ⟨hi, rfl⟩ := rng_at hd
      refine ⟨_, .name, ?_⟩
      walk_at "nrm"
      walk_at "run"
      all_goals
        rw [← List.map_set, ← List.map_set]
        refine ⟨_, .cons .bor (.cons .val (.cons .bor .nil)), _, _, _, rfl, ?_, ?_, ?_, ?_, fun w => ?_⟩
        · rw [List.length_set, List.length_set]; assumption
        · refine set_bd (set_bd (by assumption) ?_) ⟨by assumption, by assumption⟩
          simp only [List.mem_cons, List.not_mem_nil, or_false] at *
          omega
        · omega
        · omega
        · exact ⟨_, .val, vs ++ [w], _, _, by simp [hvl], by rw [List.map_append]; rfl⟩
    · rintro env' ⟨vs, s5, s6, hvl, rfl⟩
      rw [rng_len] at hvl
      walk_at "nrm"
      walk_at "run"
      exact h vs (by omega) (by omega)
local macro_rules | `(tactic| walk_at "e1") => `(tactic| ((with_reducible show ∃ ts, Paired Co _ ts ∧ sp_ulaw_votes ts _); refine ⟨_, .cons (by first | exact .scr | exact .borS) .nil, _, rfl, fun _ _ _ => ?_⟩))

/-! ### _law_due -/
abbrev s_ulaw_due : Stmt := topS 11
abbrev N_ulaw_due : List Str := ["votes", "keys", "vote", "rows", "key", "own", "found", "i", "j"]
theorem sc_ulaw_due : FnScope N_ulaw_due ["votes"] (defScope s_ulaw_due) := ⟨rfl, rfl, rfl, by decide +kernel, rfl, by decide +kernel, by decide +kernel⟩
def rowO (k : Int) : Option (Vote × Vote) → List Row
  | none => []
  | some (a, b) => [(k, a, b)]
theorem row_O (vs : List Vote) (k : Int) : rowF vs k = rowO k (fbF (ownF vs k)) := by unfold rowF rowO; rfl
theorem rowO_nil {k : Int} {o : Option (Vote × Vote)} : (rowO k o).isEmpty = o.isNone := by cases o <;> rfl
theorem pl_V (v : Vote) : Pl 1 (encV v) := .tup 0 _ fun e he => by
  simp only [List.mem_cons, List.not_mem_nil, or_false] at he
  rcases he with rfl | rfl | rfl | rfl <;> exact .int _ _
theorem pl_rs (rs : List Row) : Pl 3 (.lst (rs.map encR)) := .lst 2 _ fun d hd => by
  obtain ⟨r, _, rfl⟩ := List.mem_map.mp hd
  exact .tup 1 _ fun e he => by
    simp only [List.mem_cons, List.not_mem_nil, or_false] at he
    rcases he with rfl | rfl | rfl
    · exact .int _ _
    · exact pl_V _
    · exact pl_V _
theorem pl_vs (vs : List Vote) : Pl 2 (.lst (vs.map encV)) := .lst 1 _ fun d hd => by
  obtain ⟨r, _, rfl⟩ := List.mem_map.mp hd
  exact pl_V _
theorem pl_nil : Pl 1 (.lst []) := .lst 0 _ fun d hd => nomatch hd
theorem eq_nil (rs : List Row) : eqD (.lst (rs.map encR)) (.lst []) = rs.isEmpty := by
  cases rs with
  | nil => rfl
  | cons r t =>
    have := eqD_iff (pl_rs (r :: t)) pl_nil
    cases h : eqD (.lst ((r :: t).map encR)) (.lst []) with
    | false => rfl
    | true => have := this.mp h; simp at this
theorem find_snoc {p : Vote → Bool} {xs : List Vote} {x : Vote} : (xs ++ [x]).find? p = match xs.find? p with | some s => some s | none => if p x = true then some x else none := by
  rw [List.find?_append]
  cases xs.find? p with
  | some s => rfl
  | none => by_cases h : p x = true <;> simp [h]
def sp_ulaw_due : SpD := fun as R => ∃ (vs : List Vote), as = [.bor (vs.map encV)] ∧ vs.length ≤ 1000 ∧ R (.own (oL ((duF vs).map encR)))
theorem ok_ulaw_due {Pr : Program} {wd : World} {K : PySem.W.Frag} {mg : Str → Option Value} {base : Heap} (z : Bl mg) (c_ulaw_word : Cal Pr wd K mg base "_law_word" 1 ["one", "two"] (spD K sp_ulaw_word)) {f : Addr} {fd : FuncData} (F : Fun K "_law_due" "_law_due" s_ulaw_due f fd) : FnOk Pr wd K mg base CX0 2 f fd ["votes"] (spD K sp_ulaw_due) := by
  refine okD F sc_ulaw_due (fun as R h => ?_) (fun cdv A outer s H E hr => ⟨_, (pss_cons (ps_set (i := 1) sc_ulaw_due.nd rfl (by first | exact Or.inl rfl | exact Or.inr rfl) (pe_lst pa_nil))
      (pss_cons (ps_for PassesOwn.never rfl (pi_seqK (K := K) (pv 0)) (pg_name (i := 2) sc_ulaw_due.nd rfl (by first | exact Or.inl rfl | exact Or.inr rfl))
      (pss_one (ps_if (pt_cmpR (g_notIn (K := K) (hu65 hr)) (pe_ix (g_ix (K := K)) (pv 2) pe_int (fun _ _ => rfl)) (pv 1) (by rfl))
      (pss_one (ps_expr (pe_bm PySem.F.plainAttrs_list PySem.F.slot_list_append PySem.F.type_list_append mt_append (pv 1) (pa_cons (pe_ix (g_ix (K := K)) (pv 2) pe_int (fun _ _ => rfl)) pa_nil))))
      pss_nil)))
      (pss_cons (ps_set (i := 3) sc_ulaw_due.nd rfl (by first | exact Or.inl rfl | exact Or.inr rfl) (pe_lst pa_nil))
      (pss_cons (ps_for PassesOwn.never rfl (pi_seqK (K := K) (pe_callB (b_sortedI (K := K)) (by rfl) z.sorted' (by decide +kernel) (pa_cons (pv 1) pa_nil))) (pg_name (i := 4) sc_ulaw_due.nd rfl (by first | exact Or.inl rfl | exact Or.inr rfl))
      (pss_cons (ps_setLc (i := 5) (own := [("vote", 2)]) rfl sc_ulaw_due.nd rfl rfl (sw_true rfl rfl rfl (by decide +kernel)) (pi_seqK (K := K) (pv 0)) (blkOk_by (own := [("vote", 2)]) (N := N_ulaw_due) (sc := defScope s_ulaw_due) (by decide +kernel)) (fun _ _ _ _ _ => (pg_name (i := 2) sc_ulaw_due.nd rfl (by first | exact Or.inl rfl | exact Or.inr rfl))) (fun _ _ _ _ _ => (pts_one (pt_cmpR (g_eq (K := K) (hu64 hr)) (pe_ix (g_ix (K := K)) (pv 2) pe_int (fun _ _ => rfl)) (pv 4) (nomark _)))) (fun _ _ _ _ _ => (pv 2)))
      (pss_cons (ps_set (i := 6) sc_ulaw_due.nd rfl (by first | exact Or.inl rfl | exact Or.inr rfl) (pe_lst pa_nil))
      (pss_cons (ps_for PassesOwn.never rfl (pi_range1 (by rfl) z.range' (pa_cons (pe_callB (b_len (K := K)) (by rfl) z.len' (by decide +kernel) (pa_cons (pv 5) pa_nil)) pa_nil)) (pg_name (i := 7) sc_ulaw_due.nd rfl (by first | exact Or.inl rfl | exact Or.inr rfl))
      (pss_cons (ps_for PassesOwn.never rfl (pi_range2 (by rfl) z.range' (pa_cons (pe_op (g_add (K := K)) (pv 7) pe_int) (pa_cons (pe_callB (b_len (K := K)) (by rfl) z.len' (by decide +kernel) (pa_cons (pv 5) pa_nil)) pa_nil))) (pg_name (i := 8) sc_ulaw_due.nd rfl (by first | exact Or.inl rfl | exact Or.inr rfl))
      (pss_one (ps_if (PW.pt (pw_and (pt_cmpR (g_eq (K := K) (hu64 hr)) (pv 6) (pe_lst pa_nil) (nomark _)) (pw_and1 (pt_cmpR g_isnot (pe_cal c_ulaw_word (hr.mono (by decide)) (by rfl) (pa_cons (pe_ix (g_ix (K := K)) (pv 5) (pv 7) (fun _ _ => rfl)) (pa_cons (pe_ix (g_ix (K := K)) (pv 5) (pv 8) (fun _ _ => rfl)) pa_nil))) pe_non (nomark _)))))
      (pss_one (ps_set (i := 6) sc_ulaw_due.nd rfl (by first | exact Or.inl rfl | exact Or.inr rfl) (pe_lst (pa_cons (pe_tup (pa_cons (pv 4) (pa_cons (pe_ix (g_ix (K := K)) (pv 5) (pv 7) (fun _ _ => rfl)) (pa_cons (pe_ix (g_ix (K := K)) (pv 5) (pv 8) (fun _ _ => rfl)) pa_nil)))) pa_nil))))
      pss_nil)))
      (pss_one (ps_if (pt_cmpR (g_ne (K := K) (hu64 hr)) (pv 6) (pe_lst pa_nil) (nomark _))
      (pss_one ps_break)
      pss_nil))))
      (pss_one (ps_set (i := 3) sc_ulaw_due.nd rfl (by first | exact Or.inl rfl | exact Or.inr rfl) (pe_op (g_add (K := K)) (pv 3) (pv 6))))))))
      (pss_one (ps_ret (pv 3))))))), fun as R h => ?_⟩)
  · obtain ⟨_, rfl, _⟩ := h; rfl
  · obtain ⟨vs, rfl, hl, h⟩ := h
    walk_at "init"
    walk_at "run"
    refine wp_for (fun i e => ∃ s2 s3 s4 s5 s6 s7 s8, e = [.bor (vs.map encV), .own (oL ((keysF (vs.take i)).map .int)), s2, s3, s4, s5, s6, s7, s8]) (vs.map encV) (ei_bor rfl rfl) ⟨_, _, _, _, _, _, _, rfl⟩ ?_ ?_
    · rintro i d env' hd ⟨s2, s3, s4, s5, s6, s7, s8, rfl⟩
      obtain ⟨v, hv, rfl⟩ := enc_at hd
      have ht : vs.take (i + 1) = vs.take i ++ [v] := by rw [List.take_add_one, hv]; rfl
      have hkl2 := keysF_le (vs.take i)
      have hkl3 : (vs.take i).length ≤ i := by rw [List.length_take]; omega
      have hil : i < vs.length := (List.getElem?_eq_some_iff.mp hv).1
      refine ⟨_, .name, ?_⟩
      walk_at "nrm"
      walk_at "run"
      refine d_notInI (ks := keysF (vs.take i)) rfl ?_
      walk_at "run"
      · rename_i hb
        exact ⟨_, _, _, _, _, _, _, by rw [ht, keysF_snoc, if_neg hb, List.map_append]; rfl⟩
      · rename_i hb
        exact ⟨_, _, _, _, _, _, _, by rw [ht, keysF_snoc, if_pos hb]⟩
    · rintro env' ⟨s2, s3, s4, s5, s6, s7, s8, rfl⟩
      rw [List.length_map, List.take_length]
      have hkeys := keysF_le vs
      walk_at "nrm"
      walk_at "run"
      refine wp_for (fun i e => ∃ s2 s4 s5 s6 s7 s8, e = [.bor (vs.map encV), .own (oL ((keysF vs).map .int)), s2, .own (oL ((((srtd (keysF vs)).take i).flatMap (rowF vs)).map encR)), s4, s5, s6, s7, s8]) ((srtd (keysF vs)).map .int) (ei_val ?_) ⟨_, _, _, _, _, _, rfl⟩ ?_ ?_
      · walk_at "run"
      · rintro q d env' hd ⟨s2, s4, s5, s6, s7, s8, rfl⟩
        obtain ⟨k, hk, rfl⟩ := enc_at hd
        have hft := flat_take (vs := vs) hk
        have hfl := flat_take_le vs (srtd (keysF vs)) q
        rw [srtd_len] at hfl
        have hol : (ownF vs k).length ≤ vs.length := List.length_filter_le _ _
        refine ⟨_, .name, ?_⟩
        walk_at "nrm"
        refine wp_seq ?_
        refine wp_asg ?_
        refine ev_filtE encV (fun v => decide (v.1 = k)) encV vs (by omega) (ei_bor rfl rfl) (fun r _ => ⟨_, .name, by simp, ?_, fun hb => ?_⟩) ?_
        · walk_at "nrm"
          walk_at "run"
          rfl
        · walk_at "nrm"
          walk_at "run"
          exact .val
        rw [show vs.filter (fun v => decide (v.1 = k)) = ownF vs k from rfl]
        refine And.intro (by constructor) ?_
        walk_at "nrm"
        walk_at "asg"
        have hO := row_O vs k
        generalize ownF vs k = O at hol hO ⊢
        refine wp_seq ?_
        refine wp_cut (fun e => ∃ s7 s8, e = [.bor (vs.map encV), .own (oL ((keysF vs).map .int)), s2, .own (oL ((((srtd (keysF vs)).take q).flatMap (rowF vs)).map encR)), .val (.int k), .own (oL (O.map encV)), .own (oL ((rowF vs k).map encR)), s7, s8]) ?_ ?_
        · refine wp_for (fun i e => fbF O = fbF (O.drop i) ∧ ∃ s7 s8, e = [.bor (vs.map encV), .own (oL ((keysF vs).map .int)), s2, .own (oL ((((srtd (keysF vs)).take q).flatMap (rowF vs)).map encR)), .val (.int k), .own (oL (O.map encV)), .own (oL []), s7, s8]) (rngD 0 O.length) ?_ ⟨rfl, _, _, rfl⟩ ?_ ?_
          · refine ei_rng1 ?_
            walk_at "run"
            exact ⟨by omega, by omega, rfl⟩
          · rintro i d env' hd ⟨hf, s7, s8, rfl⟩
            obtain ⟨hi, rfl⟩ := rng_at hd
            obtain ⟨v, hv⟩ : ∃ v, O[i]? = some v := ⟨_, List.getElem?_eq_getElem hi⟩
            rw [drop_at hv] at hf
            have hv' : O[((0 : Int) + (i : Int)).toNat]? = some v := by rw [show ((0 : Int) + (i : Int)).toNat = i by omega]; exact hv
            refine ⟨_, .name, ?_⟩
            walk_at "nrm"
            refine wp_seq ?_
            refine wp_cut (fun e => ∃ s8, e = [.bor (vs.map encV), .own (oL ((keysF vs).map .int)), s2, .own (oL ((((srtd (keysF vs)).take q).flatMap (rowF vs)).map encR)), .val (.int k), .own (oL (O.map encV)), .own (oL ((rowO k (((O.drop (i + 1)).find? (brk v)).map fun s => (v, s))).map encR)), .val (.int (0 + i)), s8]) ?_ ?_
            · refine wp_for (fun j e => ∃ s8, e = [.bor (vs.map encV), .own (oL ((keysF vs).map .int)), s2, .own (oL ((((srtd (keysF vs)).take q).flatMap (rowF vs)).map encR)), .val (.int k), .own (oL (O.map encV)), .own (oL ((rowO k ((((O.drop (i + 1)).take j).find? (brk v)).map fun s => (v, s))).map encR)), .val (.int (0 + i)), s8]) (rngD (0 + i + 1) (O.length - (i + 1))) ?_ ⟨_, rfl⟩ ?_ ?_
              · refine ei_rng2 ?_
                walk_at "run"
                exact ⟨_, _, rfl, by omega, by omega, by omega, by omega, by rw [show ((O.length : Int) - (0 + i + 1)).toNat = O.length - (i + 1) by omega]⟩
              · rintro j d env' hd ⟨s8, rfl⟩
                obtain ⟨hj, rfl⟩ := rng_at hd
                obtain ⟨x, hx⟩ : ∃ x, O[i + 1 + j]? = some x := ⟨_, List.getElem?_eq_getElem (by omega)⟩
                have hx' : O[((0 : Int) + (i : Int) + 1 + (j : Int)).toNat]? = some x := by rw [show ((0 : Int) + (i : Int) + 1 + (j : Int)).toNat = i + 1 + j by omega]; exact hx
                have htk : (O.drop (i + 1)).take (j + 1) = (O.drop (i + 1)).take j ++ [x] := by rw [List.take_add_one, List.getElem?_drop, hx]; rfl
                refine ⟨_, .name, ?_⟩
                walk_at "nrm"
                walk_at "run"
                refine d_eqD 3 1 rfl ⟨_, rfl, rfl⟩ (pl_rs _) pl_nil (by decide) (by decide) ?_
                rw [eq_nil, rowO_nil, htk, find_snoc]
                cases hfd : ((O.drop (i + 1)).take j).find? (brk v) with
                | some s =>
                  simp only [Option.map_some, Option.isNone_some]
                  walk_at "run"
                  exact ⟨_, rfl⟩
                | none =>
                  simp only [Option.map_none, Option.isNone_none]
                  walk_at "run"
                  · rename_i hb
                    have hb : brk v x = true := by unfold brk; rw [hb]; rfl
                    rw [if_pos hb]
                    exact ⟨_, rfl⟩
                  · rename_i hb
                    have hb : ¬ brk v x = true := by unfold brk; rw [hb]; decide
                    rw [if_neg hb]
                    exact ⟨_, rfl⟩
              · rintro env' ⟨s8, rfl⟩
                rw [rng_len, show (O.drop (i + 1)).take (O.length - (i + 1)) = O.drop (i + 1) from List.take_of_length_le (by rw [List.length_drop]; omega)]
                exact ⟨_, rfl⟩
            · rintro _ ⟨s8, rfl⟩
              walk_at "run"
              refine d_neD 3 1 rfl ⟨_, rfl, rfl⟩ (pl_rs _) pl_nil (by decide) (by decide) ?_
              rw [eq_nil, rowO_nil]
              cases hfd : (O.drop (i + 1)).find? (brk v) with
              | some s =>
                simp only [Option.map_some, Option.isNone_some]
                walk_at "run"
                exact ⟨_, _, by rw [hO, hf, fb_some hfd]⟩
              | none =>
                simp only [Option.map_none, Option.isNone_none]
                walk_at "run"
                exact ⟨by rw [hf, fb_none hfd], _, _, rfl⟩
          · rintro env' ⟨hf, s7, s8, rfl⟩
            rw [rng_len, List.drop_length] at hf
            exact ⟨_, _, by rw [hO, hf]; rfl⟩
        · rintro _ ⟨s7, s8, rfl⟩
          have hrl := rowF_le vs k
          walk_at "run"
          exact ⟨_, _, _, _, _, _, by rw [hft, List.map_append]⟩
      · rintro env' ⟨s2, s4, s5, s6, s7, s8, rfl⟩
        rw [List.length_map, List.take_length]
        walk_at "nrm"
        walk_at "run"
        exact h
local macro_rules | `(tactic| walk_at "e1") => `(tactic| ((with_reducible show ∃ ts, Paired Co _ ts ∧ sp_ulaw_due ts _); refine ⟨_, .cons (by first | exact .bor | exact .own | exact .brtB | exact .valB) .nil, _, rfl, by omega, ?_⟩))

/-! ### _law_plain -/
abbrev s_ulaw_plain : Stmt := topS 12
abbrev N_ulaw_plain : List Str := ["rows", "row"]
theorem sc_ulaw_plain : FnScope N_ulaw_plain ["rows"] (defScope s_ulaw_plain) := ⟨rfl, rfl, rfl, by decide +kernel, rfl, by decide +kernel, by decide +kernel⟩

def sp_ulaw_plain : SpD := fun as R => ∃ (rs : List Row), as = [.bor (rs.map encR)] ∧ R (.val (.bl true))
theorem ok_ulaw_plain {Pr : Program} {wd : World} {K : PySem.W.Frag} {mg : Str → Option Value} {base : Heap} (z : Bl mg)  {f : Addr} {fd : FuncData} (F : Fun K "_law_plain" "_law_plain" s_ulaw_plain f fd) : FnOk Pr wd K mg base CX0 1 f fd ["rows"] (spD K sp_ulaw_plain) := by
  refine okD F sc_ulaw_plain (fun as R h => ?_) (fun cdv A outer s H E hr => ⟨_, (pss_cons (ps_if (pt_not (pt_tr (K := K) (pe_callB (b_isi (K := K)) (by rfl) z.isinstance' (by decide +kernel) (pa_cons (pv 0) (pa_cons (pe_bltn (v := .ty "list") (by rfl) z.list' (by decide +kernel) rfl) pa_nil))) (by intro _; rfl)))
      (pss_one (ps_ret pe_bl))
      pss_nil)
      (pss_cons (ps_for PassesOwn.never rfl (pi_seqK (K := K) (pv 0)) (pg_name (i := 1) sc_ulaw_plain.nd rfl (by first | exact Or.inl rfl | exact Or.inr rfl))
      (pss_cons (ps_if (PW.pt (pw_or (pt_not (pt_tr (K := K) (pe_callB (b_isi (K := K)) (by rfl) z.isinstance' (by decide +kernel) (pa_cons (pv 1) (pa_cons (pe_bltn (v := .ty "tuple") (by rfl) z.tuple' (by decide +kernel) rfl) pa_nil))) (by intro _; rfl))) (pw_or1 (pt_cmpR (g_ne (K := K) (hu64 hr)) (pe_callB (b_len (K := K)) (by rfl) z.len' (by decide +kernel) (pa_cons (pv 1) pa_nil)) pe_int (nomark _)))))
      (pss_one (ps_ret pe_bl))
      pss_nil)
      (pss_one (ps_if (PW.pt (pw_or (pt_tr (K := K) (pe_callB (b_isi (K := K)) (by rfl) z.isinstance' (by decide +kernel) (pa_cons (pe_ix (g_ix (K := K)) (pv 1) pe_int (fun _ _ => rfl)) (pa_cons (pe_bltn (v := .ty "bool") (by rfl) z.bool' (by decide +kernel) rfl) pa_nil))) (by intro _; rfl)) (pw_or (pt_not (pt_tr (K := K) (pe_callB (b_isi (K := K)) (by rfl) z.isinstance' (by decide +kernel) (pa_cons (pe_ix (g_ix (K := K)) (pv 1) pe_int (fun _ _ => rfl)) (pa_cons (pe_bltn (v := .ty "tuple") (by rfl) z.tuple' (by decide +kernel) rfl) pa_nil))) (by intro _; rfl))) (pw_or1 (pt_not (pt_tr (K := K) (pe_callB (b_isi (K := K)) (by rfl) z.isinstance' (by decide +kernel) (pa_cons (pe_ix (g_ix (K := K)) (pv 1) pe_int (fun _ _ => rfl)) (pa_cons (pe_bltn (v := .ty "tuple") (by rfl) z.tuple' (by decide +kernel) rfl) pa_nil))) (by intro _; rfl)))))))
      (pss_one (ps_ret pe_bl))
      pss_nil))))
      (pss_one (ps_ret pe_bl)))), fun as R h => ?_⟩)
  · obtain ⟨_, rfl, _⟩ := h; rfl
  · obtain ⟨rs, rfl, h⟩ := h
    walk_at "init"
    walk_at "run"
    refine wp_for (fun i e => ∃ s1, e = [.bor (rs.map encR), s1]) (rs.map encR) (ei_bor rfl rfl) ⟨_, rfl⟩ ?_ ?_
    · rintro i d env' hd ⟨s1, rfl⟩
      obtain ⟨r, hr, rfl⟩ := enc_at hd
      refine ⟨_, .name, ?_⟩
      walk_at "nrm"
      walk_at "run"
      exact ⟨_, rfl⟩
    · rintro env' ⟨s1, rfl⟩
      walk_at "nrm"
      walk_at "run"
      exact h
local macro_rules | `(tactic| walk_at "e1") => `(tactic| ((with_reducible show ∃ ts, Paired Co _ ts ∧ sp_ulaw_plain ts _); refine ⟨_, .cons (by first | exact .bor | exact .own | exact .brtB | exact .valB) .nil, _, rfl, ?_⟩))

/-! ### _law_words -/
abbrev s_ulaw_words : Stmt := topS 13
abbrev N_ulaw_words : List Str := ["votes", "one", "two", "due", "told"]
theorem sc_ulaw_words : FnScope N_ulaw_words ["votes"] (defScope s_ulaw_words) := ⟨rfl, rfl, rfl, by decide +kernel, rfl, by decide +kernel, by decide +kernel⟩
theorem brF_cases (a b : Vote) : brF a b = .non ∨ brF a b = .str "twice" ∨ brF a b = .str "around" := by
  unfold brF
  split
  · exact .inl rfl
  · split
    · exact .inr (.inl rfl)
    · split
      · exact .inr (.inr rfl)
      · exact .inl rfl
def sp_ulaw_words : SpD := fun as R => ∃ (vs : List Vote), as = [.bor (vs.map encV)] ∧ R (.val (.bl true))
theorem ok_ulaw_words {Pr : Program} {wd : World} {K : PySem.W.Frag} {mg : Str → Option Value} {base : Heap} (z : Bl mg) (c_breaks : Cal Pr wd K mg base "breaks" 2 ["first", "second"] (spD K sp_breaks)) (c_ulaw_word : Cal Pr wd K mg base "_law_word" 1 ["one", "two"] (spD K sp_ulaw_word)) {f : Addr} {fd : FuncData} (F : Fun K "_law_words" "_law_words" s_ulaw_words f fd) : FnOk Pr wd K mg base CX0 3 f fd ["votes"] (spD K sp_ulaw_words) := by
  refine okD F sc_ulaw_words (fun as R h => ?_) (fun cdv A outer s H E hr => ⟨_, (pss_cons (ps_for PassesOwn.never rfl (pi_seqK (K := K) (pv 0)) (pg_name (i := 1) sc_ulaw_words.nd rfl (by first | exact Or.inl rfl | exact Or.inr rfl))
      (pss_one (ps_for PassesOwn.never rfl (pi_seqK (K := K) (pv 0)) (pg_name (i := 2) sc_ulaw_words.nd rfl (by first | exact Or.inl rfl | exact Or.inr rfl))
      (pss_cons (ps_set (i := 3) sc_ulaw_words.nd rfl (by first | exact Or.inl rfl | exact Or.inr rfl) (pe_cal c_ulaw_word (hr.mono (by decide)) (by rfl) (pa_cons (pv 1) (pa_cons (pv 2) pa_nil))))
      (pss_cons (ps_set (i := 4) sc_ulaw_words.nd rfl (by first | exact Or.inl rfl | exact Or.inr rfl) (pe_cal c_breaks (hr.mono (by decide)) (by rfl) (pa_cons (pv 1) (pa_cons (pv 2) pa_nil))))
      (pss_one (ps_if (pt_cmpR g_is (pv 3) pe_non (nomark _))
      (pss_one (ps_if (pt_cmpR g_isnot (pv 4) pe_non (nomark _))
      (pss_one (ps_ret pe_bl))
      pss_nil))
      (pss_one (ps_if (PW.pt (pw_or (pt_not (pt_tr (K := K) (pe_callB (b_isi (K := K)) (by rfl) z.isinstance' (by decide +kernel) (pa_cons (pv 4) (pa_cons (pe_bltn (v := .ty "str") (by rfl) z.str' (by decide +kernel) rfl) pa_nil))) (by intro _; rfl))) (pw_or1 (pt_cmpR (g_ne (K := K) (hu64 hr)) (pv 4) (pv 3) (nomark _)))))
      (pss_one (ps_ret pe_bl))
      pss_nil)))))))))
      (pss_one (ps_ret pe_bl))), fun as R h => ?_⟩)
  · obtain ⟨_, rfl, _⟩ := h; rfl
  · obtain ⟨vs, rfl, h⟩ := h
    walk_at "init"
    walk_at "run"
    refine wp_for (fun i e => ∃ s1 s2 s3 s4, e = [.bor (vs.map encV), s1, s2, s3, s4]) (vs.map encV) (ei_bor rfl rfl) ⟨_, _, _, _, rfl⟩ ?_ ?_
    · rintro i d env' hd ⟨s1, s2, s3, s4, rfl⟩
      obtain ⟨one, h1, rfl⟩ := enc_at hd
      refine ⟨_, .name, ?_⟩
      walk_at "nrm"
      refine wp_for (fun i e => ∃ s2 s3 s4, e = [.bor (vs.map encV), .val (encV one), s2, s3, s4]) (vs.map encV) (ei_bor rfl rfl) ⟨_, _, _, rfl⟩ ?_ ?_
      · rintro i d env' hd ⟨s2, s3, s4, rfl⟩
        obtain ⟨two, h2, rfl⟩ := enc_at hd
        refine ⟨_, .name, ?_⟩
        walk_at "nrm"
        walk_at "asg"
        walk_at "asg"
        rcases brF_cases one two with hb | hb | hb <;> rw [hb]
        all_goals walk_at "run"
        all_goals first | exact ⟨_, _, _, rfl⟩ | (exfalso; simp_all [DL.isNon]; done)
      · rintro env' ⟨s2, s3, s4, rfl⟩
        exact ⟨_, _, _, _, rfl⟩
    · rintro env' ⟨s1, s2, s3, s4, rfl⟩
      walk_at "nrm"
      walk_at "run"
      exact h
local macro_rules | `(tactic| walk_at "e1") => `(tactic| ((with_reducible show ∃ ts, Paired Co _ ts ∧ sp_ulaw_words ts _); refine ⟨_, .cons (by first | exact .bor | exact .own | exact .brtB | exact .valB) .nil, _, rfl, ?_⟩))

/-! ### law -/
abbrev s_law : Stmt := topS 14
abbrev N_law : List Str := ["script", "votes", "kept", "told", "due", "turned"]
theorem sc_law : FnScope N_law ["script"] (defScope s_law) := ⟨rfl, rfl, rfl, by decide +kernel, rfl, by decide +kernel, by decide +kernel⟩
theorem duF_nil : duF [] = [] := by simp [duF, keysF, srtd]
theorem duF_one (v : Vote) : duF [v] = [] := by simp [duF, keysF, srtd, rowF, ownF, fbF]
def sp_law : SpD := spLaw
theorem ok_law {Pr : Program} {wd : World} {K : PySem.W.Frag} {mg : Str → Option Value} {base : Heap} (z : Bl mg) (c_guilty : Cal Pr wd K mg base "guilty" 4 ["votes"] (spD K sp_guilty)) (c_ulaw_due : Cal Pr wd K mg base "_law_due" 2 ["votes"] (spD K sp_ulaw_due)) (c_ulaw_plain : Cal Pr wd K mg base "_law_plain" 1 ["rows"] (spD K sp_ulaw_plain)) (c_ulaw_words : Cal Pr wd K mg base "_law_words" 3 ["votes"] (spD K sp_ulaw_words)) (c_ulaw_votes : Cal Pr wd K mg base "_law_votes" 2 ["script"] (spD K sp_ulaw_votes)) {f : Addr} {fd : FuncData} (F : Fun K "law" "law" s_law f fd) : FnOk Pr wd K mg base CX0 5 f fd ["script"] (spD K sp_law) := by
  refine okD F sc_law (fun as R h => ?_) (fun cdv A outer s H E hr => ⟨_, (pss_cons (ps_set (i := 1) sc_law.nd rfl (by first | exact Or.inl rfl | exact Or.inr rfl) (pe_cal c_ulaw_votes (hr.mono (by decide)) (by rfl) (pa_cons (pv 0) pa_nil)))
      (pss_cons (ps_set (i := 2) sc_law.nd rfl (by first | exact Or.inl rfl | exact Or.inr rfl) (pe_callTy (b_list (K := K)) (by rfl) z.list' (by decide +kernel) (pa_cons (pv 1) pa_nil)))
      (pss_cons (ps_if (pt_not (pt_tr (K := K) (pe_cal c_ulaw_words (hr.mono (by decide)) (by rfl) (pa_cons (pe_slice (g_sl (K := K)) (pv 1) po_none (po_some pe_int)) pa_nil)) (by intro _; rfl)))
      (pss_one (ps_ret pe_bl))
      pss_nil)
      (pss_cons (ps_set (i := 3) sc_law.nd rfl (by first | exact Or.inl rfl | exact Or.inr rfl) (pe_cal c_guilty (hr.mono (by decide)) (by rfl) (pa_cons (pv 1) pa_nil)))
      (pss_cons (ps_set (i := 4) sc_law.nd rfl (by first | exact Or.inl rfl | exact Or.inr rfl) (pe_cal c_ulaw_due (hr.mono (by decide)) (by rfl) (pa_cons (pv 2) pa_nil)))
      (pss_cons (ps_if (PW.pt (pw_or (pt_not (pt_tr (K := K) (pe_cal c_ulaw_plain (hr.mono (by decide)) (by rfl) (pa_cons (pv 3) pa_nil)) (by intro _; rfl))) (pw_or (pt_cmpR (g_ne (K := K) (hu64 hr)) (pv 3) (pv 4) (nomark _)) (pw_or1 (pt_cmpR (g_ne (K := K) (hu64 hr)) (pv 1) (pv 2) (nomark _))))))
      (pss_one (ps_ret pe_bl))
      pss_nil)
      (pss_cons (ps_expr (pe_bm PySem.F.plainAttrs_list PySem.F.slot_list_append PySem.F.type_list_append mt_append (pv 3) (pa_cons (pe_tup (pa_cons pe_int (pa_cons (pe_ix (g_ix (K := K)) (pv 1) pe_int (fun _ _ => rfl)) (pa_cons (pe_ix (g_ix (K := K)) (pv 1) pe_int (fun _ _ => rfl)) pa_nil)))) pa_nil)))
      (pss_cons (ps_if (PW.pt (pw_or (pt_cmpR (g_ne (K := K) (hu64 hr)) (pe_cal c_guilty (hr.mono (by decide)) (by rfl) (pa_cons (pe_slice (g_sl (K := K)) (pv 1) po_none (po_some pe_int)) pa_nil)) (pe_cal c_ulaw_due (hr.mono (by decide)) (by rfl) (pa_cons (pe_slice (g_sl (K := K)) (pv 2) po_none (po_some pe_int)) pa_nil)) (nomark _)) (pw_or (pt_cmpR (g_ne (K := K) (hu64 hr)) (pe_cal c_guilty (hr.mono (by decide)) (by rfl) (pa_cons (pv 1) pa_nil)) (pv 4) (nomark _)) (pw_or1 (pt_cmpR (g_ne (K := K) (hu64 hr)) (pv 1) (pv 2) (nomark _))))))
      (pss_one (ps_ret pe_bl))
      pss_nil)
      (pss_cons (ps_set (i := 5) sc_law.nd rfl (by first | exact Or.inl rfl | exact Or.inr rfl) (pe_revLK (K := K) (pv 2)))
      (pss_cons (ps_if (pt_cmpR (g_ne (K := K) (hu64 hr)) (pe_cal c_guilty (hr.mono (by decide)) (by rfl) (pa_cons (pv 5) pa_nil)) (pe_cal c_ulaw_due (hr.mono (by decide)) (by rfl) (pa_cons (pe_revLK (K := K) (pv 2)) pa_nil)) (nomark _))
      (pss_one (ps_ret pe_bl))
      pss_nil)
      (pss_one (ps_ret (pe_and (pe_cmpR (g_eq (K := K) (hu64 hr)) (pe_cal c_guilty (hr.mono (by decide)) (by rfl) (pa_cons (pe_lst pa_nil) pa_nil)) (pe_lst pa_nil) (nomark _)) (pe_one (pe_cmpR (g_eq (K := K) (hu64 hr)) (pe_cal c_guilty (hr.mono (by decide)) (by rfl) (pa_cons (pe_lst (pa_cons (pe_ix (g_ix (K := K)) (pv 1) pe_int (fun _ _ => rfl)) pa_nil)) pa_nil)) (pe_lst pa_nil) (nomark _)))))))))))))))), fun as R h => ?_⟩)
  · obtain ⟨_, rfl, _⟩ := h; rfl
  · obtain ⟨ns, rfl, hl, h⟩ := h
    walk_at "init"
    walk_at "asg"
    rename_i vs hv0 hv1
    have t12 : (vs.take (Int.toNat 12)).length ≤ 1000 := by rw [List.length_take]; omega
    have t2 : (vs.take (Int.toNat 2)).length ≤ 1000 := by rw [List.length_take]; omega
    have ev := eqD_self (pl_vs vs)
    have hdl := duF_le vs
    walk_at "run"
    refine d_neD 3 3 rfl rfl (pl_rs _) (pl_rs _) (by decide) (by decide) ?_
    rw [eqD_self (pl_rs _)]
    walk_at "run"
    refine d_neD 2 2 rfl rfl (pl_vs _) (pl_vs _) (by decide) (by decide) ?_
    rw [ev]
    walk_at "run"
    refine d_neD 3 3 ⟨_, rfl, rfl⟩ ⟨_, rfl, rfl⟩ (pl_rs _) (pl_rs _) (by decide) (by decide) ?_
    rw [eqD_self (pl_rs _)]
    walk_at "run"
    refine d_neD 3 3 ⟨_, rfl, rfl⟩ rfl (pl_rs _) (pl_rs _) (by decide) (by decide) ?_
    rw [eqD_self (pl_rs _)]
    walk_at "run"
    refine d_neD 2 2 rfl rfl (pl_vs _) (pl_vs _) (by decide) (by decide) ?_
    rw [ev]
    walk_at "run"
    rw [← List.map_reverse]
    have trv : vs.reverse.length ≤ 1000 := by rw [List.length_reverse]; omega
    walk_at "run"
    rw [← List.map_reverse]
    walk_at "run"
    refine d_neD 3 3 ⟨_, rfl, rfl⟩ ⟨_, rfl, rfl⟩ (pl_rs _) (pl_rs _) (by decide) (by decide) ?_
    rw [eqD_self (pl_rs _)]
    walk_at "run"
    refine ⟨_, .cons .own .nil, [], rfl, by decide, ?_⟩
    rw [duF_nil]
    walk_at "run"
    refine d_eqD 3 1 ⟨_, rfl, rfl⟩ ⟨_, rfl, rfl⟩ (pl_rs _) pl_nil (by decide) (by decide) ?_
    rw [eq_nil, show ([] : List Row).isEmpty = true from rfl]
    walk_at "run"
    refine ⟨_, .cons .own .nil, [_], rfl, by simp, ?_⟩
    rw [duF_one]
    walk_at "run"
    refine d_eqD 3 1 ⟨_, rfl, rfl⟩ ⟨_, rfl, rfl⟩ (pl_rs _) pl_nil (by decide) (by decide) ?_
    rw [eq_nil, show ([] : List Row).isEmpty = true from rfl]
    walk_at "run"
    exact h
end Law

namespace Law
open PySem L2 DL
theorem all_mk {l : PySem.W.OpenLaw} {wd : World} {K : PySem.W.Frag} {h : Heap} {mg : Str → Option Value} {fa : Addr} (X : K.In h) (G : h.Ns mainGlobals mg) (hfa : mg "law" = some (.ref fa))
    {f0 : Addr} {od0 an0 : Option Addr} {sl0 : Array (Option Value)} {oc0 kV0 dc0 pm0 cd0 ct0 : Value}
    (a0 : PySem.W.nsIn K mainGlobals "_law_cell" = some (some (.ref f0))) (l0 : K.lookup f0 = some ⟨oc0, od0, .func (PySem.W.fnOf "_law_cell" "_law_cell" (defArgs s_ulaw_cell) (defBody s_ulaw_cell) (defScope s_ulaw_cell) .none kV0 dc0 pm0 an0 cd0 ct0), sl0⟩) (c0 : PySem.W.codeIn K cd0 "_law_cell" = true) (k0 : PySem.W.keepIn K (.ref f0) = true)
    {f1 : Addr} {od1 an1 : Option Addr} {sl1 : Array (Option Value)} {oc1 kV1 dc1 pm1 cd1 ct1 : Value}
    (a1 : PySem.W.nsIn K mainGlobals "_law_numbers" = some (some (.ref f1))) (l1 : K.lookup f1 = some ⟨oc1, od1, .func (PySem.W.fnOf "_law_numbers" "_law_numbers" (defArgs s_ulaw_numbers) (defBody s_ulaw_numbers) (defScope s_ulaw_numbers) .none kV1 dc1 pm1 an1 cd1 ct1), sl1⟩) (c1 : PySem.W.codeIn K cd1 "_law_numbers" = true) (k1 : PySem.W.keepIn K (.ref f1) = true)
    {f2 : Addr} {od2 an2 : Option Addr} {sl2 : Array (Option Value)} {oc2 kV2 dc2 pm2 cd2 ct2 : Value}
    (a2 : PySem.W.nsIn K mainGlobals "goes_around" = some (some (.ref f2))) (l2 : K.lookup f2 = some ⟨oc2, od2, .func (PySem.W.fnOf "goes_around" "goes_around" (defArgs s_goes_around) (defBody s_goes_around) (defScope s_goes_around) .none kV2 dc2 pm2 an2 cd2 ct2), sl2⟩) (c2 : PySem.W.codeIn K cd2 "goes_around" = true) (k2 : PySem.W.keepIn K (.ref f2) = true)
    {f3 : Addr} {od3 an3 : Option Addr} {sl3 : Array (Option Value)} {oc3 kV3 dc3 pm3 cd3 ct3 : Value}
    (a3 : PySem.W.nsIn K mainGlobals "breaks" = some (some (.ref f3))) (l3 : K.lookup f3 = some ⟨oc3, od3, .func (PySem.W.fnOf "breaks" "breaks" (defArgs s_breaks) (defBody s_breaks) (defScope s_breaks) .none kV3 dc3 pm3 an3 cd3 ct3), sl3⟩) (c3 : PySem.W.codeIn K cd3 "breaks" = true) (k3 : PySem.W.keepIn K (.ref f3) = true)
    {f4 : Addr} {od4 an4 : Option Addr} {sl4 : Array (Option Value)} {oc4 kV4 dc4 pm4 cd4 ct4 : Value}
    (a4 : PySem.W.nsIn K mainGlobals "first_break" = some (some (.ref f4))) (l4 : K.lookup f4 = some ⟨oc4, od4, .func (PySem.W.fnOf "first_break" "first_break" (defArgs s_first_break) (defBody s_first_break) (defScope s_first_break) .none kV4 dc4 pm4 an4 cd4 ct4), sl4⟩) (c4 : PySem.W.codeIn K cd4 "first_break" = true) (k4 : PySem.W.keepIn K (.ref f4) = true)
    {f5 : Addr} {od5 an5 : Option Addr} {sl5 : Array (Option Value)} {oc5 kV5 dc5 pm5 cd5 ct5 : Value}
    (a5 : PySem.W.nsIn K mainGlobals "_law_word" = some (some (.ref f5))) (l5 : K.lookup f5 = some ⟨oc5, od5, .func (PySem.W.fnOf "_law_word" "_law_word" (defArgs s_ulaw_word) (defBody s_ulaw_word) (defScope s_ulaw_word) .none kV5 dc5 pm5 an5 cd5 ct5), sl5⟩) (c5 : PySem.W.codeIn K cd5 "_law_word" = true) (k5 : PySem.W.keepIn K (.ref f5) = true)
    {f6 : Addr} {od6 an6 : Option Addr} {sl6 : Array (Option Value)} {oc6 kV6 dc6 pm6 cd6 ct6 : Value}
    (a6 : PySem.W.nsIn K mainGlobals "guilty" = some (some (.ref f6))) (l6 : K.lookup f6 = some ⟨oc6, od6, .func (PySem.W.fnOf "guilty" "guilty" (defArgs s_guilty) (defBody s_guilty) (defScope s_guilty) .none kV6 dc6 pm6 an6 cd6 ct6), sl6⟩) (c6 : PySem.W.codeIn K cd6 "guilty" = true) (k6 : PySem.W.keepIn K (.ref f6) = true)
    {f7 : Addr} {od7 an7 : Option Addr} {sl7 : Array (Option Value)} {oc7 kV7 dc7 pm7 cd7 ct7 : Value}
    (a7 : PySem.W.nsIn K mainGlobals "_law_vote" = some (some (.ref f7))) (l7 : K.lookup f7 = some ⟨oc7, od7, .func (PySem.W.fnOf "_law_vote" "_law_vote" (defArgs s_ulaw_vote) (defBody s_ulaw_vote) (defScope s_ulaw_vote) .none kV7 dc7 pm7 an7 cd7 ct7), sl7⟩) (c7 : PySem.W.codeIn K cd7 "_law_vote" = true) (k7 : PySem.W.keepIn K (.ref f7) = true)
    {f8 : Addr} {od8 an8 : Option Addr} {sl8 : Array (Option Value)} {oc8 kV8 dc8 pm8 cd8 ct8 : Value}
    (a8 : PySem.W.nsIn K mainGlobals "_law_votes" = some (some (.ref f8))) (l8 : K.lookup f8 = some ⟨oc8, od8, .func (PySem.W.fnOf "_law_votes" "_law_votes" (defArgs s_ulaw_votes) (defBody s_ulaw_votes) (defScope s_ulaw_votes) .none kV8 dc8 pm8 an8 cd8 ct8), sl8⟩) (c8 : PySem.W.codeIn K cd8 "_law_votes" = true) (k8 : PySem.W.keepIn K (.ref f8) = true)
    {f9 : Addr} {od9 an9 : Option Addr} {sl9 : Array (Option Value)} {oc9 kV9 dc9 pm9 cd9 ct9 : Value}
    (a9 : PySem.W.nsIn K mainGlobals "_law_due" = some (some (.ref f9))) (l9 : K.lookup f9 = some ⟨oc9, od9, .func (PySem.W.fnOf "_law_due" "_law_due" (defArgs s_ulaw_due) (defBody s_ulaw_due) (defScope s_ulaw_due) .none kV9 dc9 pm9 an9 cd9 ct9), sl9⟩) (c9 : PySem.W.codeIn K cd9 "_law_due" = true) (k9 : PySem.W.keepIn K (.ref f9) = true)
    {f10 : Addr} {od10 an10 : Option Addr} {sl10 : Array (Option Value)} {oc10 kV10 dc10 pm10 cd10 ct10 : Value}
    (a10 : PySem.W.nsIn K mainGlobals "_law_plain" = some (some (.ref f10))) (l10 : K.lookup f10 = some ⟨oc10, od10, .func (PySem.W.fnOf "_law_plain" "_law_plain" (defArgs s_ulaw_plain) (defBody s_ulaw_plain) (defScope s_ulaw_plain) .none kV10 dc10 pm10 an10 cd10 ct10), sl10⟩) (c10 : PySem.W.codeIn K cd10 "_law_plain" = true) (k10 : PySem.W.keepIn K (.ref f10) = true)
    {f11 : Addr} {od11 an11 : Option Addr} {sl11 : Array (Option Value)} {oc11 kV11 dc11 pm11 cd11 ct11 : Value}
    (a11 : PySem.W.nsIn K mainGlobals "_law_words" = some (some (.ref f11))) (l11 : K.lookup f11 = some ⟨oc11, od11, .func (PySem.W.fnOf "_law_words" "_law_words" (defArgs s_ulaw_words) (defBody s_ulaw_words) (defScope s_ulaw_words) .none kV11 dc11 pm11 an11 cd11 ct11), sl11⟩) (c11 : PySem.W.codeIn K cd11 "_law_words" = true) (k11 : PySem.W.keepIn K (.ref f11) = true)
    {f12 : Addr} {od12 an12 : Option Addr} {sl12 : Array (Option Value)} {oc12 kV12 dc12 pm12 cd12 ct12 : Value}
    (a12 : PySem.W.nsIn K mainGlobals "law" = some (some (.ref f12))) (l12 : K.lookup f12 = some ⟨oc12, od12, .func (PySem.W.fnOf "law" "law" (defArgs s_law) (defBody s_law) (defScope s_law) .none kV12 dc12 pm12 an12 cd12 ct12), sl12⟩) (c12 : PySem.W.codeIn K cd12 "law" = true) (k12 : PySem.W.keepIn K (.ref f12) = true)
    (z_len : PySem.W.nsIn K mainGlobals "len" = some none)
    (z_range : PySem.W.nsIn K mainGlobals "range" = some none)
    (z_int : PySem.W.nsIn K mainGlobals "int" = some none)
    (z_abs : PySem.W.nsIn K mainGlobals "abs" = some none)
    (z_enumerate : PySem.W.nsIn K mainGlobals "enumerate" = some none)
    (z_sorted : PySem.W.nsIn K mainGlobals "sorted" = some none)
    (z_list : PySem.W.nsIn K mainGlobals "list" = some none)
    (z_tuple : PySem.W.nsIn K mainGlobals "tuple" = some none)
    (z_isinstance : PySem.W.nsIn K mainGlobals "isinstance" = some none)
    (z_bool : PySem.W.nsIn K mainGlobals "bool" = some none)
    (z_str : PySem.W.nsIn K mainGlobals "str" = some none)
    : ∃ fd : FuncData, (∀ (s : Shared) (v : Value), BindsTo s fd ⟨[v], []⟩ [("script", v)]) ∧ ∀ base : Heap, K.In base → base.Ns mainGlobals mg → FnOk l.prog wd K mg base CX0 5 fa fd ["script"] (spD K spLaw) := by
  have e := hfa.symm.trans (PySem.W.mg_of X G a12)
  cases e
  have z : Bl mg := ⟨PySem.W.mg_none_of X G z_len, PySem.W.mg_none_of X G z_range, PySem.W.mg_none_of X G z_int, PySem.W.mg_none_of X G z_abs, PySem.W.mg_none_of X G z_enumerate, PySem.W.mg_none_of X G z_sorted, PySem.W.mg_none_of X G z_list, PySem.W.mg_none_of X G z_tuple, PySem.W.mg_none_of X G z_isinstance, PySem.W.mg_none_of X G z_bool, PySem.W.mg_none_of X G z_str⟩
  have F0 := fun_mk (st := s_ulaw_cell) l0 c0 k0
  have F1 := fun_mk (st := s_ulaw_numbers) l1 c1 k1
  have F2 := fun_mk (st := s_goes_around) l2 c2 k2
  have F3 := fun_mk (st := s_breaks) l3 c3 k3
  have F4 := fun_mk (st := s_first_break) l4 c4 k4
  have F5 := fun_mk (st := s_ulaw_word) l5 c5 k5
  have F6 := fun_mk (st := s_guilty) l6 c6 k6
  have F7 := fun_mk (st := s_ulaw_vote) l7 c7 k7
  have F8 := fun_mk (st := s_ulaw_votes) l8 c8 k8
  have F9 := fun_mk (st := s_ulaw_due) l9 c9 k9
  have F10 := fun_mk (st := s_ulaw_plain) l10 c10 k10
  have F11 := fun_mk (st := s_ulaw_words) l11 c11 k11
  have F12 := fun_mk (st := s_law) l12 c12 k12
  refine ⟨PySem.W.fnOf "law" "law" (defArgs s_law) (defBody s_law) (defScope s_law) .none kV12 dc12 pm12 an12 cd12 ct12, fun s v => .of_eq rfl, fun base _ _ => ?_⟩
  have C_ulaw_cell : Cal l.prog wd K mg base "_law_cell" 1 ["script", "k"] (spD K sp_ulaw_cell) := ⟨f0, _, ok_ulaw_cell z  F0, PySem.W.mg_of X G a0, F0.kp, F0.binds (ps := ["script", "k"]) fun _ _ _ _ _ _ us hl => match us, hl with | [_, _], _ => rfl⟩
  have C_ulaw_numbers : Cal l.prog wd K mg base "_law_numbers" 1 ["cell", "many"] (spD K sp_ulaw_numbers) := ⟨f1, _, ok_ulaw_numbers z  F1, PySem.W.mg_of X G a1, F1.kp, F1.binds (ps := ["cell", "many"]) fun _ _ _ _ _ _ us hl => match us, hl with | [_, _], _ => rfl⟩
  have C_goes_around : Cal l.prog wd K mg base "goes_around" 1 ["first", "second"] (spD K sp_goes_around) := ⟨f2, _, ok_goes_around z  F2, PySem.W.mg_of X G a2, F2.kp, F2.binds (ps := ["first", "second"]) fun _ _ _ _ _ _ us hl => match us, hl with | [_, _], _ => rfl⟩
  have C_breaks : Cal l.prog wd K mg base "breaks" 2 ["first", "second"] (spD K sp_breaks) := ⟨f3, _, ok_breaks z C_goes_around F3, PySem.W.mg_of X G a3, F3.kp, F3.binds (ps := ["first", "second"]) fun _ _ _ _ _ _ us hl => match us, hl with | [_, _], _ => rfl⟩
  have C_first_break : Cal l.prog wd K mg base "first_break" 3 ["votes"] (spD K sp_first_break) := ⟨f4, _, ok_first_break z C_breaks F4, PySem.W.mg_of X G a4, F4.kp, F4.binds (ps := ["votes"]) fun _ _ _ _ _ _ us hl => match us, hl with | [_], _ => rfl⟩
  have C_ulaw_word : Cal l.prog wd K mg base "_law_word" 1 ["one", "two"] (spD K sp_ulaw_word) := ⟨f5, _, ok_ulaw_word z  F5, PySem.W.mg_of X G a5, F5.kp, F5.binds (ps := ["one", "two"]) fun _ _ _ _ _ _ us hl => match us, hl with | [_, _], _ => rfl⟩
  have C_guilty : Cal l.prog wd K mg base "guilty" 4 ["votes"] (spD K sp_guilty) := ⟨f6, _, ok_guilty z C_first_break F6, PySem.W.mg_of X G a6, F6.kp, F6.binds (ps := ["votes"]) fun _ _ _ _ _ _ us hl => match us, hl with | [_], _ => rfl⟩
  have C_ulaw_vote : Cal l.prog wd K mg base "_law_vote" 1 ["n", "k", "before"] (spD K sp_ulaw_vote) := ⟨f7, _, ok_ulaw_vote z  F7, PySem.W.mg_of X G a7, F7.kp, F7.binds (ps := ["n", "k", "before"]) fun _ _ _ _ _ _ us hl => match us, hl with | [_, _, _], _ => rfl⟩
  have C_ulaw_votes : Cal l.prog wd K mg base "_law_votes" 2 ["script"] (spD K sp_ulaw_votes) := ⟨f8, _, ok_ulaw_votes z C_ulaw_vote C_ulaw_numbers C_ulaw_cell F8, PySem.W.mg_of X G a8, F8.kp, F8.binds (ps := ["script"]) fun _ _ _ _ _ _ us hl => match us, hl with | [_], _ => rfl⟩
  have C_ulaw_due : Cal l.prog wd K mg base "_law_due" 2 ["votes"] (spD K sp_ulaw_due) := ⟨f9, _, ok_ulaw_due z C_ulaw_word F9, PySem.W.mg_of X G a9, F9.kp, F9.binds (ps := ["votes"]) fun _ _ _ _ _ _ us hl => match us, hl with | [_], _ => rfl⟩
  have C_ulaw_plain : Cal l.prog wd K mg base "_law_plain" 1 ["rows"] (spD K sp_ulaw_plain) := ⟨f10, _, ok_ulaw_plain z  F10, PySem.W.mg_of X G a10, F10.kp, F10.binds (ps := ["rows"]) fun _ _ _ _ _ _ us hl => match us, hl with | [_], _ => rfl⟩
  have C_ulaw_words : Cal l.prog wd K mg base "_law_words" 3 ["votes"] (spD K sp_ulaw_words) := ⟨f11, _, ok_ulaw_words z C_breaks C_ulaw_word F11, PySem.W.mg_of X G a11, F11.kp, F11.binds (ps := ["votes"]) fun _ _ _ _ _ _ us hl => match us, hl with | [_], _ => rfl⟩
  exact ok_law z C_guilty C_ulaw_due C_ulaw_plain C_ulaw_words C_ulaw_votes F12
end Law
open PySem PySem.W PyProof.Rows
set_option maxRecDepth 100000 in
set_option maxHeartbeats 0 in
theorem PySem.Challenge.cw_oathcoin_k83_broken_rules_holds : PySem.Challenge.rw_oathcoin_k83_broken_rules.Holds := by
  w_on; o_law; k_head; (case hw => w_witness2)
  k_fill
  refine L2.walk_of (l := PySem.Challenge.rw_oathcoin_k83_broken_rules) (n := 63) (k := 5) (x := "script") (CX := fun _ => L2.CX0) (sp := fun w => DL.spD _ DL.spLaw) rfl (by decide) rfl ⟨rfl, by decide, by decide⟩ (fun w h Y => PySem.W.kIn_of Y) ?F (fun _ _ a ns hl _ hS => DL.law_end hl hS) (fun _ _ _ _ _ h => h)
  case F =>
    intro w mg fa h KX G hmg
    refine' Law.all_mk KX G hmg ?a0 ?l0 ?c0 ?k0 ?a1 ?l1 ?c1 ?k1 ?a2 ?l2 ?c2 ?k2 ?a3 ?l3 ?c3 ?k3 ?a4 ?l4 ?c4 ?k4 ?a5 ?l5 ?c5 ?k5 ?a6 ?l6 ?c6 ?k6 ?a7 ?l7 ?c7 ?k7 ?a8 ?l8 ?c8 ?k8 ?a9 ?l9 ?c9 ?k9 ?a10 ?l10 ?c10 ?k10 ?a11 ?l11 ?c11 ?k11 ?a12 ?l12 ?c12 ?k12 ?z_len ?z_range ?z_int ?z_abs ?z_enumerate ?z_sorted ?z_list ?z_tuple ?z_isinstance ?z_bool ?z_str
    (case a0 => k_is)
    (case l0 => k_is)
    (case c0 => k_is)
    (case k0 => k_is)
    (case a1 => k_is)
    (case l1 => k_is)
    (case c1 => k_is)
    (case k1 => k_is)
    (case a2 => k_is)
    (case l2 => k_is)
    (case c2 => k_is)
    (case k2 => k_is)
    (case a3 => k_is)
    (case l3 => k_is)
    (case c3 => k_is)
    (case k3 => k_is)
    (case a4 => k_is)
    (case l4 => k_is)
    (case c4 => k_is)
    (case k4 => k_is)
    (case a5 => k_is)
    (case l5 => k_is)
    (case c5 => k_is)
    (case k5 => k_is)
    (case a6 => k_is)
    (case l6 => k_is)
    (case c6 => k_is)
    (case k6 => k_is)
    (case a7 => k_is)
    (case l7 => k_is)
    (case c7 => k_is)
    (case k7 => k_is)
    (case a8 => k_is)
    (case l8 => k_is)
    (case c8 => k_is)
    (case k8 => k_is)
    (case a9 => k_is)
    (case l9 => k_is)
    (case c9 => k_is)
    (case k9 => k_is)
    (case a10 => k_is)
    (case l10 => k_is)
    (case c10 => k_is)
    (case k10 => k_is)
    (case a11 => k_is)
    (case l11 => k_is)
    (case c11 => k_is)
    (case k11 => k_is)
    (case a12 => k_is)
    (case l12 => k_is)
    (case c12 => k_is)
    (case k12 => k_is)
    (case z_len => k_is)
    (case z_range => k_is)
    (case z_int => k_is)
    (case z_abs => k_is)
    (case z_enumerate => k_is)
    (case z_sorted => k_is)
    (case z_list => k_is)
    (case z_tuple => k_is)
    (case z_isinstance => k_is)
    (case z_bool => k_is)
    (case z_str => k_is)
#print axioms PySem.Challenge.cw_oathcoin_k83_broken_rules_holds
