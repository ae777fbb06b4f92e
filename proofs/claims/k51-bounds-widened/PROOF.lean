import PyProof.Rows.All
import Wide.All
import OpenK.AllK
import Wide.FinOn
import HandS.ForMost
import HandS.EndBits
import HandS.Wide
import HandS.TupAny
import HandS.Zip
import HandS.IsInst
import HandS.Conv
import HandS.Deep
import HandS.TupMul
import KE.KMathG
import Flt.RightSqrt
import HandS.Style
import HandS.ForExc
import HandS.MakeKwOnly
import HandS.WideBits
import HandS.List
import HandS.Text
import HandS.Iter
import HandS.More
import HandS.OwnEq
import KE.GoesZip
import KE.GoesMore
import HandS.ExcIs
import PyProof.StrOps2
import PySem.Challenge.RW_sureplace_k51_how_bounds_are_widened
set_option Elab.async false
set_option linter.all false
set_option maxRecDepth 100000
set_option maxHeartbeats 4000000
set_option autoImplicit false
/-! DL: a calculus over data (values without a heap) upon the layer HandS. -/
namespace DL
open PySem PySem.Spec PyProof.Rows L2

/-- a value as data: instances are data too, by their class's address and their attributes -/
inductive D where
  | non | bl (b : Bool) | int (i : Int) | str (x : Str)
  | tup (xs : List D) | lst (xs : List D) | scr (ns : List Int)
  | ins (C : Addr) (ns : List Str) (xs : List D)
  | ty (n : String) | cls (C : Addr)
  /-- a set of so many ints -/
  | sz (n : Nat)

/-- what of the text the reading of an instance rests on -/
structure InsK (K : PySem.W.Frag) (C : Addr) (ns : List Str) : Prop where
  cl : Cls K C
  nf : ∀ f ∈ ns, NoAttr K C f
  ha : PySem.W.findIn K (.ref C) "__class__" = some (some (.builtin "object.__class__"))
  hn : PySem.W.specialIn K (.builtin "object.__class__") "__get__" = some (some (.builtin "getset_descriptor.__get__"))
  htk : PySem.W.takesIn K (.builtin "object.__class__") = some true
  hm : PySem.W.mroIn K C (.type "object") = some true
mutual
inductive Rep (K : PySem.W.Frag) (F : Hp) : V → D → Prop
  | non : Rep K F .non .non
  | bl (b : Bool) : Rep K F (.bl b) (.bl b)
  | int (i : Int) : Rep K F (.int i) (.int i)
  | str (x : Str) : Rep K F (.str x) (.str x)
  | tup {a : Addr} {vs : List V} {ds : List D} : SqT K F a vs → Reps K F vs ds → Rep K F (.ref a) (.tup ds)
  | lst {a : Addr} {vs : List V} {ds : List D} : F a = some (.lst vs) → Reps K F vs ds → Rep K F (.ref a) (.lst ds)
  | scr {a : Addr} {ns : List Int} : SqL K F a (ns.map V.int) → Rep K F (.ref a) (.scr ns)
  | ins {a C dx : Addr} {fs : List (Str × V)} {ds : List D} : InsK K C (fs.map (·.1)) → F a = some (.ins C dx fs) → Reps K F (fs.map (·.2)) ds → Rep K F (.ref a) (.ins C (fs.map (·.1)) ds)
  | ty (n : String) : Rep K F (.ty n) (.ty n)
  | cls (C : Addr) : Rep K F (.ref C) (.cls C)
  | sz {a : Addr} {S : Int → Bool} {n : Nat} : F a = some (.set S n) → Rep K F (.ref a) (.sz n)
inductive Reps (K : PySem.W.Frag) (F : Hp) : List V → List D → Prop
  | nil : Reps K F [] []
  | cons {v : V} {d : D} {vs : List V} {ds : List D} : Rep K F v d → Reps K F vs ds → Reps K F (v :: vs) (d :: ds)
end

theorem SqT_mono {K : PySem.W.Frag} {F F' : Hp} (h : Same F F') {a : Addr} {xs : List V} (q : SqT K F a xs) : SqT K F' a xs := by
  rcases q with (q | ⟨o, q⟩) | q
  · exact .inl (.inl (h _ _ q))
  · exact .inl (.inr ⟨o, h _ _ q⟩)
  · exact .inr q

section
variable {K : PySem.W.Frag} {G F0 F F' F'' H H' H'' : Hp}

theorem Rep.mono (h : Same F F') {v : V} {d : D} (r : Rep K F v d) : Rep K F' v d :=
  Rep.rec (motive_1 := fun v d _ => Rep K F' v d) (motive_2 := fun vs ds _ => Reps K F' vs ds)
    .non .bl .int .str (fun q _ ih => .tup (SqT_mono h q) ih) (fun q _ ih => .lst (h _ _ q) ih) (fun q => .scr (h.seq q)) (fun k q _ ih => .ins k (h _ _ q) ih) .ty .cls (fun q => .sz (h _ _ q)) .nil (fun _ _ i1 i2 => .cons i1 i2) r
theorem Reps.mono (h : Same F F') {vs : List V} {ds : List D} (r : Reps K F vs ds) : Reps K F' vs ds :=
  Reps.rec (motive_1 := fun v d _ => Rep K F' v d) (motive_2 := fun vs ds _ => Reps K F' vs ds)
    .non .bl .int .str (fun q _ ih => .tup (SqT_mono h q) ih) (fun q _ ih => .lst (h _ _ q) ih) (fun q => .scr (h.seq q)) (fun k q _ ih => .ins k (h _ _ q) ih) .ty .cls (fun q => .sz (h _ _ q)) .nil (fun _ _ i1 i2 => .cons i1 i2) r

theorem Reps.length : ∀ {vs : List V} {ds : List D}, Reps K F vs ds → vs.length = ds.length
  | [], _, h => by cases h; rfl
  | v :: vs, _, h => by cases h with | cons r t => simp [Reps.length t]
theorem Reps.get : ∀ {vs : List V} {ds : List D} {i : Nat} {d : D}, Reps K F vs ds → ds[i]? = some d → ∃ v, vs[i]? = some v ∧ Rep K F v d
  | [], _, i, d, h, e => by cases h; simp at e
  | v :: vs, _, 0, d, h, e => by
    cases h with | cons r t => simp at e; subst e; exact ⟨v, rfl, r⟩
  | v :: vs, _, i + 1, d, h, e => by
    cases h with | cons r t => simp at e; obtain ⟨w, h1, h2⟩ := Reps.get t e; exact ⟨w, by simpa using h1, h2⟩
theorem Reps.getV : ∀ {vs : List V} {ds : List D} {i : Nat} {v : V}, Reps K F vs ds → vs[i]? = some v → ∃ d, ds[i]? = some d ∧ Rep K F v d
  | [], _, i, d, h, e => by cases h; simp at e
  | v :: vs, _, 0, d, h, e => by
    cases h with | cons r t => simp at e; subst e; exact ⟨_, rfl, r⟩
  | v :: vs, _, i + 1, d, h, e => by
    cases h with | cons r t => simp at e; obtain ⟨w, h1, h2⟩ := Reps.getV t e; exact ⟨w, by simpa using h1, h2⟩
theorem Reps.append : ∀ {vs ws : List V} {ds es : List D}, Reps K F vs ds → Reps K F ws es → Reps K F (vs ++ ws) (ds ++ es)
  | [], _, _, _, h, h2 => by cases h; exact h2
  | v :: vs, _, _, _, h, h2 => by cases h with | cons r t => exact .cons r (Reps.append t h2)
theorem Reps.take : ∀ {vs : List V} {ds : List D} (n : Nat), Reps K F vs ds → Reps K F (vs.take n) (ds.take n)
  | [], _, n, h => by cases h; simp; exact .nil
  | v :: vs, _, 0, h => by simp; exact .nil
  | v :: vs, _, n + 1, h => by cases h with | cons r t => exact .cons r (Reps.take n t)
theorem Reps.drop : ∀ {vs : List V} {ds : List D} (n : Nat), Reps K F vs ds → Reps K F (vs.drop n) (ds.drop n)
  | [], _, n, h => by cases h; simp; exact .nil
  | v :: vs, _, 0, h => h
  | v :: vs, _, n + 1, h => by cases h with | cons r t => exact Reps.drop n t
theorem Reps.set : ∀ {vs : List V} {ds : List D} {v : V} {d : D} (n : Nat), Reps K F vs ds → Rep K F v d → Reps K F (vs.set n v) (ds.set n d)
  | [], _, _, _, n, h, _ => by cases h; simp; exact .nil
  | v :: vs, _, _, _, 0, h, q => by cases h with | cons r t => exact .cons q t
  | v :: vs, _, _, _, n + 1, h, q => by cases h with | cons r t => exact .cons r (Reps.set n t q)
theorem Reps.one {v : V} {d : D} (r : Rep K F v d) : Reps K F [v] [d] := .cons r .nil
theorem Reps.nil_iff {vs : List V} {ds : List D} (h : Reps K F vs ds) : vs = [] ↔ ds = [] := by
  have e := h.length
  constructor <;> intro q <;> subst q
  · cases h; rfl
  · cases h; rfl
theorem Reps.ints : ∀ {vs : List V} {ns : List Int}, Reps K F vs (ns.map D.int) → vs = ns.map V.int
  | [], [], _ => rfl
  | [], _ :: _, h => by cases h
  | v :: vs, [], h => by cases h
  | v :: vs, n :: ns, h => by
    cases h with | cons r t => cases r; rw [Reps.ints t]; rfl
theorem Reps.bls : ∀ {vs : List V} {ns : List Bool}, Reps K F vs (ns.map D.bl) → vs = ns.map V.bl
  | [], [], _ => rfl
  | [], _ :: _, h => by cases h
  | v :: vs, [], h => by cases h
  | v :: vs, n :: ns, h => by
    cases h with | cons r t => cases r; rw [Reps.bls t]; rfl
theorem Reps.of_ints : ∀ (ns : List Int), Reps K F (ns.map V.int) (ns.map D.int)
  | [] => .nil
  | n :: ns => .cons (.int n) (Reps.of_ints ns)

/-- values that hold no address -/
def flat : D → Prop
  | .non => True | .bl _ => True | .int _ => True | .str _ => True | _ => False
theorem Rep.flat_any {v : V} {d : D} (h : flat d) (r : Rep K F v d) : Rep K F' v d := by
  cases r with
  | non => exact .non
  | bl b => exact .bl b
  | int i => exact .int i
  | str x => exact .str x
  | tup _ _ => exact h.elim
  | lst _ _ => exact h.elim
  | scr _ => exact h.elim
  | ins _ _ _ => exact h.elim
  | ty _ => exact h.elim
  | cls _ => exact h.elim
  | sz _ => exact h.elim

/-- from (F, H) on: all that was tracked stays, F grows by new addresses alone -/
structure Ext (F H F' H' : Hp) : Prop where
  fF : Same F F'
  hH : Same H H'
  fh : Same F' H'
  nw : ∀ a, H a ≠ none → F' a = F a
theorem Ext.refl (h : Same F H) : Ext F H F H := ⟨Same.refl _, Same.refl _, h, fun _ _ => rfl⟩
theorem _root_.L2.Same.ne {a : Addr} (h : Same H H') (n : H a ≠ none) : H' a ≠ none := by
  cases e : H a with
  | none => exact absurd e n
  | some o => rw [h _ _ e]; exact fun z => nomatch z
theorem Ext.trans (a : Ext F H F' H') (b : Ext F' H' F'' H'') : Ext F H F'' H'' :=
  ⟨a.fF.trans b.fF, a.hH.trans b.hH, b.fh, fun x h => (b.nw x (a.hH.ne h)).trans (a.nw x h)⟩
theorem same_upd {H : Hp} {p : Addr} {o : HO} (h : H p = none) : Same H (upd H p o) := fun b x e => by
  rw [upd_ne (ne_of_none e h)]; exact e
theorem _root_.L2.Same.at_none {a : Addr} (h : Same H H') (n : H' a = none) : H a = none := by
  cases e : H a with
  | none => rfl
  | some o => rw [h _ _ e] at n; cases n
theorem Ext.alloc {p : Addr} {o : HO} (hf : Same F H) (h : H p = none) : Ext F H (upd F p o) (upd H p o) where
  fF := same_upd (hf.at_none h)
  hH := same_upd h
  fh := fun b x e => by
    by_cases hb : b = p
    · subst hb; rw [upd_same] at e ⊢; exact e
    · rw [upd_ne hb] at e ⊢; exact hf _ _ e
  nw := fun a n => by
    have : a ≠ p := fun e => n (e ▸ h)
    rw [upd_ne this]

/-- a value that is read: data, or a list whose items are data (it may be changed later) -/
def BRep (K : PySem.W.Frag) (F H : Hp) (v : V) (d : D) : Prop :=
  Rep K F v d ∨ ∃ a vs ds, v = .ref a ∧ d = .lst ds ∧ H a = some (.lst vs) ∧ Reps K F vs ds
theorem BRep.ext {v : V} {d : D} (h : Same F F') (h2 : Same H H') (r : BRep K F H v d) : BRep K F' H' v d := by
  rcases r with r | ⟨a, vs, ds, e1, e2, e3, e4⟩
  · exact .inl (r.mono h)
  · exact .inr ⟨a, vs, ds, e1, e2, h2 _ _ e3, e4.mono h⟩
theorem BRep.rep (hf : Same F H) {v : V} {d : D} (r : BRep K F H v d) : Rep K H v d := by
  rcases r with r | ⟨a, vs, ds, rfl, rfl, e3, e4⟩
  · exact r.mono hf
  · exact .lst e3 (e4.mono hf)
theorem BRep.lst (hf : Same F H) {v : V} {ds : List D} (r : BRep K F H v (.lst ds)) : ∃ a vs, v = .ref a ∧ H a = some (.lst vs) ∧ Reps K F vs ds := by
  rcases r with r | ⟨a, vs, ds, rfl, e, e3, e4⟩
  · cases r with | lst h q => exact ⟨_, _, rfl, hf _ _ h, q⟩
  · cases e; exact ⟨a, vs, rfl, e3, e4⟩
theorem BRep.int {v : V} {i : Int} (r : BRep K F H v (.int i)) : v = .int i := by
  rcases r with r | ⟨a, vs, ds, rfl, e, _, _⟩
  · cases r; rfl
  · cases e
theorem BRep.bl {v : V} {i : Bool} (r : BRep K F H v (.bl i)) : v = .bl i := by
  rcases r with r | ⟨a, vs, ds, rfl, e, _, _⟩
  · cases r; rfl
  · cases e
theorem BRep.str {v : V} {i : Str} (r : BRep K F H v (.str i)) : v = .str i := by
  rcases r with r | ⟨a, vs, ds, rfl, e, _, _⟩
  · cases r; rfl
  · cases e
theorem BRep.non {v : V} (r : BRep K F H v .non) : v = .non := by
  rcases r with r | ⟨a, vs, ds, rfl, e, _, _⟩
  · cases r; rfl
  · cases e
theorem BRep.tup (hf : Same F H) {v : V} {ds : List D} (r : BRep K F H v (.tup ds)) : ∃ a vs, v = .ref a ∧ SqT K H a vs ∧ Reps K F vs ds ∧ SqT K F a vs := by
  rcases r with r | ⟨a, vs, ds, rfl, e, _, _⟩
  · cases r with | tup h q => exact ⟨_, _, rfl, SqT_mono hf h, q, h⟩
  · cases e
theorem BRep.scr (hf : Same F H) {v : V} {ns : List Int} (r : BRep K F H v (.scr ns)) : ∃ a, v = .ref a ∧ SqL K H a (ns.map V.int) := by
  rcases r with r | ⟨a, vs, ds, rfl, e, _, _⟩
  · cases r with | scr h => exact ⟨_, rfl, hf.seq h⟩
  · cases e

/-! ### slots -/
/-- what one owns: a list, an object (its class, its attributes by name) -/
inductive OC where
  | l (ds : List D) | o (p C : Addr) (ns : List Str) (xs : List D)
instance : Coe (List D) OC := ⟨OC.l⟩
inductive Sl where
  | un | v (d : D) | own (c : OC)
def OcR (K : PySem.W.Frag) (F : Hp) (a : Addr) : OC → HO → Prop
  | .l ds, .lst vs => Reps K F vs ds
  | .o p C ns xs, .ins C' _ fs => a = p ∧ C' = C ∧ fs.map (·.1) = ns ∧ Reps K F (fs.map (·.2)) xs
  | _, _ => False
theorem OcR.mono {K : PySem.W.Frag} {F F' : Hp} {a : Addr} {c : OC} {o : HO} (r : OcR K F a c o) (h : Same F F') : OcR K F' a c o := by
  cases c with
  | l ds => cases o <;> first | exact Reps.mono h r | exact r
  | o p C ns xs => cases o <;> first | exact ⟨r.1, r.2.1, r.2.2.1, Reps.mono h r.2.2.2⟩ | exact r
theorem OcR.lst {K : PySem.W.Frag} {F : Hp} {a : Addr} {ds : List D} {o : HO} (r : OcR K F a (.l ds) o) : ∃ vs, o = .lst vs ∧ Reps K F vs ds := by
  cases o <;> first | exact ⟨_, rfl, r⟩ | exact r.elim
theorem OcR.ins {K : PySem.W.Frag} {F : Hp} {a p C : Addr} {ns : List Str} {xs : List D} {o : HO} (r : OcR K F a (.o p C ns xs) o) : ∃ dx fs, o = .ins C dx fs ∧ a = p ∧ fs.map (·.1) = ns ∧ Reps K F (fs.map (·.2)) xs := by
  cases o <;> first | (obtain ⟨rfl, rfl, h1, h2⟩ := r; exact ⟨_, _, rfl, rfl, h1, h2⟩) | exact r.elim
abbrev En := List Sl
/-- what a slot holds -/
def _root_.L2.St.at (σ : L2.St) (i : Nat) : Option V := (σ[i]?).join
def SlOk (K : PySem.W.Frag) (F H : Hp) : Sl → Option V → Prop
  | .un, _ => True
  | .v d, o => ∃ v, o = some v ∧ Rep K F v d
  | .own c, o => ∃ a ho, o = some (V.ref a) ∧ F a = none ∧ H a = some ho ∧ OcR K F a c ho
structure StOk (K : PySem.W.Frag) (G F0 F H : Hp) (env : En) (σ : L2.St) : Prop where
  fh : Same F H
  gh : Same G H
  ff : Same F0 F
  nw : ∀ a, G a ≠ none → F a = F0 a
  len : env.length = σ.length
  sl : ∀ (i : Nat) (s : Sl), env[i]? = some s → SlOk K F H s ((L2.St.at σ i))
  og : ∀ (i : Nat) (ds : OC) (a : Addr), env[i]? = some (Sl.own ds) → (L2.St.at σ i) = some (V.ref a) → G a = none
  inj : ∀ (i j : Nat) (ds es : OC) (a : Addr), env[i]? = some (Sl.own ds) → env[j]? = some (Sl.own es) → (L2.St.at σ i) = some (V.ref a) → (L2.St.at σ j) = some (V.ref a) → i = j
variable {env env' : En} {σ : L2.St}
theorem SlOk.ext {s : Sl} {o : Option V} (x : Ext F H F' H') (h : SlOk K F H s o) : SlOk K F' H' s o := by
  cases s with
  | un => trivial
  | v d => obtain ⟨v, e, r⟩ := h; exact ⟨v, e, r.mono x.fF⟩
  | own ds =>
    obtain ⟨a, vs, e, n, h1, r⟩ := h
    refine ⟨a, vs, e, ?_, x.hH _ _ h1, r.mono x.fF⟩
    rw [x.nw a (by rw [h1]; exact fun z => nomatch z)]; exact n
theorem StOk.ext (k : StOk K G F0 F H env σ) (x : Ext F H F' H') : StOk K G F0 F' H' env σ where
  fh := x.fh
  gh := k.gh.trans x.hH
  ff := k.ff.trans x.fF
  nw := fun a n => (x.nw a (k.gh.ne n)).trans (k.nw a n)
  len := k.len
  sl := fun i s e => (k.sl i s e).ext x
  og := k.og
  inj := k.inj
theorem StOk.toExt (k : StOk K G F0 F H env σ) : Ext F0 G F H := ⟨k.ff, k.gh, k.fh, k.nw⟩
/-- the address is that of no owned list -/
def NotOwn (env : En) (σ : L2.St) (a : Addr) : Prop := ∀ (i : Nat) (ds : OC), env[i]? = some (Sl.own ds) → (L2.St.at σ i) ≠ some (V.ref a)
theorem StOk.notOwn_new (k : StOk K G F0 F H env σ) {a : Addr} (n : H a = none) : NotOwn env σ a := fun i ds e z => by
  obtain ⟨b, vs, e1, _, e3, _⟩ := k.sl i _ e
  rw [z] at e1; cases e1; rw [n] at e3; cases e3
/-- an untracked-for-G list at a is frozen -/
theorem StOk.freezeAt (k : StOk K G F0 F H env σ) {a : Addr} {vs : List V} (hF : F a = none) (hH : H a = some (.lst vs)) (hG : G a = none) (no : NotOwn env σ a) : StOk K G F0 (upd F a (.lst vs)) H env σ := by
  have sF : Same F (upd F a (.lst vs)) := same_upd hF
  refine ⟨fun b o e => ?_, k.gh, k.ff.trans sF, fun b n => ?_, k.len, fun i s e => ?_, k.og, k.inj⟩
  · by_cases hb : b = a
    · subst hb; rw [upd_same] at e; rw [hH]; exact e
    · rw [upd_ne hb] at e; exact k.fh _ _ e
  · have : b ≠ a := fun z => n (z ▸ hG)
    rw [upd_ne this]; exact k.nw b n
  · have h := k.sl i s e
    cases s with
    | un => trivial
    | v d => obtain ⟨v, e1, r⟩ := h; exact ⟨v, e1, r.mono sF⟩
    | own ds =>
      obtain ⟨b, ws, e1, n, h1, r⟩ := h
      have : b ≠ a := fun z => no i ds e (by rw [e1, z])
      exact ⟨b, ws, e1, by rw [upd_ne this]; exact n, h1, r.mono sF⟩
theorem getElem?_set_some {α : Type} {l : List α} {i j : Nat} {x y : α} (e : (l.set i x)[j]? = some y) : (j = i ∧ y = x ∧ i < l.length) ∨ (j ≠ i ∧ l[j]? = some y) := by
  by_cases h : j = i
  · subst h
    by_cases hl : j < l.length
    · rw [List.getElem?_set_self hl] at e; exact .inl ⟨rfl, (Option.some.inj e).symm, hl⟩
    · rw [List.getElem?_eq_none (by simpa using hl)] at e; cases e
  · rw [List.getElem?_set_ne (Ne.symm h)] at e; exact .inr ⟨h, e⟩
theorem at_set {σ : L2.St} {i : Nat} {o : Option V} (h : i < σ.length) : L2.St.at (σ.set i o) i = o := by
  unfold L2.St.at; rw [List.getElem?_set_self h]; rfl
theorem at_set_ne {σ : L2.St} {i j : Nat} {o : Option V} (h : j ≠ i) : L2.St.at (σ.set i o) j = L2.St.at σ j := by
  unfold L2.St.at; rw [List.getElem?_set_ne (Ne.symm h)]
theorem set_none {α : Type} {l : List α} {i j : Nat} {x : α} (h : j ≠ i) : (l.set i x)[j]? = l[j]? := List.getElem?_set_ne (Ne.symm h)
theorem StOk.setV (k : StOk K G F0 F H env σ) {v : V} {d : D} (i : Nat) (r : Rep K F v d) : StOk K G F0 F H (env.set i (.v d)) (σ.set i (some v)) where
  fh := k.fh
  gh := k.gh
  ff := k.ff
  nw := k.nw
  len := by simp [k.len]
  sl := fun j s e => by
    rcases getElem?_set_some e with ⟨rfl, rfl, hl⟩ | ⟨h, e⟩
    · rw [at_set (by rw [← k.len]; exact hl)]; exact ⟨v, rfl, r⟩
    · rw [at_set_ne h]; exact k.sl j s e
  og := fun j ds a e => by
    rcases getElem?_set_some e with ⟨rfl, e, hl⟩ | ⟨h, e⟩
    · cases e
    · rw [at_set_ne h]; exact k.og j ds a e
  inj := fun j j' ds es a e e' => by
    rcases getElem?_set_some e with ⟨rfl, e, hl⟩ | ⟨h, e⟩
    · cases e
    · rcases getElem?_set_some e' with ⟨rfl, e', hl⟩ | ⟨h', e'⟩
      · cases e'
      · rw [at_set_ne h, at_set_ne h']; exact k.inj j j' ds es a e e'
theorem StOk.setC (k : StOk K G F0 F H env σ) {a : Addr} {ho : HO} {c : OC} (i : Nat) (hF : F a = none) (hH : H a = some ho) (hG : G a = none) (no : NotOwn env σ a) (r : OcR K F a c ho) :
    StOk K G F0 F H (env.set i (.own c)) (σ.set i (some (V.ref a))) where
  fh := k.fh
  gh := k.gh
  ff := k.ff
  nw := k.nw
  len := by simp [k.len]
  sl := fun j s e => by
    rcases getElem?_set_some e with ⟨rfl, rfl, hl⟩ | ⟨h, e⟩
    · rw [at_set (by rw [← k.len]; exact hl)]; exact ⟨a, ho, rfl, hF, hH, r⟩
    · rw [at_set_ne h]; exact k.sl j s e
  og := fun j es b e => by
    rcases getElem?_set_some e with ⟨rfl, e, hl⟩ | ⟨h, e⟩
    · rw [at_set (by rw [← k.len]; exact hl)]
      intro z; cases z; exact hG
    · rw [at_set_ne h]; exact k.og j es b e
  inj := fun j j' ds es b e e' => by
    rcases getElem?_set_some e with ⟨q, _, hl⟩ | ⟨h, e1⟩
    · rcases getElem?_set_some e' with ⟨q', _, hl'⟩ | ⟨h', e1'⟩
      · intros; exact q.trans q'.symm
      · rw [at_set_ne h', q, at_set (by rw [← k.len]; exact hl)]
        intro z z'; cases z; exact absurd z' (no j' _ e1')
    · rcases getElem?_set_some e' with ⟨q', _, hl'⟩ | ⟨h', e1'⟩
      · rw [at_set_ne h, q', at_set (by rw [← k.len]; exact hl')]
        intro z z'; cases z'; exact absurd z (no j _ e1)
      · rw [at_set_ne h, at_set_ne h']; exact k.inj j j' ds es b e1 e1'
theorem StOk.setN (k : StOk K G F0 F H env σ) {a : Addr} {vs : List V} {ds : List D} (i : Nat) (hF : F a = none) (hH : H a = some (.lst vs)) (hG : G a = none) (no : NotOwn env σ a) (r : Reps K F vs ds) :
    StOk K G F0 F H (env.set i (.own (.l ds))) (σ.set i (some (V.ref a))) := k.setC i hF hH hG no r
/-- what a slot owns is changed -/
theorem StOk.writeC (k : StOk K G F0 F H env σ) {i : Nat} {ds es : OC} {a : Addr} {ho : HO} (e : env[i]? = some (Sl.own ds)) (ea : (L2.St.at σ i) = some (V.ref a)) (r : OcR K F a es ho) :
    StOk K G F0 F (upd H a ho) (env.set i (.own es)) σ := by
  obtain ⟨b, vs, e1, hF, hH, _⟩ := k.sl i _ e
  rw [ea] at e1; cases e1
  have hG := k.og i ds a e ea
  have hl : i < env.length := by
    rcases Nat.lt_or_ge i env.length with h | h
    · exact h
    · rw [List.getElem?_eq_none h] at e; cases e
  refine ⟨fun b o q => ?_, fun b o q => ?_, k.ff, k.nw, by simp [k.len], fun j s q => ?_, fun j ys b q => ?_, fun j j' ys zs b q q' => ?_⟩
  · rw [upd_ne (ne_of_none q hF)]; exact k.fh _ _ q
  · rw [upd_ne (ne_of_none q hG)]; exact k.gh _ _ q
  · rcases getElem?_set_some q with ⟨rfl, rfl, _⟩ | ⟨h, q⟩
    · exact ⟨a, ho, ea, hF, upd_same, r⟩
    · have hs := k.sl j s q
      cases s with
      | un => trivial
      | v d => exact hs
      | own ys =>
        obtain ⟨b, vs', e1, n, h1, r'⟩ := hs
        have : b ≠ a := fun z => h (k.inj j i ys _ a q e (by rw [e1, z]) ea)
        exact ⟨b, vs', e1, n, by rw [upd_ne this]; exact h1, r'⟩
  · rcases getElem?_set_some q with ⟨rfl, _, _⟩ | ⟨h, q⟩
    · exact k.og j ds b e
    · exact k.og j ys b q
  · rcases getElem?_set_some q with ⟨z, _, _⟩ | ⟨h, q1⟩
    · rcases getElem?_set_some q' with ⟨z', _, _⟩ | ⟨h', q1'⟩
      · intros; exact z.trans z'.symm
      · rw [z]; exact k.inj i j' ds zs b e q1'
    · rcases getElem?_set_some q' with ⟨z', _, _⟩ | ⟨h', q1'⟩
      · rw [z']; exact k.inj j i ys ds b q1 e
      · exact k.inj j j' ys zs b q1 q1'
theorem StOk.write (k : StOk K G F0 F H env σ) {i : Nat} {ds es : List D} {a : Addr} {ws : List V} (e : env[i]? = some (Sl.own (.l ds))) (ea : (L2.St.at σ i) = some (V.ref a)) (r : Reps K F ws es) :
    StOk K G F0 F (upd H a (.lst ws)) (env.set i (.own (.l es))) σ := k.writeC e ea r
/-- a slot is forgotten -/
theorem StOk.weakEnv (k : StOk K G F0 F H env σ) (hl : env'.length = env.length) (h : ∀ (i : Nat) (s : Sl), env'[i]? = some s → s = .un ∨ env[i]? = some s) : StOk K G F0 F H env' σ where
  fh := k.fh
  gh := k.gh
  ff := k.ff
  nw := k.nw
  len := by rw [hl, k.len]
  sl := fun j s e => by
    rcases h j s e with rfl | e'
    · trivial
    · exact k.sl j s e'
  og := fun j ds a e => by
    rcases h j _ e with z | e'
    · cases z
    · exact k.og j ds a e'
  inj := fun j j' ds es b e e' => by
    rcases h j _ e with z | e1
    · cases z
    · rcases h j' _ e' with z | e2
      · cases z
      · exact k.inj j j' ds es b e1 e2
theorem StOk.freeze (k : StOk K G F0 F H env σ) {i : Nat} {ds : List D} (e : env[i]? = some (Sl.own (.l ds))) :
    ∃ a vs, (L2.St.at σ i) = some (V.ref a) ∧ H a = some (.lst vs) ∧ Reps K F vs ds ∧ Same F (upd F a (.lst vs)) ∧ StOk K G F0 (upd F a (.lst vs)) H (env.set i (.v (.lst ds))) σ := by
  obtain ⟨a, ho, ea, hF, hH, r⟩ := k.sl i _ e
  obtain ⟨vs, rfl, r⟩ := r.lst
  have hG := k.og i _ a e ea
  have sF : Same F (upd F a (.lst vs)) := same_upd hF
  refine ⟨a, vs, ea, hH, r, sF, fun b o q => ?_, k.gh, k.ff.trans sF, fun b n => ?_, by simp [k.len], fun j s q => ?_, fun j ys b q => ?_, fun j j' ys zs b q q' => ?_⟩
  · by_cases hb : b = a
    · subst hb; rw [upd_same] at q; rw [hH]; exact q
    · rw [upd_ne hb] at q; exact k.fh _ _ q
  · have : b ≠ a := fun z => n (z ▸ hG)
    rw [upd_ne this]; exact k.nw b n
  · rcases getElem?_set_some q with ⟨rfl, rfl, _⟩ | ⟨h, q⟩
    · exact ⟨_, ea, .lst upd_same (r.mono sF)⟩
    · have hs := k.sl j s q
      cases s with
      | un => trivial
      | v d => obtain ⟨v, e1, r'⟩ := hs; exact ⟨v, e1, r'.mono sF⟩
      | own ys =>
        obtain ⟨b, vs', e1, n, h1, r'⟩ := hs
        have : b ≠ a := fun z => h (k.inj j i ys _ a q e (by rw [e1, z]) ea)
        exact ⟨b, vs', e1, by rw [upd_ne this]; exact n, h1, r'.mono sF⟩
  · rcases getElem?_set_some q with ⟨rfl, z, _⟩ | ⟨h, q⟩
    · cases z
    · exact k.og j ys b q
  · rcases getElem?_set_some q with ⟨rfl, z, _⟩ | ⟨h, q⟩
    · cases z
    · rcases getElem?_set_some q' with ⟨rfl, z, _⟩ | ⟨h', q'⟩
      · cases z
      · exact k.inj j j' ys zs b q q'
end
end DL

namespace DL
open PySem PySem.Spec PyProof.Rows L2

/-! ### readings over data -/
abbrev RE := En → (D → En → Prop) → Prop
abbrev RN := En → (List D → En → Prop) → Prop
abbrev RT := En → (Bool → En → Prop) → Prop
def MonoQ {α : Type} (m : En → (α → En → Prop) → Prop) : Prop := ∀ (env : En) (Q Q' : α → En → Prop), (∀ d e, Q d e → Q' d e) → m env Q → m env Q'
/-- what stands behind an expression's evaluation -/
structure Af (K : PySem.W.Frag) (G F0 : Hp) (F H : Hp) (σ : L2.St) (F' H' : Hp) (env' : En) : Prop where
  hH : Same H H'
  fF : Same F F'
  ok : StOk K G F0 F' H' env' σ
def tM (K : PySem.W.Frag) (G F0 : Hp) (m : RE) : TE := fun σ H Q => ∃ F env, StOk K G F0 F H env σ ∧ m env fun d env' => ∀ v F' H', Af K G F0 F H σ F' H' env' → Rep K F' v d → Q v H'
def tBo (K : PySem.W.Frag) (G F0 : Hp) (m : RE) : TE := fun σ H Q => ∃ F env, StOk K G F0 F H env σ ∧ m env fun d env' => ∀ v F' H', Af K G F0 F H σ F' H' env' → BRep K F' H' v d → Q v H'
def tN (K : PySem.W.Frag) (G F0 : Hp) (m : RN) : TE := fun σ H Q => ∃ F env, StOk K G F0 F H env σ ∧ m env fun ds env' => ∀ a vs F' H', Af K G F0 F H σ F' H' env' → H' a = some (.lst vs) → F' a = none → G a = none → NotOwn env' σ a → Reps K F' vs ds → Q (.ref a) H'
def tTe (K : PySem.W.Frag) (G F0 : Hp) (m : RT) : TT := fun σ H Q => ∃ F env, StOk K G F0 F H env σ ∧ m env fun b env' => ∀ F' H', Af K G F0 F H σ F' H' env' → Q b H'
def tAr (K : PySem.W.Frag) (G F0 : Hp) (m : RN) : TA := fun σ H Q => ∃ F env, StOk K G F0 F H env σ ∧ m env fun ds env' => ∀ vs F' H', Af K G F0 F H σ F' H' env' → Reps K F' vs ds → Q vs H'
/-- arguments that are only read -/
inductive BReps (K : PySem.W.Frag) (F H : Hp) : List V → List D → Prop
  | nil : BReps K F H [] []
  | cons {v : V} {d : D} {vs : List V} {ds : List D} : BRep K F H v d → BReps K F H vs ds → BReps K F H (v :: vs) (d :: ds)
def tAb (K : PySem.W.Frag) (G F0 : Hp) (m : RN) : TA := fun σ H Q => ∃ F env, StOk K G F0 F H env σ ∧ m env fun ds env' => ∀ vs F' H', Af K G F0 F H σ F' H' env' → BReps K F' H' vs ds → Q vs H'

structure EE (X : Cx) (e : Expr) (m : RE) : Prop where
  mono : MonoQ m
  pe : ∀ G F0, PE X e (tM X.K G F0 m)
structure EB (X : Cx) (e : Expr) (m : RE) : Prop where
  mono : MonoQ m
  pe : ∀ G F0, PE X e (tBo X.K G F0 m)
structure EN (X : Cx) (e : Expr) (m : RN) : Prop where
  mono : MonoQ m
  pe : ∀ G F0, PE X e (tN X.K G F0 m)
structure ET (X : Cx) (e : Expr) (m : RT) : Prop where
  mono : MonoQ m
  pe : ∀ G F0, PT X e (tTe X.K G F0 m)
structure EW (X : Cx) (e : Expr) (m : RT) : Prop where
  mono : MonoQ m
  pe : ∀ G F0, PW X e (tTe X.K G F0 m)
structure EA (X : Cx) (es : List Expr) (m : RN) : Prop where
  mono : MonoQ m
  pe : ∀ G F0, PA X es (tAr X.K G F0 m)
structure EAb (X : Cx) (es : List Expr) (m : RN) : Prop where
  mono : MonoQ m
  pe : ∀ G F0, PA X es (tAb X.K G F0 m)

theorem PE_imp {X : Cx} {e : Expr} {t t' : TE} (h : PE X e t) (i : ∀ σ H Q, t' σ H Q → t σ H Q) : PE X e t' := ⟨fun pins s σ H Q I q => h.run pins s σ H Q I (i σ H Q q)⟩
theorem PT_imp {X : Cx} {e : Expr} {t t' : TT} (h : PT X e t) (i : ∀ σ H Q, t' σ H Q → t σ H Q) : PT X e t' := ⟨fun pins s σ H Q I q => h.run pins s σ H Q I (i σ H Q q)⟩
theorem PW_imp {X : Cx} {e : Expr} {t t' : TT} (h : PW X e t) (i : ∀ σ H Q, t' σ H Q → t σ H Q) : PW X e t' := ⟨fun wh pins s σ H Q I q => h.run wh pins s σ H Q I (i σ H Q q)⟩
theorem PA_imp {X : Cx} {es : List Expr} {t t' : TA} (h : PA X es t) (i : ∀ σ H Q, t' σ H Q → t σ H Q) : PA X es t' := ⟨fun pos pins s σ H Q I q => h.run pos pins s σ H Q I (i σ H Q q)⟩
theorem PS_imp {X : Cx} {e : Stmt} {t t' : TS} (h : PS X e t) (i : ∀ D σ H, t' D σ H → t D σ H) : PS X e t' := ⟨fun pins s σ H D I q => h.run pins s σ H D I (i D σ H q)⟩
theorem PSs_imp {X : Cx} {e : List Stmt} {t t' : TS} (h : PSs X e t) (i : ∀ D σ H, t' D σ H → t D σ H) : PSs X e t' := ⟨fun pins s σ H D I q => h.run pins s σ H D I (i D σ H q)⟩
theorem PE_of_run {X : Cx} {e : Expr} {t : TE} (h : ∀ pins s σ H Q, Inv X pins σ H s → t σ H Q → wpAny (model X.prog X.w) X.A (eval e X.env) (EP X pins σ Q) X.xe s) : PE X e t := ⟨h⟩

section
variable {K : PySem.W.Frag} {G F0 F F' F'' H H' H'' : Hp} {env env' env'' : En} {σ : L2.St}
theorem Af.refl (k : StOk K G F0 F H env σ) : Af K G F0 F H σ F H env := ⟨Same.refl _, Same.refl _, k⟩
theorem Af.trans (a : Af K G F0 F H σ F' H' env') (b : Af K G F0 F' H' σ F'' H'' env'') : Af K G F0 F H σ F'' H'' env'' := ⟨a.hH.trans b.hH, a.fF.trans b.fF, b.ok⟩
theorem Af.ext (a : Af K G F0 F H σ F' H' env') (x : Ext F' H' F'' H'') : Af K G F0 F H σ F'' H'' env' := ⟨a.hH.trans x.hH, a.fF.trans x.fF, a.ok.ext x⟩
theorem BReps.ext {vs : List V} {ds : List D} (h : Same F F') (h2 : Same H H') (r : BReps K F H vs ds) : BReps K F' H' vs ds := by
  induction r with
  | nil => exact .nil
  | cons r _ ih => exact .cons (r.ext h h2) ih
theorem BReps.reps {vs : List V} {ds : List D} (hf : Same F H) (r : BReps K F H vs ds) : Reps K H vs ds := by
  induction r with
  | nil => exact .nil
  | cons r _ ih => exact .cons (r.rep hf) ih
theorem BReps.length {vs : List V} {ds : List D} (r : BReps K F H vs ds) : vs.length = ds.length := by
  induction r with
  | nil => rfl
  | cons r _ ih => simp [ih]
end

/-! ### conversions -/
section
variable {X : Cx} {e : Expr}
theorem EE.b {m : RE} (h : EE X e m) : EB X e m where
  mono := h.mono
  pe := fun G F0 => PE_imp (h.pe G F0) fun σ H Q ⟨F, env, k, q⟩ => ⟨F, env, k, h.mono _ _ _ (fun d e f v F' H' a r => f v F' H' a (.inl r)) q⟩
/-- a new list, frozen at once -/
def rFz (m : RN) : RE := fun env Q => m env fun ds e => Q (.lst ds) e
theorem rFz_mono {m : RN} (h : MonoQ m) : MonoQ (rFz m) := fun env Q Q' i => h env _ _ fun ds e => i _ e
theorem EN.fz {m : RN} (h : EN X e m) : EE X e (rFz m) where
  mono := rFz_mono h.mono
  pe := fun G F0 => PE_imp (h.pe G F0) fun σ H Q ⟨F, env, k, q⟩ => ⟨F, env, k, h.mono _ _ _ (fun ds e f a vs F' H' af hH hF hG no r =>
    f (.ref a) (upd F' a (.lst vs)) H' ⟨af.hH, af.fF.trans (same_upd hF), af.ok.freezeAt hF hH hG no⟩ (.lst upd_same (r.mono (same_upd hF)))) q⟩
theorem EN.b {m : RN} (h : EN X e m) : EB X e (rFz m) where
  mono := rFz_mono h.mono
  pe := fun G F0 => PE_imp (h.pe G F0) fun σ H Q ⟨F, env, k, q⟩ => ⟨F, env, k, h.mono _ _ _ (fun ds e f a vs F' H' af hH hF hG no r =>
    f (.ref a) F' H' af (.inr ⟨a, vs, ds, rfl, rfl, hH, r⟩)) q⟩
end

/-! ### names -/
def eg : En → Nat → Sl
  | [], _ => .un
  | s :: _, 0 => s
  | _ :: r, i + 1 => eg r i
theorem eg_get : ∀ {env : En} {i : Nat}, eg env i ≠ .un → env[i]? = some (eg env i)
  | [], _, h => absurd rfl h
  | s :: _, 0, _ => rfl
  | _ :: r, i + 1, h => by
    have h' : eg r i ≠ .un := h
    simpa [eg] using eg_get h'
def es : En → Nat → Sl → En
  | [], _, _ => []
  | _ :: r, 0, s => s :: r
  | x :: r, i + 1, s => x :: es r i s
theorem es_eq : ∀ (env : En) (i : Nat) (s : Sl), es env i s = env.set i s
  | [], _, _ => rfl
  | _ :: _, 0, _ => rfl
  | x :: r, i + 1, s => by rw [es, es_eq r i s]; rfl
def rVar (i : Nat) : RE := fun env Q => match eg env i with
  | .v d => Q d env
  | .own (.l ds) => Q (.lst ds) (es env i (.v (.lst ds)))
  | _ => False
def rVarB (i : Nat) : RE := fun env Q => match eg env i with
  | .v d => Q d env
  | .own (.l ds) => Q (.lst ds) env
  | _ => False
theorem rVar_mono (i : Nat) : MonoQ (rVar i) := fun env Q Q' h q => by
  unfold rVar at q ⊢
  split at q <;> first | exact h _ _ q | exact q
theorem rVarB_mono (i : Nat) : MonoQ (rVarB i) := fun env Q Q' h q => by
  unfold rVarB at q ⊢
  split at q <;> first | exact h _ _ q | exact q
section
variable {X : Cx} {x : Str} {pos : Pos}
theorem at_some {σ : L2.St} {i : Nat} {v : V} (h : L2.St.at σ i = some v) : σ[i]? = some (some v) := by
  unfold L2.St.at at h
  cases e : σ[i]? with
  | none => rw [e] at h; cases h
  | some o => rw [e] at h; cases o with
    | none => cases h
    | some w => exact congrArg some h
theorem ee_var {i : Nat} (hp : PE X (.Name x pos) (tVar i)) : EE X (.Name x pos) (rVar i) where
  mono := rVar_mono i
  pe := fun G F0 => PE_imp hp fun σ H Q ⟨F, env, k, q⟩ => by
    unfold rVar at q
    split at q
    · rename_i d e
      have g := eg_get (env := env) (i := i) (by rw [e]; exact fun z => nomatch z)
      rw [e] at g
      obtain ⟨v, ev, r⟩ := k.sl i _ g
      exact ⟨v, at_some ev, q v F H (Af.refl k) r⟩
    · rename_i ds e
      have g := eg_get (env := env) (i := i) (by rw [e]; exact fun z => nomatch z)
      rw [e] at g
      obtain ⟨a, vs, ea, hH, r, sF, k'⟩ := k.freeze g
      rw [es_eq] at q
      exact ⟨.ref a, at_some ea, q (.ref a) _ H ⟨Same.refl _, sF, k'⟩ (.lst upd_same (r.mono sF))⟩
    · exact q.elim
theorem eb_var {i : Nat} (hp : PE X (.Name x pos) (tVar i)) : EB X (.Name x pos) (rVarB i) where
  mono := rVarB_mono i
  pe := fun G F0 => PE_imp hp fun σ H Q ⟨F, env, k, q⟩ => by
    unfold rVarB at q
    split at q
    · rename_i d e
      have g := eg_get (env := env) (i := i) (by rw [e]; exact fun z => nomatch z)
      rw [e] at g
      obtain ⟨v, ev, r⟩ := k.sl i _ g
      exact ⟨v, at_some ev, q v F H (Af.refl k) (.inl r)⟩
    · rename_i ds e
      have g := eg_get (env := env) (i := i) (by rw [e]; exact fun z => nomatch z)
      rw [e] at g
      obtain ⟨a, ho, ea, hF, hH, r⟩ := k.sl i _ g
      obtain ⟨vs, rfl, r⟩ := r.lst
      exact ⟨.ref a, at_some ea, q (.ref a) F H (Af.refl k) (.inr ⟨a, vs, ds, rfl, rfl, hH, r⟩)⟩
    · exact q.elim
/-! ### constants -/
def rC (d : D) : RE := fun env Q => Q d env
theorem rC_mono (d : D) : MonoQ (rC d) := fun env Q Q' h q => h _ _ q
theorem ee_c {e : Expr} {v : V} {d : D} (h : PE X e (tC v)) (r : ∀ F, Rep X.K F v d) : EE X e (rC d) where
  mono := rC_mono d
  pe := fun G F0 => PE_imp h fun σ H Q ⟨F, env, k, q⟩ => q v F H (Af.refl k) (r F)
theorem ee_int {i : Int} {j p} : EE X (.Constant (.int i) j p) (rC (.int i)) := ee_c pe_int fun _ => .int i
theorem ee_bl {i : Bool} {j p} : EE X (.Constant (.bool i) j p) (rC (.bl i)) := ee_c pe_bl fun _ => .bl i
theorem ee_non {j p} : EE X (.Constant .none j p) (rC .non) := ee_c pe_non fun _ => .non
theorem ee_str {i : Str} {j p} : EE X (.Constant (.str i) j p) (rC (.str i)) := ee_c pe_str fun _ => .str i
end

/-! ### operations on values -/
/-- what an operation asks and gives, over data -/
abbrev Op2 := D → D → (D → Prop) → Prop
def Mono2 (δ : Op2) : Prop := ∀ d e (Q Q' : D → Prop), (∀ x, Q x → Q' x) → δ d e Q → δ d e Q'
def Wants (K : PySem.W.Frag) (F H : Hp) (Q : VK) (d : D) : Prop := ∀ v F' H', Ext F H F' H' → Rep K F' v d → Q v H'
def rD2 (K : PySem.W.Frag) (δ : Op2) : R2 := fun x y H Q => ∃ F d e, Same F H ∧ BRep K F H x d ∧ BRep K F H y e ∧ δ d e (Wants K F H Q)
def rBin (δ : Op2) (ma mb : RE) : RE := fun env Q => ma env fun x e1 => mb e1 fun y e2 => δ x y fun d => Q d e2
theorem rBin_mono {δ : Op2} {ma mb : RE} (hd : Mono2 δ) (ha : MonoQ ma) (hb : MonoQ mb) : MonoQ (rBin δ ma mb) := fun env Q Q' i q =>
  ha _ _ _ (fun x e1 q => hb _ _ _ (fun y e2 q => hd _ _ _ _ (fun d q => i _ _ q) q) q) q
section
variable {X : Cx} {a b : Expr} {ma mb : RE} {pos : Pos} {δ : Op2}
theorem bin_core {G F0 : Hp} {σ : L2.St} {H : Hp} {Q : VK} (hd : Mono2 δ) (ha : EB X a ma) (hb : EB X b mb) (h : tM X.K G F0 (rBin δ ma mb) σ H Q) :
    tOp (rD2 X.K δ) (tBo X.K G F0 ma) (tBo X.K G F0 mb) σ H Q := by
  obtain ⟨F, env, k, q⟩ := h
  refine ⟨F, env, k, ha.mono _ _ _ (fun x e1 q v1 F1 H1 a1 r1 => ?_) q⟩
  refine ⟨F1, e1, a1.ok, hb.mono _ _ _ (fun y e2 q v2 F2 H2 a2 r2 => ?_) q⟩
  exact ⟨F2, x, y, a2.ok.fh, r1.ext a2.fF a2.hH, r2, hd _ _ _ _ (fun d q v F3 H3 x3 r3 => q v F3 H3 ((a1.trans a2).ext x3) r3) q⟩
theorem ee_op {op : Operator} (ho : OpR X (binaryOp op) (rD2 X.K δ)) (hd : Mono2 δ) (ha : EB X a ma) (hb : EB X b mb) : EE X (.BinOp a op b pos) (rBin δ ma mb) where
  mono := rBin_mono hd ha.mono hb.mono
  pe := fun G F0 => PE_imp (pe_op ho (ha.pe G F0) (hb.pe G F0)) fun σ H Q h => bin_core hd ha hb h
theorem ee_cmp {op : CmpOp} (ho : OpR X (compareOp op) (rD2 X.K δ)) (hd : Mono2 δ) (ha : EB X a ma) (hb : EB X b mb) (hm : behindInMarks op b = false) : EE X (.Compare a [op] [b] pos) (rBin δ ma mb) where
  mono := rBin_mono hd ha.mono hb.mono
  pe := fun G F0 => PE_imp (pe_cmpR ho (ha.pe G F0) (hb.pe G F0) hm) fun σ H Q h => bin_core hd ha hb h
/-- as a test -/
def rTest (m : RE) : RT := fun env Q => m env fun d e => ∃ b, d = .bl b ∧ Q b e
theorem rTest_mono {m : RE} (h : MonoQ m) : MonoQ (rTest m) := fun env Q Q' i q => h _ _ _ (fun d e ⟨b, h1, h2⟩ => ⟨b, h1, i _ _ h2⟩) q
theorem test_core {G F0 : Hp} {σ : L2.St} {H : Hp} {Q : Bool → Hp → Prop} {m : RE} {t : TE} (hm : MonoQ m) (hi : ∀ Q, tM X.K G F0 m σ H Q → t σ H Q) (h : tTe X.K G F0 (rTest m) σ H Q) : tTest t σ H Q := by
  obtain ⟨F, env, k, q⟩ := h
  refine hi _ ⟨F, env, k, hm _ _ _ (fun d e ⟨b, h1, h2⟩ v F' H' a r => ?_) q⟩
  subst h1
  cases r
  exact ⟨b, rfl, h2 F' H' a⟩
theorem et_cmp {op : CmpOp} (ho : OpR X (compareOp op) (rD2 X.K δ)) (hd : Mono2 δ) (ha : EB X a ma) (hb : EB X b mb) (hm : behindInMarks op b = false) : ET X (.Compare a [op] [b] pos) (rTest (rBin δ ma mb)) where
  mono := rTest_mono (rBin_mono hd ha.mono hb.mono)
  pe := fun G F0 => PT_imp (pt_cmpR ho (ha.pe G F0) (hb.pe G F0) hm) fun σ H Q h => test_core (rBin_mono hd ha.mono hb.mono) (fun Q h => bin_core hd ha hb h) h
/-- a chain of two -/
def rChain (δ δ' : Op2) (ma mb mc : RE) : RE := fun env Q => ma env fun x e1 => mb e1 fun y e2 => δ x y fun d => ∃ k, d = .bl k ∧ (if k = true then mc e2 fun z e3 => δ' y z fun d' => Q d' e3 else Q (.bl false) e2)
theorem rChain_mono {δ δ' : Op2} {ma mb mc : RE} (hd : Mono2 δ) (hd' : Mono2 δ') (ha : MonoQ ma) (hb : MonoQ mb) (hc : MonoQ mc) : MonoQ (rChain δ δ' ma mb mc) := fun env Q Q' i q =>
  ha _ _ _ (fun x e1 q => hb _ _ _ (fun y e2 q => hd _ _ _ _ (fun d ⟨k, h1, h2⟩ => ⟨k, h1, by
    cases k with
    | true => exact hc _ _ _ (fun z e3 q => hd' _ _ _ _ (fun d q => i _ _ q) q) h2
    | false => exact i _ _ h2⟩) q) q) q
theorem chain_core {δ' : Op2} {c : Expr} {mc : RE} {G F0 : Hp} {σ : L2.St} {H : Hp} {Q : VK} (hd : Mono2 δ) (hd' : Mono2 δ') (ha : EB X a ma) (hb : EB X b mb) (hc : EB X c mc) (h : tM X.K G F0 (rChain δ δ' ma mb mc) σ H Q) :
    tChain (rD2 X.K δ) (rD2 X.K δ') (tBo X.K G F0 ma) (tBo X.K G F0 mb) (tBo X.K G F0 mc) σ H Q := by
  obtain ⟨F, env, k, q⟩ := h
  refine ⟨F, env, k, ha.mono _ _ _ (fun x e1 q v1 F1 H1 a1 r1 => ?_) q⟩
  refine ⟨F1, e1, a1.ok, hb.mono _ _ _ (fun y e2 q v2 F2 H2 a2 r2 => ?_) q⟩
  refine ⟨F2, x, y, a2.ok.fh, r1.ext a2.fF a2.hH, r2, hd _ _ _ _ (fun d ⟨k, h1, h2⟩ v F3 H3 x3 r3 => ?_) q⟩
  subst h1
  cases r3
  refine ⟨k, rfl, ?_⟩
  cases k with
  | false => exact h2 _ F3 H3 ((a1.trans a2).ext x3) (.bl false)
  | true =>
    show tBo X.K G F0 mc σ H3 _
    refine ⟨F3, e2, a2.ok.ext x3, hc.mono _ _ _ (fun z e3 q v4 F4 H4 a4 r4 => ?_) h2⟩
    exact ⟨F4, y, z, a4.ok.fh, (r2.ext x3.fF x3.hH).ext a4.fF a4.hH, r4, hd' _ _ _ _ (fun d q v F5 H5 x5 r5 => q v F5 H5 ((((a1.trans a2).ext x3).trans a4).ext x5) r5) q⟩
theorem ee_chain {op op' : CmpOp} {δ' : Op2} {c : Expr} {mc : RE} (ho : OpR X (compareOp op) (rD2 X.K δ)) (ho' : OpR X (compareOp op') (rD2 X.K δ')) (hd : Mono2 δ) (hd' : Mono2 δ') (ha : EB X a ma) (hb : EB X b mb) (hc : EB X c mc)
    (hm : lastMarks [op, op'] [b, c] = false := by with_unfolding_all rfl) : EE X (.Compare a [op, op'] [b, c] pos) (rChain δ δ' ma mb mc) where
  mono := rChain_mono hd hd' ha.mono hb.mono hc.mono
  pe := fun G F0 => PE_imp (pe_chain ho ho' (ha.pe G F0) (hb.pe G F0) (hc.pe G F0) hm) fun σ H Q h => chain_core hd hd' ha hb hc h
theorem et_chain {op op' : CmpOp} {δ' : Op2} {c : Expr} {mc : RE} (ho : OpR X (compareOp op) (rD2 X.K δ)) (ho' : OpR X (compareOp op') (rD2 X.K δ')) (hd : Mono2 δ) (hd' : Mono2 δ') (ha : EB X a ma) (hb : EB X b mb) (hc : EB X c mc)
    (hm : lastMarks [op, op'] [b, c] = false := by with_unfolding_all rfl) : ET X (.Compare a [op, op'] [b, c] pos) (rTest (rChain δ δ' ma mb mc)) where
  mono := rTest_mono (rChain_mono hd hd' ha.mono hb.mono hc.mono)
  pe := fun G F0 => PT_imp (pt_chain ho ho' (ha.pe G F0) (hb.pe G F0) (hc.pe G F0) hm) fun σ H Q h => test_core (rChain_mono hd hd' ha.mono hb.mono hc.mono) (fun Q h => chain_core hd hd' ha hb hc h) h
end

/-! ### tests -/
def dTr : D → (Bool → Prop) → Prop
  | .non, Q => Q false
  | .bl b, Q => Q b
  | .int i, Q => Q (i != 0)
  | .str y, Q => y.length ≤ sizeLine ∧ Q ((y.length : Int) != 0)
  | .tup xs, Q => Q (!xs.isEmpty)
  | .lst xs, Q => Q (!xs.isEmpty)
  | .scr xs, Q => Q (!xs.isEmpty)
  | .ins _ _ _, _ => False
  | .ty _, _ => False
  | .cls _, _ => False
  | .sz _, _ => False
theorem dTr_mono {d : D} {Q Q' : Bool → Prop} (h : ∀ b, Q b → Q' b) (q : dTr d Q) : dTr d Q' := by
  cases d <;> first | exact h _ q | exact ⟨q.1, h _ q.2⟩ | exact q
def rTru (m : RE) : RT := fun env Q => m env fun d e => dTr d fun b => Q b e
theorem rTru_mono {m : RE} (h : MonoQ m) : MonoQ (rTru m) := fun env Q Q' i q => h _ _ _ (fun d e q => dTr_mono (fun b q => i _ _ q) q) q
theorem isEmpty_len {α β : Type} {xs : List α} {ys : List β} (h : xs.length = ys.length) : xs.isEmpty = ys.isEmpty := by
  cases xs <;> cases ys <;> first | rfl | simp at h
theorem tru_of {K : PySem.W.Frag} {F H : Hp} {v : V} {d : D} {Q : Bool → Prop} (hf : Same F H) (r : BRep K F H v d) (q : dTr d Q) : ∃ b, TruV K v H b ∧ Q b := by
  cases d with
  | non => rw [r.non]; exact ⟨false, rfl, q⟩
  | bl b => rw [r.bl]; exact ⟨b, rfl, q⟩
  | int i => rw [r.int]; exact ⟨_, rfl, q⟩
  | str y => rw [r.str]; exact ⟨_, ⟨q.1, rfl⟩, q.2⟩
  | tup xs =>
    obtain ⟨a, vs, rfl, h, rs, _⟩ := r.tup hf
    exact ⟨_, .inr (.inl ⟨vs, h, rfl⟩), by rw [isEmpty_len rs.length]; exact q⟩
  | lst xs =>
    obtain ⟨a, vs, rfl, h, rs⟩ := r.lst hf
    exact ⟨_, .inl ⟨vs, .of h, rfl⟩, by rw [isEmpty_len rs.length]; exact q⟩
  | scr ns =>
    obtain ⟨a, rfl, h⟩ := r.scr hf
    exact ⟨_, .inl ⟨_, h, rfl⟩, by rw [isEmpty_len (List.length_map _)]; exact q⟩
  | ins _ _ _ => exact q.elim
  | ty _ => exact q.elim
  | cls _ => exact q.elim
  | sz _ => exact q.elim
section
variable {X : Cx} {a b c : Expr} {ma mb : RE} {pos : Pos} {rest : List Expr} {ta tb tc : RT}
theorem et_tru (ha : EB X a ma) (he : ∀ whole, isTrue a X.env whole = (do let v ← whole; standAt a.pos; holding [v] (truthy v))) : ET X a (rTru ma) where
  mono := rTru_mono ha.mono
  pe := fun G F0 => PT_imp (pt_truth (ha.pe G F0) he) fun σ H Q ⟨F, env, k, q⟩ => ⟨F, env, k, ha.mono _ _ _ (fun d e q v F' H' af r => by
    obtain ⟨b, h1, h2⟩ := tru_of (Q := fun b => ∀ F'' H'', Af X.K G F0 F H σ F'' H'' e → Q b H'') af.ok.fh r q
    exact ⟨b, h1, h2 F' H' af⟩) q⟩
def rNot (t : RT) : RT := fun env Q => t env fun b e => Q (!b) e
theorem rNot_mono {t : RT} (h : MonoQ t) : MonoQ (rNot t) := fun env Q Q' i q => h _ _ _ (fun d e q => i _ _ q) q
theorem et_not (ha : ET X a ta) : ET X (.UnaryOp .Not a pos) (rNot ta) where
  mono := rNot_mono ha.mono
  pe := fun G F0 => PT_imp (pt_not (ha.pe G F0)) fun σ H Q ⟨F, env, k, q⟩ => ⟨F, env, k, q⟩
def rAnd (t u : RT) : RT := fun env Q => t env fun b e => if b = true then u e Q else Q false e
def rOr (t u : RT) : RT := fun env Q => t env fun b e => if b = true then Q true e else u e Q
theorem rAnd_mono {t u : RT} (h : MonoQ t) (h' : MonoQ u) : MonoQ (rAnd t u) := fun env Q Q' i q => h _ _ _ (fun b e q => by
  cases b with
  | true => exact h' _ _ _ i q
  | false => exact i _ _ q) q
theorem rOr_mono {t u : RT} (h : MonoQ t) (h' : MonoQ u) : MonoQ (rOr t u) := fun env Q Q' i q => h _ _ _ (fun b e q => by
  cases b with
  | false => exact h' _ _ _ i q
  | true => exact i _ _ q) q
theorem ew_and1 (ha : ET X a ta) : EW X (.BoolOp .And [a] pos) ta := ⟨ha.mono, fun G F0 => pw_and1 (ha.pe G F0)⟩
theorem ew_or1 (ha : ET X a ta) : EW X (.BoolOp .Or [a] pos) ta := ⟨ha.mono, fun G F0 => pw_or1 (ha.pe G F0)⟩
theorem ew_and (ha : ET X a ta) (hb : EW X (.BoolOp .And (b :: rest) pos) tb) : EW X (.BoolOp .And (a :: b :: rest) pos) (rAnd ta tb) where
  mono := rAnd_mono ha.mono hb.mono
  pe := fun G F0 => PW_imp (pw_and (ha.pe G F0) (hb.pe G F0)) fun σ H Q ⟨F, env, k, q⟩ => ⟨F, env, k, ha.mono _ _ _ (fun b e q F' H' af => by
    cases b with
    | false => exact q F' H' af
    | true => exact ⟨F', e, af.ok, hb.mono _ _ _ (fun b e' q F2 H2 a2 => q F2 H2 (af.trans a2)) q⟩) q⟩
theorem ew_or (ha : ET X a ta) (hb : EW X (.BoolOp .Or (b :: rest) pos) tb) : EW X (.BoolOp .Or (a :: b :: rest) pos) (rOr ta tb) where
  mono := rOr_mono ha.mono hb.mono
  pe := fun G F0 => PW_imp (pw_or (ha.pe G F0) (hb.pe G F0)) fun σ H Q ⟨F, env, k, q⟩ => ⟨F, env, k, ha.mono _ _ _ (fun b e q F' H' af => by
    cases b with
    | true => exact q F' H' af
    | false => exact ⟨F', e, af.ok, hb.mono _ _ _ (fun b e' q F2 H2 a2 => q F2 H2 (af.trans a2)) q⟩) q⟩
theorem EW.t (h : EW X a ta) : ET X a ta := ⟨h.mono, fun G F0 => (h.pe G F0).pt⟩
/-! and, or, not as values: all but the last True or False -/
def rAndV (ma mb : RE) : RE := fun env Q => ma env fun d e => ∃ b, d = .bl b ∧ if b = true then mb e Q else Q (.bl false) e
def rOrV (ma mb : RE) : RE := fun env Q => ma env fun d e => ∃ b, d = .bl b ∧ if b = true then Q (.bl true) e else mb e Q
theorem rAndV_mono {ma mb : RE} (h : MonoQ ma) (h' : MonoQ mb) : MonoQ (rAndV ma mb) := fun env Q Q' i q => h _ _ _ (fun d e ⟨b, h1, q⟩ => ⟨b, h1, by
  cases b with
  | true => exact h' _ _ _ i q
  | false => exact i _ _ q⟩) q
theorem rOrV_mono {ma mb : RE} (h : MonoQ ma) (h' : MonoQ mb) : MonoQ (rOrV ma mb) := fun env Q Q' i q => h _ _ _ (fun d e ⟨b, h1, q⟩ => ⟨b, h1, by
  cases b with
  | false => exact h' _ _ _ i q
  | true => exact i _ _ q⟩) q
theorem ee_one {op} (h : EE X a ma) : EE X (.BoolOp op [a] pos) ma := ⟨h.mono, fun G F0 => pe_one (h.pe G F0)⟩
theorem ee_and (ha : EE X a ma) (hb : EE X (.BoolOp .And (b :: rest) pos) mb) : EE X (.BoolOp .And (a :: b :: rest) pos) (rAndV ma mb) where
  mono := rAndV_mono ha.mono hb.mono
  pe := fun G F0 => PE_imp (pe_and (ha.pe G F0) (hb.pe G F0)) fun σ H Q ⟨F, env, k, q⟩ => ⟨F, env, k, ha.mono _ _ _ (fun d e ⟨b, h1, q⟩ v F' H' af r => by
    subst h1
    cases r
    refine ⟨b, rfl, ?_⟩
    cases b with
    | false => exact q _ F' H' af (.bl false)
    | true => exact ⟨F', e, af.ok, hb.mono _ _ _ (fun b e' q v F2 H2 a2 r2 => q v F2 H2 (af.trans a2) r2) q⟩) q⟩
theorem ee_or (ha : EE X a ma) (hb : EE X (.BoolOp .Or (b :: rest) pos) mb) : EE X (.BoolOp .Or (a :: b :: rest) pos) (rOrV ma mb) where
  mono := rOrV_mono ha.mono hb.mono
  pe := fun G F0 => PE_imp (pe_or (ha.pe G F0) (hb.pe G F0)) fun σ H Q ⟨F, env, k, q⟩ => ⟨F, env, k, ha.mono _ _ _ (fun d e ⟨b, h1, q⟩ v F' H' af r => by
    subst h1
    cases r
    refine ⟨b, rfl, ?_⟩
    cases b with
    | true => exact q _ F' H' af (.bl true)
    | false => exact ⟨F', e, af.ok, hb.mono _ _ _ (fun b e' q v F2 H2 a2 r2 => q v F2 H2 (af.trans a2) r2) q⟩) q⟩
def rNotV (m : RE) : RE := fun env Q => m env fun d e => ∃ b, d = .bl b ∧ Q (.bl (!b)) e
theorem rNotV_mono {m : RE} (h : MonoQ m) : MonoQ (rNotV m) := fun env Q Q' i q => h _ _ _ (fun d e ⟨b, h1, q⟩ => ⟨b, h1, i _ _ q⟩) q
theorem ee_not (ha : EE X a ma) : EE X (.UnaryOp .Not a pos) (rNotV ma) where
  mono := rNotV_mono ha.mono
  pe := fun G F0 => PE_imp (pe_not (ha.pe G F0)) fun σ H Q ⟨F, env, k, q⟩ => ⟨F, env, k, ha.mono _ _ _ (fun d e ⟨b, h1, q⟩ v F' H' af r => by
    subst h1
    cases r
    exact ⟨b, rfl, q _ F' H' af (.bl _)⟩) q⟩
def rIf (t : RT) (ma mb : RE) : RE := fun env Q => t env fun b e => if b = true then ma e Q else mb e Q
theorem rIf_mono {t : RT} {ma mb : RE} (h : MonoQ t) (h1 : MonoQ ma) (h2 : MonoQ mb) : MonoQ (rIf t ma mb) := fun env Q Q' i q => h _ _ _ (fun b e q => by
  cases b with
  | true => exact h1 _ _ _ i q
  | false => exact h2 _ _ _ i q) q
theorem ee_if (hc : ET X c tc) (ha : EE X a ma) (hb : EE X b mb) : EE X (.IfExp c a b pos) (rIf tc ma mb) where
  mono := rIf_mono hc.mono ha.mono hb.mono
  pe := fun G F0 => PE_imp (pe_ifExp (hc.pe G F0) (ha.pe G F0) (hb.pe G F0)) fun σ H Q ⟨F, env, k, q⟩ => ⟨F, env, k, hc.mono _ _ _ (fun b e q F' H' af => by
    cases b with
    | true => exact ⟨F', e, af.ok, ha.mono _ _ _ (fun b e' q v F2 H2 a2 r2 => q v F2 H2 (af.trans a2) r2) q⟩
    | false => exact ⟨F', e, af.ok, hb.mono _ _ _ (fun b e' q v F2 H2 a2 r2 => q v F2 H2 (af.trans a2) r2) q⟩) q⟩
/-! ### argument lists -/
def rNil : RN := fun env Q => Q [] env
def rCons (m : RE) (r : RN) : RN := fun env Q => m env fun d e => r e fun ds e' => Q (d :: ds) e'
theorem rNil_mono : MonoQ rNil := fun env Q Q' i q => i _ _ q
theorem rCons_mono {m : RE} {r : RN} (h : MonoQ m) (h' : MonoQ r) : MonoQ (rCons m r) := fun env Q Q' i q => h _ _ _ (fun d e q => h' _ _ _ (fun ds e' q => i _ _ q) q) q
variable {e : Expr} {es : List Expr} {mr : RN}
theorem ea_nil : EA X [] rNil := ⟨rNil_mono, fun G F0 => PA_imp pa_nil fun σ H Q ⟨F, env, k, q⟩ => q [] F H (Af.refl k) .nil⟩
theorem eab_nil : EAb X [] rNil := ⟨rNil_mono, fun G F0 => PA_imp pa_nil fun σ H Q ⟨F, env, k, q⟩ => q [] F H (Af.refl k) .nil⟩
theorem ea_cons (ha : EE X e ma) (hr : EA X es mr) (hs : starEach (e :: es) X.env = (false, eval e X.env) :: starEach es X.env := by rfl) : EA X (e :: es) (rCons ma mr) where
  mono := rCons_mono ha.mono hr.mono
  pe := fun G F0 => PA_imp (pa_cons (ha.pe G F0) (hr.pe G F0) hs) fun σ H Q ⟨F, env, k, q⟩ => ⟨F, env, k, ha.mono _ _ _ (fun d e q v F1 H1 a1 r1 =>
    ⟨F1, e, a1.ok, hr.mono _ _ _ (fun ds e' q vs F2 H2 a2 r2 => q (v :: vs) F2 H2 (a1.trans a2) (.cons (r1.mono a2.fF) r2)) q⟩) q⟩
theorem eab_cons (ha : EB X e ma) (hr : EAb X es mr) (hs : starEach (e :: es) X.env = (false, eval e X.env) :: starEach es X.env := by rfl) : EAb X (e :: es) (rCons ma mr) where
  mono := rCons_mono ha.mono hr.mono
  pe := fun G F0 => PA_imp (pa_cons (ha.pe G F0) (hr.pe G F0) hs) fun σ H Q ⟨F, env, k, q⟩ => ⟨F, env, k, ha.mono _ _ _ (fun d e q v F1 H1 a1 r1 =>
    ⟨F1, e, a1.ok, hr.mono _ _ _ (fun ds e' q vs F2 H2 a2 r2 => q (v :: vs) F2 H2 (a1.trans a2) (.cons (r1.ext a2.fF a2.hH) r2)) q⟩) q⟩
/-! ### displays -/
def rTup (m : RN) : RE := fun env Q => m env fun ds e => ds.length ≤ sizeLine ∧ Q (.tup ds) e
theorem rTup_mono {m : RN} (h : MonoQ m) : MonoQ (rTup m) := fun env Q Q' i q => h _ _ _ (fun d e q => ⟨q.1, i _ _ q.2⟩) q
theorem ee_tup {x1} (h : EA X es mr) : EE X (.Tuple es x1 pos) (rTup mr) where
  mono := rTup_mono h.mono
  pe := fun G F0 => PE_imp (pe_tup (h.pe G F0)) fun σ H Q ⟨F, env, k, q⟩ => ⟨F, env, k, h.mono _ _ _ (fun ds e q vs F1 H1 a1 r1 =>
    ⟨by rw [r1.length]; exact q.1, fun p hp => by
      have x := Ext.alloc (o := .tup vs) a1.ok.fh hp
      exact q.2 (.ref p) _ _ (a1.ext x) (.tup (.of upd_same) (r1.mono x.fF))⟩) q⟩
def rLst (m : RN) : RN := fun env Q => m env fun ds e => ds.length ≤ sizeLine ∧ Q ds e
theorem rLst_mono {m : RN} (h : MonoQ m) : MonoQ (rLst m) := fun env Q Q' i q => h _ _ _ (fun d e q => ⟨q.1, i _ _ q.2⟩) q
/-- only the new list's cell is laid -/
theorem af_new {K : PySem.W.Frag} {G F0 F H F' H' : Hp} {σ : L2.St} {env : En} {p : Addr} {vs : List V} (a : Af K G F0 F H σ F' H' env) (hp : H' p = none) :
    Af K G F0 F H σ F' (upd H' p (.lst vs)) env ∧ F' p = none ∧ G p = none ∧ NotOwn env σ p := by
  have hF := a.ok.fh.at_none hp
  have hG := a.ok.gh.at_none hp
  refine ⟨⟨a.hH.trans (same_upd hp), a.fF, ?_⟩, hF, hG, a.ok.notOwn_new hp⟩
  exact a.ok.ext ⟨Same.refl _, same_upd hp, fun b o e => by rw [upd_ne (ne_of_none e hF)]; exact a.ok.fh _ _ e, fun _ _ => rfl⟩
theorem en_lst (h : EA X es mr) : EN X (.List es pos) (rLst mr) where
  mono := rLst_mono h.mono
  pe := fun G F0 => PE_imp (pe_lst (h.pe G F0)) fun σ H Q ⟨F, env, k, q⟩ => ⟨F, env, k, h.mono _ _ _ (fun ds e q vs F1 H1 a1 r1 =>
    ⟨by rw [r1.length]; exact q.1, fun p hp => by
      obtain ⟨a2, hF, hG, no⟩ := af_new (vs := vs) a1 hp
      exact q.2 p vs F1 _ a2 upd_same hF hG no r1⟩) q⟩
end
end DL

namespace DL
open PySem PySem.Spec PyProof.Rows L2

/-! ### statements -/
structure DE where
  nx : En → Prop
  rt : D → Prop
  bk : En → Prop := fun _ => False
  ct : En → Prop := fun _ => False
abbrev RS := DE → En → Prop
structure DE.le (D D' : DE) : Prop where
  nx : ∀ e, D.nx e → D'.nx e
  rt : ∀ d, D.rt d → D'.rt d
  bk : ∀ e, D.bk e → D'.bk e
  ct : ∀ e, D.ct e → D'.ct e
theorem DE.le.refl (D : DE) : D.le D := ⟨fun _ h => h, fun _ h => h, fun _ h => h, fun _ h => h⟩
def MonoS (m : RS) : Prop := ∀ (D D' : DE) (env : En), D.le D' → m D env → m D' env
def liftD (K : PySem.W.Frag) (G F0 : Hp) (D : Ends) : DE where
  nx := fun env => ∀ σ F H, StOk K G F0 F H env σ → D.nx σ H
  rt := fun d => ∀ v F H, Ext F0 G F H → Rep K F v d → D.rt v H
  bk := fun env => ∀ σ F H, StOk K G F0 F H env σ → D.bk σ H
  ct := fun env => ∀ σ F H, StOk K G F0 F H env σ → D.ct σ H
def tSt (K : PySem.W.Frag) (G F0 : Hp) (m : RS) : TS := fun D σ H => ∃ F env, StOk K G F0 F H env σ ∧ m (liftD K G F0 D) env
structure SS (X : Cx) (st : Stmt) (m : RS) : Prop where
  mono : MonoS m
  ps : ∀ G F0, PS X st (tSt X.K G F0 m)
structure SSs (X : Cx) (st : List Stmt) (m : RS) : Prop where
  mono : MonoS m
  ps : ∀ G F0, PSs X st (tSt X.K G F0 m)
def sNext : RS := fun D env => D.nx env
def sSeq (m m' : RS) : RS := fun D env => m { D with nx := fun e => m' D e } env
theorem sSeq_mono {m m' : RS} (h : MonoS m) (h' : MonoS m') : MonoS (sSeq m m') := fun Z Z' env l q =>
  h { Z with nx := fun e => m' Z e } { Z' with nx := fun e => m' Z' e } env ⟨fun e q => h' Z Z' e l q, l.rt, l.bk, l.ct⟩ q
section
variable {X : Cx} {st : Stmt} {rest : List Stmt} {m m' : RS} {e : Expr} {me : RE} {mn : RN} {pos : Pos}
theorem sss_nil : SSs X [] sNext := ⟨fun D D' env l q => l.nx _ q, fun G F0 => PSs_imp pss_nil fun D σ H ⟨F, env, k, q⟩ => q σ F H k⟩
theorem sss_cons (h1 : SS X st m) (h2 : SSs X rest m') : SSs X (st :: rest) (sSeq m m') where
  mono := sSeq_mono h1.mono h2.mono
  ps := fun G F0 => PSs_imp (pss_cons (h1.ps G F0) (h2.ps G F0)) fun Z σ H ⟨F, env, k, q⟩ => ⟨F, env, k, h1.mono { liftD X.K G F0 Z with nx := fun e => m' (liftD X.K G F0 Z) e } _ env ⟨fun e q σ' F' H' k' => ⟨F', e, k', q⟩, fun _ q => q, fun _ q => q, fun _ q => q⟩ q⟩
theorem sss_one (h1 : SS X st m) : SSs X [st] m := ⟨h1.mono, fun G F0 => pss_one (h1.ps G F0)⟩
theorem ss_pass : SS X (.Pass pos) sNext := ⟨fun D D' env l q => l.nx _ q, fun G F0 => PS_imp ps_pass fun D σ H ⟨F, env, k, q⟩ => q σ F H k⟩
theorem ss_doc {x j p pos'} : SS X (.Expr (.Constant (.str x) j p) pos') sNext := ⟨fun D D' env l q => l.nx _ q, fun G F0 => PS_imp ps_doc fun D σ H ⟨F, env, k, q⟩ => q σ F H k⟩
def sBreak : RS := fun D env => D.bk env
def sCont : RS := fun D env => D.ct env
theorem ss_break : SS X (.Break pos) sBreak := ⟨fun D D' env l q => l.bk _ q, fun G F0 => PS_imp ps_break fun D σ H ⟨F, env, k, q⟩ => q σ F H k⟩
theorem ss_cont : SS X (.Continue pos) sCont := ⟨fun D D' env l q => l.ct _ q, fun G F0 => PS_imp ps_continue fun D σ H ⟨F, env, k, q⟩ => q σ F H k⟩
def sRet (me : RE) : RS := fun D env => me env fun d _ => D.rt d
theorem ss_ret (h : EE X e me) : SS X (.Return (some e) pos) (sRet me) where
  mono := fun D D' env l q => h.mono _ _ _ (fun d e q => l.rt _ q) q
  ps := fun G F0 => PS_imp (ps_ret (h.pe G F0)) fun D σ H ⟨F, env, k, q⟩ => ⟨F, env, k, h.mono _ _ _ (fun d e q v F' H' a r => q v F' H' a.ok.toExt r) q⟩
def sRetN : RS := fun D env => D.rt .non
theorem ss_retN : SS X (.Return none pos) sRetN := ⟨fun D D' env l q => l.rt _ q, fun G F0 => PS_imp ps_retN fun D σ H ⟨F, env, k, q⟩ => q .non F H k.toExt .non⟩
def sSet (i : Nat) (me : RE) : RS := fun D env => me env fun d e => D.nx (es e i (.v d))
theorem ss_set {i : Nat} {x : Str} {pos' : Pos} (hN : X.N.Nodup) (hi : X.N[i]? = some x) (hx : Loc X.env.scope x) (he : EE X e me) (hs : swapsWith e (some (.Name x pos')) pos.line X.env = pure false := by rfl)
    (hf : X.fn x = true ∨ X.env.scope.names.lookup x = some .local := by first | exact .inl rfl | exact .inr rfl | assumption) : SS X (.Assign [.Name x pos'] e pos) (sSet i me) where
  mono := fun D D' env l q => he.mono _ _ _ (fun d e q => l.nx _ q) q
  ps := fun G F0 => PS_imp (ps_set hN hi hx (he.pe G F0) hs hf) fun D σ H ⟨F, env, k, q⟩ => ⟨F, env, k, he.mono _ _ _ (fun d e q v F' H' a r => by
    rw [es_eq] at q
    exact q _ F' H' (a.ok.setV i r)) q⟩
def sSetN (i : Nat) (mn : RN) : RS := fun D env => mn env fun ds e => D.nx (es e i (.own (.l ds)))
theorem ss_setN {i : Nat} {x : Str} {pos' : Pos} (hN : X.N.Nodup) (hi : X.N[i]? = some x) (hx : Loc X.env.scope x) (he : EN X e mn) (hs : swapsWith e (some (.Name x pos')) pos.line X.env = pure false := by rfl)
    (hf : X.fn x = true ∨ X.env.scope.names.lookup x = some .local := by first | exact .inl rfl | exact .inr rfl | assumption) : SS X (.Assign [.Name x pos'] e pos) (sSetN i mn) where
  mono := fun D D' env l q => he.mono _ _ _ (fun d e q => l.nx _ q) q
  ps := fun G F0 => PS_imp (ps_set hN hi hx (he.pe G F0) hs hf) fun D σ H ⟨F, env, k, q⟩ => ⟨F, env, k, he.mono _ _ _ (fun d e q a vs F' H' af hH hF hG no r => by
    rw [es_eq] at q
    exact q _ F' H' (af.ok.setN i hF hH hG no r)) q⟩
def sExpr (me : RE) : RS := fun D env => me env fun _ e => D.nx e
theorem ss_expr (he : EE X e me) (hs : swapsWith e none pos.line X.env = pure false := by rfl) : SS X (.Expr e pos) (sExpr me) where
  mono := fun D D' env l q => he.mono _ _ _ (fun d e q => l.nx _ q) q
  ps := fun G F0 => PS_imp (ps_expr (he.pe G F0) hs) fun D σ H ⟨F, env, k, q⟩ => ⟨F, env, k, he.mono _ _ _ (fun d e q v F' H' a r => q _ F' H' a.ok) q⟩
def sIf (t : RT) (m m' : RS) : RS := fun D env => t env fun b e => if b = true then m D e else m' D e
theorem sIf_mono {t : RT} (ht : MonoQ t) (h : MonoS m) (h' : MonoS m') : MonoS (sIf t m m') := fun D D' env l q => ht _ _ _ (fun b e q => by
  cases b with
  | true => exact h _ _ _ l q
  | false => exact h' _ _ _ l q) q
theorem ss_if {c : Expr} {a b : List Stmt} {tc : RT} (hc : ET X c tc) (ha : SSs X a m) (hb : SSs X b m') : SS X (.If c a b pos) (sIf tc m m') where
  mono := sIf_mono hc.mono ha.mono hb.mono
  ps := fun G F0 => PS_imp (ps_if (hc.pe G F0) (ha.ps G F0) (hb.ps G F0)) fun D σ H ⟨F, env, k, q⟩ => ⟨F, env, k, hc.mono _ _ _ (fun b e q F' H' a => by
    cases b with
    | true => exact ⟨F', e, a.ok, q⟩
    | false => exact ⟨F', e, a.ok, q⟩) q⟩
/-! ### x.append(e), x a list of one's own -/
def ownAt (env : En) (i : Nat) (Q : List D → Prop) : Prop := match eg env i with
  | .own (.l ds) => Q ds
  | _ => False
theorem ownAt_get {env : En} {i : Nat} {Q : List D → Prop} (h : ownAt env i Q) : ∃ ds, env[i]? = some (Sl.own (.l ds)) ∧ Q ds := by
  unfold ownAt at h
  split at h
  · rename_i ds e
    have g := eg_get (env := env) (i := i) (by rw [e]; exact fun z => nomatch z)
    rw [e] at g
    exact ⟨ds, g, h⟩
  · exact h.elim
theorem ownAt_mono {env : En} {i : Nat} {Q Q' : List D → Prop} (i' : ∀ ds, Q ds → Q' ds) (h : ownAt env i Q) : ownAt env i Q' := by
  unfold ownAt at h ⊢
  split at h
  · exact i' _ h
  · exact h
def sApp (i : Nat) (me : RE) : RS := fun D env => ownAt env i fun _ => me env fun d e => ownAt e i fun ds => ds.length < sizeLine ∧ D.nx (es e i (.own (.l (ds ++ [d]))))
theorem sApp_mono {i : Nat} (h : MonoQ me) : MonoS (sApp i me) := fun D D' env l q => ownAt_mono (fun ds q => h _ _ _ (fun d e q => ownAt_mono (fun ds q => ⟨q.1, l.nx _ q.2⟩) q) q) q
theorem ss_app {i : Nat} {o : Expr} {apos cpos : Pos} (hp : PE X o (tVar i)) (he : EE X e me)
    (hs : swapsWith (.Call (.Attribute o "append" apos) [e] [] cpos) none pos.line X.env = pure false := by rfl)
    (hbase : attributeBase o "append" X.env (eval o X.env) = eval o X.env := by rfl)
    (hfew : ((backTo cpos (starEach [e] X.env)).all (fun x => !x.1) && (backToKw cpos (keywordEach [] X.env)).all (fun x => x.1.isSome)
      && decide (([e] : List Expr).length + ([] : List Keyword).length + (if ([] : List Keyword).isEmpty then 0 else 1) < 30)) = true := by rfl)
    (hline : (apos.endLine == cpos.line) = true := by rfl) (hst : starEach [e] X.env = (false, eval e X.env) :: starEach [] X.env := by rfl) :
    SS X (.Expr (.Call (.Attribute o "append" apos) [e] [] cpos) pos) (sApp i me) where
  mono := sApp_mono he.mono
  ps := fun G F0 => PS_imp (ps_expr (pe_bm PySem.F.plainAttrs_list PySem.F.slot_list_append PySem.F.type_list_append mt_append hp (pa_cons (he.pe G F0) pa_nil hst) hbase hfew hline hst (by rfl)) hs) fun D σ H ⟨F, env, k, q⟩ => by
    obtain ⟨ds0, g0, q⟩ := ownAt_get q
    obtain ⟨a, ho, ea, hF, hH, r⟩ := k.sl i _ g0
    obtain ⟨vs, rfl, r⟩ := r.lst
    refine ⟨.ref a, at_some ea, .inl ⟨rfl, vs, .of hH⟩, ?_⟩
    refine ⟨F, env, k, he.mono _ _ _ (fun d e q v F1 H1 a1 r1 => ?_) q⟩
    obtain ⟨ds, g, hz, q⟩ := ownAt_get q
    obtain ⟨b, ho', eb, hF', hH', r'⟩ := a1.ok.sl i _ g
    obtain ⟨vs', rfl, r'⟩ := r'.lst
    rw [ea] at eb; cases eb
    refine ⟨a, vs', v, rfl, rfl, hH', by rw [r'.length]; exact hz, ?_⟩
    rw [es_eq] at q
    exact q σ F1 _ (a1.ok.write g ea (r'.append (Reps.one r1)))
/-! ### targets -/
abbrev RG := D → En → (En → Prop) → Prop
abbrev RGs := List D → En → (En → Prop) → Prop
def MonoG {α : Type} (g : α → En → (En → Prop) → Prop) : Prop := ∀ d env (Q Q' : En → Prop), (∀ e, Q e → Q' e) → g d env Q → g d env Q'
/-- all but the slots sl is as it was -/
structure But (sl : List Nat) (σ σ' : L2.St) : Prop where
  len : σ'.length = σ.length
  but : ∀ j, j ∉ sl → L2.St.at σ' j = L2.St.at σ j
theorem But.refl (sl : List Nat) (σ : L2.St) : But sl σ σ := ⟨rfl, fun _ _ => rfl⟩
def tG (K : PySem.W.Frag) (G F0 : Hp) (sl : List Nat) (g : RG) : TG := fun v σ H Q => ∃ F env d, StOk K G F0 F H env σ ∧ Rep K F v d ∧ g d env fun env' => ∀ σ', But sl σ σ' → StOk K G F0 F H env' σ' → Q σ' H
def tGs (K : PySem.W.Frag) (G F0 : Hp) (sl : List Nat) (g : RGs) : TGs := fun vs σ H Q => ∃ F env ds, StOk K G F0 F H env σ ∧ Reps K F vs ds ∧ g ds env fun env' => ∀ σ', But sl σ σ' → StOk K G F0 F H env' σ' → Q σ' H
structure EG (X : Cx) (tg : Expr) (sl : List Nat) (g : RG) : Prop where
  mono : MonoG g
  pg : ∀ G F0, PG X tg (tG X.K G F0 sl g)
structure EGs (X : Cx) (ts : List Expr) (sl : List Nat) (g : RGs) : Prop where
  mono : MonoG g
  pg : ∀ G F0, PGs X ts (tGs X.K G F0 sl g)
theorem PG_imp {X : Cx} {e : Expr} {t t' : TG} (h : PG X e t) (i : ∀ v σ H Q, t' v σ H Q → t v σ H Q) : PG X e t' := ⟨fun pins s σ H v u Q I r q => h.run pins s σ H v u Q I r (i v σ H Q q)⟩
theorem PGs_imp {X : Cx} {e : List Expr} {t t' : TGs} (h : PGs X e t) (i : ∀ v σ H Q, t' v σ H Q → t v σ H Q) : PGs X e t' := ⟨fun pins s σ H v u Q I r q => h.run pins s σ H v u Q I r (i v σ H Q q)⟩
def gNm (i : Nat) : RG := fun d env Q => Q (es env i (.v d))
theorem eg_name {i : Nat} {x : Str} (hN : X.N.Nodup) (hi : X.N[i]? = some x) (hx : Loc X.env.scope x) (hf : X.fn x = true ∨ X.env.scope.names.lookup x = some .local := by first | exact .inl rfl | exact .inr rfl | assumption) : EG X (.Name x pos) [i] (gNm i) where
  mono := fun d env Q Q' i q => i _ q
  pg := fun G F0 => PG_imp (pg_name hN hi hx hf) fun v σ H Q ⟨F, env, d, k, r, q⟩ => by
    unfold gNm at q
    rw [es_eq] at q
    exact q _ ⟨by simp, fun j h => at_set_ne (by simpa using h)⟩ (k.setV i r)
def gsNil : RGs := fun ds env Q => ds = [] ∧ Q env
def gsCons (g : RG) (gs : RGs) : RGs := fun ds env Q => match ds with
  | [] => False
  | d :: r => g d env fun e => gs r e Q
theorem egs_nil : EGs X [] [] gsNil := ⟨fun d env Q Q' i q => ⟨q.1, i _ q.2⟩, fun G F0 => PGs_imp pgs_nil fun v σ H Q ⟨F, env, ds, k, r, e, q⟩ => by subst e; cases r; exact ⟨rfl, q σ (But.refl _ _) k⟩⟩
theorem egs_cons {e : Expr} {es : List Expr} {g : RG} {gs : RGs} {s1 s2 : List Nat} (h1 : EG X e s1 g) (h2 : EGs X es s2 gs) (hs : (assignEach (e :: es) X.env).map (·.2) = assign e X.env :: (assignEach es X.env).map (·.2) := by rfl) : EGs X (e :: es) (s1 ++ s2) (gsCons g gs) where
  mono := fun d env Q Q' i q => by
    cases d with
    | nil => exact q
    | cons x r => exact h1.mono _ _ _ _ (fun e q => h2.mono _ _ _ _ i q) q
  pg := fun G F0 => PGs_imp (pgs_cons (h1.pg G F0) (h2.pg G F0) hs) fun vs σ H Q ⟨F, env, ds, k, r, q⟩ => by
    cases r with
    | nil => exact q.elim
    | cons r0 rs => exact ⟨_, _, rfl, F, env, _, k, r0, h1.mono _ _ _ _ (fun e q σ' b' k' => ⟨F, e, _, k', rs, h2.mono _ _ _ _ (fun e2 q σ2 b2 k2 => q σ2 ⟨b2.len.trans b'.len, fun j hj => (b2.but j fun m => hj (List.mem_append_right _ m)).trans (b'.but j fun m => hj (List.mem_append_left _ m))⟩ k2) q⟩) q⟩
def gTp (n : Nat) (gs : RGs) : RG := fun d env Q => match d with
  | .tup ds => ds.length = n ∧ gs ds env Q
  | _ => False
theorem eg_tup {es : List Expr} {k : Nat} {gs : RGs} {n : Nat} {sl : List Nat} (hc : X.calm = true) (h : EGs X es sl gs) (hn : (assignEach es X.env).length = n := by rfl) (hst : (assignEach es X.env).findIdx? (·.1) = none := by rfl) : EG X (.Tuple es k pos) sl (gTp n gs) where
  mono := fun d env Q Q' i q => by
    cases d <;> first | exact q | exact ⟨q.1, h.mono _ _ _ _ i q.2⟩
  pg := fun G F0 => PG_imp (pg_tup hc (h.pg G F0) hn hst) fun v σ H Q ⟨F, env, d, k, r, q⟩ => by
    cases r <;> first | exact q.elim | skip
    rename_i vs ds hs rs _
    exact ⟨_, vs, rfl, SqT_mono k.fh hs, by rw [rs.length]; exact q.1, F, env, ds, k, rs, q.2⟩
/-- a, b = e -/
def sAsg (me : RE) (g : RG) : RS := fun D env => me env fun d e => g d e D.nx
theorem ss_asg {tg : Expr} {g : RG} {sl : List Nat} (he : EE X e me) (hg : EG X tg sl g) (hs : swapsWithSole [tg] e pos.line X.env = pure false := by rfl) (hw : swappedStores [tg] e X.env = pure none := by rfl)
    (h1 : (assignEach [tg] X.env).map (·.2) = [assign tg X.env] := by rfl) : SS X (.Assign [tg] e pos) (sAsg me g) where
  mono := fun D D' env l q => he.mono _ _ _ (fun d e q => hg.mono _ _ _ _ (fun e q => l.nx _ q) q) q
  ps := fun G F0 => PS_imp (ps_asg (he.pe G F0) (hg.pg G F0) hs hw h1) fun D σ H ⟨F, env, k, q⟩ => ⟨F, env, k, he.mono _ _ _ (fun d e q v F' H' a r => ⟨F', e, d, a.ok, r, hg.mono _ _ _ _ (fun e q σ' _ k' => q σ' F' H' k') q⟩) q⟩
end

/-! ### walks -/
/-- the walk J gives the items ds, one a turn -/
def ItOk (K : PySem.W.Frag) (F : Hp) (J : It) (ds : List D) : Prop := ∀ (i : Nat) (F1 H1 : Hp), Same F F1 → Same F1 H1 →
  (∀ d, ds[i]? = some d → J.go i H1 ∧ ∀ x H2, J.yld i H1 x H2 → ∃ F2, Ext F1 H1 F2 H2 ∧ Rep K F2 x d) ∧ (ds[i]? = none → J.stop i H1)
def tIt (K : PySem.W.Frag) (G F0 : Hp) (m : RN) : TI := fun σ H R => ∃ F env, StOk K G F0 F H env σ ∧ m env fun ds env' => ∀ J F' H', Af K G F0 F H σ F' H' env' → ItOk K F' J ds → R J H'
structure EI (X : Cx) (tg iter : Expr) (m : RN) : Prop where
  mono : MonoQ m
  pi : ∀ G F0, PI X tg iter (tIt X.K G F0 m)
theorem PI_imp {X : Cx} {tg e : Expr} {t t' : TI} (h : PI X tg e t) (i : ∀ σ H R, t' σ H R → t σ H R) : PI X tg e t' := ⟨fun pins s σ H R I q => h.run pins s σ H R I (i σ H R q)⟩

section
variable {K : PySem.W.Frag} {G F0 F F' H H' : Hp} {env : En} {σ : L2.St}
theorem StOk.reF (k : StOk K G F0 F H env σ) : StOk K G F F H env σ := ⟨k.fh, k.gh, Same.refl _, fun _ _ => rfl, k.len, k.sl, k.og, k.inj⟩
theorem StOk.unF (k : StOk K G F0 F H env σ) {F1 H1 : Hp} {env1 : En} {σ1 : L2.St} (k1 : StOk K G F F1 H1 env1 σ1) : StOk K G F0 F1 H1 env1 σ1 :=
  ⟨k1.fh, k1.gh, k.ff.trans k1.ff, fun a n => (k1.nw a n).trans (k.nw a n), k1.len, k1.sl, k1.og, k1.inj⟩
end
def forL (g : RG) (body : RS) (Z : DE) : List D → En → Prop
  | [], e => Z.nx e
  | x :: xs, e => g x e fun e' => body { Z with nx := forL g body Z xs, ct := forL g body Z xs, bk := Z.nx } e'
theorem forL_mono {g : RG} {body : RS} (hg : MonoG g) (hb : MonoS body) {Z Z' : DE} (l : Z.le Z') : ∀ (xs : List D) (e : En), forL g body Z xs e → forL g body Z' xs e
  | [], e, q => l.nx _ q
  | x :: xs, e, q => hg x e _ _ (fun e' q => hb { Z with nx := forL g body Z xs, ct := forL g body Z xs, bk := Z.nx } { Z' with nx := forL g body Z' xs, ct := forL g body Z' xs, bk := Z'.nx } e' ⟨fun e q => forL_mono hg hb l xs e q, l.rt, fun e q => l.nx _ q, fun e q => forL_mono hg hb l xs e q⟩ q) q
def sFor (mi : RN) (g : RG) (body : RS) : RS := fun Z env => mi env fun ds e => forL g body Z ds e
section
variable {X : Cx} {tg iter : Expr} {body : List Stmt} {mi : RN} {g : RG} {mb : RS} {pos : Pos}
theorem ss_for (hp : PassesOwn (model X.prog X.w) X.A X.env X.xe) (hc : X.calm = true) {sl : List Nat} (hi : EI X tg iter mi) (hg : EG X tg sl g) (hb : SSs X body mb)
    (hs : ∀ x, foldedSetIterable iter X.env x = pure x := by intro _; rfl) : SS X (.For tg iter body [] pos) (sFor mi g mb) where
  mono := fun D D' env l q => hi.mono _ _ _ (fun ds e q => forL_mono hg.mono hb.mono l ds e q) q
  ps := fun G F0 => by
    -- the loop runs over the frozen part F' of its start
    refine ⟨fun pins s σ H D I h => ?_⟩
    obtain ⟨F, env, k, q⟩ := h
    -- choose the loop's F0 by cases at run: use G, F0 of each start through unF
    refine (ps_for hp hc (wi := tIt X.K G F0 mi) (g := fun v σ H Q => ∃ F', tG X.K G F' sl g v σ H Q) (tb := fun D σ H => ∃ F', tSt X.K G F' mb D σ H) (hi.pi G F0)
      ⟨fun pins s σ H v u Q I r ⟨F', q⟩ => (hg.pg G F').run pins s σ H v u Q I r q⟩ ⟨fun pins s σ H D I ⟨F', q⟩ => (hb.ps G F').run pins s σ H D I q⟩ hs).run pins s σ H D I ?_
    refine ⟨F, env, k, hi.mono _ _ _ (fun ds e q J F' H' a io => ?_) q⟩
    refine ⟨fun i m σ H => m = ds.length - i ∧ ∃ F1 env1, StOk X.K G F' F1 H env1 σ ∧ forL g mb (liftD X.K G F0 D) (ds.drop i) env1, ⟨ds.length, by simp, F', e, a.ok.reF, by simpa using q⟩, ?_⟩
    rintro i m σ1 H1 ⟨rfl, F1, env1, k1, q1⟩
    have io1 := io i F1 H1 k1.ff k1.fh
    cases e1 : ds[i]? with
    | none =>
      refine .inl ⟨io1.2 e1, ?_⟩
      rw [List.drop_eq_nil_of_le (List.getElem?_eq_none_iff.mp e1)] at q1
      exact q1 σ1 F1 H1 (a.ok.unF k1)
    | some d =>
      have hlt : i < ds.length := by
        rcases Nat.lt_or_ge i ds.length with h | h
        · exact h
        · rw [List.getElem?_eq_none h] at e1; cases e1
      have ed : ds.drop i = d :: ds.drop (i + 1) := by
        rw [List.drop_eq_getElem_cons hlt]
        rw [List.getElem?_eq_getElem hlt] at e1
        rw [Option.some.inj e1]
      rw [ed] at q1
      obtain ⟨go, yl⟩ := io1.1 d e1
      refine .inr ⟨go, fun σ' H' => ∃ F2 env2, StOk X.K G F' F2 H' env2 σ' ∧ forL g mb (liftD X.K G F0 D) (ds.drop (i + 1)) env2, fun σ' H' ⟨F2, env2, k2, q2⟩ => ⟨ds.length - (i + 1), by omega, rfl, F2, env2, k2, q2⟩, fun x H2 y => ?_⟩
      obtain ⟨F2, x2, r2⟩ := yl x H2 y
      refine ⟨F', F2, env1, d, k1.ext x2, r2, hg.mono _ _ _ _ (fun e' q3 σ3 _ k3 => ?_) q1⟩
      refine ⟨F', F2, e', k3, hb.mono { liftD X.K G F0 D with nx := forL g mb (liftD X.K G F0 D) (ds.drop (i + 1)), ct := forL g mb (liftD X.K G F0 D) (ds.drop (i + 1)), bk := (liftD X.K G F0 D).nx } _ _ ⟨fun e q4 σ4 F4 H4 k4 => ⟨F4, e, k4, q4⟩, fun d q4 v F4 H4 x4 r4 => q4 v F4 H4 ?_ r4, fun e q4 σ4 F4 H4 k4 => q4 σ4 F4 H4 (a.ok.unF k4), fun e q4 σ4 F4 H4 k4 => ⟨F4, e, k4, q4⟩⟩ q3⟩
      exact ⟨a.ok.ff.trans x4.fF, x4.hH, x4.fh, fun b n => (x4.nw b n).trans (a.ok.nw b n)⟩
end
end DL

namespace DL
open PySem PySem.Spec PyProof.Rows L2

/-! ### arithmetic -/
def MulOk (i j : Int) : Prop := CMul i j ∨ CMulW i j
theorem MulOk.ok {i j : Int} (h : MulOk i j) : IntMulOk i j := h.elim CMul.ok CMulW.ok
/-- a list or tuple written k times -/
def repD (k : Nat) (xs : List D) : List D := (List.replicate k xs).flatten
def dAdd : Op2 := fun d e Q => match d, e with
  | .int i, .int j => Q (.int (i + j))
  | .int i, .bl b => Q (.int (i + b2i b))
  | .str x, .str y => x.length + y.length ≤ sizeLine ∧ Q (.str (x ++ y))
  | .tup xs, .tup ys => xs.length + ys.length ≤ sizeLine ∧ Q (.tup (xs ++ ys))
  | .lst xs, .lst ys => xs.length + ys.length ≤ sizeLine ∧ Q (.lst (xs ++ ys))
  | _, _ => False
def dSub : Op2 := fun d e Q => match d, e with
  | .int i, .int j => Q (.int (i - j))
  | _, _ => False
def dMul : Op2 := fun d e Q => match d, e with
  | .int i, .int j => MulOk i j ∧ Q (.int (i * j))
  | .tup xs, .int k => xs ≠ [] ∧ 2 ≤ k ∧ k ≤ 1000 ∧ xs.length ≤ 1000 ∧ Q (.tup (repD k.toNat xs))
  | .lst xs, .int k => -(2 ^ 63) ≤ k ∧ k < 2 ^ 63 ∧ xs.length * k.toNat ≤ sizeLine ∧ Q (.lst (repD k.toNat xs))
  | _, _ => False
def dDiv : Op2 := fun d e Q => match d, e with
  | .int i, .int j => CDivW i j ∧ Q (.int (i / j))
  | _, _ => False
def dMod : Op2 := fun d e Q => match d, e with
  | .int i, .int j => 0 < j ∧ Q (.int (i % j))
  | _, _ => False
theorem dAdd_mono : Mono2 dAdd := fun d e Q Q' i q => by
  unfold dAdd at q ⊢
  split at q <;> first | exact i _ q | exact ⟨q.1, i _ q.2⟩ | exact q
theorem dSub_mono : Mono2 dSub := fun d e Q Q' i q => by
  unfold dSub at q ⊢
  split at q <;> first | exact i _ q | exact q
theorem dMul_mono : Mono2 dMul := fun d e Q Q' i q => by
  unfold dMul at q ⊢
  split at q <;> first | exact ⟨q.1, i _ q.2⟩ | exact ⟨q.1, q.2.1, q.2.2.1, q.2.2.2.1, i _ q.2.2.2.2⟩ | exact ⟨q.1, q.2.1, q.2.2.1, i _ q.2.2.2⟩ | exact q
theorem dDiv_mono : Mono2 dDiv := fun d e Q Q' i q => by
  unfold dDiv at q ⊢
  split at q <;> first | exact ⟨q.1, i _ q.2⟩ | exact q
theorem dMod_mono : Mono2 dMod := fun d e Q Q' i q => by
  unfold dMod at q ⊢
  split at q <;> first | exact ⟨q.1, i _ q.2⟩ | exact q
section
variable {K : PySem.W.Frag} {F H : Hp} {Q : VK}
theorem Wants.int {i : Int} (hf : Same F H) (h : Wants K F H Q (.int i)) : Q (.int i) H := h _ F H (Ext.refl hf) (.int i)
theorem Wants.bl {i : Bool} (hf : Same F H) (h : Wants K F H Q (.bl i)) : Q (.bl i) H := h _ F H (Ext.refl hf) (.bl i)
theorem Wants.str {i : Str} (hf : Same F H) (h : Wants K F H Q (.str i)) : Q (.str i) H := h _ F H (Ext.refl hf) (.str i)
theorem Wants.non (hf : Same F H) (h : Wants K F H Q .non) : Q .non H := h _ F H (Ext.refl hf) .non
theorem Wants.newT {vs : List V} {ds : List D} {p : Addr} (hf : Same F H) (r : Reps K F vs ds) (hp : H p = none) (h : Wants K F H Q (.tup ds)) : Q (.ref p) (upd H p (.tup vs)) := by
  have x := Ext.alloc (o := .tup vs) hf hp
  exact h _ _ _ x (.tup (.of upd_same) (r.mono x.fF))
theorem Wants.newL {vs : List V} {ds : List D} {p : Addr} (hf : Same F H) (r : Reps K F vs ds) (hp : H p = none) (h : Wants K F H Q (.lst ds)) : Q (.ref p) (upd H p (.lst vs)) := by
  have x := Ext.alloc (o := .lst vs) hf hp
  exact h _ _ _ x (.lst upd_same (r.mono x.fF))
theorem Reps.rep {vs : List V} {ds : List D} (r : Reps K F vs ds) : ∀ k : Nat, Reps K F (List.replicate k vs).flatten (repD k ds)
  | 0 => .nil
  | k + 1 => by
    show Reps K F (List.replicate (k + 1) vs).flatten ((List.replicate (k + 1) ds).flatten)
    rw [List.replicate_succ, List.replicate_succ, List.flatten_cons, List.flatten_cons]
    exact r.append (r.rep k)
end
section
variable {X : Cx}
theorem or_add : OpR X (binaryOp .Add) (rD2 X.K dAdd) := fun pins s σ H x y v u Q I rx ry ⟨F, d, e, hf, r1, r2, q⟩ => by
  unfold dAdd at q
  split at q
  · rw [r1.int] at rx; rw [r2.int] at ry
    exact op_add pins s σ H _ _ v u Q I rx ry ⟨_, _, rfl, rfl, q.int hf⟩
  · rw [r1.int] at rx; rw [r2.bl] at ry
    exact op_add_ib pins s σ H _ _ v u Q I rx ry ⟨_, _, rfl, rfl, q.int hf⟩
  · rw [r1.str] at rx; rw [r2.str] at ry
    exact op_add_str pins s σ H _ _ v u Q I rx ry ⟨_, _, rfl, rfl, q.1, q.2.str hf⟩
  · obtain ⟨a, vs, rfl, h1, p1, g1⟩ := r1.tup hf
    obtain ⟨b, ws, rfl, h2, p2, g2⟩ := r2.tup hf
    refine op_catA pins s σ H _ _ v u Q I rx ry ⟨a, b, vs, ws, rfl, rfl, h1, h2, by rw [p1.length, p2.length]; exact q.1, fun e => ?_, fun _ e => ?_, fun _ _ p hp => q.2.newT hf (p1.append p2) hp⟩
    · subst e; cases p1; exact q.2 _ F H (Ext.refl hf) (.tup g2 p2)
    · subst e; cases p2; rw [List.append_nil] at q; exact q.2 _ F H (Ext.refl hf) (.tup g1 p1)
  · obtain ⟨a, vs, rfl, h1, p1⟩ := r1.lst hf
    obtain ⟨b, ws, rfl, h2, p2⟩ := r2.lst hf
    exact op_cat pins s σ H _ _ v u Q I rx ry ⟨a, b, vs, ws, rfl, rfl, h1, h2, by rw [p1.length, p2.length]; exact q.1, fun p hp => q.2.newL hf (p1.append p2) hp⟩
  · exact q.elim
theorem or_sub : OpR X (binaryOp .Sub) (rD2 X.K dSub) := fun pins s σ H x y v u Q I rx ry ⟨F, d, e, hf, r1, r2, q⟩ => by
  unfold dSub at q
  split at q
  · rw [r1.int] at rx; rw [r2.int] at ry
    exact op_sub pins s σ H _ _ v u Q I rx ry ⟨_, _, rfl, rfl, q.int hf⟩
  · exact q.elim
theorem or_mul : OpR X (binaryOp .Mult) (rD2 X.K dMul) := fun pins s σ H x y v u Q I rx ry ⟨F, d, e, hf, r1, r2, q⟩ => by
  unfold dMul at q
  split at q
  · rw [r1.int] at rx; rw [r2.int] at ry
    rcases q.1 with c | c
    · exact op_mul pins s σ H _ _ v u Q I rx ry ⟨_, _, rfl, rfl, c, q.2.int hf⟩
    · exact op_mulW pins s σ H _ _ v u Q I rx ry ⟨_, _, rfl, rfl, c, q.2.int hf⟩
  · obtain ⟨a, vs, rfl, h1, p1, _⟩ := r1.tup hf
    rw [r2.int] at ry
    obtain ⟨h0, h2, h3, h4, q⟩ := q
    exact op_repT pins s σ H _ _ v u Q I rx ry ⟨a, _, vs, rfl, rfl, h1, fun z => h0 (p1.nil_iff.mp z), h2, h3, by rw [p1.length]; exact h4, fun p hp => q.newT hf (p1.rep _) hp⟩
  · obtain ⟨a, vs, rfl, h1, p1⟩ := r1.lst hf
    rw [r2.int] at ry
    obtain ⟨h2, h3, h4, q⟩ := q
    exact op_rep pins s σ H _ _ v u Q I rx ry ⟨a, _, vs, rfl, rfl, h1, h2, h3, by rw [p1.length]; exact h4, fun p hp => q.newL hf (p1.rep _) hp⟩
  · exact q.elim
theorem or_div : OpR X (binaryOp .FloorDiv) (rD2 X.K dDiv) := fun pins s σ H x y v u Q I rx ry ⟨F, d, e, hf, r1, r2, q⟩ => by
  unfold dDiv at q
  split at q
  · rw [r1.int] at rx; rw [r2.int] at ry
    exact op_fdivW pins s σ H _ _ v u Q I rx ry ⟨_, _, rfl, rfl, q.1, q.2.int hf⟩
  · exact q.elim
theorem or_mod : OpR X (binaryOp .Mod) (rD2 X.K dMod) := fun pins s σ H x y v u Q I rx ry ⟨F, d, e, hf, r1, r2, q⟩ => by
  unfold dMod at q
  split at q
  · rw [r1.int] at rx; rw [r2.int] at ry
    exact op_mod pins s σ H _ _ v u Q I rx ry ⟨_, _, rfl, rfl, q.1, q.2.int hf⟩
  · exact q.elim
/-! ### order of ints (and texts) -/
def dRel (f : Int → Int → Bool) : Op2 := fun d e Q => match d, e with
  | .int i, .int j => Q (.bl (f i j))
  | _, _ => False
theorem dRel_mono {f : Int → Int → Bool} : Mono2 (dRel f) := fun d e Q Q' i q => by
  unfold dRel at q ⊢
  split at q <;> first | exact i _ q | exact q
theorem or_rel {op : CmpOp} {f : Int → Int → Bool} (h : OpR X (compareOp op) (rI0 fun i j => .bl (f i j))) : OpR X (compareOp op) (rD2 X.K (dRel f)) := fun pins s σ H x y v u Q I rx ry ⟨F, d, e, hf, r1, r2, q⟩ => by
  unfold dRel at q
  split at q
  · rw [r1.int] at rx; rw [r2.int] at ry
    exact h pins s σ H _ _ v u Q I rx ry ⟨_, _, rfl, rfl, q.bl hf⟩
  · exact q.elim
abbrev dLt : Op2 := dRel fun i j => decide (i < j)
abbrev dLe : Op2 := dRel fun i j => decide (i ≤ j)
abbrev dGt : Op2 := dRel fun i j => decide (j < i)
abbrev dGe : Op2 := dRel fun i j => decide (j ≤ i)
theorem or_lt : OpR X (compareOp .Lt) (rD2 X.K dLt) := or_rel op_lt
theorem or_le : OpR X (compareOp .LtE) (rD2 X.K dLe) := or_rel op_le
theorem or_gt : OpR X (compareOp .Gt) (rD2 X.K dGt) := or_rel op_gt
theorem or_ge : OpR X (compareOp .GtE) (rD2 X.K dGe) := or_rel op_ge
end
/-! ### data without instances, for == -/
mutual
def toPy : D → Option PyData
  | .non => some .none
  | .bl b => some (.bool b)
  | .int i => some (.int i)
  | .str x => some (.str x)
  | .tup xs => (toPys xs).map .tuple
  | .lst xs => (toPys xs).map .list
  | .scr ns => some (.list (ns.map .int))
  | .ins _ _ _ => none
  | .ty _ => none
  | .cls _ => none
  | .sz _ => none
def toPys : List D → Option (List PyData)
  | [] => some []
  | x :: xs => (toPy x).bind fun p => (toPys xs).map fun ps => p :: ps
end
theorem DpAll_ints {K : PySem.W.Frag} {H : Hp} : ∀ ns : List Int, DpAll K H (ns.map V.int) (ns.map PyData.int)
  | [] => .nil
  | n :: ns => .cons (.int n) (DpAll_ints ns)
theorem Rep.dp {K : PySem.W.Frag} {H : Hp} {v : V} {d : D} (r : Rep K H v d) : ∀ p, toPy d = some p → Dp K H v p :=
  Rep.rec (motive_1 := fun v d _ => ∀ p, toPy d = some p → Dp K H v p) (motive_2 := fun vs ds _ => ∀ ps, toPys ds = some ps → DpAll K H vs ps)
    (fun p e => by simp only [toPy, Option.some.injEq] at e; subst e; exact .non)
    (fun b p e => by simp only [toPy, Option.some.injEq] at e; subst e; exact .bl b)
    (fun i p e => by simp only [toPy, Option.some.injEq] at e; subst e; exact .int i)
    (fun x p e => by simp only [toPy, Option.some.injEq] at e; subst e; exact .str x)
    (fun q _ ih p e => by
      simp only [toPy, Option.map_eq_some_iff] at e
      obtain ⟨ps, e1, e2⟩ := e
      subst e2
      exact .tup q (ih ps e1))
    (fun q _ ih p e => by
      simp only [toPy, Option.map_eq_some_iff] at e
      obtain ⟨ps, e1, e2⟩ := e
      subst e2
      exact .lst (.of q) (ih ps e1))
    (fun q p e => by simp only [toPy, Option.some.injEq] at e; subst e; exact .lst q (DpAll_ints _))
    (fun k q _ ih p e => by simp only [toPy] at e; cases e)
    (fun n p e => by simp only [toPy] at e; cases e)
    (fun n p e => by simp only [toPy] at e; cases e)
    (fun q p e => by simp only [toPy] at e; cases e)
    (fun ps e => by simp only [toPys, Option.some.injEq] at e; subst e; exact .nil)
    (fun _ _ i1 i2 ps e => by
      simp only [toPys, Option.bind_eq_some_iff, Option.map_eq_some_iff] at e
      obtain ⟨p, e1, qs, e2, e3⟩ := e
      subst e3
      exact .cons (i1 p e1) (i2 qs e2))
    r
/-- d == e of data: p, q what they are -/
def dEq : Op2 := fun d e Q => ∃ p q, toPy d = some p ∧ toPy e = some q ∧ SeqAt.shaped p = true ∧ SeqAt.shaped q = true ∧ Q (.bl (PyData.eqv p q))
def dNe : Op2 := fun d e Q => ∃ p q, toPy d = some p ∧ toPy e = some q ∧ SeqAt.shaped p = true ∧ SeqAt.shaped q = true ∧ Q (.bl (!PyData.eqv p q))
theorem dEq_mono : Mono2 dEq := fun d e Q Q' i ⟨p, q, h1, h2, h3, h4, h⟩ => ⟨p, q, h1, h2, h3, h4, i _ h⟩
theorem dNe_mono : Mono2 dNe := fun d e Q Q' i ⟨p, q, h1, h2, h3, h4, h⟩ => ⟨p, q, h1, h2, h3, h4, i _ h⟩
def dIs : Op2 := fun d e Q => match d, e with
  | .non, .non => Q (.bl true)
  | .bl _, .non => Q (.bl false) | .int _, .non => Q (.bl false) | .str _, .non => Q (.bl false) | .tup _, .non => Q (.bl false) | .lst _, .non => Q (.bl false) | .scr _, .non => Q (.bl false) | .ins _ _ _, .non => Q (.bl false)
  | _, _ => False
def dIsNot : Op2 := fun d e Q => dIs d e fun x => match x with
  | .bl b => Q (.bl (!b))
  | _ => False
theorem dIs_mono : Mono2 dIs := fun d e Q Q' i q => by
  unfold dIs at q ⊢
  split at q <;> first | exact i _ q | exact q
theorem dIsNot_mono : Mono2 dIsNot := fun d e Q Q' i q => dIs_mono d e _ _ (fun x q => by
  split at q <;> first | exact i _ q | exact q) q
theorem isnon {K : PySem.W.Frag} {F H : Hp} {v : V} {d : D} (r : BRep K F H v d) (h : d ≠ .non) : decide (v = .non) = false := by
  refine decide_eq_false fun e => ?_
  subst e
  rcases r with r | ⟨_, _, _, e, _⟩
  · cases r; exact h rfl
  · cases e
section
variable {X : Cx}
theorem or_eq (hu : X.A.units + 64 < cLine) : OpR X (compareOp .Eq) (rD2 X.K dEq) := fun pins s σ H x y v u Q I rx ry ⟨F, d, e, hf, r1, r2, p, q, h1, h2, h3, h4, h⟩ =>
  op_eqD hu pins s σ H x y v u Q I rx ry ⟨p, q, (r1.rep hf).dp p h1, (r2.rep hf).dp q h2, h3, h4, h.bl hf⟩
theorem or_ne (hu : X.A.units + 64 < cLine) : OpR X (compareOp .NotEq) (rD2 X.K dNe) := fun pins s σ H x y v u Q I rx ry ⟨F, d, e, hf, r1, r2, p, q, h1, h2, h3, h4, h⟩ =>
  op_neD hu pins s σ H x y v u Q I rx ry ⟨p, q, (r1.rep hf).dp p h1, (r2.rep hf).dp q h2, h3, h4, h.bl hf⟩
theorem or_is : OpR X (compareOp .Is) (rD2 X.K dIs) := fun pins s σ H x y v u Q I rx ry ⟨F, d, e, hf, r1, r2, q⟩ => by
  unfold dIs at q
  split at q <;> first | exact q.elim | skip
  · rw [r1.non] at rx; rw [r2.non] at ry
    exact op_isN pins s σ H _ _ v u Q I rx ry ⟨rfl, q.bl hf⟩
  all_goals
    rw [r2.non] at ry
    refine op_isN pins s σ H _ _ v u Q I rx ry ⟨rfl, ?_⟩
    rw [isnon r1 (fun z => nomatch z)]
    exact q.bl hf
theorem or_isnot : OpR X (compareOp .IsNot) (rD2 X.K dIsNot) := fun pins s σ H x y v u Q I rx ry ⟨F, d, e, hf, r1, r2, q⟩ => by
  unfold dIsNot dIs at q
  split at q <;> first | exact q.elim | skip
  · rw [r1.non] at rx; rw [r2.non] at ry
    exact op_notN pins s σ H _ _ v u Q I rx ry ⟨rfl, q.bl hf⟩
  all_goals
    rw [r2.non] at ry
    refine op_notN pins s σ H _ _ v u Q I rx ry ⟨rfl, ?_⟩
    rw [isnon r1 (fun z => nomatch z)]
    exact q.bl hf
/-! ### a[i] -/
def dIx : Op2 := fun d e Q => match d, e with
  | .tup xs, .int i => ∃ x, atI xs i = some x ∧ Q x
  | .lst xs, .int i => ∃ x, atI xs i = some x ∧ Q x
  | .scr ns, .int i => ∃ n, atI ns i = some n ∧ Q (.int n)
  | .str z, .int i => z.length ≤ sizeLine ∧ ∃ c, atI z.cps.toList i = some c ∧ Q (.str ⟨#[c]⟩)
  | _, _ => False
theorem dIx_mono : Mono2 dIx := fun d e Q Q' i q => by
  unfold dIx at q ⊢
  split at q
  · obtain ⟨x, h1, h2⟩ := q; exact ⟨x, h1, i _ h2⟩
  · obtain ⟨x, h1, h2⟩ := q; exact ⟨x, h1, i _ h2⟩
  · obtain ⟨x, h1, h2⟩ := q; exact ⟨x, h1, i _ h2⟩
  · obtain ⟨h0, x, h1, h2⟩ := q; exact ⟨h0, x, h1, i _ h2⟩
  · exact q
theorem atI_rep {K : PySem.W.Frag} {F : Hp} {vs : List V} {ds : List D} {i : Int} {d : D} (r : Reps K F vs ds) (h : atI ds i = some d) : ∃ v, atI vs i = some v ∧ Rep K F v d := by
  unfold atI at h ⊢
  rw [r.length]
  cases e : ixN ds.length i with
  | none => rw [e] at h; cases h
  | some j => rw [e] at h; exact r.get h
theorem atI_map {α β : Type} {f : α → β} {xs : List α} {i : Int} {x : α} (h : atI xs i = some x) : atI (xs.map f) i = some (f x) := by
  unfold atI at h ⊢
  rw [List.length_map]
  cases e : ixN xs.length i with
  | none => rw [e] at h; cases h
  | some j =>
    rw [e] at h
    show (xs.map f)[j]? = _
    rw [List.getElem?_map]
    have h' : xs[j]? = some x := h
    rw [h']; rfl
theorem ir_ix : IxR X (rD2 X.K dIx) := fun value slice pins s σ H x y v u Q I rx ry ⟨F, d, e, hf, r1, r2, q⟩ hs => by
  unfold dIx at q
  split at q
  · obtain ⟨a, vs, rfl, h1, p1, _⟩ := r1.tup hf
    obtain ⟨z, h2, q⟩ := q
    obtain ⟨w, h3, r3⟩ := atI_rep p1 h2
    rw [r2.int] at ry
    exact ix_tup value slice pins s σ H _ _ v u Q I rx ry ⟨a, vs, _, w, rfl, rfl, h1, h3, q _ F H (Ext.refl hf) r3⟩ hs
  · obtain ⟨a, vs, rfl, h1, p1⟩ := r1.lst hf
    obtain ⟨z, h2, q⟩ := q
    obtain ⟨w, h3, r3⟩ := atI_rep p1 h2
    rw [r2.int] at ry
    exact ix_list value slice pins s σ H _ _ v u Q I rx ry ⟨a, vs, _, w, rfl, rfl, .of h1, h3, q _ F H (Ext.refl hf) r3⟩ hs
  · obtain ⟨a, rfl, h1⟩ := r1.scr hf
    obtain ⟨z, h2, q⟩ := q
    rw [r2.int] at ry
    exact ix_list value slice pins s σ H _ _ v u Q I rx ry ⟨a, _, _, _, rfl, rfl, h1, atI_map h2, q.int hf⟩ hs
  · obtain ⟨h0, c, h2, q⟩ := q
    rw [r1.str] at rx; rw [r2.int] at ry
    exact ix_str value slice pins s σ H _ _ v u Q I rx ry ⟨_, _, c, rfl, rfl, h0, h2, q.str hf⟩ hs
  · exact q.elim
variable {a b : Expr} {ma mb : RE} {pos : Pos}
theorem ee_ix (ha : EB X a ma) (hb : EB X b mb) (hs : PlainIx b) : EE X (.Subscript a b pos) (rBin dIx ma mb) where
  mono := rBin_mono dIx_mono ha.mono hb.mono
  pe := fun G F0 => PE_imp (pe_ix ir_ix (ha.pe G F0) (hb.pe G F0) hs) fun σ H Q h => bin_core dIx_mono ha hb h
/-! ### slices -/
def cutD (xs : List D) (lo hi : Option Int) : List D := (xs.drop (HT.sIx xs.length 0 lo)).take (HT.sIx xs.length xs.length hi - HT.sIx xs.length 0 lo)
theorem Reps.cut {K : PySem.W.Frag} {F : Hp} {vs : List V} {ds : List D} (r : Reps K F vs ds) (lo hi : Option Int) : Reps K F (cutV vs lo hi) (cutD ds lo hi) := by
  unfold cutV cutD
  rw [r.length]
  exact (r.drop _).take _
def dSl (d : D) (lo hi : Option Int) (Q : D → Prop) : Prop := match d with
  | .tup xs => Q (.tup (cutD xs lo hi))
  | .lst xs => Q (.lst (cutD xs lo hi))
  | .str z => z.length ≤ sizeLine ∧ Q (.str (cutS z lo hi))
  | _ => False
theorem dSl_mono {d : D} {lo hi : Option Int} {Q Q' : D → Prop} (i : ∀ d, Q d → Q' d) (q : dSl d lo hi Q) : dSl d lo hi Q' := by
  cases d <;> first | exact i _ q | exact ⟨q.1, i _ q.2⟩ | exact q
abbrev RO := En → (Option Int → En → Prop) → Prop
def roNone : RO := fun env Q => Q none env
def roSome (m : RE) : RO := fun env Q => m env fun d e => match d with
  | .int i => Q (some i) e
  | _ => False
def tOo (K : PySem.W.Frag) (G F0 : Hp) (m : RO) : TO := fun σ H Q => ∃ F env, StOk K G F0 F H env σ ∧ m env fun d env' => ∀ F' H', Af K G F0 F H σ F' H' env' → Q d H'
structure EO (X : Cx) (e : Option Expr) (m : RO) : Prop where
  mono : MonoQ m
  pe : ∀ G F0, PO X e (tOo X.K G F0 m)
theorem PO_imp {e : Option Expr} {t t' : TO} (h : PO X e t) (i : ∀ σ H Q, t' σ H Q → t σ H Q) : PO X e t' := ⟨fun pins s σ H Q I q => h.run pins s σ H Q I (i σ H Q q)⟩
theorem eo_none : EO X none roNone := ⟨fun env Q Q' i q => i _ _ q, fun G F0 => PO_imp po_none fun σ H Q ⟨F, env, k, q⟩ => q F H (Af.refl k)⟩
theorem eo_some (h : EE X a ma) : EO X (some a) (roSome ma) where
  mono := fun env Q Q' i q => h.mono _ _ _ (fun d e q => by cases d <;> first | exact i _ _ q | exact q) q
  pe := fun G F0 => PO_imp (po_some (h.pe G F0)) fun σ H Q ⟨F, env, k, q⟩ => ⟨F, env, k, h.mono _ _ _ (fun d e q v F' H' af r => by
    cases r <;> first | exact q.elim | exact ⟨_, rfl, q F' H' af⟩) q⟩
def rSl (m : RE) (l h : RO) : RE := fun env Q => m env fun d e => l e fun lo e1 => h e1 fun hi e2 => dSl d lo hi fun x => Q x e2
theorem sl_any : SlR X (fun x lo hi H Q => ∃ F d, Same F H ∧ BRep X.K F H x d ∧ dSl d lo hi (Wants X.K F H Q)) := fun pins s σ H x v vl vu lo hi sl Q I rx hs pl pu ⟨F, d, hf, r1, q⟩ => by
  unfold dSl at q
  split at q
  · obtain ⟨a, vs, rfl, h1, p1, g1⟩ := r1.tup hf
    refine sl_tupA pins s σ H _ v vl vu lo hi sl Q I rx hs pl pu ⟨a, vs, rfl, h1, fun hw => ?_, fun _ p hp => q.newT hf (p1.cut lo hi) hp⟩
    refine q _ F H (Ext.refl hf) (.tup g1 ?_)
    unfold cutD
    rw [p1.length] at hw
    rw [hw.1, hw.2, List.drop_zero, Nat.sub_zero, List.take_length]
    exact p1
  · obtain ⟨a, vs, rfl, h1, p1⟩ := r1.lst hf
    exact sl_list pins s σ H _ v vl vu lo hi sl Q I rx hs pl pu ⟨a, vs, rfl, .of h1, fun p hp => q.newL hf (p1.cut lo hi) hp⟩
  · rw [r1.str] at rx
    exact sl_str pins s σ H _ v vl vu lo hi sl Q I rx hs pl pu ⟨_, rfl, q.1, q.2.str hf⟩
  · exact q.elim
theorem ee_slice {lo hi : Option Expr} {ml mh : RO} {p2 : Pos} (ha : EB X a ma) (hl : EO X lo ml) (hh : EO X hi mh) : EE X (.Subscript a (.Slice lo hi none p2) pos) (rSl ma ml mh) where
  mono := fun env Q Q' i q => ha.mono _ _ _ (fun d e q => hl.mono _ _ _ (fun l e1 q => hh.mono _ _ _ (fun u e2 q => dSl_mono (fun x q => i _ _ q) q) q) q) q
  pe := fun G F0 => PE_imp (pe_slice sl_any (ha.pe G F0) (hl.pe G F0) (hh.pe G F0)) fun σ H Q ⟨F, env, k, q⟩ =>
    ⟨F, env, k, ha.mono _ _ _ (fun d e q v F1 H1 a1 r1 => ⟨F1, e, a1.ok, hl.mono _ _ _ (fun l e1 q F2 H2 a2 => ⟨F2, e1, a2.ok, hh.mono _ _ _ (fun u e2 q F3 H3 a3 =>
      ⟨F3, d, a3.ok.fh, r1.ext (a2.fF.trans a3.fF) (a2.hH.trans a3.hH), dSl_mono (fun x q v F4 H4 x4 r4 => q v F4 H4 (((a1.trans a2).trans a3).ext x4) r4) q⟩) q⟩) q⟩) q⟩
/-! ### unary minus -/
def rNeg (m : RE) : RE := fun env Q => m env fun d e => match d with
  | .int i => Q (.int (-i)) e
  | _ => False
theorem ee_neg (ha : EE X a ma) : EE X (.UnaryOp .USub a pos) (rNeg ma) where
  mono := fun env Q Q' i q => ha.mono _ _ _ (fun d e q => by cases d <;> first | exact i _ _ q | exact q) q
  pe := fun G F0 => PE_imp (pe_un un_neg (ha.pe G F0)) fun σ H Q ⟨F, env, k, q⟩ => ⟨F, env, k, ha.mono _ _ _ (fun d e q v F' H' af r => by
    cases r <;> first | exact q.elim | exact ⟨_, rfl, q _ F' H' af (.int _)⟩) q⟩
end

/-! ### calls of built-ins -/
abbrev OpN := List D → (D → Prop) → Prop
def MonoN (δ : OpN) : Prop := ∀ ds (Q Q' : D → Prop), (∀ x, Q x → Q' x) → δ ds Q → δ ds Q'
def rDc (K : PySem.W.Frag) (δ : OpN) : List V → Hp → VK → Prop := fun vs H Q => ∃ F ds, Same F H ∧ BReps K F H vs ds ∧ δ ds (Wants K F H Q)
def rCall (δ : OpN) (m : RN) : RE := fun env Q => m env fun ds e => δ ds fun d => Q d e
theorem rCall_mono {δ : OpN} {m : RN} (h : MonoN δ) (hm : MonoQ m) : MonoQ (rCall δ m) := fun env Q Q' i q => hm _ _ _ (fun ds e q => h _ _ _ (fun d q => i _ _ q) q) q
section
variable {X : Cx} {x : Str} {p pos : Pos} {e : Expr} {es : List Expr} {m : RN} {id T : String} {δ : OpN}
theorem call_core {G F0 : Hp} {σ : L2.St} {H : Hp} {Q : VK} (hd : MonoN δ) (ha : EAb X es m) (h : tM X.K G F0 (rCall δ m) σ H Q) : tCB (rDc X.K δ) (tAb X.K G F0 m) σ H Q := by
  obtain ⟨F, env, k, q⟩ := h
  exact ⟨F, env, k, ha.mono _ _ _ (fun ds e q vs F1 H1 a1 r1 => ⟨F1, ds, a1.ok.fh, r1, hd _ _ _ (fun d q v F2 H2 x2 r2 => q v F2 H2 (a1.ext x2) r2) q⟩) q⟩
theorem ee_callB (hc : CallR X (.builtin id) (rDc X.K δ)) (hd : MonoN δ) (hg : Gl X x) (hm : X.mg x = none) (hv : bootBuiltins x = some (.builtin id)) (ha : EAb X (e :: es) m) (hn : x ≠ "__name__" := by decide) (hdb : (x == ("__debug__" : Str)) = false := by decide)
    (he : starEach (e :: es) X.env = (false, eval e X.env) :: starEach es X.env := by rfl) (hpl : (backTo pos (starEach es X.env)).any (·.1) = false := by rfl) : EE X (.Call (.Name x p) (e :: es) [] pos) (rCall δ m) where
  mono := rCall_mono hd ha.mono
  pe := fun G F0 => PE_imp (pe_callB hc hg hm hv (ha.pe G F0) hn hdb he hpl) fun σ H Q h => call_core hd ha h
theorem ee_callTy (hc : CallR X (.type T) (rDc X.K δ)) (hd : MonoN δ) (hg : Gl X x) (hm : X.mg x = none) (hv : bootBuiltins x = some (.type T)) (ha : EAb X (e :: es) m) (hn : x ≠ "__name__" := by decide) (hdb : (x == ("__debug__" : Str)) = false := by decide)
    (he : starEach (e :: es) X.env = (false, eval e X.env) :: starEach es X.env := by rfl) (hpl : (backTo pos (starEach es X.env)).any (·.1) = false := by rfl) : EE X (.Call (.Name x p) (e :: es) [] pos) (rCall δ m) where
  mono := rCall_mono hd ha.mono
  pe := fun G F0 => PE_imp (pe_callTy hc hg hm hv (ha.pe G F0) hn hdb he hpl) fun σ H Q h => call_core hd ha h
end
theorem BReps.one {K : PySem.W.Frag} {F H : Hp} {vs : List V} {d : D} (r : BReps K F H vs [d]) : ∃ v, vs = [v] ∧ BRep K F H v d := by
  cases r with | cons r t => cases t; exact ⟨_, rfl, r⟩
theorem BReps.two {K : PySem.W.Frag} {F H : Hp} {vs : List V} {d d' : D} (r : BReps K F H vs [d, d']) : ∃ v v', vs = [v, v'] ∧ BRep K F H v d ∧ BRep K F H v' d' := by
  cases r with | cons r t => obtain ⟨v', rfl, r'⟩ := t.one; exact ⟨_, _, rfl, r, r'⟩
def nInt : OpN := fun ds Q => match ds with
  | [.int i] => Q (.int i)
  | [.bl b] => Q (.int (if b then 1 else 0))
  | _ => False
def nLen : OpN := fun ds Q => match ds with
  | [.str y] => y.length ≤ sizeLine ∧ Q (.int y.length)
  | [.tup xs] => Q (.int xs.length)
  | [.lst xs] => Q (.int xs.length)
  | [.scr xs] => Q (.int xs.length)
  | _ => False
def nTuple : OpN := fun ds Q => match ds with
  | [.lst xs] => Q (.tup xs)
  | [.tup xs] => Q (.tup xs)
  | _ => False
def nList : OpN := fun ds Q => match ds with
  | [.lst xs] => Q (.lst xs)
  | [.tup xs] => Q (.lst xs)
  | [.scr ns] => Q (.lst (ns.map D.int))
  | _ => False
def nAbs : OpN := fun ds Q => match ds with
  | [.int i] => Q (.int (if i < 0 then -i else i))
  | _ => False
def nMax2 : OpN := fun ds Q => match ds with
  | [.int i, .int j] => Q (.int (if j > i then j else i))
  | _ => False
def nMin2 : OpN := fun ds Q => match ds with
  | [.int i, .int j] => Q (.int (if j < i then j else i))
  | _ => False
def asInts : List D → Option (List Int)
  | [] => some []
  | .int i :: r => (asInts r).map (i :: ·)
  | _ :: _ => none
def asBls : List D → Option (List Bool)
  | [] => some []
  | .bl i :: r => (asBls r).map (i :: ·)
  | _ :: _ => none
theorem asInts_eq : ∀ {ds : List D} {ns : List Int}, asInts ds = some ns → ds = ns.map D.int
  | [], ns, h => by cases h; rfl
  | d :: r, ns, h => by
    cases d <;> simp only [asInts, Option.map_eq_some_iff] at h <;> try cases h
    rename_i i w hw
    obtain ⟨e1, e2⟩ := hw
    subst e2
    rw [asInts_eq e1]; rfl
theorem asBls_eq : ∀ {ds : List D} {ns : List Bool}, asBls ds = some ns → ds = ns.map D.bl
  | [], ns, h => by cases h; rfl
  | d :: r, ns, h => by
    cases d <;> simp only [asBls, Option.map_eq_some_iff] at h <;> try cases h
    rename_i i w hw
    obtain ⟨e1, e2⟩ := hw
    subst e2
    rw [asBls_eq e1]; rfl
@[simp] theorem asInts_map : ∀ ns : List Int, asInts (ns.map D.int) = some ns
  | [] => rfl
  | n :: ns => by simp [asInts, asInts_map ns]
@[simp] theorem asBls_map : ∀ ns : List Bool, asBls (ns.map D.bl) = some ns
  | [] => rfl
  | n :: ns => by simp [asBls, asBls_map ns]
def nSum : OpN := fun ds Q => match ds with
  | [.lst xs] => ∃ ns, asInts xs = some ns ∧ Q (.int ns.sum)
  | _ => False
def nMaxL : OpN := fun ds Q => match ds with
  | [.lst xs] => ∃ ns, asInts xs = some ns ∧ 0 < ns.length ∧ ∀ m, m ∈ ns → (∀ y, y ∈ ns → y ≤ m) → Q (.int m)
  | _ => False
def nMinL : OpN := fun ds Q => match ds with
  | [.lst xs] => ∃ ns, asInts xs = some ns ∧ 0 < ns.length ∧ ∀ m, m ∈ ns → (∀ y, y ∈ ns → m ≤ y) → Q (.int m)
  | _ => False
def nAll : OpN := fun ds Q => match ds with
  | [.lst xs] => ∃ bs, asBls xs = some bs ∧ Q (.bl (bs.all id))
  | _ => False
def nAny : OpN := fun ds Q => match ds with
  | [.lst xs] => ∃ bs, asBls xs = some bs ∧ Q (.bl (bs.any id))
  | _ => False
theorem nInt_mono : MonoN nInt := by unfold nInt; intro ds Q Q' i q; revert q; split <;> intro q <;> first | exact i _ q | exact q | exact ⟨q.1, i _ q.2⟩
theorem nLen_mono : MonoN nLen := by unfold nLen; intro ds Q Q' i q; revert q; split <;> intro q <;> first | exact i _ q | exact q | exact ⟨q.1, i _ q.2⟩
theorem nTuple_mono : MonoN nTuple := by unfold nTuple; intro ds Q Q' i q; revert q; split <;> intro q <;> first | exact i _ q | exact q | exact ⟨q.1, i _ q.2⟩
theorem nList_mono : MonoN nList := by unfold nList; intro ds Q Q' i q; revert q; split <;> intro q <;> first | exact i _ q | exact q | exact ⟨q.1, i _ q.2⟩
theorem nAbs_mono : MonoN nAbs := by unfold nAbs; intro ds Q Q' i q; revert q; split <;> intro q <;> first | exact i _ q | exact q | exact ⟨q.1, i _ q.2⟩
theorem nMax2_mono : MonoN nMax2 := by unfold nMax2; intro ds Q Q' i q; revert q; split <;> intro q <;> first | exact i _ q | exact q | exact ⟨q.1, i _ q.2⟩
theorem nMin2_mono : MonoN nMin2 := by unfold nMin2; intro ds Q Q' i q; revert q; split <;> intro q <;> first | exact i _ q | exact q | exact ⟨q.1, i _ q.2⟩
theorem nSum_mono : MonoN nSum := by
  intro ds Q Q' i q; unfold nSum at q ⊢
  split at q
  · obtain ⟨ns, h1, h2⟩ := q; exact ⟨ns, h1, i _ h2⟩
  · exact q
theorem nAll_mono : MonoN nAll := by
  intro ds Q Q' i q; unfold nAll at q ⊢
  split at q
  · obtain ⟨ns, h1, h2⟩ := q; exact ⟨ns, h1, i _ h2⟩
  · exact q
theorem nAny_mono : MonoN nAny := by
  intro ds Q Q' i q; unfold nAny at q ⊢
  split at q
  · obtain ⟨ns, h1, h2⟩ := q; exact ⟨ns, h1, i _ h2⟩
  · exact q
theorem nMaxL_mono : MonoN nMaxL := by
  intro ds Q Q' i q; unfold nMaxL at q ⊢
  split at q
  · obtain ⟨ns, h1, h0, h2⟩ := q; exact ⟨ns, h1, h0, fun m h3 h4 => i _ (h2 m h3 h4)⟩
  · exact q
theorem nMinL_mono : MonoN nMinL := by
  intro ds Q Q' i q; unfold nMinL at q ⊢
  split at q
  · obtain ⟨ns, h1, h0, h2⟩ := q; exact ⟨ns, h1, h0, fun m h3 h4 => i _ (h2 m h3 h4)⟩
  · exact q
section
variable {X : Cx}
theorem cn_int : CallR X (.type "int") (rDc X.K nInt) := fun pins s σ H xs us Q I r ⟨F, ds, hf, r1, q⟩ => by
  unfold nInt at q
  split at q
  · obtain ⟨v, rfl, r2⟩ := r1.one
    rw [r2.int] at r
    exact call_int1 pins s σ H _ us Q I r (.inl ⟨_, rfl, q.int hf⟩)
  · obtain ⟨v, rfl, r2⟩ := r1.one
    rw [r2.bl] at r
    exact call_int1 pins s σ H _ us Q I r (.inr ⟨_, rfl, q.int hf⟩)
  · exact q.elim
theorem cn_len : CallR X (.builtin "len") (rDc X.K nLen) := fun pins s σ H xs us Q I r ⟨F, ds, hf, r1, q⟩ => by
  unfold nLen at q
  split at q
  · obtain ⟨v, rfl, r2⟩ := r1.one
    rw [r2.str] at r
    exact call_len_str pins s σ H _ us Q I r ⟨_, rfl, q.1, q.2.int hf⟩
  · obtain ⟨v, rfl, r2⟩ := r1.one
    obtain ⟨a, vs, rfl, h, rs, _⟩ := r2.tup hf
    exact call_len_seq pins s σ H _ us Q I r ⟨a, vs, rfl, .inr h, by rw [rs.length]; exact q.int hf⟩
  · obtain ⟨v, rfl, r2⟩ := r1.one
    obtain ⟨a, vs, rfl, h, rs⟩ := r2.lst hf
    exact call_len_seq pins s σ H _ us Q I r ⟨a, vs, rfl, .inl (.of h), by rw [rs.length]; exact q.int hf⟩
  · obtain ⟨v, rfl, r2⟩ := r1.one
    obtain ⟨a, rfl, h⟩ := r2.scr hf
    exact call_len_seq pins s σ H _ us Q I r ⟨a, _, rfl, .inl h, by rw [List.length_map]; exact q.int hf⟩
  · exact q.elim
theorem cn_tuple : CallR X (.type "tuple") (rDc X.K nTuple) := fun pins s σ H xs us Q I r ⟨F, ds, hf, r1, q⟩ => by
  unfold nTuple at q
  split at q
  · obtain ⟨v, rfl, r2⟩ := r1.one
    obtain ⟨a, vs, rfl, h, rs⟩ := r2.lst hf
    exact call_tuple_of pins s σ H _ us Q I r ⟨a, vs, rfl, .inl ⟨.of h, fun l hl => q.newT hf rs hl⟩⟩
  · obtain ⟨v, rfl, r2⟩ := r1.one
    obtain ⟨a, vs, rfl, h, rs, g⟩ := r2.tup hf
    exact call_tuple_of pins s σ H _ us Q I r ⟨a, vs, rfl, .inr ⟨h, q _ F H (Ext.refl hf) (.tup g rs)⟩⟩
  · exact q.elim
theorem cn_list : CallR X (.type "list") (rDc X.K nList) := fun pins s σ H xs us Q I r ⟨F, ds, hf, r1, q⟩ => by
  unfold nList at q
  split at q
  · obtain ⟨v, rfl, r2⟩ := r1.one
    obtain ⟨a, vs, rfl, h, rs⟩ := r2.lst hf
    exact call_list_of pins s σ H _ us Q I r ⟨a, vs, rfl, .inl (.of h), fun l hl => q.newL hf rs hl⟩
  · obtain ⟨v, rfl, r2⟩ := r1.one
    obtain ⟨a, vs, rfl, h, rs, g⟩ := r2.tup hf
    exact call_list_of pins s σ H _ us Q I r ⟨a, vs, rfl, .inr h, fun l hl => q.newL hf rs hl⟩
  · obtain ⟨v, rfl, r2⟩ := r1.one
    obtain ⟨a, rfl, h⟩ := r2.scr hf
    exact call_list_of pins s σ H _ us Q I r ⟨a, _, rfl, .inl h, fun l hl => q.newL hf (Reps.of_ints _) hl⟩
  · exact q.elim
theorem cn_abs : CallR X (.builtin "abs") (rDc X.K nAbs) := fun pins s σ H xs us Q I r ⟨F, ds, hf, r1, q⟩ => by
  unfold nAbs at q
  split at q
  · obtain ⟨v, rfl, r2⟩ := r1.one
    rw [r2.int] at r
    exact call_abs pins s σ H _ us Q I r ⟨_, rfl, q.int hf⟩
  · exact q.elim
theorem cn_max2 (hc : X.calm = true) : CallR X (.builtin "max") (rDc X.K nMax2) := fun pins s σ H xs us Q I r ⟨F, ds, hf, r1, q⟩ => by
  unfold nMax2 at q
  split at q
  · obtain ⟨v, v', rfl, r2, r3⟩ := r1.two
    rw [r2.int, r3.int] at r
    exact call_max2 hc pins s σ H _ us Q I r ⟨_, _, rfl, q.int hf⟩
  · exact q.elim
theorem cn_min2 (hc : X.calm = true) : CallR X (.builtin "min") (rDc X.K nMin2) := fun pins s σ H xs us Q I r ⟨F, ds, hf, r1, q⟩ => by
  unfold nMin2 at q
  split at q
  · obtain ⟨v, v', rfl, r2, r3⟩ := r1.two
    rw [r2.int, r3.int] at r
    exact call_min2 hc pins s σ H _ us Q I r ⟨_, _, rfl, q.int hf⟩
  · exact q.elim
theorem cn_sum (hc : X.calm = true) : CallR X (.builtin "sum") (rDc X.K nSum) := fun pins s σ H xs us Q I r ⟨F, ds, hf, r1, q⟩ => by
  unfold nSum at q
  split at q
  · obtain ⟨v, rfl, r2⟩ := r1.one
    obtain ⟨a, vs, rfl, h, rs⟩ := r2.lst hf
    obtain ⟨ns, e, q⟩ := q
    rw [asInts_eq e] at rs
    rw [rs.ints] at h
    exact cr_sum hc pins s σ H _ us Q I r ⟨a, ns, rfl, .of h, q.int hf⟩
  · exact q.elim
theorem cn_maxL (hc : X.calm = true) : CallR X (.builtin "max") (rDc X.K nMaxL) := fun pins s σ H xs us Q I r ⟨F, ds, hf, r1, q⟩ => by
  unfold nMaxL at q
  split at q
  · obtain ⟨v, rfl, r2⟩ := r1.one
    obtain ⟨a, vs, rfl, h, rs⟩ := r2.lst hf
    obtain ⟨ns, e, h0, q⟩ := q
    rw [asInts_eq e] at rs
    rw [rs.ints] at h
    exact cr_max hc pins s σ H _ us Q I r ⟨a, ns, rfl, .of h, h0, fun m h1 h2 => (q m h1 h2).int hf⟩
  · exact q.elim
theorem cn_minL (hc : X.calm = true) : CallR X (.builtin "min") (rDc X.K nMinL) := fun pins s σ H xs us Q I r ⟨F, ds, hf, r1, q⟩ => by
  unfold nMinL at q
  split at q
  · obtain ⟨v, rfl, r2⟩ := r1.one
    obtain ⟨a, vs, rfl, h, rs⟩ := r2.lst hf
    obtain ⟨ns, e, h0, q⟩ := q
    rw [asInts_eq e] at rs
    rw [rs.ints] at h
    exact cr_min hc pins s σ H _ us Q I r ⟨a, ns, rfl, .of h, h0, fun m h1 h2 => (q m h1 h2).int hf⟩
  · exact q.elim
theorem cn_all (hc : X.calm = true) : CallR X (.builtin "all") (rDc X.K nAll) := fun pins s σ H xs us Q I r ⟨F, ds, hf, r1, q⟩ => by
  unfold nAll at q
  split at q
  · obtain ⟨v, rfl, r2⟩ := r1.one
    obtain ⟨a, vs, rfl, h, rs⟩ := r2.lst hf
    obtain ⟨ns, e, q⟩ := q
    rw [asBls_eq e] at rs
    rw [rs.bls] at h
    exact cr_all hc pins s σ H _ us Q I r ⟨a, ns, rfl, .of h, q.bl hf⟩
  · exact q.elim
theorem cn_any (hc : X.calm = true) : CallR X (.builtin "any") (rDc X.K nAny) := fun pins s σ H xs us Q I r ⟨F, ds, hf, r1, q⟩ => by
  unfold nAny at q
  split at q
  · obtain ⟨v, rfl, r2⟩ := r1.one
    obtain ⟨a, vs, rfl, h, rs⟩ := r2.lst hf
    obtain ⟨ns, e, q⟩ := q
    rw [asBls_eq e] at rs
    rw [rs.bls] at h
    exact cr_any hc pins s σ H _ us Q I r ⟨a, ns, rfl, .of h, q.bl hf⟩
  · exact q.elim
end
end DL

namespace DL
open PySem PySem.Spec PyProof.Rows L2

/-! ### what is walked -/
section
variable {K : PySem.W.Frag} {F H : Hp}
theorem ItOk.list {a : Addr} {vs : List V} {ds : List D} (h : SqL K F a vs) (r : Reps K F vs ds) : ItOk K F (Itl K a) ds := fun i F1 H1 s1 s2 => by
  have h1 : SqL K H1 a vs := (s1.trans s2).seq h
  refine ⟨fun d e => ?_, fun e => ?_⟩
  · obtain ⟨v, ev, rv⟩ := r.get e
    refine ⟨⟨vs, v, h1, ev⟩, fun x H2 y => ?_⟩
    obtain ⟨rfl, y⟩ := y
    have e2 := (y vs h1).symm.trans ev
    cases e2
    exact ⟨F1, Ext.refl s2, rv.mono s1⟩
  · exact ⟨vs, h1, by rw [r.length]; exact List.getElem?_eq_none_iff.mp e⟩
theorem ItOk.tup {a : Addr} {vs : List V} {ds : List D} (h : SqT K F a vs) (r : Reps K F vs ds) : ItOk K F (Itt K a) ds := fun i F1 H1 s1 s2 => by
  have h1 : SqT K H1 a vs := SqT_mono (s1.trans s2) h
  refine ⟨fun d e => ?_, fun e => ?_⟩
  · obtain ⟨v, ev, rv⟩ := r.get e
    refine ⟨⟨vs, v, h1, ev⟩, fun x H2 y => ?_⟩
    obtain ⟨rfl, y⟩ := y
    have e2 := (y vs h1).symm.trans ev
    cases e2
    exact ⟨F1, Ext.refl s2, rv.mono s1⟩
  · exact ⟨vs, h1, by rw [r.length]; exact List.getElem?_eq_none_iff.mp e⟩
/-- the signs of a text -/
def signs (z : Str) : List D := z.cps.toList.map fun c => D.str ⟨#[c]⟩
theorem ItOk.str {z : Str} : ItOk K F (Its z) (signs z) := fun i F1 H1 s1 s2 => by
  have e0 : (signs z)[i]? = (z.cps[i]?).map fun c => D.str ⟨#[c]⟩ := by
    unfold signs; rw [List.getElem?_map, Array.getElem?_toList]
  rw [e0]
  refine ⟨fun d e => ?_, fun e => ?_⟩
  · obtain ⟨c, ec, rfl⟩ := Option.map_eq_some_iff.mp e
    refine ⟨?_, fun x H2 y => ?_⟩
    · obtain ⟨h, _⟩ := Array.getElem?_eq_some_iff.mp ec; exact h
    · obtain ⟨rfl, c', ec', rfl⟩ := y
      rw [ec] at ec'; cases ec'
      exact ⟨F1, Ext.refl s2, .str _⟩
  · have := Option.map_eq_none_iff.mp e
    exact Array.getElem?_eq_none_iff.mp this
/-- lo, lo + 1, .. -/
def rangeD : Int → Nat → List D
  | _, 0 => []
  | lo, n + 1 => .int lo :: rangeD (lo + 1) n
theorem rangeD_get : ∀ (lo : Int) (n i : Nat), (rangeD lo n)[i]? = if i < n then some (.int (lo + i)) else none
  | lo, 0, i => by simp [rangeD]
  | lo, n + 1, 0 => by simp [rangeD]
  | lo, n + 1, i + 1 => by
    have h := rangeD_get (lo + 1) n i
    simp only [rangeD, List.getElem?_cons_succ, h]
    have e : lo + 1 + (i : Int) = lo + ((i + 1 : Nat) : Int) := by omega
    rw [e]
    by_cases c : i < n
    · rw [if_pos c, if_pos (by omega)]
    · rw [if_neg c, if_neg (by omega)]
theorem ItOk.range {lo : Int} {n : Nat} : ItOk K F (Itr lo n) (rangeD lo n) := fun i F1 H1 s1 s2 => by
  rw [rangeD_get]
  refine ⟨fun d e => ?_, fun e => ?_⟩
  · split at e
    · rename_i hlt
      cases e
      refine ⟨hlt, fun x H2 y => ?_⟩
      obtain ⟨rfl, rfl⟩ := y
      exact ⟨F1, Ext.refl s2, .int _⟩
    · cases e
  · split at e
    · cases e
    · rename_i h; exact Nat.le_of_not_lt h
/-- pairs, each new -/
def zipD : List D → List D → List D
  | x :: xs, y :: ys => .tup [x, y] :: zipD xs ys
  | _, _ => []
theorem zipD_get : ∀ (xs ys : List D) (i : Nat), (zipD xs ys)[i]? = (xs[i]?).bind fun x => (ys[i]?).map fun y => D.tup [x, y]
  | [], ys, i => by simp [zipD]
  | x :: xs, [], i => by
    simp only [zipD, List.getElem?_nil, Option.map_none]
    cases (x :: xs)[i]? <;> rfl
  | x :: xs, y :: ys, 0 => rfl
  | x :: xs, y :: ys, i + 1 => by simpa [zipD] using zipD_get xs ys i
def enumD : Int → List D → List D
  | _, [] => []
  | k, x :: xs => .tup [.int k, x] :: enumD (k + 1) xs
theorem enumD_get : ∀ (k : Int) (xs : List D) (i : Nat), (enumD k xs)[i]? = (xs[i]?).map fun x => D.tup [.int (k + i), x]
  | k, [], i => by simp [enumD]
  | k, x :: xs, 0 => by simp [enumD]
  | k, x :: xs, i + 1 => by
    have h := enumD_get (k + 1) xs i
    simp only [enumD, List.getElem?_cons_succ, h]
    have e : k + 1 + (i : Int) = k + ((i + 1 : Nat) : Int) := by omega
    rw [e]
theorem pair_new {F1 H1 : Hp} {T : Addr} {x y : V} {d e : D} (s2 : Same F1 H1) (hT : H1 T = none) (rx : Rep K F1 x d) (ry : Rep K F1 y e) :
    ∃ F2, Ext F1 H1 F2 (upd H1 T (.tup [x, y])) ∧ Rep K F2 (.ref T) (.tup [d, e]) := by
  have X := Ext.alloc (o := .tup [x, y]) s2 hT
  exact ⟨_, X, .tup (.of upd_same) (.cons (rx.mono X.fF) (Reps.one (ry.mono X.fF)))⟩
theorem ItOk.enum {a : Addr} {vs : List V} {ds : List D} (h : SqL K F a vs) (r : Reps K F vs ds) : ItOk K F (Ite K a) (enumD 0 ds) := fun i F1 H1 s1 s2 => by
  have h1 : SqL K H1 a vs := (s1.trans s2).seq h
  rw [enumD_get]
  refine ⟨fun d e => ?_, fun e => ?_⟩
  · obtain ⟨d', e', rfl⟩ := Option.map_eq_some_iff.mp e
    obtain ⟨v, ev, rv⟩ := r.get e'
    refine ⟨⟨vs, v, h1, ev⟩, fun x H2 y => ?_⟩
    obtain ⟨T, x', rfl, hT, rfl, y⟩ := y
    have e2 := (y vs h1).symm.trans ev
    cases e2
    have e3 : (0 : Int) + (i : Int) = (i : Int) := by omega
    rw [e3]
    exact pair_new s2 hT (.int _) (rv.mono s1)
  · exact ⟨vs, h1, by rw [r.length]; exact List.getElem?_eq_none_iff.mp (Option.map_eq_none_iff.mp e)⟩
theorem ItOk.zipLL {a b : Addr} {vs ws : List V} {ds es : List D} (h : SqL K F a vs) (h' : SqL K F b ws) (r : Reps K F vs ds) (r' : Reps K F ws es) : ItOk K F (Itz K a b) (zipD ds es) := fun i F1 H1 s1 s2 => by
  have h1 : SqL K H1 a vs := (s1.trans s2).seq h
  have h2 : SqL K H1 b ws := (s1.trans s2).seq h'
  rw [zipD_get]
  refine ⟨fun d e => ?_, fun e => ?_⟩
  · obtain ⟨d', e', e⟩ := Option.bind_eq_some_iff.mp e
    obtain ⟨d2, e2, rfl⟩ := Option.map_eq_some_iff.mp e
    obtain ⟨v, ev, rv⟩ := r.get e'
    obtain ⟨w, ew, rw'⟩ := r'.get e2
    refine ⟨⟨vs, ws, v, w, h1, h2, ev, ew⟩, fun x H2 y => ?_⟩
    obtain ⟨T, x', y', rfl, hT, rfl, y1, y2⟩ := y
    have q1 := (y1 vs h1).symm.trans ev
    have q2 := (y2 ws h2).symm.trans ew
    cases q1; cases q2
    exact pair_new s2 hT (rv.mono s1) (rw'.mono s1)
  · refine ⟨vs, ws, h1, h2, ?_⟩
    rw [r.length, r'.length]
    cases e1 : ds[i]? with
    | none => exact .inl (List.getElem?_eq_none_iff.mp e1)
    | some d =>
      rw [e1] at e
      exact .inr (List.getElem?_eq_none_iff.mp (Option.map_eq_none_iff.mp e))
theorem ItOk.zipTT {a b : Addr} {vs ws : List V} {ds es : List D} (h : SqT K F a vs) (h' : SqT K F b ws) (r : Reps K F vs ds) (r' : Reps K F ws es) : ItOk K F (RZ.ItzT K a b) (zipD ds es) := fun i F1 H1 s1 s2 => by
  have h1 : SqT K H1 a vs := SqT_mono (s1.trans s2) h
  have h2 : SqT K H1 b ws := SqT_mono (s1.trans s2) h'
  rw [zipD_get]
  refine ⟨fun d e => ?_, fun e => ?_⟩
  · obtain ⟨d', e', e⟩ := Option.bind_eq_some_iff.mp e
    obtain ⟨d2, e2, rfl⟩ := Option.map_eq_some_iff.mp e
    obtain ⟨v, ev, rv⟩ := r.get e'
    obtain ⟨w, ew, rw'⟩ := r'.get e2
    refine ⟨⟨vs, ws, v, w, h1, h2, ev, ew⟩, fun x H2 y => ?_⟩
    obtain ⟨T, x', y', rfl, hT, rfl, y1, y2⟩ := y
    have q1 := (y1 vs h1).symm.trans ev
    have q2 := (y2 ws h2).symm.trans ew
    cases q1; cases q2
    exact pair_new s2 hT (rv.mono s1) (rw'.mono s1)
  · refine ⟨vs, ws, h1, h2, ?_⟩
    rw [r.length, r'.length]
    cases e1 : ds[i]? with
    | none => exact .inl (List.getElem?_eq_none_iff.mp e1)
    | some d =>
      rw [e1] at e
      exact .inr (List.getElem?_eq_none_iff.mp (Option.map_eq_none_iff.mp e))
end

/-! ### walks by syntax -/
/-- a sequence's items -/
def dSeq (d : D) (Q : List D → Prop) : Prop := match d with
  | .tup xs => Q xs
  | .lst xs => Q xs
  | .scr ns => Q (ns.map D.int)
  | .str z => Q (signs z)
  | _ => False
theorem dSeq_mono {d : D} {Q Q' : List D → Prop} (i : ∀ x, Q x → Q' x) (q : dSeq d Q) : dSeq d Q' := by
  cases d <;> first | exact i _ q | exact q
def iSeqV (K : PySem.W.Frag) (x : V) (H : Hp) (R : It → Hp → Prop) : Prop :=
  (∃ a xs, x = .ref a ∧ SqL K H a xs ∧ R (Itl K a) H) ∨ (∃ a xs, x = .ref a ∧ SqT K H a xs ∧ R (Itt K a) H) ∨ ∃ z, x = .str z ∧ R (Its z) H
section
variable {X : Cx} {tg e : Expr} {te : TE} {me : RE}
theorem pi_seqV (he : PE X e te) : PI X tg e (fun σ H R => te σ H fun x H1 => iSeqV X.K x H1 R) := ⟨fun pins s σ H R I h => thn (he.run pins s σ H _ I h) fun v s1 ⟨x, H1, I1, r1, q1⟩ => by
  rcases q1 with ⟨a, xs, rfl, hq, q⟩ | ⟨a, xs, rfl, hq, q⟩ | ⟨z, rfl, q⟩
  · cases r1
    obtain ⟨its, rv, p, hz⟩ := I1.list hq
    exact wpAny_pyIter_list p.isList (pi_one (tk := s1.toks) I1 _ (turn_list a _) ⟨_, Heap.get?_push_size _ rfl, rfl, rfl⟩ q)
  · cases r1
    obtain ⟨its, rv, p, hz⟩ := I1.tuple hq
    exact wpAny_pyIter_tuple (show s1.heap.IsTuple a its.toArray from p) (pi_one (tk := s1.toks) I1 _ (turn_tuple a _) ⟨_, Heap.get?_push_size _ rfl, rfl, rfl⟩ q)
  · obtain ⟨t, rfl⟩ := r1
    by_cases ha : z.cps.all (· < 128) = true
    · exact wpAny_pyIter_ascii ha (pi_one (tk := s1.toks) I1 _ (turn_str _ z t "str_ascii_iterator" (.inl rfl)) ⟨_, Heap.get?_push_size _ rfl, rfl, rfl⟩ q)
    · exact wpAny_pyIter_wide (Bool.eq_false_iff.mpr ha) (pi_one (tk := s1.toks) I1 _ (turn_str _ z t "str_iterator" (.inr rfl)) ⟨_, Heap.get?_push_size _ rfl, rfl, rfl⟩ q)⟩
def iSeq (m : RE) : RN := fun env Q => m env fun d e => dSeq d fun ds => Q ds e
theorem iSeq_mono {m : RE} (h : MonoQ m) : MonoQ (iSeq m) := fun env Q Q' i q => h _ _ _ (fun d e q => dSeq_mono (fun x q => i _ _ q) q) q
theorem ei_seq (he : EE X e me) : EI X tg e (iSeq me) where
  mono := iSeq_mono he.mono
  pi := fun G F0 => PI_imp (pi_seqV (he.pe G F0)) fun σ H R ⟨F, env, k, q⟩ => ⟨F, env, k, he.mono _ _ _ (fun d e q v F' H' a r => by
    cases r <;> first | exact q.elim | skip
    · exact .inr (.inr ⟨_, rfl, q _ F' H' a ItOk.str⟩)
    · rename_i vs ds h rs
      exact .inr (.inl ⟨_, vs, rfl, SqT_mono a.ok.fh h, q _ F' H' a (ItOk.tup h rs)⟩)
    · rename_i vs ds h rs
      exact .inl ⟨_, vs, rfl, .of (a.ok.fh _ _ h), q _ F' H' a (ItOk.list (.of h) rs)⟩
    · rename_i ns h
      exact .inl ⟨_, _, rfl, a.ok.fh.seq h, q _ F' H' a (ItOk.list h (Reps.of_ints _))⟩) q⟩
variable {p pos : Pos} {a b : Expr} {m : RN}
def inR (i : Int) : Prop := -(2 ^ 62) ≤ i ∧ i < 2 ^ 62
def iRg1 (m : RN) : RN := fun env Q => m env fun ds e => match ds with
  | [.int j] => inR j ∧ Q (rangeD 0 j.toNat) e
  | _ => False
theorem ei_range1 (hg : Gl X "range") (hm : X.mg "range" = none) (ha : EA X [a] m) (hs : starEach [a] X.env = [(false, eval a X.env)] := by rfl) : EI X tg (.Call (.Name "range" p) [a] [] pos) (iRg1 m) where
  mono := fun env Q Q' i q => ha.mono _ _ _ (fun ds e q => by revert q; split <;> intro q <;> first | exact ⟨q.1, i _ _ q.2⟩ | exact q) q
  pi := fun G F0 => PI_imp (pi_range1 hg hm (ha.pe G F0) hs) fun σ H R ⟨F, env, k, q⟩ => ⟨F, env, k, ha.mono _ _ _ (fun ds e q vs F' H' a r => by
    revert q; split <;> intro q
    · obtain ⟨⟨h1, h2⟩, q⟩ := q
      cases r with | cons r t => cases t; cases r; exact ⟨_, rfl, h1, h2, q _ F' H' a ItOk.range⟩
    · exact q.elim) q⟩
def iRg2 (m : RN) : RN := fun env Q => m env fun ds e => match ds with
  | [.int i, .int j] => inR i ∧ inR j ∧ Q (rangeD i (j - i).toNat) e
  | _ => False
theorem ei_range2 (hg : Gl X "range") (hm : X.mg "range" = none) (ha : EA X [a, b] m) (hs : starEach [a, b] X.env = [(false, eval a X.env), (false, eval b X.env)] := by rfl) (hs2 : starEach [b] X.env = [(false, eval b X.env)] := by rfl) : EI X tg (.Call (.Name "range" p) [a, b] [] pos) (iRg2 m) where
  mono := fun env Q Q' i q => ha.mono _ _ _ (fun ds e q => by revert q; split <;> intro q <;> first | exact ⟨q.1, q.2.1, i _ _ q.2.2⟩ | exact q) q
  pi := fun G F0 => PI_imp (pi_range2 hg hm (ha.pe G F0) hs hs2) fun σ H R ⟨F, env, k, q⟩ => ⟨F, env, k, ha.mono _ _ _ (fun ds e q vs F' H' a r => by
    revert q; split <;> intro q
    · obtain ⟨⟨h1, h2⟩, ⟨h3, h4⟩, q⟩ := q
      cases r with | cons r t => cases t with | cons r' t => cases t; cases r; cases r'; exact ⟨_, _, rfl, ⟨h1, h2, h3, h4⟩, q _ F' H' a ItOk.range⟩
    · exact q.elim) q⟩
variable {elts : List Expr} {kk : Nat} {tpos : Pos}
def iEnumD (m : RN) : RN := fun env Q => m env fun ds e => match ds with
  | [.lst xs] => Q (enumD 0 xs) e
  | _ => False
theorem ei_enum (hg : Gl X "enumerate") (hm : X.mg "enumerate" = none) (ha : EA X [a] m) (hs : starEach [a] X.env = [(false, eval a X.env)] := by rfl) : EI X (.Tuple elts kk tpos) (.Call (.Name "enumerate" p) [a] [] pos) (iEnumD m) where
  mono := fun env Q Q' i q => ha.mono _ _ _ (fun ds e q => by revert q; split <;> intro q <;> first | exact i _ _ q | exact q) q
  pi := fun G F0 => PI_imp (pi_enum hg hm (ha.pe G F0) hs) fun σ H R ⟨F, env, k, q⟩ => ⟨F, env, k, ha.mono _ _ _ (fun ds e q vs F' H' a r => by
    revert q; split <;> intro q
    · cases r with | cons r t => cases t; cases r with | lst h rs => exact ⟨_, _, rfl, .of (a.ok.fh _ _ h), q _ F' H' a (ItOk.enum (.of h) rs)⟩
    · exact q.elim) q⟩
def iZipD (m : RN) : RN := fun env Q => m env fun ds e => match ds with
  | [.lst xs, .lst ys] => Q (zipD xs ys) e
  | [.tup xs, .tup ys] => Q (zipD xs ys) e
  | _ => False
theorem ei_zip (hg : Gl X "zip") (hm : X.mg "zip" = none) (ha : EA X [a, b] m) (hs : starEach [a, b] X.env = (false, eval a X.env) :: starEach [b] X.env := by rfl) (hpl : (backTo pos (starEach [b] X.env)).any (·.1) = false := by rfl) :
    EI X (.Tuple elts kk tpos) (.Call (.Name "zip" p) [a, b] [] pos) (iZipD m) where
  mono := fun env Q Q' i q => ha.mono _ _ _ (fun ds e q => by revert q; split <;> intro q <;> first | exact i _ _ q | exact q) q
  pi := fun G F0 => PI_imp (RZ.pi_zipA hg hm (ha.pe G F0) hs hpl) fun σ H R ⟨F, env, k, q⟩ => ⟨F, env, k, ha.mono _ _ _ (fun ds e q vs F' H' a r => by
    revert q; split <;> intro q
    · cases r with | cons r t => cases t with | cons r' t => cases t; cases r with | lst h rs => cases r' with | lst h' rs' => exact ⟨_, _, _, _, rfl, .inl ⟨.of (a.ok.fh _ _ h), .of (a.ok.fh _ _ h'), q _ F' H' a (ItOk.zipLL (.of h) (.of h') rs rs')⟩⟩
    · cases r with | cons r t => cases t with | cons r' t => cases t; cases r with | tup h rs => cases r' with | tup h' rs' => exact ⟨_, _, _, _, rfl, .inr ⟨SqT_mono a.ok.fh h, SqT_mono a.ok.fh h', q _ F' H' a (ItOk.zipTT h h' rs rs')⟩⟩
    · exact q.elim) q⟩
end

/-! ### comprehensions -/
def wipeE (env : En) : List Nat → En
  | [] => env
  | v :: vs => es (wipeE env vs) v .un
theorem StOk.wipes {K : PySem.W.Frag} {G F0 F H : Hp} {env : En} {σ : L2.St} (k : StOk K G F0 F H env σ) : ∀ vs : List Nat, StOk K G F0 F H (wipeE env vs) (wipe σ vs)
  | [] => k
  | v :: vs => by
    have k' := k.wipes vs
    show StOk K G F0 F H (es (wipeE env vs) v .un) ((wipe σ vs).set v none)
    rw [es_eq]
    refine ⟨k'.fh, k'.gh, k'.ff, k'.nw, by simp [k'.len], fun j s e => ?_, fun j ds a e => ?_, fun j j' ds es a e e' => ?_⟩
    · rcases getElem?_set_some e with ⟨rfl, rfl, _⟩ | ⟨h, e⟩
      · trivial
      · rw [at_set_ne h]; exact k'.sl j s e
    · rcases getElem?_set_some e with ⟨_, z, _⟩ | ⟨h, e⟩
      · cases z
      · rw [at_set_ne h]; exact k'.og j ds a e
    · rcases getElem?_set_some e with ⟨_, z, _⟩ | ⟨h, e⟩
      · cases z
      · rcases getElem?_set_some e' with ⟨_, z, _⟩ | ⟨h', e'⟩
        · cases z
        · rw [at_set_ne h, at_set_ne h']; exact k'.inj j j' ds es a e e'
theorem wipeE_get {env : En} {i : Nat} : ∀ {vs : List Nat}, i ∉ vs → (wipeE env vs)[i]? = env[i]?
  | [], _ => rfl
  | v :: vs, h => by
    have h1 : i ≠ v := fun e => h (e ▸ List.mem_cons_self ..)
    show (es (wipeE env vs) v .un)[i]? = _
    rw [es_eq, set_none h1, wipeE_get (fun m => h (List.mem_cons_of_mem _ m))]
theorem wipe_at {σ : L2.St} {i : Nat} {vs : List Nat} (h : i ∉ vs) : L2.St.at (wipe σ vs) i = L2.St.at σ i := by
  unfold L2.St.at; rw [wipe_out h]
theorem wipe_none {σ : L2.St} {i : Nat} : ∀ {vs : List Nat}, i ∈ vs → L2.St.at (wipe σ vs) i = none
  | [], h => by cases h
  | v :: vs, h => by
    by_cases hv : i = v
    · subst hv
      show L2.St.at ((wipe σ vs).set i none) i = none
      by_cases hl : i < (wipe σ vs).length
      · exact at_set hl
      · unfold L2.St.at; rw [List.getElem?_eq_none (by simpa using hl)]; rfl
    · show L2.St.at ((wipe σ vs).set v none) i = none
      rw [at_set_ne hv]
      exact wipe_none ((List.mem_cons.mp h).resolve_left hv)
theorem eg_of : ∀ {en : En} {j : Nat} {s : Sl}, en[j]? = some s → eg en j = s
  | [], _, _, h => by simp at h
  | _ :: _, 0, _, h => by simpa [eg] using h
  | _ :: r, j + 1, s, h => eg_of (en := r) (by simpa using h)
theorem st_ext {σ σ' : L2.St} (hl : σ.length = σ'.length) (h : ∀ j : Nat, L2.St.at σ j = L2.St.at σ' j) : σ = σ' := by
  refine List.ext_getElem? fun j => ?_
  have := h j
  unfold L2.St.at at this
  by_cases c : j < σ.length
  · rw [List.getElem?_eq_getElem c, List.getElem?_eq_getElem (hl ▸ c)] at this ⊢
    exact congrArg some this
  · rw [List.getElem?_eq_none (by omega), List.getElem?_eq_none (by omega)]
theorem wipe_but {σ σ' : L2.St} {vs : List Nat} (b : But vs (wipe σ vs) σ') : wipe σ' vs = wipe σ vs := by
  have l1 := wipe_length σ vs
  have l2 := wipe_length σ' vs
  have lb := b.len
  refine st_ext (by omega) fun j => ?_
  by_cases h : j ∈ vs
  · rw [wipe_none h, wipe_none h]
  · rw [wipe_at h, b.but j h, wipe_at h]
/-- no list of one's own in the slots that the comprehension's names have -/
def noOwn (env : En) (vs : List Nat) : Prop := ∀ v ∈ vs, ∀ ds, eg env v ≠ .own ds
/-- the items of the new list: each turn begins with the slots as they stood -/
def lcL (vs : List Nat) (g : RG) (tt : RT) (me : RE) (env : En) (Q : List D → Prop) : List D → List D → Prop
  | [], acc => Q acc
  | x :: xs, acc => g x (wipeE env vs) fun e2 => wipeE e2 vs = wipeE env vs ∧ tt e2 fun b e3 => if b = true then me e3 fun d e4 => wipeE e4 vs = wipeE env vs ∧ acc.length < sizeLine ∧ lcL vs g tt me env Q xs (acc ++ [d])
      else wipeE e3 vs = wipeE env vs ∧ lcL vs g tt me env Q xs acc
theorem lcL_mono {vs : List Nat} {g : RG} {tt : RT} {me : RE} (hg : MonoG g) (ht : MonoQ tt) (hm : MonoQ me) {env : En} {Q Q' : List D → Prop} (i : ∀ x, Q x → Q' x) : ∀ xs acc, lcL vs g tt me env Q xs acc → lcL vs g tt me env Q' xs acc
  | [], acc, q => i _ q
  | x :: xs, acc, q => hg _ _ _ _ (fun e2 q => ⟨q.1, ht _ _ _ (fun b e3 q => by
      cases b with
      | true => exact hm _ _ _ (fun d e4 q => ⟨q.1, q.2.1, lcL_mono hg ht hm i xs _ q.2.2⟩) q
      | false => exact ⟨q.1, lcL_mono hg ht hm i xs _ q.2⟩) q.2⟩) q
/-- slots frozen ahead -/
def frz1 (env : En) (i : Nat) : En := match eg env i with
  | .own (.l ds) => es env i (.v (.lst ds))
  | _ => env
def frzE (env : En) : List Nat → En
  | [] => env
  | i :: is => frzE (frz1 env i) is
theorem StOk.frz1 {K : PySem.W.Frag} {G F0 F H : Hp} {env : En} {σ : L2.St} (k : StOk K G F0 F H env σ) (i : Nat) : ∃ F', Same F F' ∧ StOk K G F0 F' H (frz1 env i) σ := by
  unfold DL.frz1
  split
  · rename_i ds e
    have g := eg_get (env := env) (i := i) (by rw [e]; exact fun z => nomatch z)
    rw [e] at g
    obtain ⟨a, vs, _, _, _, sF, k'⟩ := k.freeze g
    exact ⟨_, sF, by rw [es_eq]; exact k'⟩
  · exact ⟨F, Same.refl _, k⟩
theorem StOk.frzE {K : PySem.W.Frag} {G F0 H : Hp} {σ : L2.St} : ∀ (is : List Nat) {F : Hp} {env : En}, StOk K G F0 F H env σ → ∃ F', Same F F' ∧ StOk K G F0 F' H (frzE env is) σ
  | [], F, env, k => ⟨F, Same.refl _, k⟩
  | i :: is, F, env, k => by
    obtain ⟨F1, s1, k1⟩ := k.frz1 i
    obtain ⟨F2, s2, k2⟩ := StOk.frzE is k1
    exact ⟨F2, s1.trans s2, k2⟩
def rLc (fz : List Nat) (vs : List Nat) (mi : RN) (g : RG) (tt : RT) (me : RE) : RN := fun env Q => mi env fun ds e => noOwn (frzE e fz) vs ∧ lcL vs g tt me (frzE e fz) (fun acc => Q acc (frzE e fz)) ds []
def rYes : RT := fun env Q => Q true env
structure ETs (X : Cx) (ifs : List Expr) (t : RT) : Prop where
  mono : MonoQ t
  pe : ∀ G F0, PTs X ifs (tTe X.K G F0 t)
theorem ets_nil {X : Cx} : ETs X [] rYes := ⟨fun env Q Q' i q => i _ _ q, fun G F0 => ⟨fun pins s σ H Q I ⟨F, env, k, q⟩ => pts_nil.run pins s σ H Q I (q F H (Af.refl k))⟩⟩
theorem ets_one {X : Cx} {c : Expr} {t : RT} (h : ET X c t) : ETs X [c] t := ⟨h.mono, fun G F0 => pts_one (h.pe G F0)⟩
section
variable {X : Cx}
theorem PG_of {X : Cx} {tg : Expr} {t : Hp → Hp → TG} (h : ∀ G F0, PG X tg (t G F0)) : PG X tg (fun v σ H Q => ∃ G F0, t G F0 v σ H Q) := ⟨fun pins s σ H v u Q I r ⟨G, F0, q⟩ => (h G F0).run pins s σ H v u Q I r q⟩
theorem PE_of {X : Cx} {e : Expr} {t : Hp → Hp → TE} (h : ∀ G F0, PE X e (t G F0)) : PE X e (fun σ H Q => ∃ G F0, t G F0 σ H Q) := ⟨fun pins s σ H Q I ⟨G, F0, q⟩ => (h G F0).run pins s σ H Q I q⟩
theorem PTs_of {X : Cx} {ifs : List Expr} {t : Hp → Hp → TT} (h : ∀ G F0, PTs X ifs (t G F0)) : PTs X ifs (fun σ H Q => ∃ G F0, t G F0 σ H Q) := ⟨fun pins s σ H Q I ⟨G, F0, q⟩ => (h G F0).run pins s σ H Q I q⟩
theorem lc_core2 {G F0 : Hp} {σ : L2.St} {H : Hp} {Q : VK} {tg iter : Expr} {mi : RN} {g : RG} {tt : RT} {me : RE} {fz vs : List Nat} (hi : EI X tg iter mi) (hg : MonoG g) (ht : MonoQ tt) (hm : MonoQ me) (h : tN X.K G F0 (rLc fz vs mi g tt me) σ H Q) :
    tLc (tIt X.K G F0 mi) (fun v σ H Q => ∃ G F0, tG X.K G F0 vs g v σ H Q) (fun σ H Q => ∃ G F0, tTe X.K G F0 tt σ H Q) (fun σ H Q => ∃ G F0, tM X.K G F0 me σ H Q) vs σ H Q := by
  obtain ⟨F, env, k, q⟩ := h
  refine ⟨F, env, k, hi.mono _ _ _ (fun ds e0 ⟨no, q⟩ J F1 H1 af0 io => fun Dd hD => ?_) q⟩
  obtain ⟨F', sF', kf⟩ := StOk.frzE fz af0.ok
  generalize frzE e0 fz = e at no q kf
  have af : Af X.K G F0 F H σ F' H1 e := ⟨af0.hH, af0.fF.trans sF', kf⟩
  obtain ⟨a1, hF, hG, nd⟩ := af_new (vs := []) af hD
  -- the state between two turns
  refine ⟨fun i m Hx => m = ds.length - i ∧ ∃ Fx acc accD, StOk X.K G F0 Fx Hx e σ ∧ Same F' Fx ∧ Same H Hx ∧ Hx Dd = some (.lst acc) ∧ Fx Dd = none ∧ Reps X.K Fx acc accD ∧ lcL vs g tt me e (fun acc => ∀ a vs' F'' H'', Af X.K G F0 F H σ F'' H'' e → H'' a = some (.lst vs') → F'' a = none → G a = none → NotOwn e σ a → Reps X.K F'' vs' acc → Q (.ref a) H'') (ds.drop i) accD,
    ⟨ds.length, by simp, F', [], [], a1.ok, Same.refl _, a1.hH, upd_same, hF, .nil, by simpa using q⟩, ?_⟩
  rintro i m Hx ⟨rfl, Fx, acc, accD, kx, sx, hx, hDx, fDx, ra, qx⟩
  have io1 := io i Fx Hx (sF'.trans sx) kx.fh
  cases e1 : ds[i]? with
  | none =>
    refine .inl ⟨io1.2 e1, ?_⟩
    rw [List.drop_eq_nil_of_le (List.getElem?_eq_none_iff.mp e1)] at qx
    exact qx Dd acc Fx Hx ⟨hx, af.fF.trans sx, kx⟩ hDx fDx hG nd ra
  | some d =>
    have hlt : i < ds.length := by
      rcases Nat.lt_or_ge i ds.length with h | h
      · exact h
      · rw [List.getElem?_eq_none h] at e1; cases e1
    have ed : ds.drop i = d :: ds.drop (i + 1) := by
      rw [List.drop_eq_getElem_cons hlt]
      rw [List.getElem?_eq_getElem hlt] at e1
      rw [Option.some.inj e1]
    rw [ed] at qx
    obtain ⟨go, yl⟩ := io1.1 d e1
    refine .inr ⟨go, fun Hy => ∃ Fx acc accD, StOk X.K G F0 Fx Hy e σ ∧ Same F' Fx ∧ Same H Hy ∧ Hy Dd = some (.lst acc) ∧ Fx Dd = none ∧ Reps X.K Fx acc accD ∧ lcL vs g tt me e (fun acc => ∀ a vs' F'' H'', Af X.K G F0 F H σ F'' H'' e → H'' a = some (.lst vs') → F'' a = none → G a = none → NotOwn e σ a → Reps X.K F'' vs' acc → Q (.ref a) H'') (ds.drop (i + 1)) accD,
      fun H' ⟨Fx, acc, accD, w⟩ => ⟨ds.length - (i + 1), by omega, rfl, Fx, acc, accD, w⟩, fun x H2 y => ?_⟩
    obtain ⟨F2, x2, r2⟩ := yl x H2 y
    -- the turn runs with the new list's cell among what stays
    have hD2 : H2 Dd = some (.lst acc) := x2.hH _ _ hDx
    have f2D : F2 Dd = none := by rw [x2.nw Dd (by rw [hDx]; exact fun z => nomatch z)]; exact fDx
    have k2 : StOk X.K G F0 F2 H2 e σ := kx.ext x2
    have kw := k2.wipes vs
    have noD : NotOwn (wipeE e vs) (wipe σ vs) Dd := fun j es' ej => by
      intro z
      by_cases hj : j ∈ vs
      · have this := wipe_none (σ := σ) hj
        rw [this] at z; cases z
      · rw [wipe_at hj] at z
        rw [wipeE_get hj] at ej
        exact nd j es' ej z
    have kG : StOk X.K (upd G Dd (.lst acc)) F2 F2 H2 (wipeE e vs) (wipe σ vs) := by
      refine ⟨kw.fh, fun b o eb => ?_, Same.refl _, fun _ _ => rfl, kw.len, kw.sl, fun j ds' a ej ea => ?_, kw.inj⟩
      · by_cases hb : b = Dd
        · subst hb; rw [upd_same] at eb; rw [hD2]; exact eb
        · rw [upd_ne hb] at eb; exact kw.gh _ _ eb
      · have : a ≠ Dd := fun z => noD j ds' ej (by rw [ea, z])
        rw [upd_ne this]; exact kw.og j ds' a ej ea
    -- back to the slots ahead of the turn
    have back : ∀ {F4 H4 : Hp} {e4 : En} {σ2 : L2.St} {acc' : List V}, StOk X.K (upd G Dd (.lst acc)) F2 F4 H4 e4 σ2 → Same H2 H4 → wipeE e4 vs = wipeE e vs → wipe σ2 vs = wipe σ vs → F4 Dd = none ∧ Same F2 F4 ∧ StOk X.K G F0 F4 (upd H4 Dd (.lst acc')) e σ := by
      intro F4 H4 e4 σ2 acc' k4 s4 we ws
      have f4D : F4 Dd = none := by rw [k4.nw Dd (by rw [upd_same]; exact fun z => nomatch z)]; exact f2D
      have gne : ∀ a, G a ≠ none → a ≠ Dd := fun a n z => n (z ▸ hG)
      refine ⟨f4D, k4.ff, fun b o q => ?_, fun b o q => ?_, k2.ff.trans k4.ff, fun b n => ?_, k2.len, fun j s ej => ?_, k2.og, k2.inj⟩
      · rw [upd_ne (ne_of_none q f4D)]; exact k4.fh _ _ q
      · have : b ≠ Dd := ne_of_none q hG
        rw [upd_ne this]; exact s4 _ _ (k2.gh _ _ q)
      · have : b ≠ Dd := gne b n
        rw [k4.nw b (by rw [upd_ne this]; exact n)]; exact k2.nw b n
      · have old := k2.sl j s ej
        cases s with
        | un => trivial
        | v d' => obtain ⟨v, ev, rv⟩ := old; exact ⟨v, ev, rv.mono k4.ff⟩
        | own ys =>
          by_cases hj : j ∈ vs
          · exfalso
            have := no j hj ys
            apply this
            exact eg_of ej
          · obtain ⟨b, vs', eb, _, hb, rb⟩ := old
            have e4j : e4[j]? = some (Sl.own ys) := by rw [← wipeE_get (env := e4) hj, we, wipeE_get hj]; exact ej
            obtain ⟨b', vs2, eb', n4, hb', rb'⟩ := k4.sl j _ e4j
            rw [← wipe_at (σ := σ2) hj, ws, wipe_at hj, eb] at eb'
            cases eb'
            have : b ≠ Dd := fun z => nd j ys ej (by rw [eb, z])
            exact ⟨b, vs2, eb, n4, by rw [upd_ne this]; exact hb', rb'⟩
    refine ⟨upd G Dd (.lst acc), F2, F2, wipeE e vs, d, kG, r2, hg _ _ _ _ (fun e2 ⟨we2, q3⟩ σ3 b3 k3 => ?_) qx⟩
    have wσ3 : wipe σ3 vs = wipe σ vs := wipe_but b3
    · refine ⟨wσ3, upd G Dd (.lst acc), F2, F2, e2, k3, ht _ _ _ (fun b e3 q4 F4 H4 a4 => ?_) q3⟩
      cases b with
      | true =>
        rw [if_pos rfl]
        rw [if_pos rfl] at q4
        refine ⟨upd G Dd (.lst acc), F2, F4, e3, a4.ok, hm _ _ _ (fun d5 e5 ⟨we5, hz, q5⟩ y F5 H5 a5 r5 => ?_) q4⟩
        obtain ⟨f5D, s25, k5⟩ := back (acc' := acc ++ [y]) a5.ok (a4.hH.trans a5.hH) we5 wσ3
        refine ⟨acc, a5.hH _ _ (a4.hH _ _ hD2), by rw [ra.length]; exact hz, F5, acc ++ [y], accD ++ [d5], k5, sx.trans (x2.fF.trans s25), fun b o eb => ?_, upd_same, f5D, (ra.mono (x2.fF.trans s25)).append (Reps.one r5), q5⟩
        have : b ≠ Dd := ne_of_none eb (af0.hH.at_none hD)
        rw [upd_ne this]; exact a5.hH _ _ (a4.hH _ _ (x2.hH _ _ (hx _ _ eb)))
      | false =>
        rw [if_neg (by decide)]
        rw [if_neg (by decide)] at q4
        obtain ⟨we4, q4⟩ := q4
        obtain ⟨f4D, s24, k4⟩ := back (acc' := acc) a4.ok a4.hH we4 wσ3
        have h4D : H4 Dd = some (.lst acc) := a4.hH _ _ hD2
        have eU : upd H4 Dd (.lst acc) = H4 := by
          funext b
          by_cases hb : b = Dd
          · subst hb; rw [upd_same, h4D]
          · rw [upd_ne hb]
        rw [eU] at k4
        exact ⟨F4, acc, accD, k4, sx.trans (x2.fF.trans s24), hx.trans (x2.hH.trans a4.hH), h4D, f4D, ra.mono (x2.fF.trans s24), q4⟩
end
end DL

namespace DL
open PySem PySem.Spec PyProof.Rows L2

theorem rLc_mono {fz vs : List Nat} {mi : RN} {g : RG} {tt : RT} {me : RE} (hi : MonoQ mi) (hg : MonoG g) (ht : MonoQ tt) (hm : MonoQ me) : MonoQ (rLc fz vs mi g tt me) := fun env Q Q' i q =>
  hi _ _ _ (fun ds e q => ⟨q.1, lcL_mono hg ht hm (fun acc q => i _ _ q) _ _ q.2⟩) q
section
variable {X : Cx}
theorem en_lc {elt tg iter : Expr} {ifs : List Expr} {scope : Scope} {own : List (Str × Nat)} {pos : Pos} {mi : RN} {g : RG} {tt : RT} {me : RE} (fz : List Nat) (hc : X.calm = true) (hN : X.N.Nodup) (hi : EI X tg iter mi) (ok : BlkOk X.N X.env.scope scope own)
    (hg : ∀ (s : Shared) (H : Hp) (C : Addr) (cl : List (Str × Addr)) (fp : List Addr), EG (X.blk s H scope (compEnvC scope cl C X.env) fp) tg (own.map (·.2)) g)
    (ht : ∀ (s : Shared) (H : Hp) (C : Addr) (cl : List (Str × Addr)) (fp : List Addr), ETs (X.blk s H scope (compEnvC scope cl C X.env) fp) ifs tt)
    (he : ∀ (s : Shared) (H : Hp) (C : Addr) (cl : List (Str × Addr)) (fp : List Addr), EE (X.blk s H scope (compEnvC scope cl C X.env) fp) elt me) (hs : ∀ x, foldedSetIterable iter X.env x = pure x := by intro _; rfl) :
    EN X (.ListComp elt [⟨tg, iter, ifs, 0⟩] scope pos) (rLc fz (own.map (·.2)) mi g tt me) :=
  { mono := fun env Q Q' i q => by
      have m1 : MonoG g := (hg X.s_0 X.H_0 0 [] []).mono
      have m2 : MonoQ tt := (ht X.s_0 X.H_0 0 [] []).mono
      have m3 : MonoQ me := (he X.s_0 X.H_0 0 [] []).mono
      exact rLc_mono hi.mono m1 m2 m3 env Q Q' i q
    pe := fun G F0 => by
      refine PE_of_run fun pins s σ H Q I h => ?_
      have m1 : MonoG g := (hg s H 0 [] []).mono
      have m2 : MonoQ tt := (ht s H 0 [] []).mono
      have m3 : MonoQ me := (he s H 0 [] []).mono
      exact (pe_lc hc hN (hi.pi G F0) ok (fun s H C cl fp => PG_of (t := fun G F0 => tG X.K G F0 (own.map (·.2)) g) fun G F0 => (hg s H C cl fp).pg G F0) (fun s H C cl fp => PTs_of (t := fun G F0 => tTe X.K G F0 tt) fun G F0 => (ht s H C cl fp).pe G F0) (fun s H C cl fp => PE_of (t := fun G F0 => tM X.K G F0 me) fun G F0 => (he s H C cl fp).pe G F0) hs).run pins s σ H Q I (lc_core2 hi m1 m2 m3 h) }
/-- name = [..] on the name's own line -/
theorem ss_setLc {i : Nat} {y : Str} {py : Pos} {elt tg iter : Expr} {ifs : List Expr} {scope : Scope} {own : List (Str × Nat)} {pos spos : Pos} {mi : RN} {g : RG} {tt : RT} {me : RE} (fz : List Nat) (hc : X.calm = true) (hN : X.N.Nodup) (hy : X.N[i]? = some y) (hyl : X.env.scope.names.lookup y = some .local)
    (hsw : swapsWith (.ListComp elt [⟨tg, iter, ifs, 0⟩] scope pos) (some (.Name y py)) spos.line X.env = pure true) (hi : EI X tg iter mi) (ok : BlkOk X.N X.env.scope scope own)
    (hg : ∀ (s : Shared) (H : Hp) (C : Addr) (cl : List (Str × Addr)) (fp : List Addr), EG (X.blk s H scope (compEnvC scope cl C X.env) fp) tg (own.map (·.2)) g)
    (ht : ∀ (s : Shared) (H : Hp) (C : Addr) (cl : List (Str × Addr)) (fp : List Addr), ETs (X.blk s H scope (compEnvC scope cl C X.env) fp) ifs tt)
    (he : ∀ (s : Shared) (H : Hp) (C : Addr) (cl : List (Str × Addr)) (fp : List Addr), EE (X.blk s H scope (compEnvC scope cl C X.env) fp) elt me) (hs : ∀ x, foldedSetIterable iter X.env x = pure x := by intro _; rfl) :
    SS X (.Assign [.Name y py] (.ListComp elt [⟨tg, iter, ifs, 0⟩] scope pos) spos) (sSetN i (rLc fz (own.map (·.2)) mi g tt me)) where
  mono := fun Z Z' env l q => (en_lc (pos := pos) fz hc hN hi ok hg ht he hs).mono _ _ _ (fun d e q => l.nx _ q) q
  ps := fun G F0 => by
    refine ⟨fun pins s σ H Z I h => ?_⟩
    have m1 : MonoG g := (hg s H 0 [] []).mono
    have m2 : MonoQ tt := (ht s H 0 [] []).mono
    have m3 : MonoQ me := (he s H 0 [] []).mono
    refine (ps_setLc hc hN hy hyl hsw (hi.pi G F0) ok (fun s H C cl fp => PG_of (t := fun G F0 => tG X.K G F0 (own.map (·.2)) g) fun G F0 => (hg s H C cl fp).pg G F0) (fun s H C cl fp => PTs_of (t := fun G F0 => tTe X.K G F0 tt) fun G F0 => (ht s H C cl fp).pe G F0) (fun s H C cl fp => PE_of (t := fun G F0 => tM X.K G F0 me) fun G F0 => (he s H C cl fp).pe G F0) hs).run pins s σ H Z I ?_
    refine lc_core2 (fz := fz) hi m1 m2 m3 ?_
    obtain ⟨F, env, k, q⟩ := h
    refine ⟨F, env, k, rLc_mono hi.mono m1 m2 m3 _ _ _ (fun ds e q a vs F' H' af hH hF hG no r => ?_) q⟩
    rw [es_eq] at q
    exact q _ F' H' (af.ok.setN i hF hH hG no r)
end

/-! ### isinstance -/
def tyD : D → Option Value
  | .non => some (.type "NoneType")
  | .bl _ => some (.type "bool")
  | .int _ => some (.type "int")
  | .str _ => some (.type "str")
  | .tup _ => some (.type "tuple")
  | .lst _ => some (.type "list")
  | .scr _ => some (.type "list")
  | .ins C _ _ => some (.ref C)
  | _ => none
def clD : D → Option Value
  | .ty n => some (.type n)
  | .cls C => some (.ref C)
  | _ => none
/-- what of the text isinstance asks about an instance's class -/
structure InsTy (K : PySem.W.Frag) (C : Addr) : Prop where
  cl : Cls K C
  ha : PySem.W.findIn K (.ref C) "__class__" = some (some (.builtin "object.__class__"))
  hn : PySem.W.specialIn K (.builtin "object.__class__") "__get__" = some (some (.builtin "getset_descriptor.__get__"))
  htk : PySem.W.takesIn K (.builtin "object.__class__") = some true
  hm : PySem.W.mroIn K C (.type "object") = some true
def insOk (K : PySem.W.Frag) : D → Prop
  | .ins C _ _ => InsTy K C
  | _ => True
def nIsi (K : PySem.W.Frag) : OpN := fun ds Q => match ds with
  | [d, c] => ∃ t u b, tyD d = some t ∧ clD c = some u ∧ insOk K d ∧ PySem.W.kitOne K t u = some b ∧ Q (.bl b)
  | _ => False
theorem nIsi_mono {K : PySem.W.Frag} : MonoN (nIsi K) := by
  intro ds Q Q' i q; unfold nIsi at q ⊢
  split at q
  · obtain ⟨t, u, b, h1, h2, h3, h4, h5⟩ := q; exact ⟨t, u, b, h1, h2, h3, h4, i _ h5⟩
  · exact q
theorem tyx_of {K : PySem.W.Frag} {F H : Hp} {v : V} {d : D} {t : Value} (hf : Same F H) (r : BRep K F H v d) (e : tyD d = some t) (hi : insOk K d) : TyX K H v t := by
  cases d with
  | non => rw [r.non]; cases e; exact .base .non
  | bl b => rw [r.bl]; cases e; exact .base (.bl b)
  | int i => rw [r.int]; cases e; exact .base (.int i)
  | str i => rw [r.str]; cases e; exact .base (.str i)
  | tup xs =>
    cases e
    obtain ⟨a, vs, rfl, h, _⟩ := r.tup hf
    rcases h with (h | ⟨o, h⟩) | ⟨o, its, n, h, hc, _⟩
    · exact .base (.tup h)
    · exact .fTuple h
    · exact .kTuple h hc
  | lst xs =>
    cases e
    obtain ⟨a, vs, rfl, h, _⟩ := r.lst hf
    exact .base (.lst h)
  | scr ns =>
    cases e
    obtain ⟨a, rfl, h⟩ := r.scr hf
    rcases h with (h | ⟨o, h⟩) | ⟨o, its, n, h, hc, _⟩
    · exact .base (.lst h)
    · exact .base (.frz h)
    · exact .kList h hc
  | ins C ns xs =>
    cases e
    rcases r with r | ⟨_, _, _, _, z, _⟩
    · cases r with | ins _ h _ => exact .base (.ins (hf _ _ h) hi.cl hi.ha hi.hn hi.htk hi.hm)
    · cases z
  | ty n => cases e
  | cls C => cases e
  | sz n => cases e
section
variable {X : Cx}
theorem cn_isi : CallR X (.builtin "isinstance") (rDc X.K (nIsi X.K)) := fun pins s σ H xs us Q I r ⟨F, ds, hf, r1, q⟩ => by
  unfold nIsi at q
  split at q
  · rename_i d c
    obtain ⟨v, v', rfl, r2, r3⟩ := r1.two
    obtain ⟨t, u, b, h1, h2, h3, h4, h5⟩ := q
    have hv : ClsV v' u := by
      cases c <;> first | (cases h2; rcases r3 with r3 | ⟨_, _, _, _, z, _⟩; cases r3; constructor; cases z) | cases h2
    exact call_isi pins s σ H _ us Q I r ⟨v, v', t, u, b, rfl, hv, tyx_of hf r2 h1 h3, h4, h5.bl hf⟩
  · exact q.elim
end
/-- the built-in types that are met -/
def tysD : List String := ["int", "bool", "str", "tuple", "list", "NoneType"]
theorem kit_tab {K : PySem.W.Frag} : ∀ a ∈ tysD, ∀ b ∈ tysD, PySem.W.kitOne K (.type a) (.type b) = some (a == b || (a == "bool" && b == "int")) := by
  have h : (tysD.all fun a => tysD.all fun b => decide (kitB a b = some (a == b || (a == "bool" && b == "int")))) = true := by decide +kernel
  intro a ha b hb
  have h1 := List.all_eq_true.mp h a ha
  have h2 := of_decide_eq_true (List.all_eq_true.mp h1 b hb)
  exact kit_ty h2

/-! ### isqrt -/
def nSqrt : OpN := fun ds Q => match ds with
  | [.int i] => 0 ≤ i ∧ i.toNat.log2 < 13000 ∧ ∀ r : Nat, r * r ≤ i.toNat → i.toNat < (r + 1) * (r + 1) → Q (.int r)
  | _ => False
theorem nSqrt_mono : MonoN nSqrt := by
  intro ds Q Q' i q; unfold nSqrt at q ⊢
  split at q
  · exact ⟨q.1, q.2.1, fun r h1 h2 => i _ (q.2.2 r h1 h2)⟩
  · exact q
section
variable {X : Cx}
theorem cn_sqrt : CallR X (.builtin "math.isqrt") (rDc X.K nSqrt) := fun pins s σ H xs us Q I r ⟨F, ds, hf, r1, q⟩ => by
  unfold nSqrt at q
  split at q
  · obtain ⟨v, rfl, r2⟩ := r1.one
    rw [r2.int] at r
    obtain ⟨u, rfl, ⟨t, rfl⟩⟩ := Vals.one r
    obtain ⟨h0, h1, h2⟩ := q
    have sp := Float64.isqrt_spec
    refine call_function_meets PySem.W.MGF.kind_isqrt PySem.W.MGF.plain_isqrt PySem.W.MGF.entry_isqrt (PySem.W.MGF.args_isqrt _) (PySem.W.mg_run_isqrt _ t (by omega) (by omega) (by omega)).meets ?_
    exact ⟨.int _, H, I.tok _, ⟨_, rfl⟩, (h2 _ (sp _).1 (sp _).2).int hf⟩
  · exact q.elim
variable {x : Str} {p pos : Pos} {e : Expr} {es : List Expr} {m : RN} {id : String} {δ : OpN}
/-- a built-in function that the module has imported by name -/
theorem ee_callG (hc : CallR X (.builtin id) (rDc X.K δ)) (hd : MonoN δ) (hg : Gl X x) (hm : X.mg x = some (.builtin id)) (ha : EAb X (e :: es) m) (hdb : (x == ("__debug__" : Str)) = false := by decide)
    (he : starEach (e :: es) X.env = (false, eval e X.env) :: starEach es X.env := by rfl) (hpl : (backTo pos (starEach es X.env)).any (·.1) = false := by rfl) : EE X (.Call (.Name x p) (e :: es) [] pos) (rCall δ m) where
  mono := rCall_mono hd ha.mono
  pe := fun G F0 => PE_of_run fun pins s σ H Q I h => wpAny_Call_Name_kw (ld_glob I hg hm
    (PyProof.Rows.callWith_builtin1 (thn ((ha.pe G F0).run pos pins s σ H _ I (call_core hd ha h)) fun us s1 ⟨vs, H1, I1, r1, q1⟩ => hc pins s1 σ H1 vs us Q I1 r1 q1) he hpl) hdb)
/-- a built-in class as a value -/
theorem ee_ty {n : String} (hg : Gl X x) (hm : X.mg x = none) (hv : bootBuiltins x = some (.type n)) (hn : x ≠ "__name__" := by decide) (hd : (x == ("__debug__" : Str)) = false := by decide) : EE X (.Name x pos) (rC (.ty n)) :=
  ee_c (pe_bltn (v := .ty n) hg hm hv rfl hn hd) fun _ => .ty n
theorem ee_cls {C : Addr} (hg : Gl X x) (hm : X.mg x = some (.ref C)) (hd : (x == ("__debug__" : Str)) = false := by decide) : EE X (.Name x pos) (rC (.cls C)) :=
  ee_c (pe_glob (v := .ref C) hg hm rfl hd) fun _ => .cls C
/-- a constant of the module -/
theorem ee_glob {v : V} {d : D} {u : Value} (hg : Gl X x) (hm : X.mg x = some u) (r : RelV v u) (rd : ∀ F, Rep X.K F v d) (hd : (x == ("__debug__" : Str)) = false := by decide) : EE X (.Name x pos) (rC d) :=
  ee_c (pe_glob hg hm r hd) rd
end

/-! ### list(x) as a new list -/
abbrev OpNL := List D → (List D → Prop) → Prop
def rDcN (K : PySem.W.Frag) (δ : OpNL) : List V → Hp → VK → Prop := fun vs H Q => ∃ F ds, Same F H ∧ BReps K F H vs ds ∧ δ ds fun es => ∀ p ws, H p = none → Reps K F ws es → Q (.ref p) (upd H p (.lst ws))
def rCallN (δ : OpNL) (m : RN) : RN := fun env Q => m env fun ds e => δ ds fun xs => Q xs e
def nListN : OpNL := fun ds Q => match ds with
  | [.lst xs] => Q xs
  | [.tup xs] => Q xs
  | [.scr ns] => Q (ns.map D.int)
  | _ => False
theorem nListN_mono : ∀ ds (Q Q' : List D → Prop), (∀ x, Q x → Q' x) → nListN ds Q → nListN ds Q' := by
  unfold nListN; intro ds Q Q' i q; revert q; split <;> intro q <;> first | exact i _ q | exact q
section
variable {X : Cx} {x : Str} {p pos : Pos} {e : Expr} {es : List Expr} {m : RN} {T : String} {δ : OpNL}
theorem cn_listN : CallR X (.type "list") (rDcN X.K nListN) := fun pins s σ H xs us Q I r ⟨F, ds, hf, r1, q⟩ => by
  unfold nListN at q
  split at q
  · obtain ⟨v, rfl, r2⟩ := r1.one
    obtain ⟨a, vs, rfl, h, rs⟩ := r2.lst hf
    exact call_list_of pins s σ H _ us Q I r ⟨a, vs, rfl, .inl (.of h), fun l hl => q l vs hl rs⟩
  · obtain ⟨v, rfl, r2⟩ := r1.one
    obtain ⟨a, vs, rfl, h, rs, g⟩ := r2.tup hf
    exact call_list_of pins s σ H _ us Q I r ⟨a, vs, rfl, .inr h, fun l hl => q l vs hl rs⟩
  · obtain ⟨v, rfl, r2⟩ := r1.one
    obtain ⟨a, rfl, h⟩ := r2.scr hf
    exact call_list_of pins s σ H _ us Q I r ⟨a, _, rfl, .inl h, fun l hl => q l _ hl (Reps.of_ints _)⟩
  · exact q.elim
theorem en_callTy (hd : ∀ ds (Q Q' : List D → Prop), (∀ x, Q x → Q' x) → δ ds Q → δ ds Q') (hc : CallR X (.type T) (rDcN X.K δ)) (hg : Gl X x) (hm : X.mg x = none) (hv : bootBuiltins x = some (.type T)) (ha : EAb X (e :: es) m) (hn : x ≠ "__name__" := by decide) (hdb : (x == ("__debug__" : Str)) = false := by decide)
    (he : starEach (e :: es) X.env = (false, eval e X.env) :: starEach es X.env := by rfl) (hpl : (backTo pos (starEach es X.env)).any (·.1) = false := by rfl) : EN X (.Call (.Name x p) (e :: es) [] pos) (rCallN δ m) where
  mono := fun env Q Q' i q => ha.mono _ _ _ (fun ds e q => hd _ _ _ (fun xs q => i _ _ q) q) q
  pe := fun G F0 => PE_imp (pe_callTy hc hg hm hv (ha.pe G F0) hn hdb he hpl) fun σ H Q ⟨F, env, k, q⟩ => ⟨F, env, k, ha.mono _ _ _ (fun ds e q vs F1 H1 a1 r1 =>
    ⟨F1, ds, a1.ok.fh, r1, hd _ _ _ (fun es' q p ws hp rw' => by
      obtain ⟨a2, hF, hG, no⟩ := af_new (vs := ws) a1 hp
      exact q p ws F1 _ a2 upd_same hF hG no rw') q⟩) q⟩
end

/-! ### defs -/
abbrev SpecD := List D → (D → Prop) → Prop
def MonoSp (sp : SpecD) : Prop := ∀ ds (Q Q' : D → Prop), (∀ d, Q d → Q' d) → sp ds Q → sp ds Q'
def spD (K : PySem.W.Frag) (n : Nat) (spec : SpecD) : Sp := fun vs H Q _ => vs.length = n ∧ ∃ F ds, Same F H ∧ Reps K F vs ds ∧ spec ds (Wants K F H Q)
def startD (n : Nat) (ds : List D) : En := ds.map Sl.v ++ List.replicate (n - ds.length) Sl.un
/-- a body's run from its arguments -/
def runD (n : Nat) (m : RS) : SpecD := fun ds Q => m { nx := fun _ => Q .non, rt := Q } (startD n ds)
theorem runD_mono {n : Nat} {m : RS} (h : MonoS m) : MonoSp (runD n m) := fun ds Q Q' i q => h { nx := fun _ => Q .non, rt := Q } _ _ ⟨fun _ q => i _ q, fun _ q => i _ q, fun _ q => q, fun _ q => q⟩ q
theorem start_ok {K : PySem.W.Frag} {F H : Hp} {N : List Str} {vs : List V} {ds : List D} (hf : Same F H) (r : Reps K F vs ds) (hl : vs.length ≤ N.length) : StOk K H F F H (startD N.length ds) (L2.start N vs) := by
  have e1 := r.length
  have own : ∀ (i : Nat) (es : OC), (startD N.length ds)[i]? ≠ some (Sl.own es) := fun i es e => by
    unfold startD at e
    by_cases h : i < ds.length
    · rw [List.getElem?_append_left (by simpa using h), List.getElem?_map, List.getElem?_eq_getElem h] at e
      cases e
    · rw [List.getElem?_append_right (by simpa using h), List.getElem?_replicate] at e
      split at e <;> cases e
  refine ⟨hf, Same.refl _, Same.refl _, fun _ _ => rfl, ?_, fun i s e => ?_, fun i es a e => absurd e (own i es), fun i j es es' a e => absurd e (own i es)⟩
  · unfold startD L2.start
    simp only [List.length_append, List.length_map, List.length_replicate]
    omega
  · unfold startD at e
    by_cases h : i < ds.length
    · rw [List.getElem?_append_left (by simpa using h), List.getElem?_map, List.getElem?_eq_getElem h] at e
      cases e
      obtain ⟨v, ev, rv⟩ := r.get (List.getElem?_eq_getElem h)
      refine ⟨v, ?_, rv⟩
      unfold L2.St.at L2.start
      rw [List.getElem?_append_left (by rw [List.length_map]; omega), List.getElem?_map, ev]
      rfl
    · rw [List.getElem?_append_right (by simpa using h), List.getElem?_replicate] at e
      split at e <;> cases e
      trivial
section
variable {P : Program} {w : World} {K : PySem.W.Frag} {mg : Str → Option Value} {base : Heap}
theorem fn_ok {x qual : Str} {st : Stmt} {f : Addr} {fd : FuncData} {N ps : List Str} {k : Nat} {m : RS} (F : Fun K x qual st f fd) (S : FnScope N ps (defScope st))
    (hm : ∀ (cdv : Value) (A : Around) (outer : List Env) (s : Shared) (H : Hp) (E : XK), Room k (A.deeper (envOfC qual (defScope st) s.heap.objs.size f cdv)) → SSs (cxOf CX0 P w K mg base N qual (defScope st) f cdv A outer s H E).nox (defBody st) m) :
    FnOk P w K mg base CX0 (k + 1) f fd ps (spD K ps.length (runD N.length m)) :=
  F.ok S (fun vs H Q E h => h.1) fun cdv A outer s H vs Q E hr ⟨hl, F', ds, hF, r, q⟩ => by
    have M := hm cdv A outer s H E hr
    refine ⟨_, M.ps H F', F', startD N.length ds, start_ok hF r ?_, ?_⟩
    · rw [hl]
      have := congrArg List.length S.pre
      rw [List.length_take] at this
      omega
    · exact M.mono { nx := fun _ => Wants K F' H Q .non, rt := Wants K F' H Q } _ _ ⟨fun e q σ F1 H1 k => q .non F1 H1 k.toExt .non, fun d q v F1 H1 x1 r1 => q v F1 H1 x1 r1, fun _ q => q.elim, fun _ q => q.elim⟩ q
/-- a def that can be called: where it stands, what it promises; nd: the defaults that fill up -/
structure Cal (P : Program) (w : World) (K : PySem.W.Frag) (mg : Str → Option Value) (base : Heap) (x : Str) (k : Nat) (ps : List Str) (nd : List D) (spec : SpecD) : Prop where
  mono : MonoSp spec
  ex : ∃ (f : Addr) (fd : FuncData) (dvs : List V) (ds : List Value), FnOk P w K mg base CX0 k f fd ps (spD K ps.length spec) ∧ mg x = some (.ref f) ∧ PySem.W.keepIn K (.ref f) = true ∧ Binds K fd ps ds ∧ Vals dvs ds ∧ (∀ F, Reps K F dvs nd) ∧ nd.length ≤ ps.length
theorem Cal.imp {x : Str} {k : Nat} {ps : List Str} {nd : List D} {spec spec' : SpecD} (c : Cal P w K mg base x k ps nd spec) (hm : MonoSp spec') (h : ∀ ds Q, spec' ds Q → spec ds Q) : Cal P w K mg base x k ps nd spec' where
  mono := hm
  ex := by
    obtain ⟨f, fd, dvs, ds, F, r⟩ := c.ex
    exact ⟨f, fd, dvs, ds, F.imp fun vs H Q E ⟨h1, F', es, h2, h3, h4⟩ => ⟨h1, F', es, h2, h3, h _ _ h4⟩, r⟩
theorem cal_mk {x qual : Str} {st : Stmt} {f : Addr} {fd : FuncData} {N ps : List Str} {k : Nat} {m : RS} (F : Fun K x qual st f fd) (S : FnScope N ps (defScope st)) (hg : mg x = some (.ref f)) (hb : Binds K fd ps [])
    (hm : ∀ (cdv : Value) (A : Around) (outer : List Env) (s : Shared) (H : Hp) (E : XK), Room k (A.deeper (envOfC qual (defScope st) s.heap.objs.size f cdv)) → SSs (cxOf CX0 P w K mg base N qual (defScope st) f cdv A outer s H E).nox (defBody st) m)
    (hr0 : Room (k + 1) callerA) : Cal P w K mg base x (k + 1) ps [] (runD N.length m) where
  mono := runD_mono (hm .none callerA [] {} (fun _ => none) (fun _ _ _ => False) (hr0.deeper _)).mono
  ex := ⟨f, fd, [], [], fn_ok F S hm, hg, F.kp, hb, .nil, fun _ => .nil, Nat.zero_le _⟩
end
def rUser (spec : SpecD) (nd : List D) (n : Nat) (m : RN) : RE := fun env Q => m env fun ds e => (ds ++ nd).length = n ∧ spec (ds ++ nd) fun d => Q d e
def rUserB (spec : SpecD) (nd : List D) (n : Nat) (m : RN) : RE := fun env Q => m env fun ds e => (ds ++ nd).length = n ∧ spec (ds ++ nd) fun d => flat d ∧ Q d e
section
variable {X : Cx} {x : Str} {k : Nat} {ps : List Str} {nd : List D} {spec : SpecD} {p pos : Pos} {e : Expr} {es : List Expr} {m : RN}
theorem ee_call (c : Cal X.prog X.w X.K X.mg X.base x k ps nd spec) (hr : Room k X.A) (hg : Gl X x) (ha : EA X (e :: es) m) {n : Nat} (hn : ps.length = n := by rfl) (hdb : (x == ("__debug__" : Str)) = false := by decide)
    (he : starEach (e :: es) X.env = (false, eval e X.env) :: starEach es X.env := by rfl) (hpl : (backTo pos (starEach es X.env)).any (·.1) = false := by rfl) : EE X (.Call (.Name x p) (e :: es) [] pos) (rUser spec nd n m) where
  mono := fun env Q Q' i q => ha.mono _ _ _ (fun ds e q => ⟨q.1, c.mono _ _ _ (fun d q => i _ _ q) q.2⟩) q
  pe := fun G F0 => by
    obtain ⟨f, fd, dvs, ds, F, hm, hk, hb, hd, rd, hl⟩ := c.ex
    refine PE_imp (pe_call F hr hg hm hk hb hd pass0 (ha.pe G F0) hdb he hpl) fun σ H Q ⟨F, env, k, q⟩ => ⟨F, env, k, ha.mono _ _ _ (fun es e q vs F1 H1 a1 r1 => ?_) q⟩
    have r2 := r1.append (rd F1)
    exact ⟨by rw [r2.length, hn]; exact q.1, F1, _, a1.ok.fh, r2, c.mono _ _ _ (fun d q v F2 H2 x2 r2 => q v F2 H2 (a1.ext x2) r2) q.2⟩
theorem ee_callF (c : Cal X.prog X.w X.K X.mg X.base x k ps nd spec) (hr : Room k X.A) (hg : Gl X x) (ha : EAb X (e :: es) m) {n : Nat} (hn : ps.length = n := by rfl) (hdb : (x == ("__debug__" : Str)) = false := by decide)
    (he : starEach (e :: es) X.env = (false, eval e X.env) :: starEach es X.env := by rfl) (hpl : (backTo pos (starEach es X.env)).any (·.1) = false := by rfl) : EE X (.Call (.Name x p) (e :: es) [] pos) (rUserB spec nd n m) where
  mono := fun env Q Q' i q => ha.mono _ _ _ (fun ds e q => ⟨q.1, c.mono _ _ _ (fun d q => ⟨q.1, i _ _ q.2⟩) q.2⟩) q
  pe := fun G F0 => by
    obtain ⟨f, fd, dvs, ds, F, hm, hk, hb, hd, rd, hl⟩ := c.ex
    refine PE_imp (pe_call F hr hg hm hk hb hd pass0 (ha.pe G F0) hdb he hpl) fun σ H Q ⟨F, env, k, q⟩ => ⟨F, env, k, ha.mono _ _ _ (fun es e q vs F1 H1 a1 r1 => ?_) q⟩
    have r2 := (r1.reps a1.ok.fh).append (rd H1)
    refine ⟨by rw [r2.length, hn]; exact q.1, H1, _, Same.refl _, r2, c.mono _ _ _ (fun d q v F2 H2 x2 r2 => ?_) q.2⟩
    refine q.2 v F1 H2 ⟨a1.hH.trans x2.hH, a1.fF, ?_⟩ (r2.flat_any q.1)
    exact a1.ok.ext ⟨Same.refl _, x2.hH, a1.ok.fh.trans x2.hH, fun _ _ => rfl⟩
theorem ee_call0 (c : Cal X.prog X.w X.K X.mg X.base x k ps nd spec) (hr : Room k X.A) (hg : Gl X x) {n : Nat} (hn : ps.length = n := by rfl) (hdb : (x == ("__debug__" : Str)) = false := by decide) : EE X (.Call (.Name x p) [] [] pos) (rUser spec nd n rNil) where
  mono := fun env Q Q' i q => ⟨q.1, c.mono _ _ _ (fun d q => i _ _ q) q.2⟩
  pe := fun G F0 => by
    obtain ⟨f, fd, dvs, ds, F, hm, hk, hb, hd, rd, hl⟩ := c.ex
    refine PE_imp (pe_call0 F hr hg hm hk hb hd pass0 hdb) fun σ H Q ⟨F, env, k, q⟩ => ?_
    have r2 := rd F
    exact ⟨by rw [List.nil_append, r2.length, hn]; exact q.1, F, _, k.fh, r2, c.mono _ _ _ (fun d q v F2 H2 x2 r2 => q v F2 H2 ((Af.refl k).ext x2) r2) q.2⟩
end
/-! ### the end -/
theorem walk_D {l : PySem.W.OpenLaw} {n k : Nat} {q : Program} {loose : List Str} {XP : (Str → Option Value) → Heap → Prop} {YP : World → Heap → Prop} {d : DefRec} {K : Params → PySem.W.Frag} {m : SpecD} {x : Str}
    (hn : l.most = some n) (hn2 : n ≤ sizeLine) (hdf : d.params.defaults = []) (hr : Room k callerA) (hY : ∀ (w : World) (h : Heap), YP w h → (K w.params).In h)
    (F : ∀ (w : World) (mg : Str → Option Value) (fa : Addr) (h : Heap), (K w.params).In h → h.Ns mainGlobals mg → mg d.name = some (.ref fa) →
      ∃ fd : FuncData, (∀ (s : Shared) (u : Value), BindsTo s fd ⟨[u], []⟩ [(x, u)]) ∧ ∀ base : Heap, (K w.params).In base → base.Ns mainGlobals mg → FnOk l.prog w (K w.params) mg base CX0 k fa fd [x] (spD (K w.params) 1 m))
    (hD : ∀ ns : List Int, ns.length ≤ n → (∀ z ∈ ns, Builtin.Int.intBits z ≤ 1048576) → ∀ Q : D → Prop, Q (.bl true) → m [.scr ns] Q) :
    PySem.W.WalkO q loose XP YP l.row.toRowW d [] (fun f vs => PySem.call f vs) := by
  refine walk_ofB (l := l) (n := n) (k := k) (x := x) (CX := fun _ => CX0) (sp := fun w => spD (K w.params) 1 m) hn hn2 hdf hr hY (fun w mg fa h KX G hm => F w mg fa h KX G hm) (fun w H a ns hl hb _ hS => ?_) (fun _ _ _ _ _ h => h)
  refine ⟨rfl, H, [.scr ns], Same.refl _, .cons (.scr hS) .nil, hD ns hl hb _ fun v F' H' x r => ?_⟩
  cases r; rfl
end DL

namespace DL
open PySem PySem.Spec PyProof.Rows L2

/-! ### isinstance against the built-in types -/
def tyS : D → Option String
  | .non => some "NoneType"
  | .bl _ => some "bool"
  | .int _ => some "int"
  | .str _ => some "str"
  | .tup _ => some "tuple"
  | .lst _ => some "list"
  | .scr _ => some "list"
  | _ => none
def isiS (a n : String) : Bool := a == n || (a == "bool" && n == "int")
def nIsiB : OpN := fun ds Q => match ds with
  | [d, .ty n] => ∃ a, tyS d = some a ∧ tysD.contains n = true ∧ Q (.bl (isiS a n))
  | _ => False
theorem nIsiB_mono : MonoN nIsiB := by
  intro ds Q Q' i q; unfold nIsiB at q ⊢
  split at q
  · obtain ⟨a, h1, h2, h3⟩ := q; exact ⟨a, h1, h2, i _ h3⟩
  · exact q
theorem tyS_ty {d : D} {a : String} (h : tyS d = some a) : tyD d = some (.type a) ∧ a ∈ tysD ∧ ∀ K, insOk K d := by
  cases d <;> cases h <;> exact ⟨rfl, by decide, fun K => trivial⟩
section
variable {X : Cx}
theorem cn_isiB : CallR X (.builtin "isinstance") (rDc X.K nIsiB) := fun pins s σ H xs us Q I r ⟨F, ds, hf, r1, q⟩ => by
  refine cn_isi pins s σ H xs us Q I r ⟨F, ds, hf, r1, ?_⟩
  unfold nIsiB at q
  split at q
  · rename_i d n
    obtain ⟨a, h1, h2, h3⟩ := q
    obtain ⟨t1, t2, t3⟩ := tyS_ty h1
    exact ⟨_, _, _, t1, rfl, t3 _, kit_tab a t2 n (by simpa using h2), h3⟩
  · exact q.elim
end

/-! ### x[i] = e, x a list of one's own -/
def sSetIx (i : Nat) (mi mv : RE) : RS := fun Z env => mv env fun v e1 => ownAt e1 i fun _ => mi e1 fun j e2 => match j with
  | .int k => ownAt e2 i fun ds => ∃ n, ixN ds.length k = some n ∧ Z.nx (es e2 i (.own (.l (ds.set n v))))
  | _ => False
theorem sSetIx_mono {i : Nat} {mi mv : RE} (hi : MonoQ mi) (hv : MonoQ mv) : MonoS (sSetIx i mi mv) := fun Z Z' env l q => hv _ _ _ (fun v e1 q => ownAt_mono (fun ds q => hi _ _ _ (fun j e2 q => by
  cases j <;> first | exact q | exact ownAt_mono (fun ds ⟨n, h1, h2⟩ => ⟨n, h1, l.nx _ h2⟩) q) q) q) q
section
variable {X : Cx} {pos : Pos} {mi mv : RE}
theorem ss_setIx {i : Nat} {o ix e : Expr} {p2 : Pos} (hp : PE X o (tVar i)) (hi : EE X ix mi) (he : EE X e mv)
    (ha : ∀ v, assign (.Subscript o ix p2) X.env v = (do
      let ov ← holding [v] (eval o X.env)
      let iv ← holding [v, ov] (eval ix X.env)
      standAt p2
      holding [v, ov, iv] (setItem ov iv v)
      release [v, ov, iv] []) := by intro _; rfl)
    (hs : swapsWithSole [.Subscript o ix p2] e pos.line X.env = pure false := by rfl) (hw : swappedStores [.Subscript o ix p2] e X.env = pure none := by rfl)
    (h1 : (assignEach [.Subscript o ix p2] X.env).map (·.2) = [assign (.Subscript o ix p2) X.env] := by rfl) : SS X (.Assign [.Subscript o ix p2] e pos) (sSetIx i mi mv) where
  mono := sSetIx_mono hi.mono he.mono
  ps := fun G F0 => PS_imp (ps_asg (he.pe G F0) (pg_sub hp (hi.pe G F0) set_list ha) hs hw h1) fun Z σ H ⟨F, env, k, q⟩ => ⟨F, env, k, he.mono _ _ _ (fun v e1 q x F1 H1 a1 r1 => by
    obtain ⟨ds0, g0, q⟩ := ownAt_get q
    obtain ⟨a, ho, ea, hF, hH, r⟩ := a1.ok.sl i _ g0
    obtain ⟨vs, rfl, r⟩ := r.lst
    refine ⟨.ref a, at_some ea, F1, e1, a1.ok, hi.mono _ _ _ (fun j e2 q y F2 H2 a2 r2 => ?_) q⟩
    cases r2 <;> first | exact q.elim | skip
    obtain ⟨ds, g, n, hn, q⟩ := ownAt_get q
    obtain ⟨b, ho', eb, hF', hH', r'⟩ := a2.ok.sl i _ g
    obtain ⟨vs', rfl, r'⟩ := r'.lst
    rw [ea] at eb; cases eb
    refine ⟨a, vs', _, n, rfl, rfl, hH', by rw [r'.length]; exact hn, ?_⟩
    rw [es_eq] at q
    exact q σ F2 _ (a2.ok.write g ea (r'.set n (r1.mono a2.fF)))) q⟩
/-- name = [..] on its own line, a list that is not changed later -/
theorem ss_setLcF {i : Nat} {y : Str} {py : Pos} {elt tg iter : Expr} {ifs : List Expr} {scope : Scope} {own : List (Str × Nat)} {pos spos : Pos} {m1 : RN} {g : RG} {tt : RT} {me : RE} (fz : List Nat) (hc : X.calm = true) (hN : X.N.Nodup) (hy : X.N[i]? = some y) (hyl : X.env.scope.names.lookup y = some .local)
    (hsw : swapsWith (.ListComp elt [⟨tg, iter, ifs, 0⟩] scope pos) (some (.Name y py)) spos.line X.env = pure true) (hi : EI X tg iter m1) (ok : BlkOk X.N X.env.scope scope own)
    (hg : ∀ (s : Shared) (H : Hp) (C : Addr) (cl : List (Str × Addr)) (fp : List Addr), EG (X.blk s H scope (compEnvC scope cl C X.env) fp) tg (own.map (·.2)) g)
    (ht : ∀ (s : Shared) (H : Hp) (C : Addr) (cl : List (Str × Addr)) (fp : List Addr), ETs (X.blk s H scope (compEnvC scope cl C X.env) fp) ifs tt)
    (he : ∀ (s : Shared) (H : Hp) (C : Addr) (cl : List (Str × Addr)) (fp : List Addr), EE (X.blk s H scope (compEnvC scope cl C X.env) fp) elt me) (hs : ∀ x, foldedSetIterable iter X.env x = pure x := by intro _; rfl) :
    SS X (.Assign [.Name y py] (.ListComp elt [⟨tg, iter, ifs, 0⟩] scope pos) spos) (sSet i (rFz (rLc fz (own.map (·.2)) m1 g tt me))) where
  mono := fun Z Z' env l q => rFz_mono (en_lc (pos := pos) fz hc hN hi ok hg ht he hs).mono _ _ _ (fun d e q => l.nx _ q) q
  ps := fun G F0 => PS_imp ((ss_setLc (py := py) (pos := pos) (spos := spos) fz hc hN hy hyl hsw hi ok hg ht he hs).ps G F0) fun Z σ H ⟨F, env, k, q⟩ => ⟨F, env, k, (en_lc (pos := pos) fz hc hN hi ok hg ht he hs).mono _ _ _ (fun ds e q σ' F' H' k' => by
    rw [es_eq] at k'
    have q : (liftD X.K G F0 Z).nx (es e i (Sl.v (.lst ds))) := q
    rw [es_eq] at q
    by_cases hl : i < e.length
    · obtain ⟨a, vs, _, _, _, sF, k2⟩ := k'.freeze (i := i) (ds := ds) (by rw [List.getElem?_set_self hl])
      rw [List.set_set] at k2
      exact q σ' _ H' k2
    · rw [List.set_eq_of_length_le (by omega)] at k' q
      exact q σ' _ H' k') q⟩
/-! ### name += e, name -= e of ints -/
def sAug (f : Int → Int → Int) (i : Nat) (me : RE) : RS := fun Z env => match eg env i with
  | .v (.int a) => me env fun d e => match d with
    | .int b => Z.nx (es e i (.v (.int (f a b))))
    | _ => False
  | _ => False
theorem sAug_mono {f : Int → Int → Int} {i : Nat} {me : RE} (h : MonoQ me) : MonoS (sAug f i me) := fun Z Z' env l q => by
  unfold sAug at q ⊢
  split at q
  · exact h _ _ _ (fun d e q => by cases d <;> first | exact l.nx _ q | exact q) q
  · exact q
theorem aug_core {f : Int → Int → Int} {i : Nat} {x : Str} {e : Expr} {me : RE} {op : Operator} {pos' : Pos} (ho : PIp X op (ipI f)) (hN : X.N.Nodup) (hi : X.N[i]? = some x) (hx : Loc X.env.scope x) (he : EE X e me) (hf : X.fn x = true ∨ X.env.scope.names.lookup x = some .local) :
    SS X (.AugAssign (.Name x pos') op e pos) (sAug f i me) where
  mono := sAug_mono he.mono
  ps := fun G F0 => PS_imp (ps_aug hN hi hx (he.pe G F0) ho hf) fun Z σ H ⟨F, env, k, q⟩ => by
    unfold sAug at q
    split at q
    · rename_i a ea
      have g := eg_get (env := env) (i := i) (by rw [ea]; exact fun z => nomatch z)
      rw [ea] at g
      obtain ⟨v, ev, r⟩ := k.sl i _ g
      cases r
      refine ⟨.int a, at_some ev, F, env, k, he.mono _ _ _ (fun d e q w F' H' af r => ?_) q⟩
      cases r <;> first | exact q.elim | skip
      have q : (liftD X.K G F0 Z).nx (es e i (Sl.v (.int (f a _)))) := q
      rw [es_eq] at q
      exact ⟨a, _, rfl, rfl, q _ F' H' (af.ok.setV i (.int _))⟩
    · exact q.elim
theorem ss_augAdd {i : Nat} {x : Str} {e : Expr} {me : RE} {pos' : Pos} (hN : X.N.Nodup) (hi : X.N[i]? = some x) (hx : Loc X.env.scope x) (he : EE X e me) (hf : X.fn x = true ∨ X.env.scope.names.lookup x = some .local := by first | exact .inl rfl | exact .inr rfl | assumption) :
    SS X (.AugAssign (.Name x pos') .Add e pos) (sAug (· + ·) i me) := aug_core ip_add hN hi hx he hf
theorem ss_augSub {i : Nat} {x : Str} {e : Expr} {me : RE} {pos' : Pos} (hN : X.N.Nodup) (hi : X.N[i]? = some x) (hx : Loc X.env.scope x) (he : EE X e me) (hf : X.fn x = true ∨ X.env.scope.names.lookup x = some .local := by first | exact .inl rfl | exact .inr rfl | assumption) :
    SS X (.AugAssign (.Name x pos') .Sub e pos) (sAug (· - ·) i me) := aug_core ip_sub hN hi hx he hf
end
end DL

namespace DL
open PySem PySem.Spec PyProof.Rows L2

/-! ### max of three and of five whole numbers -/
def mxI (a b : Int) : Int := if b > a then b else a
theorem best_step (f : Nat → Int) (n : Nat) : f (argBest (fun i j => decide (f i > f j)) (n + 1)) = mxI (f (argBest (fun i j => decide (f i > f j)) n)) (f (n + 1)) := by
  show f (if decide (f (n + 1) > f (argBest (fun i j => decide (f i > f j)) n)) = true then n + 1 else argBest (fun i j => decide (f i > f j)) n) = _
  unfold mxI
  by_cases h : f (n + 1) > f (argBest (fun i j => decide (f i > f j)) n)
  · rw [if_pos (decide_eq_true h), if_pos h]
  · rw [if_neg (by simpa using h), if_neg h]
section
variable {prog : Program} {w : World} {A : Around} {E : Value → Shared → Prop} {s : Shared}

theorem args_mx3 (a0 a1 a2 : Value) : argsOk "max" ⟨[a0, a1, a2], []⟩ := by unfold argsOk; kernel_rfl
theorem call_mx3 {a0 a1 a2 : Value} {Q : Value → Shared → Prop}
    (h : wpAny (model prog w) A.in1 (pyIter (.ref s.heap.objs.size)) (fun it s₂ => ∃ I fp wr n P St bt, it = .ref I ∧ Walks prog w A.in1 I fp wr n P St ∧ St 0 s₂.heap ∧ (∀ b ∈ fp, b < s₂.heap.objs.size) ∧ 0 < n ∧ CmpOf prog w A.in1 .Gt P bt ∧
      ∀ v h' tk, P (argBest bt (n - 1)) v → (∀ b o, b ∉ wr → s₂.heap.get? b = some o → h'.get? b = some o) → Q v { s₂ with heap := h', toks := tk }) E
      { s with heap := s.heap.push { cls := .type "tuple", data := .seq #[a0, a1, a2] } }) :
    wpAny (model prog w) A (call (.builtin "max") [a0, a1, a2]) Q E s := by
  have hname : (toString "max" ++ toString ".loop" : String) = "max.loop" := by decide
  refine call_function_tree F.kind_max F.plain_max F.entry_max (args_mx3 _ _ _) ?_
  show wpAny _ A.in1 (Builtin.Builtins.bindParams "max" ["key", "default"] 0 ⟨[], []⟩ >>= _) _ _ s
  refine wpAny_bind (wpAny_of_eq (show Builtin.Builtins.bindParams "max" ["key", "default"] 0 ⟨[], []⟩ = pure [none, none] from rfl) ?_)
  show wpAny _ A.in1 (newTuple [a0, a1, a2] >>= _) _ _ s
  refine wpAny_bind (wpAny_newObj_type ?_)
  refine wpAny_bind (wpAny_mono h (fun it s₂ h₂ => ?_) fun _ _ e => e)
  obtain ⟨I, fp, wr, n, P, St, bt, rfl, W, hst, hfp, hn, hcmp, hQ⟩ := h₂
  refine wpAny_bind (wpAny_newObj_type ?_)
  have hSf : s₂.heap.objs.size ∉ fp := fun hm => Nat.lt_irrefl _ (hfp _ hm)
  rw [hname]
  refine wpAny_pure ⟨plainId_quiet F.plain_max_loop _, codeAny_max_loop_first W bt hcmp s₂.heap.objs.size hSf hn (W.frame _ _ _ hst fun b _ o e => Heap.get?_push_of_some _ e) (Heap.get?_push_size _ rfl) fun v h' tk hP hk => ?_⟩
  exact hQ v h' tk hP fun b o hbw e => hk b o hbw (Nat.ne_of_lt (Heap.lt_size e)) (Heap.get?_push_of_some _ e)
theorem mx3_ints {a0 a1 a2 : Int} {t0 t1 t2 : Tok} {Q : Value → Shared → Prop} (hh : A.handled = none)
    (h : ∀ h' tk t, (∀ d o, s.heap.get? d = some o → h'.get? d = some o) → Q (.int (mxI (mxI a0 a1) a2) t) { s with heap := h', toks := tk }) :
    wpAny (model prog w) A (call (.builtin "max") [.int a0 t0, .int a1 t1, .int a2 t2]) Q E s := by
  have hT : (s.heap.push { cls := .type "tuple", data := .seq #[.int a0 t0, .int a1 t1, .int a2 t2] }).IsTuple s.heap.objs.size (intItems #[(a0, t0), (a1, t1), (a2, t2)]) := ⟨_, Heap.get?_push_size _ rfl, rfl, 0, by simp [intItems]⟩
  refine call_mx3 (wpAny_pyIter_tuple hT ?_)
  have hsz : (s.heap.push { cls := .type "tuple", data := .seq #[.int a0 t0, .int a1 t1, .int a2 t2] }).objs.size = s.heap.objs.size + 1 := Heap.size_push ..
  refine ⟨_, [_, s.heap.objs.size], [_], _, _, _, _, rfl, Walks.tuple (A := A.in1) hh _ s.heap.objs.size (by rw [hsz]; exact Nat.ne_of_lt (Nat.lt_succ_self _)) (intItems #[(a0, t0), (a1, t1), (a2, t2)]),
    ⟨⟨_, Heap.get?_push_size _ rfl, rfl, rfl⟩, hT.push _⟩, fun d hd => ?_, by simp [intItems], CmpOf.ints_gt (numAt #[(a0, t0), (a1, t1), (a2, t2)]) (fun _ _ => intItems_at), fun v h' tk hP hk => ?_⟩
  · show d < ((s.heap.push _).push _).objs.size
    rw [Heap.size_push, hsz]
    rcases List.mem_cons.mp hd with rfl | hd
    · rw [hsz]; exact Nat.lt_succ_self _
    · rcases List.mem_cons.mp hd with rfl | hd
      · exact Nat.lt_succ_of_lt (Nat.lt_succ_self _)
      · cases hd
  · have hold : ∀ d o, s.heap.get? d = some o → h'.get? d = some o := fun d o e => by
      refine hk d o (fun hm => ?_) (Heap.get?_push_of_some _ (Heap.get?_push_of_some _ e))
      rcases List.mem_cons.mp hm with e1 | hm
      · have := Heap.lt_size e; rw [e1, hsz] at this; exact Nat.lt_irrefl _ (Nat.lt_of_succ_lt this)
      · cases hm
    have hP' : (intItems #[(a0, t0), (a1, t1), (a2, t2)])[argBest (fun i j => decide (numAt #[(a0, t0), (a1, t1), (a2, t2)] i > numAt #[(a0, t0), (a1, t1), (a2, t2)] j)) 2]? = some v := by
      have hsz2 : (intItems #[(a0, t0), (a1, t1), (a2, t2)]).size - 1 = 2 := by simp [intItems]
      rw [← hsz2]; exact hP
    obtain ⟨t, rfl⟩ := intItems_at hP'
    have e := best_step (numAt #[(a0, t0), (a1, t1), (a2, t2)])
    have e1 : numAt #[(a0, t0), (a1, t1), (a2, t2)] (argBest (fun i j => decide (numAt #[(a0, t0), (a1, t1), (a2, t2)] i > numAt #[(a0, t0), (a1, t1), (a2, t2)] j)) 2) = mxI (mxI a0 a1) a2 := by
      rw [e 1, e 0]; rfl
    rw [e1]
    exact h h' tk t hold
theorem call_max3I {X : Cx} (hc : X.calm = true) : CallR X (.builtin "max") (fun xs H Q => ∃ a0 a1 a2, xs = [.int a0, .int a1, .int a2] ∧ Q (.int (mxI (mxI a0 a1) a2)) H) := by
  intro pins s σ H xs us Q I r h
  obtain ⟨a0, a1, a2, rfl, q⟩ := h
  cases r with | cons r0 r =>
  obtain ⟨t0, rfl⟩ := r0
  cases r with | cons r1 r =>
  obtain ⟨t1, rfl⟩ := r1
  cases r with | cons r2 r =>
  obtain ⟨t2, rfl⟩ := r2
  cases r
  exact mx3_ints (I.ok.hd hc) fun h' tk t k => ⟨.int (mxI (mxI a0 a1) a2), H, I.kept k, ⟨t, rfl⟩, q⟩
def nMax3 : OpN := fun ds Q => match ds with
  | [.int a0, .int a1, .int a2] => Q (.int (mxI (mxI a0 a1) a2))
  | _ => False
theorem nMax3_mono : MonoN nMax3 := by unfold nMax3; intro ds Q Q' i q; revert q; split <;> intro q <;> first | exact i _ q | exact q
theorem BReps.three {K : PySem.W.Frag} {F H : Hp} {vs : List V} {d0 d1 d2 : D} (r : BReps K F H vs [d0, d1, d2]) : ∃ v0 v1 v2, vs = [v0, v1, v2] ∧ BRep K F H v0 d0 ∧ BRep K F H v1 d1 ∧ BRep K F H v2 d2 := by
  cases r with | cons r0 r =>
  cases r with | cons r1 r =>
  cases r with | cons r2 r =>
  cases r
  exact ⟨_, _, _, rfl, r0, r1, r2⟩
theorem cn_max3 {X : Cx} (hc : X.calm = true) : CallR X (.builtin "max") (rDc X.K nMax3) := fun pins s σ H xs us Q I r ⟨F, ds, hf, r1, q⟩ => by
  unfold nMax3 at q
  split at q
  · obtain ⟨v0, v1, v2, rfl, r0, r1, r2⟩ := r1.three
    rw [r0.int, r1.int, r2.int] at r
    exact call_max3I hc pins s σ H _ us Q I r ⟨_, _, _, rfl, q.int hf⟩
  · exact q.elim
theorem nMax3_i {a0 a1 a2 : Int} {Q : D → Prop} : nMax3 [.int a0, .int a1, .int a2] Q = Q (.int (mxI (mxI a0 a1) a2)) := rfl

theorem args_mx5 (a0 a1 a2 a3 a4 : Value) : argsOk "max" ⟨[a0, a1, a2, a3, a4], []⟩ := by unfold argsOk; kernel_rfl
theorem call_mx5 {a0 a1 a2 a3 a4 : Value} {Q : Value → Shared → Prop}
    (h : wpAny (model prog w) A.in1 (pyIter (.ref s.heap.objs.size)) (fun it s₂ => ∃ I fp wr n P St bt, it = .ref I ∧ Walks prog w A.in1 I fp wr n P St ∧ St 0 s₂.heap ∧ (∀ b ∈ fp, b < s₂.heap.objs.size) ∧ 0 < n ∧ CmpOf prog w A.in1 .Gt P bt ∧
      ∀ v h' tk, P (argBest bt (n - 1)) v → (∀ b o, b ∉ wr → s₂.heap.get? b = some o → h'.get? b = some o) → Q v { s₂ with heap := h', toks := tk }) E
      { s with heap := s.heap.push { cls := .type "tuple", data := .seq #[a0, a1, a2, a3, a4] } }) :
    wpAny (model prog w) A (call (.builtin "max") [a0, a1, a2, a3, a4]) Q E s := by
  have hname : (toString "max" ++ toString ".loop" : String) = "max.loop" := by decide
  refine call_function_tree F.kind_max F.plain_max F.entry_max (args_mx5 _ _ _ _ _) ?_
  show wpAny _ A.in1 (Builtin.Builtins.bindParams "max" ["key", "default"] 0 ⟨[], []⟩ >>= _) _ _ s
  refine wpAny_bind (wpAny_of_eq (show Builtin.Builtins.bindParams "max" ["key", "default"] 0 ⟨[], []⟩ = pure [none, none] from rfl) ?_)
  show wpAny _ A.in1 (newTuple [a0, a1, a2, a3, a4] >>= _) _ _ s
  refine wpAny_bind (wpAny_newObj_type ?_)
  refine wpAny_bind (wpAny_mono h (fun it s₂ h₂ => ?_) fun _ _ e => e)
  obtain ⟨I, fp, wr, n, P, St, bt, rfl, W, hst, hfp, hn, hcmp, hQ⟩ := h₂
  refine wpAny_bind (wpAny_newObj_type ?_)
  have hSf : s₂.heap.objs.size ∉ fp := fun hm => Nat.lt_irrefl _ (hfp _ hm)
  rw [hname]
  refine wpAny_pure ⟨plainId_quiet F.plain_max_loop _, codeAny_max_loop_first W bt hcmp s₂.heap.objs.size hSf hn (W.frame _ _ _ hst fun b _ o e => Heap.get?_push_of_some _ e) (Heap.get?_push_size _ rfl) fun v h' tk hP hk => ?_⟩
  exact hQ v h' tk hP fun b o hbw e => hk b o hbw (Nat.ne_of_lt (Heap.lt_size e)) (Heap.get?_push_of_some _ e)
theorem mx5_ints {a0 a1 a2 a3 a4 : Int} {t0 t1 t2 t3 t4 : Tok} {Q : Value → Shared → Prop} (hh : A.handled = none)
    (h : ∀ h' tk t, (∀ d o, s.heap.get? d = some o → h'.get? d = some o) → Q (.int (mxI (mxI (mxI (mxI a0 a1) a2) a3) a4) t) { s with heap := h', toks := tk }) :
    wpAny (model prog w) A (call (.builtin "max") [.int a0 t0, .int a1 t1, .int a2 t2, .int a3 t3, .int a4 t4]) Q E s := by
  have hT : (s.heap.push { cls := .type "tuple", data := .seq #[.int a0 t0, .int a1 t1, .int a2 t2, .int a3 t3, .int a4 t4] }).IsTuple s.heap.objs.size (intItems #[(a0, t0), (a1, t1), (a2, t2), (a3, t3), (a4, t4)]) := ⟨_, Heap.get?_push_size _ rfl, rfl, 0, by simp [intItems]⟩
  refine call_mx5 (wpAny_pyIter_tuple hT ?_)
  have hsz : (s.heap.push { cls := .type "tuple", data := .seq #[.int a0 t0, .int a1 t1, .int a2 t2, .int a3 t3, .int a4 t4] }).objs.size = s.heap.objs.size + 1 := Heap.size_push ..
  refine ⟨_, [_, s.heap.objs.size], [_], _, _, _, _, rfl, Walks.tuple (A := A.in1) hh _ s.heap.objs.size (by rw [hsz]; exact Nat.ne_of_lt (Nat.lt_succ_self _)) (intItems #[(a0, t0), (a1, t1), (a2, t2), (a3, t3), (a4, t4)]),
    ⟨⟨_, Heap.get?_push_size _ rfl, rfl, rfl⟩, hT.push _⟩, fun d hd => ?_, by simp [intItems], CmpOf.ints_gt (numAt #[(a0, t0), (a1, t1), (a2, t2), (a3, t3), (a4, t4)]) (fun _ _ => intItems_at), fun v h' tk hP hk => ?_⟩
  · show d < ((s.heap.push _).push _).objs.size
    rw [Heap.size_push, hsz]
    rcases List.mem_cons.mp hd with rfl | hd
    · rw [hsz]; exact Nat.lt_succ_self _
    · rcases List.mem_cons.mp hd with rfl | hd
      · exact Nat.lt_succ_of_lt (Nat.lt_succ_self _)
      · cases hd
  · have hold : ∀ d o, s.heap.get? d = some o → h'.get? d = some o := fun d o e => by
      refine hk d o (fun hm => ?_) (Heap.get?_push_of_some _ (Heap.get?_push_of_some _ e))
      rcases List.mem_cons.mp hm with e1 | hm
      · have := Heap.lt_size e; rw [e1, hsz] at this; exact Nat.lt_irrefl _ (Nat.lt_of_succ_lt this)
      · cases hm
    have hP' : (intItems #[(a0, t0), (a1, t1), (a2, t2), (a3, t3), (a4, t4)])[argBest (fun i j => decide (numAt #[(a0, t0), (a1, t1), (a2, t2), (a3, t3), (a4, t4)] i > numAt #[(a0, t0), (a1, t1), (a2, t2), (a3, t3), (a4, t4)] j)) 4]? = some v := by
      have hsz2 : (intItems #[(a0, t0), (a1, t1), (a2, t2), (a3, t3), (a4, t4)]).size - 1 = 4 := by simp [intItems]
      rw [← hsz2]; exact hP
    obtain ⟨t, rfl⟩ := intItems_at hP'
    have e := best_step (numAt #[(a0, t0), (a1, t1), (a2, t2), (a3, t3), (a4, t4)])
    have e1 : numAt #[(a0, t0), (a1, t1), (a2, t2), (a3, t3), (a4, t4)] (argBest (fun i j => decide (numAt #[(a0, t0), (a1, t1), (a2, t2), (a3, t3), (a4, t4)] i > numAt #[(a0, t0), (a1, t1), (a2, t2), (a3, t3), (a4, t4)] j)) 4) = mxI (mxI (mxI (mxI a0 a1) a2) a3) a4 := by
      rw [e 3, e 2, e 1, e 0]; rfl
    rw [e1]
    exact h h' tk t hold
theorem call_max5I {X : Cx} (hc : X.calm = true) : CallR X (.builtin "max") (fun xs H Q => ∃ a0 a1 a2 a3 a4, xs = [.int a0, .int a1, .int a2, .int a3, .int a4] ∧ Q (.int (mxI (mxI (mxI (mxI a0 a1) a2) a3) a4)) H) := by
  intro pins s σ H xs us Q I r h
  obtain ⟨a0, a1, a2, a3, a4, rfl, q⟩ := h
  cases r with | cons r0 r =>
  obtain ⟨t0, rfl⟩ := r0
  cases r with | cons r1 r =>
  obtain ⟨t1, rfl⟩ := r1
  cases r with | cons r2 r =>
  obtain ⟨t2, rfl⟩ := r2
  cases r with | cons r3 r =>
  obtain ⟨t3, rfl⟩ := r3
  cases r with | cons r4 r =>
  obtain ⟨t4, rfl⟩ := r4
  cases r
  exact mx5_ints (I.ok.hd hc) fun h' tk t k => ⟨.int (mxI (mxI (mxI (mxI a0 a1) a2) a3) a4), H, I.kept k, ⟨t, rfl⟩, q⟩
def nMax5 : OpN := fun ds Q => match ds with
  | [.int a0, .int a1, .int a2, .int a3, .int a4] => Q (.int (mxI (mxI (mxI (mxI a0 a1) a2) a3) a4))
  | _ => False
theorem nMax5_mono : MonoN nMax5 := by unfold nMax5; intro ds Q Q' i q; revert q; split <;> intro q <;> first | exact i _ q | exact q
theorem BReps.five {K : PySem.W.Frag} {F H : Hp} {vs : List V} {d0 d1 d2 d3 d4 : D} (r : BReps K F H vs [d0, d1, d2, d3, d4]) : ∃ v0 v1 v2 v3 v4, vs = [v0, v1, v2, v3, v4] ∧ BRep K F H v0 d0 ∧ BRep K F H v1 d1 ∧ BRep K F H v2 d2 ∧ BRep K F H v3 d3 ∧ BRep K F H v4 d4 := by
  cases r with | cons r0 r =>
  cases r with | cons r1 r =>
  cases r with | cons r2 r =>
  cases r with | cons r3 r =>
  cases r with | cons r4 r =>
  cases r
  exact ⟨_, _, _, _, _, rfl, r0, r1, r2, r3, r4⟩
theorem cn_max5 {X : Cx} (hc : X.calm = true) : CallR X (.builtin "max") (rDc X.K nMax5) := fun pins s σ H xs us Q I r ⟨F, ds, hf, r1, q⟩ => by
  unfold nMax5 at q
  split at q
  · obtain ⟨v0, v1, v2, v3, v4, rfl, r0, r1, r2, r3, r4⟩ := r1.five
    rw [r0.int, r1.int, r2.int, r3.int, r4.int] at r
    exact call_max5I hc pins s σ H _ us Q I r ⟨_, _, _, _, _, rfl, q.int hf⟩
  · exact q.elim
theorem nMax5_i {a0 a1 a2 a3 a4 : Int} {Q : D → Prop} : nMax5 [.int a0, .int a1, .int a2, .int a3, .int a4] Q = Q (.int (mxI (mxI (mxI (mxI a0 a1) a2) a3) a4)) := rfl
end
end DL

namespace DL
open PySem PySem.Spec PyProof.Rows L2

/-! ### attributes -/
def fldD : List Str → List D → Str → Option D
  | n :: ns, x :: xs, f => if f == n then some x else fldD ns xs f
  | _, _, _ => none
theorem fld_get {K : PySem.W.Frag} {F : Hp} {f : Str} {x : D} : ∀ {fs : List (Str × V)} {xs : List D}, Reps K F (fs.map (·.2)) xs → fldD (fs.map (·.1)) xs f = some x → f ∈ fs.map (·.1) ∧ ∃ v, fs.lookup f = some v ∧ Rep K F v x
  | [], _, r, e => by cases r; cases e
  | (n, v) :: fs, _, r, e => by
    cases r with | cons r1 r2 =>
    simp only [List.map_cons, fldD] at e
    by_cases c : (f == n) = true
    · rw [if_pos c] at e
      cases e
      have := eq_of_beq c
      subst this
      exact ⟨List.mem_cons_self .., v, by simp [List.lookup], r1⟩
    · rw [if_neg c] at e
      obtain ⟨h1, v', h2, h3⟩ := fld_get r2 e
      refine ⟨List.mem_cons_of_mem _ h1, v', ?_, h3⟩
      have c' : (f == n) = false := by simpa using c
      simp only [List.lookup, c']; exact h2
def qFld (d : D) (f : Str) (Q : D → Prop) : Prop := match d with
  | .ins _ ns xs => ∃ x, fldD ns xs f = some x ∧ Q x
  | _ => False
theorem qFld_mono {d : D} {f : Str} {Q Q' : D → Prop} (i : ∀ x, Q x → Q' x) (q : qFld d f Q) : qFld d f Q' := by
  cases d <;> first | (obtain ⟨x, h1, h2⟩ := q; exact ⟨x, h1, i _ h2⟩) | exact q
def rFld (f : Str) (m : RE) : RE := fun env Q => m env fun d e => qFld d f fun x => Q x e
section
variable {X : Cx} {e : Expr} {m : RE} {f : Str} {pos : Pos}
theorem ee_fld (he : EB X e m) (hb : attributeBase e f X.env (eval e X.env) = eval e X.env := by rfl) : EE X (.Attribute e f pos) (rFld f m) where
  mono := fun env Q Q' i q => he.mono _ _ _ (fun d e q => qFld_mono (fun x q => i _ _ q) q) q
  pe := fun G F0 => PE_imp (pe_fld (he.pe G F0) hb) fun σ H Q ⟨F, env, k, q⟩ => ⟨F, env, k, he.mono _ _ _ (fun d e q v F' H' a r => by
    cases d <;> first | exact q.elim | skip
    obtain ⟨x, h1, q⟩ := q
    rcases r with r | ⟨_, _, _, _, z, _⟩
    · cases r with | ins k' h rs =>
      obtain ⟨h2, v, h3, h4⟩ := fld_get rs h1
      exact ⟨_, _, _, _, v, rfl, a.ok.fh _ _ h, k'.cl, k'.nf _ h2, h3, q v F' H' a h4⟩
    · cases z) q⟩
end
/-! ### self.f = e, in an __init__ -/
def qObj (s : Sl) (Q : Addr → Addr → List Str → List D → Prop) : Prop := match s with
  | .own (.o p C ns xs) => Q p C ns xs
  | _ => False
theorem qObj_mono {s : Sl} {Q Q' : Addr → Addr → List Str → List D → Prop} (i : ∀ p C ns xs, Q p C ns xs → Q' p C ns xs) (q : qObj s Q) : qObj s Q' := by
  unfold qObj at q ⊢
  split at q
  · exact i _ _ _ _ q
  · exact q.elim
theorem qObj_get {env : En} {i : Nat} {Q : Addr → Addr → List Str → List D → Prop} (h : qObj (eg env i) Q) : ∃ p C ns xs, env[i]? = some (Sl.own (.o p C ns xs)) ∧ Q p C ns xs := by
  unfold qObj at h
  split at h
  · rename_i p C ns xs e
    have g := eg_get (env := env) (i := i) (by rw [e]; exact fun z => nomatch z)
    rw [e] at g
    exact ⟨p, C, ns, xs, g, h⟩
  · exact h.elim
theorem qObj_o {p C : Addr} {ns : List Str} {xs : List D} {Q : Addr → Addr → List Str → List D → Prop} : qObj (.own (.o p C ns xs)) Q = Q p C ns xs := rfl
def sFldD (c : Addr) (i : Nat) (f : Str) (me : RE) : RS := fun Z env => me env fun d e => qObj (eg e i) fun p C ns xs => C = c ∧ ns.contains f = false ∧ ns.length < 900 ∧ Z.nx (es e i (.own (.o p C (ns ++ [f]) (xs ++ [d]))))
theorem putF_new {f : Str} {v : V} : ∀ {fs : List (Str × V)}, (fs.map (·.1)).contains f = false → putF f v fs = fs ++ [(f, v)]
  | [], _ => rfl
  | (g, x) :: r, h => by
    simp only [List.map_cons, List.contains_cons, Bool.or_eq_false_iff] at h
    have n : ¬ g = f := fun e => by
      have h1 := h.1
      rw [e] at h1; simp at h1
    show (if g = f then (g, v) :: r else (g, x) :: putF f v r) = _
    rw [if_neg n, putF_new h.2]; rfl
section
variable {X : Cx} {o e : Expr} {me : RE} {f : Str} {pos pos' : Pos} {c : Addr} {i : Nat} {fs : List Str}
theorem ss_fld (hk : InsK X.K c fs) (hf : f ∈ fs) (hp : PE X o (tVar i)) (he : EE X e me) (hs : swapsWith e (some (.Attribute o f pos')) pos.line X.env = pure false := by rfl) : SS X (.Assign [.Attribute o f pos'] e pos) (sFldD c i f me) where
  mono := fun Z Z' env l q => he.mono _ _ _ (fun d e q => qObj_mono (fun p C ns xs q => ⟨q.1, q.2.1, q.2.2.1, l.nx _ q.2.2.2⟩) q) q
  ps := fun G F0 => PS_imp (L2.ps_fld hp (he.pe G F0) hs) fun Z σ H ⟨F, env, k, q⟩ => ⟨F, env, k, he.mono _ _ _ (fun d e q v F1 H1 a1 r1 => by
    obtain ⟨p, C, ns, xs, g, rfl, h1, h2, q⟩ := qObj_get q
    obtain ⟨a, ho, ea, hF, hH, r⟩ := a1.ok.sl i _ g
    obtain ⟨dx, vs, rfl, rfl, e1, e2⟩ := r.ins
    refine ⟨.ref a, at_some ea, a, C, dx, vs, rfl, hH, hk.cl, hk.nf _ hf, ?_, ?_⟩
    · have : vs.length = ns.length := by rw [← e1, List.length_map]
      omega
    · rw [putF_new (by rw [e1]; exact h1)]
      rw [es_eq] at q
      refine q σ F1 _ (a1.ok.writeC g ea ⟨rfl, rfl, by rw [List.map_append, e1]; rfl, ?_⟩)
      rw [List.map_append]
      exact e2.append (Reps.one r1)) q⟩
end
/-! ### __init__, C(..) -/
/-- an instance made: its attributes' names fs, its class c; m: the body of __init__ over n names -/
def mkD (c : Addr) (fs : List Str) (n : Nat) (m : RS) : SpecD := fun ds Q => ∀ p, m { nx := fun e => qObj (eg e 0) fun p' C ns xs => p' = p ∧ C = c ∧ ns = fs ∧ Q (.ins c fs xs), rt := fun _ => False } (.own (.o p c [] []) :: (ds.map Sl.v ++ List.replicate (n - 1 - ds.length) Sl.un))
theorem mkD_mono {c : Addr} {fs : List Str} {n : Nat} {m : RS} (h : MonoS m) : MonoSp (mkD c fs n m) := fun ds Q Q' i q p => h { nx := fun e => qObj (eg e 0) fun p' C ns xs => p' = p ∧ C = c ∧ ns = fs ∧ Q (.ins c fs xs), rt := fun _ => False } _ _ ⟨fun e q => qObj_mono (fun p' C ns xs q => ⟨q.1, q.2.1, q.2.2.1, i _ q.2.2.2⟩) q, fun _ q => q, fun _ q => q, fun _ q => q⟩ (q p)
theorem mkD_ins {c : Addr} {fs : List Str} {n : Nat} {m : RS} (h : MonoS m) (ds : List D) (Q : D → Prop) (q : mkD c fs n m ds Q) : mkD c fs n m ds fun d => (∃ xs, d = .ins c fs xs) ∧ Q d := fun p =>
  h { nx := fun e => qObj (eg e 0) fun p' C ns xs => p' = p ∧ C = c ∧ ns = fs ∧ Q (.ins c fs xs), rt := fun _ => False } _ _ ⟨fun e q => qObj_mono (fun p' C ns xs q => ⟨q.1, q.2.1, q.2.2.1, ⟨xs, rfl⟩, q.2.2.2⟩) q, fun _ q => q, fun _ q => q, fun _ q => q⟩ (q p)
/-- what __init__ promises -/
def spI (K : PySem.W.Frag) (c : Addr) (fs : List Str) (n : Nat) (spec : SpecD) : Sp := fun vs H Q _ => ∃ p dx rest, vs = .ref p :: rest ∧ rest.length = n ∧ H p = some (.ins c dx []) ∧ ∃ F ds, F p = none ∧ Same F H ∧ Reps K F rest ds ∧
  spec ds fun d => ∀ xs, d = .ins c fs xs → ∀ F' H' dx' (vfs : List (Str × V)), Same F F' → (∀ a o, a ≠ p → H a = some o → H' a = some o) → Same F' H' → F' p = none → (∀ a, a ≠ p → H a ≠ none → F' a = F a) →
    H' p = some (.ins c dx' vfs) → vfs.map (·.1) = fs → Reps K F' (vfs.map (·.2)) xs → Q .non H'
def delH (H : Hp) (p : Addr) : Hp := fun a => if a = p then none else H a
theorem delH_ne {H : Hp} {p a : Addr} (h : a ≠ p) : delH H p a = H a := if_neg h
theorem delH_at {H : Hp} {p : Addr} : delH H p p = none := if_pos rfl
theorem delH_same {H : Hp} {p : Addr} : Same (delH H p) H := fun a o e => by
  by_cases h : a = p
  · subst h; rw [delH_at] at e; cases e
  · rw [delH_ne h] at e; exact e
theorem startO_ok {K : PySem.W.Frag} {F H : Hp} {N : List Str} {p c dx : Addr} {vs : List V} {ds : List D} (hf : Same F H) (hF : F p = none) (hp : H p = some (.ins c dx [])) (r : Reps K F vs ds) (hl : vs.length + 1 ≤ N.length) :
    StOk K (delH H p) F F H (.own (.o p c [] []) :: (ds.map Sl.v ++ List.replicate (N.length - 1 - ds.length) Sl.un)) (L2.start N (.ref p :: vs)) := by
  have e1 := r.length
  have at0 : L2.St.at (L2.start N (.ref p :: vs)) 0 = some (.ref p) := rfl
  have own : ∀ (i : Nat) (es : OC), (ds.map Sl.v ++ List.replicate (N.length - 1 - ds.length) Sl.un)[i]? ≠ some (Sl.own es) := fun i es e => by
    by_cases h : i < ds.length
    · rw [List.getElem?_append_left (by simpa using h), List.getElem?_map, List.getElem?_eq_getElem h] at e
      cases e
    · rw [List.getElem?_append_right (by simpa using h), List.getElem?_replicate] at e
      split at e <;> cases e
  refine ⟨hf, delH_same, Same.refl _, fun _ _ => rfl, ?_, fun i s e => ?_, fun i es a e ea => ?_, fun i j es es' a e e' => ?_⟩
  · unfold L2.start
    simp only [List.length_append, List.length_map, List.length_replicate, List.length_cons]
    omega
  · cases i with
    | zero =>
      cases e
      exact ⟨p, _, at0, hF, hp, rfl, rfl, rfl, .nil⟩
    | succ i =>
      rw [List.getElem?_cons_succ] at e
      by_cases h : i < ds.length
      · rw [List.getElem?_append_left (by simpa using h), List.getElem?_map, List.getElem?_eq_getElem h] at e
        cases e
        obtain ⟨v, ev, rv⟩ := r.get (List.getElem?_eq_getElem h)
        refine ⟨v, ?_, rv⟩
        unfold L2.St.at L2.start
        rw [List.map_cons, List.cons_append, List.getElem?_cons_succ, List.getElem?_append_left (by rw [List.length_map]; omega), List.getElem?_map, ev]
        rfl
      · rw [List.getElem?_append_right (by simpa using h), List.getElem?_replicate] at e
        split at e <;> cases e
        trivial
  · cases i with
    | zero => rw [at0] at ea; cases ea; exact delH_at
    | succ i => rw [List.getElem?_cons_succ] at e; exact absurd e (own i es)
  · cases i with
    | zero =>
      cases j with
      | zero => intros; rfl
      | succ j => rw [List.getElem?_cons_succ] at e'; exact absurd e' (own j es')
    | succ i => rw [List.getElem?_cons_succ] at e; exact absurd e (own i es)
section
variable {P : Program} {w : World} {K : PySem.W.Frag} {mg : Str → Option Value} {base : Heap}
theorem init_ok {x qual : Str} {st : Stmt} {f c : Addr} {fd : FuncData} {N ps fs : List Str} {k : Nat} {m : RS} (F : Fun K x qual st f fd) (S : FnScope N ("self" :: ps) (defScope st))
    (hm : ∀ (cdv : Value) (A : Around) (outer : List Env) (s : Shared) (H : Hp) (E : XK), Room k (A.deeper (envOfC qual (defScope st) s.heap.objs.size f cdv)) → SSs (cxOf CX0 P w K mg base N qual (defScope st) f cdv A outer s H E).nox (defBody st) m) :
    FnOk P w K mg base CX0 (k + 1) f fd ("self" :: ps) (spI K c fs ps.length (mkD c fs N.length m)) :=
  F.ok S (fun vs H Q E ⟨p, dx, rest, e, hl, _⟩ => by rw [e, List.length_cons, List.length_cons, hl]) fun cdv A outer s H vs Q E hr ⟨p, dx, rest, ev, hl, hp, F', ds, hF, hs, r, q⟩ => by
    subst ev
    have M := hm cdv A outer s H E hr
    refine ⟨_, M.ps (delH H p) F', F', .own (.o p c [] []) :: (ds.map Sl.v ++ List.replicate (N.length - 1 - ds.length) Sl.un), startO_ok hs hF hp r ?_, ?_⟩
    · rw [hl]
      have := congrArg List.length S.pre
      rw [List.length_take, List.length_cons] at this
      omega
    · refine M.mono { nx := fun e => qObj (eg e 0) fun p' C ns xs => p' = p ∧ C = c ∧ ns = fs ∧ ∀ ys, D.ins c fs xs = .ins c fs ys → ∀ F1 H' dx' (vfs : List (Str × V)), Same F' F1 → (∀ a o, a ≠ p → H a = some o → H' a = some o) → Same F1 H' → F1 p = none → (∀ a, a ≠ p → H a ≠ none → F1 a = F' a) → H' p = some (.ins c dx' vfs) → vfs.map (·.1) = fs → Reps K F1 (vfs.map (·.2)) ys → Q .non H', rt := fun _ => False } _ _ ⟨fun e q σ F1 H1 k => ?_, fun _ q => q.elim, fun _ q => q.elim, fun _ q => q.elim⟩ (q p)
      obtain ⟨p', C, ns, xs, g, rfl, rfl, rfl, q⟩ := qObj_get q
      obtain ⟨a, ho, ea, hF1, hH1, ro⟩ := k.sl 0 _ g
      obtain ⟨dx', vfs, rfl, rfl, e1, e2⟩ := ro.ins
      refine q xs rfl F1 H1 dx' vfs k.ff (fun b o hb e => k.gh _ _ (by rw [delH_ne hb]; exact e)) k.fh hF1 (fun b hb n => k.nw b (by rw [delH_ne hb]; exact n)) hH1 e1 e2
end
/-- a class of one's own that can be called -/
structure CalM (P : Program) (w : World) (K : PySem.W.Frag) (mg : Str → Option Value) (base : Heap) (x : Str) (k : Nat) (c : Addr) (fs : List Str) (n : Nat) (spec : SpecD) : Prop where
  mono : MonoSp spec
  ins : InsK K c fs
  hi : ∀ ds Q, spec ds Q → spec ds fun d => (∃ xs, d = .ins c fs xs) ∧ Q d
  ex : ∃ (f : Addr) (fd : FuncData) (ps : List Str), ps.length = n ∧ FnOk P w K mg base CX0 k f fd ("self" :: ps) (spI K c fs n spec) ∧ Mk K c f ∧ mg x = some (.ref c) ∧ Binds K fd ("self" :: ps) []
section
variable {X : Cx} {x : Str} {k n : Nat} {c : Addr} {fs : List Str} {spec : SpecD} {p pos : Pos} {e : Expr} {es : List Expr} {m : RN}
theorem ee_make (cm : CalM X.prog X.w X.K X.mg X.base x k c fs n spec) (hr : Room (k + 1) X.A) (hg : Gl X x) (ha : EA X (e :: es) m) (hdb : (x == ("__debug__" : Str)) = false := by decide)
    (he : starEach (e :: es) X.env = (false, eval e X.env) :: starEach es X.env := by rfl) (hpl : (backTo pos (starEach es X.env)).any (·.1) = false := by rfl) : EE X (.Call (.Name x p) (e :: es) [] pos) (rUser spec [] n m) where
  mono := fun env Q Q' i q => ha.mono _ _ _ (fun ds e q => ⟨q.1, cm.mono _ _ _ (fun d q => i _ _ q) q.2⟩) q
  pe := fun G F0 => by
    obtain ⟨f, fd, ps, hn, F, hM, hm, hb⟩ := cm.ex
    refine PE_imp (pe_make hM F hr hg hm hb .nil pass0 (ha.pe G F0) hdb he hpl) fun σ H Q ⟨F, env, k, q⟩ => ⟨F, env, k, ha.mono _ _ _ (fun ds e q vs F1 H1 a1 r1 y dx hy hdx hne => ?_) q⟩
    have q2 := cm.hi _ _ q.2
    have fy : F1 y = none := a1.ok.fh.at_none hy
    have fd' : F1 dx = none := a1.ok.fh.at_none hdx
    have s2 : Same F1 (upd (upd H1 dx (.own y)) y (.ins c dx [])) := fun b o eb => by
      rw [upd_ne (ne_of_none eb fy), upd_ne (ne_of_none eb fd')]; exact a1.ok.fh _ _ eb
    rw [List.append_nil]
    refine ⟨y, dx, vs, rfl, ?_, upd_same, F1, ds, fy, s2, r1, ?_⟩
    · rw [r1.length]; simpa using q.1
    · rw [List.append_nil] at q2
      refine cm.mono _ _ _ (fun d ⟨⟨xs, ed⟩, qd⟩ xs' ed' F' H' dx' vfs h1 h2 h3 h4 h5 h6 h7 h8 => ⟨rfl, ?_⟩) q2
      subst ed'
      have old : ∀ b, H1 b ≠ none → b ≠ y ∧ b ≠ dx := fun b hb => ⟨fun z => hb (z ▸ hy), fun z => hb (z ▸ hdx)⟩
      have sF : Same F' (upd F' y (.ins c dx' vfs)) := same_upd h4
      refine qd (.ref y) (upd F' y (.ins c dx' vfs)) H' (a1.ext ⟨h1.trans sF, fun b o eb => ?_, fun b o eb => ?_, fun b hb => ?_⟩) ?_
      · have := old b (by rw [eb]; exact fun z => nomatch z)
        exact h2 b o this.1 (by rw [upd_ne this.1, upd_ne this.2]; exact eb)
      · by_cases hb : b = y
        · subst hb; rw [upd_same] at eb; rw [h6]; exact eb
        · rw [upd_ne hb] at eb; exact h3 _ _ eb
      · have := old b hb
        rw [upd_ne this.1]
        exact h5 b this.1 (by rw [upd_ne this.1, upd_ne this.2]; exact hb)
      · subst h7
        exact .ins cm.ins upd_same (h8.mono sF)
end
end DL

namespace DL
open PySem PySem.Spec PyProof.Rows L2

/-! ### the type of a value, instances too -/
theorem tyx_rep {K : PySem.W.Frag} {F H : Hp} {v : V} {d : D} {t : Value} (hf : Same F H) (r : BRep K F H v d) (e : tyD d = some t) : TyX K H v t := by
  cases d with
  | ins C ns xs =>
    cases e
    rcases r with r | ⟨_, _, _, _, z, _⟩
    · cases r with | ins k h _ => exact .base (.ins (hf _ _ h) k.cl k.ha k.hn k.htk k.hm)
    · cases z
  | _ => exact tyx_of hf r e trivial
/-! ### == by an own __eq__ -/
def okR (cs : List Addr) : D → Prop
  | .ins C _ _ => C ∈ cs
  | .ty _ => False
  | .cls _ => False
  | .sz _ => False
  | _ => True
def dEqI (tbl : List (Addr × SpecD)) (cs : List Addr) : Op2 := fun d e Q => match d with
  | .ins C _ _ => okR cs e ∧ ∃ sp : SpecD, (C, sp) ∈ tbl ∧ ∃ R : D → Prop, sp [d, e] R ∧ ∀ r, R r → (∃ b, r = .bl b) ∧ Q r
  | _ => dEq d e Q
theorem dEqI_mono {tbl : List (Addr × SpecD)} {cs : List Addr} : Mono2 (dEqI tbl cs) := fun d e Q Q' i q => by
  cases d <;> first | exact dEq_mono _ _ _ _ i q | (obtain ⟨h1, sp, h2, R, h3, q⟩ := q; exact ⟨h1, sp, h2, R, h3, fun r h => ⟨(q r h).1, i _ (q r h).2⟩⟩)
theorem dEqI_ins {tbl : List (Addr × SpecD)} {cs : List Addr} {C : Addr} {ns : List Str} {xs : List D} {e : D} {b : Bool} {Q : D → Prop} {sp : SpecD} (h1 : okR cs e) (h2 : (C, sp) ∈ tbl) (h3 : ∀ R : D → Prop, R (.bl b) → sp [.ins C ns xs, e] R) (q : Q (.bl b)) : dEqI tbl cs (.ins C ns xs) e Q :=
  ⟨h1, sp, h2, fun r => r = .bl b, h3 _ rfl, fun r e => by subst e; exact ⟨⟨_, rfl⟩, q⟩⟩
/-- the own __eq__ of the class c; cs: the classes that may stand on the right -/
structure CalE (P : Program) (w : World) (K : PySem.W.Frag) (mg : Str → Option Value) (base : Heap) (k : Nat) (c : Addr) (cs : List Addr) (spec : SpecD) : Prop where
  mono : MonoSp spec
  ty : ∀ n ∈ tysD, PySem.W.notFirst K c (.type n) = true
  cl : ∀ C ∈ cs, PySem.W.notFirst K c (.ref C) = true
  ex : ∃ (f : Addr) (fd : FuncData) (ps : List Str), ps.length = 2 ∧ FnOk P w K mg base CX0 k f fd ps (spD K 2 spec) ∧ PySem.W.findIn K (.ref c) "__eq__" = some (some (.ref f)) ∧ PySem.W.isFn K (.ref f) = true ∧ Binds K fd ps []
theorem tyD_some {d : D} {cs : List Addr} (h : okR cs d) : ∃ t, tyD d = some t ∧ ((∃ n ∈ tysD, t = .type n) ∨ ∃ C ∈ cs, t = .ref C) := by
  cases d <;> first | exact h.elim | exact ⟨_, rfl, .inr ⟨_, h, rfl⟩⟩ | exact ⟨_, rfl, .inl ⟨_, by decide, rfl⟩⟩
section
variable {X : Cx} {k : Nat} {tbl : List (Addr × SpecD)} {cs : List Addr}
theorem or_eqI (ho : OpR X (compareOp .Eq) (rD2 X.K dEq)) (hr : Room k X.A) (ht : ∀ c sp, (c, sp) ∈ tbl → CalE X.prog X.w X.K X.mg X.base k c cs sp) : OpR X (compareOp .Eq) (rD2 X.K (dEqI tbl cs)) := fun pins s σ H x y u v Q I rx ry ⟨F, d, e, hf, r1, r2, q⟩ => by
  cases d with
  | ins C ns xs =>
    obtain ⟨hok, sp, hin, R, hR, q⟩ := q
    have ce := ht _ _ hin
    have hm := ce.mono
    have q := hm _ _ _ q hR
    obtain ⟨f, fd, ps, hps, FN, hs, hfn, hb⟩ := ce.ex
    obtain ⟨t, ht1, ht2⟩ := tyD_some hok
    have ty := tyx_rep hf r2 ht1
    obtain ⟨P, kx, hP, _⟩ := kit_of I ry ty
    have nfst : PySem.W.notFirst X.K C t = true := by
      rcases ht2 with ⟨n, h1, rfl⟩ | ⟨C', h1, rfl⟩
      · exact ce.ty n h1
      · exact ce.cl C' h1
    have rd : BRep X.K F H x (.ins C ns xs) := r1
    rcases r1 with r1 | ⟨_, _, _, _, z, _⟩
    · cases r1 with | @ins a _ dx fs _ ik ha rs =>
      cases rx
      obtain ⟨mA, J, _⟩ := ins_get I.hok (hf _ _ ha)
      obtain ⟨od, J, _⟩ := J.look
      obtain ⟨m, hF⟩ := I.fr
      refine PySem.W.cmp_K (op := .Eq) (tb := t) hr.units0 hF I.ok.mod.kin J (kx.ty _ _ I.kIn hP) nfst hs hfn ?_
      have e0 := I.env0
      have rr : Reps X.K H [V.ref a, y] [.ins C (fs.map (·.1)) xs, e] := .cons (rd.rep hf) (.cons (r2.rep hf) .nil)
      have hsp : spD X.K 2 sp [V.ref a, y] H (fun z H' => ∃ b, z = .bl b ∧ Q (.bl b) H') E0 := by
        refine ⟨rfl, H, _, Same.refl _, rr, hm _ _ _ (fun r q w F2 H2 x2 r2 => ?_) q⟩
        obtain ⟨⟨b, rfl⟩, q⟩ := q
        cases r2
        exact ⟨b, rfl, q (.bl b) F H2 ⟨Same.refl _, x2.hH, hf.trans x2.hH, fun _ _ => rfl⟩ (.bl b)⟩
      have hl := FN.len _ _ _ _ hsp
      have v2 : Vals [V.ref a, y] [Value.ref a, v] := .cons rfl (.cons ry .nil)
      refine wpAny_call (codeAny_mono (FN.run X.A X.stack s H ⟨[.ref a, v], []⟩ [.ref a, v] [.ref a, y] _ E0 hr e0 (by
        have := hb s [.ref a, v] I.kIn (by simpa using hl)
        simpa using this) v2 hsp) fun r s' hq => ?_)
      cases r with
      | error e => exact pass0 pins σ H s e s' I hq
      | ok fl =>
        cases fl with
        | ret w =>
          obtain ⟨z, H', I', rz, b, ez, qz⟩ := I.after hq
          subst ez
          cases rz
          exact ⟨.bl b, H', I', rfl, qz⟩
        | next => exact False.elim hq
        | brk => exact False.elim hq
        | cont => exact False.elim hq
    · cases z
  | _ => exact ho pins s σ H x y u v Q I rx ry ⟨F, _, e, hf, r1, r2, q⟩
end
/-! ### isinstance against a class of one's own -/
def nIsiO (c : Addr) (cs : List Addr) : OpN := fun ds Q => match ds with
  | [.ins C _ _, .cls c'] => c' = c ∧ C ∈ cs ∧ Q (.bl (decide (C = c)))
  | [d, .cls c'] => c' = c ∧ (∃ a, tyS d = some a) ∧ Q (.bl false)
  | _ => False
theorem nIsiO_mono {c : Addr} {cs : List Addr} : MonoN (nIsiO c cs) := by
  intro ds Q Q' i q; unfold nIsiO at q ⊢
  split at q
  · exact ⟨q.1, q.2.1, i _ q.2.2⟩
  · rename_i h _
    exact ⟨q.1, q.2.1, i _ q.2.2⟩
  · exact q.elim
section
variable {X : Cx} {c : Addr} {cs : List Addr}
theorem cn_isiO (hI : ∀ C ∈ cs, PySem.W.kitOne X.K (.ref C) (.ref c) = some (decide (C = c))) (hB : ∀ n ∈ tysD, PySem.W.kitOne X.K (.type n) (.ref c) = some false) : CallR X (.builtin "isinstance") (rDc X.K (nIsiO c cs)) := fun pins s σ H xs us Q I r ⟨F, ds, hf, r1, q⟩ => by
  have fin : ∀ (d : D) (t : Value) (b : Bool), ds = [d, .cls c] → tyD d = some t → PySem.W.kitOne X.K t (.ref c) = some b → Wants X.K F H Q (.bl b) → wpAny (model X.prog X.w) X.A (call (.builtin "isinstance") us) (EP X pins σ Q) X.xe s := fun d t b ed et ek qb => by
    subst ed
    obtain ⟨v, v', rfl, r2, r3⟩ := r1.two
    have hv : ClsV v' (.ref c) := by
      rcases r3 with r3 | ⟨_, _, _, _, z, _⟩
      · cases r3; constructor
      · cases z
    exact call_isi pins s σ H _ us Q I r ⟨v, v', t, _, b, rfl, hv, tyx_rep hf r2 et, ek, qb.bl hf⟩
  unfold nIsiO at q
  split at q
  · rename_i C ns ys c'
    obtain ⟨rfl, h1, q⟩ := q
    exact fin _ _ _ rfl rfl (hI _ h1) q
  · rename_i d c' _
    obtain ⟨rfl, ⟨a, h1⟩, q⟩ := q
    obtain ⟨t1, t2, _⟩ := tyS_ty h1
    exact fin _ _ _ rfl t1 (hB _ t2) q
  · exact q.elim
end
/-! ### class addresses by number -/
def clOf (l : List Addr) : Nat → Addr := fun i => l.getD i 0
def GoodC (n : Nat) (cl : Nat → Addr) : Prop := ∀ i j, i < n → j < n → cl i = cl j → i = j
theorem good_nodup {l : List Addr} (h : l.Nodup) : GoodC l.length (clOf l) := fun i j hi hj e => by
  unfold clOf at e
  rw [List.getD_eq_getElem?_getD, List.getD_eq_getElem?_getD, List.getElem?_eq_getElem hi, List.getElem?_eq_getElem hj] at e
  refine (List.getElem?_inj hi h).mp ?_
  rw [List.getElem?_eq_getElem hi, List.getElem?_eq_getElem hj]; exact congrArg some e
theorem all_nil {α : Type} {P : α → Prop} : ∀ x ∈ ([] : List α), P x := fun x h => nomatch h
theorem all_cons {α : Type} {P : α → Prop} {a : α} {l : List α} (h : P a) (t : ∀ x ∈ l, P x) : ∀ x ∈ a :: l, P x := List.forall_mem_cons.mpr ⟨h, t⟩
theorem kit_own {K : PySem.W.Frag} {t : Value} {C : Addr} {b : Bool} (hne : (t == .ref C) = false) (hd : PySem.W.hasDictIn K C = true) (ty : PySem.W.typeIn K (.ref C) = some (.type "type")) (h : PySem.W.subIn K t (.ref C) = some b) : PySem.W.kitOne K t (.ref C) = some b := by
  obtain ⟨cd, hc, _⟩ := PySem.W.any_some hd
  unfold PySem.W.kitOne PySem.W.kitCls
  rw [if_neg (by rw [hne]; decide)]
  simp only [hc, ty, Option.isSome_some, BEq.rfl, Bool.and_self, if_true]
  exact h
theorem kit_self {K : PySem.W.Frag} {C : Addr} : PySem.W.kitOne K (.ref C) (.ref C) = some true := by
  unfold PySem.W.kitOne
  rw [if_pos (by simp)]
theorem ref_ne {a b : Addr} (h : a ≠ b) : (Value.ref a == Value.ref b) = false := by simpa using h
theorem kit_t {K : PySem.W.Frag} {a : Addr} (h : PySem.W.kitOne K (.ref a) (.ref a) = some true) : PySem.W.kitOne K (.ref a) (.ref a) = some (decide (a = a)) := by rw [h, decide_eq_true rfl]
theorem kit_f {K : PySem.W.Frag} {a b : Addr} (n : a ≠ b) (h : PySem.W.kitOne K (.ref a) (.ref b) = some false) : PySem.W.kitOne K (.ref a) (.ref b) = some (decide (a = b)) := by rw [h, decide_eq_false n]
theorem tb_nil {P : Program} {w : World} {K : PySem.W.Frag} {mg : Str → Option Value} {base : Heap} {k : Nat} {cs : List Addr} : ∀ c sp, (c, sp) ∈ ([] : List (Addr × SpecD)) → CalE P w K mg base k c cs sp := fun c sp h => nomatch h
theorem tb_cons {P : Program} {w : World} {K : PySem.W.Frag} {mg : Str → Option Value} {base : Heap} {k : Nat} {cs : List Addr} {c : Addr} {sp : SpecD} {tbl : List (Addr × SpecD)} (h : CalE P w K mg base k c cs sp) (t : ∀ c sp, (c, sp) ∈ tbl → CalE P w K mg base k c cs sp) : ∀ c' sp', (c', sp') ∈ (c, sp) :: tbl → CalE P w K mg base k c' cs sp' := fun c' sp' m => by
  rcases List.mem_cons.mp m with e | m
  · cases e; exact h
  · exact t _ _ m
theorem calE_mono {P : Program} {w : World} {K : PySem.W.Frag} {mg : Str → Option Value} {base : Heap} {j k : Nat} {c : Addr} {cs : List Addr} {sp : SpecD} (h : CalE P w K mg base j c cs sp) (hk : j ≤ k) : CalE P w K mg base k c cs sp :=
  ⟨h.mono, h.ty, h.cl, let ⟨f, fd, ps, a, F, r⟩ := h.ex; ⟨f, fd, ps, a, F.mono hk, r⟩⟩
end DL

namespace DL
open PySem PySem.Spec PyProof.Rows L2

/-! ### xs[::-1] -/
theorem Reps.reverse {K : PySem.W.Frag} {F : Hp} : ∀ {vs : List V} {ds : List D}, Reps K F vs ds → Reps K F vs.reverse ds.reverse
  | [], _, r => by cases r; exact .nil
  | v :: vs, _, r => by
    cases r with | cons r1 r2 =>
    rw [List.reverse_cons, List.reverse_cons]
    exact (Reps.reverse r2).append (Reps.one r1)
def qRevN (d : D) (Q : List D → Prop) : Prop := match d with
  | .lst xs => Q xs.reverse
  | _ => False
theorem qRevN_l {xs : List D} {Q : List D → Prop} : qRevN (.lst xs) Q = Q xs.reverse := rfl
theorem qRevN_mono {d : D} {Q Q' : List D → Prop} (i : ∀ x, Q x → Q' x) (q : qRevN d Q) : qRevN d Q' := by
  cases d <;> first | exact i _ q | exact q
def rRevN (m : RE) : RN := fun env Q => m env fun d e => qRevN d fun xs => Q xs e
section
variable {X : Cx} {e : Expr} {m : RE} {k : Nat} {p1 p2 p3 pos : Pos}
theorem en_rev (he : EB X e m) : EN X (.Subscript e (.Slice none none (some (.UnaryOp .USub (.Constant (.int 1) k p1) p2)) p3) pos) (rRevN m) where
  mono := fun env Q Q' i q => he.mono _ _ _ (fun d e q => qRevN_mono (fun x q => i _ _ q) q) q
  pe := fun G F0 => PE_imp (pe_revL (he.pe G F0)) fun σ H Q ⟨F, env, k, q⟩ => ⟨F, env, k, he.mono _ _ _ (fun d e q v F1 H1 a1 r1 => by
    cases d <;> first | exact q.elim | skip
    obtain ⟨a, vs, rfl, h, rs⟩ := r1.lst a1.ok.fh
    refine ⟨a, vs, rfl, .of h, fun p hp => ?_⟩
    obtain ⟨a2, hF, hG, no⟩ := af_new (vs := vs.reverse) a1 hp
    exact q p vs.reverse F1 _ a2 upd_same hF hG no rs.reverse) q⟩
end
end DL

namespace DL
open PySem PySem.Spec PyProof.Rows L2

/-! ### exceptions of one's own classes, without attributes -/
/-- the weakest wish that the context takes -/
def WI (X : Cx) : WX := fun cls d σ H => ∀ (a : Addr) (B : PySem.Heap) (sI s' : Shared) (pins : List (Addr × Obj)), Inv X pins σ H sI → (∀ b o, sI.heap.get? b = some o → b ∉ frs X.stack → B.get? b = some o) → sI.heap.UpToSlots s'.heap →
  Sky B X.stack a (Zc cls d) X.env.locals s'.heap → H a = none → s'.os = sI.os → AllBare s'.gens → X.xe (.ref a) s'
theorem takes_WI {X : Cx} : Takes X (WI X) := fun u s' ⟨a, B, sI, pins, σ, H, cls, d, e, I, nb, up, sky, na, os, ag, w⟩ => by
  subst e; exact w a B sI s' pins I nb up sky na os ag
theorem WI_of {X : Cx} {W : WX} (tk : Takes X W) {cls : Value} {d : Option Addr} {σ : L2.St} {H : Hp} (h : W cls d σ H) : WI X cls d σ H := fun a B sI s' pins I nb up sky na os ag =>
  tk _ _ ⟨a, B, sI, pins, σ, H, cls, d, rfl, I, nb, up, sky, na, os, ag, h⟩
/-- what is wished of an exception: its class, the slots as they stand -/
abbrev RX := Addr → En → Prop
def rxOf (X : Cx) (G F0 : Hp) : RX := fun C env => ∀ σ F H, StOk X.K G F0 F H env σ → WI X (.ref C) none σ H
def RX.le (r r' : RX) : Prop := ∀ C e, r C e → r' C e
structure SX (X : Cx) (st : Stmt) (m : RX → RS) : Prop where
  mono : ∀ r r' D D' env, RX.le r r' → DE.le D D' → m r D env → m r' D' env
  ps : ∀ G F0, PS X st (tSt X.K G F0 (m (rxOf X G F0)))
structure SXs (X : Cx) (st : List Stmt) (m : RX → RS) : Prop where
  mono : ∀ r r' D D' env, RX.le r r' → DE.le D D' → m r D env → m r' D' env
  ps : ∀ G F0, PSs X st (tSt X.K G F0 (m (rxOf X G F0)))
theorem RX.le.rfl' {r : RX} : RX.le r r := fun _ _ h => h
section
variable {X : Cx} {st : Stmt} {rest : List Stmt} {m m' : RX → RS} {n : RS} {e : Expr} {pos : Pos}
theorem SS.x (h : SS X st n) : SX X st (fun _ => n) := ⟨fun r r' D D' env _ l q => h.mono D D' env l q, fun G F0 => h.ps G F0⟩
theorem SSs.x (h : SSs X rest n) : SXs X rest (fun _ => n) := ⟨fun r r' D D' env _ l q => h.mono D D' env l q, fun G F0 => h.ps G F0⟩
theorem sxs_cons (h1 : SX X st m) (h2 : SXs X rest m') : SXs X (st :: rest) (fun r => sSeq (m r) (m' r)) where
  mono := fun r r' Z Z' env lr l q => h1.mono r r' { Z with nx := fun e => m' r Z e } { Z' with nx := fun e => m' r' Z' e } env lr ⟨fun e q => h2.mono r r' Z Z' e lr l q, l.rt, l.bk, l.ct⟩ q
  ps := fun G F0 => PSs_imp (pss_cons (h1.ps G F0) (h2.ps G F0)) fun Z σ H ⟨F, env, k, q⟩ => ⟨F, env, k, h1.mono (rxOf X G F0) _ { liftD X.K G F0 Z with nx := fun e => m' (rxOf X G F0) (liftD X.K G F0 Z) e } _ env RX.le.rfl' ⟨fun e q σ' F' H' k' => ⟨F', e, k', q⟩, fun _ q => q, fun _ q => q, fun _ q => q⟩ q⟩
theorem sxs_one (h1 : SX X st m) : SXs X [st] m := ⟨h1.mono, fun G F0 => pss_one (h1.ps G F0)⟩
theorem sx_if {c : Expr} {a b : List Stmt} {tc : RT} (hc : ET X c tc) (ha : SXs X a m) (hb : SXs X b m') : SX X (.If c a b pos) (fun r => sIf tc (m r) (m' r)) where
  mono := fun r r' D D' env lr l q => hc.mono _ _ _ (fun b e q => by
    cases b with
    | true => exact ha.mono _ _ _ _ _ lr l q
    | false => exact hb.mono _ _ _ _ _ lr l q) q
  ps := fun G F0 => PS_imp (ps_if (hc.pe G F0) (ha.ps G F0) (hb.ps G F0)) fun D σ H ⟨F, env, k, q⟩ => ⟨F, env, k, hc.mono _ _ _ (fun b e q F' H' a => by
    cases b with
    | true => exact ⟨F', e, a.ok, q⟩
    | false => exact ⟨F', e, a.ok, q⟩) q⟩
/-- raise C('..') -/
def sRaise (C : Addr) (r : RX) : RS := fun _ env => r C env
theorem sx_raise {C : Addr} (hc : X.calm = true) (hm : PMk X e (fun _ H Q => Q (.ref C) none H)) : SX X (.Raise (some e) none pos) (sRaise C) where
  mono := fun r r' D D' env lr l q => lr _ _ q
  ps := fun G F0 => PS_imp (ps_raise hc (takes_WI (X := X)) hm) fun D σ H ⟨F, env, k, q⟩ => q σ F H k
end
/-! ### expressions that may raise -/
structure EX (X : Cx) (e : Expr) (m : RX → RE) : Prop where
  mono : ∀ r r' env (Q Q' : D → En → Prop), RX.le r r' → (∀ d e, Q d e → Q' d e) → m r env Q → m r' env Q'
  pe : ∀ G F0, PE X e (tM X.K G F0 (m (rxOf X G F0)))
section
variable {X : Cx} {e : Expr} {m : RX → RE} {n : RE} {pos : Pos}
theorem EE.x (h : EE X e n) : EX X e (fun _ => n) := ⟨fun r r' env Q Q' _ i q => h.mono env Q Q' i q, fun G F0 => h.pe G F0⟩
theorem sx_ret (h : EX X e m) : SX X (.Return (some e) pos) (fun r => sRet (m r)) where
  mono := fun r r' D D' env lr l q => h.mono _ _ _ _ _ lr (fun d e q => l.rt _ q) q
  ps := fun G F0 => PS_imp (ps_ret (h.pe G F0)) fun D σ H ⟨F, env, k, q⟩ => ⟨F, env, k, h.mono _ _ _ _ _ RX.le.rfl' (fun d e q v F' H' a r => q v F' H' a.ok.toExt r) q⟩
theorem sx_set {i : Nat} {x : Str} {pos' : Pos} (hN : X.N.Nodup) (hi : X.N[i]? = some x) (hx : Loc X.env.scope x) (he : EX X e m) (hs : swapsWith e (some (.Name x pos')) pos.line X.env = pure false := by rfl)
    (hf : X.fn x = true ∨ X.env.scope.names.lookup x = some .local := by first | exact .inl rfl | exact .inr rfl | assumption) : SX X (.Assign [.Name x pos'] e pos) (fun r => sSet i (m r)) where
  mono := fun r r' D D' env lr l q => he.mono _ _ _ _ _ lr (fun d e q => l.nx _ q) q
  ps := fun G F0 => PS_imp (ps_set hN hi hx (he.pe G F0) hs hf) fun D σ H ⟨F, env, k, q⟩ => ⟨F, env, k, he.mono _ _ _ _ _ RX.le.rfl' (fun d e q v F' H' a r => by
    rw [es_eq] at q
    exact q _ F' H' (a.ok.setV i r)) q⟩
theorem sx_expr (he : EX X e m) (hs : swapsWith e none pos.line X.env = pure false := by rfl) : SX X (.Expr e pos) (fun r => sExpr (m r)) where
  mono := fun r r' D D' env lr l q => he.mono _ _ _ _ _ lr (fun d e q => l.nx _ q) q
  ps := fun G F0 => PS_imp (ps_expr (he.pe G F0) hs) fun D σ H ⟨F, env, k, q⟩ => ⟨F, env, k, he.mono _ _ _ _ _ RX.le.rfl' (fun d e q v F' H' a r => q _ F' H' a.ok) q⟩
end
/-! ### defs that may raise -/
abbrev SpecX := List D → (D → Prop) → (Addr → Prop) → Prop
def MonoX (sp : SpecX) : Prop := ∀ ds (Q Q' : D → Prop) (R R' : Addr → Prop), (∀ d, Q d → Q' d) → (∀ C, R C → R' C) → sp ds Q R → sp ds Q' R'
def WantsX (F H : Hp) (E : XK) (C : Addr) : Prop := ∀ F' H', Ext F H F' H' → E (.ref C) none H'
def spX (K : PySem.W.Frag) (n : Nat) (spec : SpecX) : Sp := fun vs H Q E => vs.length = n ∧ ∃ F ds, Same F H ∧ Reps K F vs ds ∧ spec ds (Wants K F H Q) (WantsX F H E)
def runX (n : Nat) (m : RX → RS) : SpecX := fun ds Q R => m (fun C _ => R C) { nx := fun _ => Q .non, rt := Q } (startD n ds)
theorem runX_mono {n : Nat} {m : RX → RS} (h : ∀ r r' D D' env, RX.le r r' → DE.le D D' → m r D env → m r' D' env) : MonoX (runX n m) := fun ds Q Q' R R' i j q =>
  h _ _ { nx := fun _ => Q .non, rt := Q } _ _ (fun C _ q => j C q) ⟨fun _ q => i _ q, fun _ q => i _ q, fun _ q => q, fun _ q => q⟩ q
section
variable {P : Program} {w : World} {K : PySem.W.Frag} {mg : Str → Option Value} {base : PySem.Heap}
theorem fn_okX {x qual : Str} {st : Stmt} {f : Addr} {fd : FuncData} {N ps : List Str} {k : Nat} {m : RX → RS} (F : Fun K x qual st f fd) (S : FnScope N ps (defScope st))
    (hm : ∀ (cdv : Value) (A : Around) (outer : List PySem.Env) (s : Shared) (H : Hp) (E : XK), Room k (A.deeper (envOfC qual (defScope st) s.heap.objs.size f cdv)) → SXs (cxOf (L2.CX P w) P w K mg base N qual (defScope st) f cdv A outer s H E) (defBody st) m) :
    FnOk P w K mg base (L2.CX P w) (k + 1) f fd ps (spX K ps.length (runX N.length m)) :=
  F.okX S (fun vs H Q E h => h.1) fun cdv A outer s H vs Q E hr ⟨hl, F', ds, hF, r, q⟩ => by
    have M := hm cdv A outer s H E hr
    refine ⟨_, M.ps H F', F', startD N.length ds, start_ok hF r ?_, ?_⟩
    · rw [hl]
      have := congrArg List.length S.pre
      rw [List.length_take] at this
      omega
    · exact M.mono _ _ { nx := fun _ => Wants K F' H Q .non, rt := Wants K F' H Q } _ _ (fun C env qx σ F1 H1 k1 => WI_of (takes_of rfl rfl rfl rfl) (qx F1 H1 k1.toExt)) ⟨fun e q σ F1 H1 k => q .non F1 H1 k.toExt .non, fun d q v F1 H1 x1 r1 => q v F1 H1 x1 r1, fun _ q => q.elim, fun _ q => q.elim⟩ q
end
/-! ### calls that may raise -/
structure CalX (P : Program) (w : World) (K : PySem.W.Frag) (mg : Str → Option Value) (base : PySem.Heap) (x : Str) (k n : Nat) (spec : SpecX) : Prop where
  mono : MonoX spec
  ex : ∃ (f : Addr) (fd : FuncData) (ps : List Str), ps.length = n ∧ FnOk P w K mg base (L2.CX P w) k f fd ps (spX K n spec) ∧ mg x = some (.ref f) ∧ PySem.W.keepIn K (.ref f) = true ∧ Binds K fd ps []
def rUserX (spec : SpecX) (n : Nat) (m : RN) (r : RX) : RE := fun env Q => m env fun ds e => ds.length = n ∧ spec ds (fun d => Q d e) (fun C => r C e)
section
variable {X : Cx} {x : Str} {k n : Nat} {spec : SpecX} {p pos : Pos} {e : Expr} {es : List Expr} {m : RN}
theorem ex_call (c : CalX X.prog X.w X.K X.mg X.base x k n spec) (hr : Room k X.A) (hg : Gl X x) (ha : EA X (e :: es) m) (hdb : (x == ("__debug__" : Str)) = false := by decide)
    (he : starEach (e :: es) X.env = (false, eval e X.env) :: starEach es X.env := by rfl) (hpl : (backTo pos (starEach es X.env)).any (·.1) = false := by rfl) : EX X (.Call (.Name x p) (e :: es) [] pos) (rUserX spec n m) where
  mono := fun r r' env Q Q' lr i q => ha.mono _ _ _ (fun ds e q => ⟨q.1, c.mono _ _ _ _ _ (fun d q => i _ _ q) (fun C q => lr _ _ q) q.2⟩) q
  pe := fun G F0 => by
    obtain ⟨f, fd, ps, hn, F, hm, hk, hb⟩ := c.ex
    refine PE_imp (pe_callS F hr hg hm hk hb (fun σ => passAt (takes_WI (X := X)) σ) (ha.pe G F0) hdb he hpl) fun σ H Q ⟨F, env, k, q⟩ => ⟨F, env, k, ha.mono _ _ _ (fun ds e q vs F1 H1 a1 r1 => ?_) q⟩
    refine ⟨by rw [r1.length]; exact q.1, F1, ds, a1.ok.fh, r1, c.mono _ _ _ _ _ (fun d q v F2 H2 x2 r2 => q v F2 H2 (a1.ext x2) r2) (fun C qx F2 H2 x2 => qx σ F2 H2 (a1.ok.ext x2)) q.2⟩
end
end DL

namespace DL
open PySem PySem.Spec PyProof.Rows L2

/-! ### keywords -/
theorem PK_imp {X : Cx} {kws : List Keyword} {t t' : TA} (h : PK X kws t) (i : ∀ σ H Q, t' σ H Q → t σ H Q) : PK X kws t' := ⟨fun pos pins s σ H Q I q => h.run pos pins s σ H Q I (i σ H Q q)⟩
structure EK (X : Cx) (kws : List Keyword) (m : RN) : Prop where
  mono : MonoQ m
  pk : ∀ G F0, PK X kws (tAr X.K G F0 m)
section
variable {X : Cx} {e : Expr} {kws : List Keyword} {ma : RE} {mr : RN} {nm : Option Str} {kpos : Pos}
theorem ek_nil : EK X [] rNil := ⟨rNil_mono, fun G F0 => PK_imp pk_nil fun σ H Q ⟨F, env, k, q⟩ => q [] F H (Af.refl k) .nil⟩
theorem ek_cons (ha : EE X e ma) (hr : EK X kws mr) : EK X (⟨nm, e, kpos⟩ :: kws) (rCons ma mr) where
  mono := rCons_mono ha.mono hr.mono
  pk := fun G F0 => PK_imp (pk_cons (ha.pe G F0) (hr.pk G F0)) fun σ H Q ⟨F, env, k, q⟩ => ⟨F, env, k, ha.mono _ _ _ (fun d e q v F1 H1 a1 r1 =>
    ⟨F1, e, a1.ok, hr.mono _ _ _ (fun ds e' q vs F2 H2 a2 r2 => q (v :: vs) F2 H2 (a1.trans a2) (.cons (r1.mono a2.fF) r2)) q⟩) q⟩
end
/-! ### __init__ that may raise -/
def mkX (c : Addr) (fs : List Str) (n : Nat) (m : RX → RS) : SpecX := fun ds Q R => ∀ p, m (fun C _ => R C) { nx := fun e => qObj (eg e 0) fun p' C ns xs => p' = p ∧ C = c ∧ ns = fs ∧ Q (.ins c fs xs), rt := fun _ => False } (.own (.o p c [] []) :: (ds.map Sl.v ++ List.replicate (n - 1 - ds.length) Sl.un))
def MonoR (m : RX → RS) : Prop := ∀ r r' D D' env, RX.le r r' → DE.le D D' → m r D env → m r' D' env
theorem mkX_mono {c : Addr} {fs : List Str} {n : Nat} {m : RX → RS} (h : MonoR m) : MonoX (mkX c fs n m) := fun ds Q Q' R R' i j q p =>
  h _ _ { nx := fun e => qObj (eg e 0) fun p' C ns xs => p' = p ∧ C = c ∧ ns = fs ∧ Q (.ins c fs xs), rt := fun _ => False } _ _ (fun C _ q => j C q) ⟨fun e q => qObj_mono (fun p' C ns xs q => ⟨q.1, q.2.1, q.2.2.1, i _ q.2.2.2⟩) q, fun _ q => q, fun _ q => q, fun _ q => q⟩ (q p)
theorem mkX_ins {c : Addr} {fs : List Str} {n : Nat} {m : RX → RS} (h : MonoR m) (ds : List D) (Q : D → Prop) (R : Addr → Prop) (q : mkX c fs n m ds Q R) : mkX c fs n m ds (fun d => (∃ xs, d = .ins c fs xs) ∧ Q d) R := fun p =>
  h _ _ { nx := fun e => qObj (eg e 0) fun p' C ns xs => p' = p ∧ C = c ∧ ns = fs ∧ Q (.ins c fs xs), rt := fun _ => False } _ _ (fun C _ q => q) ⟨fun e q => qObj_mono (fun p' C ns xs q => ⟨q.1, q.2.1, q.2.2.1, ⟨xs, rfl⟩, q.2.2.2⟩) q, fun _ q => q, fun _ q => q, fun _ q => q⟩ (q p)
def spIX (K : PySem.W.Frag) (c : Addr) (fs : List Str) (n : Nat) (spec : SpecX) : Sp := fun vs H Q E => ∃ p dx rest, vs = .ref p :: rest ∧ rest.length = n ∧ H p = some (.ins c dx []) ∧ ∃ F ds, F p = none ∧ Same F H ∧ Reps K F rest ds ∧
  spec ds (fun d => ∀ xs, d = .ins c fs xs → ∀ F' H' dx' (vfs : List (Str × V)), Same F F' → (∀ a o, a ≠ p → H a = some o → H' a = some o) → Same F' H' → F' p = none → (∀ a, a ≠ p → H a ≠ none → F' a = F a) →
    H' p = some (.ins c dx' vfs) → vfs.map (·.1) = fs → Reps K F' (vfs.map (·.2)) xs → Q .non H')
    (fun C => ∀ F' H', Same F F' → (∀ a o, a ≠ p → H a = some o → H' a = some o) → Same F' H' → (∀ a, a ≠ p → H a ≠ none → F' a = F a) → E (.ref C) none H')
section
variable {P : Program} {w : World} {K : PySem.W.Frag} {mg : Str → Option Value} {base : PySem.Heap}
theorem init_okX {x qual : Str} {st : Stmt} {f c : Addr} {fd : FuncData} {N ps fs : List Str} {k : Nat} {m : RX → RS} (F : Fun K x qual st f fd) (S : FnScope N ("self" :: ps) (defScope st))
    (hm : ∀ (cdv : Value) (A : Around) (outer : List PySem.Env) (s : Shared) (H : Hp) (E : XK), Room k (A.deeper (envOfC qual (defScope st) s.heap.objs.size f cdv)) → SXs (cxOf (L2.CX P w) P w K mg base N qual (defScope st) f cdv A outer s H E) (defBody st) m) :
    FnOk P w K mg base (L2.CX P w) (k + 1) f fd ("self" :: ps) (spIX K c fs ps.length (mkX c fs N.length m)) :=
  F.okX S (fun vs H Q E ⟨p, dx, rest, e, hl, _⟩ => by rw [e, List.length_cons, List.length_cons, hl]) fun cdv A outer s H vs Q E hr ⟨p, dx, rest, ev, hl, hp, F', ds, hF, hs, r, q⟩ => by
    subst ev
    have M := hm cdv A outer s H E hr
    refine ⟨_, M.ps (delH H p) F', F', .own (.o p c [] []) :: (ds.map Sl.v ++ List.replicate (N.length - 1 - ds.length) Sl.un), startO_ok hs hF hp r ?_, ?_⟩
    · rw [hl]
      have := congrArg List.length S.pre
      rw [List.length_take, List.length_cons] at this
      omega
    · refine M.mono _ _ { nx := fun e => qObj (eg e 0) fun p' C ns xs => p' = p ∧ C = c ∧ ns = fs ∧ ∀ ys, D.ins c fs xs = .ins c fs ys → ∀ F1 H' dx' (vfs : List (Str × V)), Same F' F1 → (∀ a o, a ≠ p → H a = some o → H' a = some o) → Same F1 H' → F1 p = none → (∀ a, a ≠ p → H a ≠ none → F1 a = F' a) → H' p = some (.ins c dx' vfs) → vfs.map (·.1) = fs → Reps K F1 (vfs.map (·.2)) ys → Q .non H', rt := fun _ => False } _ _
        (fun C env qx σ F1 H1 k1 => WI_of (takes_of rfl rfl rfl rfl) (qx F1 H1 k1.ff (fun b o hb e => k1.gh _ _ (by rw [delH_ne hb]; exact e)) k1.fh (fun b hb n => k1.nw b (by rw [delH_ne hb]; exact n)))) ⟨fun e q σ F1 H1 k => ?_, fun _ q => q.elim, fun _ q => q.elim, fun _ q => q.elim⟩ (q p)
      obtain ⟨p', C, ns, xs, g, rfl, rfl, rfl, q⟩ := qObj_get q
      obtain ⟨a, ho, ea, hF1, hH1, ro⟩ := k.sl 0 _ g
      obtain ⟨dx', vfs, rfl, rfl, e1, e2⟩ := ro.ins
      refine q xs rfl F1 H1 dx' vfs k.ff (fun b o hb e => k.gh _ _ (by rw [delH_ne hb]; exact e)) k.fh hF1 (fun b hb n => k.nw b (by rw [delH_ne hb]; exact n)) hH1 e1 e2
end
end DL

namespace DL
open PySem PySem.Spec PyProof.Rows L2

/-! ### what is never reached -/
def sNo : RS := fun _ _ => False
def rNo : RE := fun _ _ => False
theorem ss_no {X : Cx} {st : Stmt} : SS X st sNo := ⟨fun _ _ _ _ q => q, fun G F0 => ⟨fun pins s σ H D I q => by obtain ⟨F, env, k, q⟩ := q; exact q.elim⟩⟩
theorem ee_no {X : Cx} {e : Expr} : EE X e rNo := ⟨fun _ _ _ _ q => q, fun G F0 => ⟨fun pins s σ H Q I q => by obtain ⟨F, env, k, q⟩ := q; exact q.elim⟩⟩

/-! ### x in xs -/
def asStrs : List D → Option (List Str)
  | [] => some []
  | .str i :: r => (asStrs r).map (i :: ·)
  | _ :: _ => none
theorem asStrs_eq : ∀ {ds : List D} {ns : List Str}, asStrs ds = some ns → ds = ns.map D.str
  | [], ns, h => by cases h; rfl
  | d :: r, ns, h => by
    cases d <;> simp only [asStrs, Option.map_eq_some_iff] at h <;> try cases h
    rename_i i w hw
    obtain ⟨e1, e2⟩ := hw
    subst e2
    rw [asStrs_eq e1]; rfl
@[simp] theorem asStrs_map : ∀ ns : List Str, asStrs (ns.map D.str) = some ns
  | [] => rfl
  | n :: ns => by simp [asStrs, asStrs_map ns]
theorem Reps.strs {K : PySem.W.Frag} {F : Hp} : ∀ {vs : List V} {ns : List Str}, Reps K F vs (ns.map D.str) → vs = ns.map V.str
  | [], [], _ => rfl
  | [], _ :: _, h => by cases h
  | v :: vs, [], h => by cases h
  | v :: vs, n :: ns, h => by
    cases h with | cons r t => cases r; rw [Reps.strs t]; rfl
def dInXs (neg : Bool) (d : D) (xs : List D) (Q : D → Prop) : Prop := match d with
  | .int i => ∃ ns, asInts xs = some ns ∧ Q (.bl (if neg then !ns.contains i else ns.contains i))
  | .str z => ∃ ns, asStrs xs = some ns ∧ Q (.bl (if neg then !ns.contains z else ns.contains z))
  | _ => False
def dIn (neg : Bool) : Op2 := fun d e Q => match e with
  | .tup xs => dInXs neg d xs Q
  | .lst xs => dInXs neg d xs Q
  | .str z => match d with
    | .str y => ∃ c, y = ⟨#[c]⟩ ∧ Q (.bl (if neg then !decide (c ∈ z.cps.toList) else decide (c ∈ z.cps.toList)))
    | _ => False
  | _ => False
theorem dInXs_mono {neg : Bool} {d : D} {xs : List D} {Q Q' : D → Prop} (i : ∀ x, Q x → Q' x) (q : dInXs neg d xs Q) : dInXs neg d xs Q' := by
  cases d <;> first | exact q | (obtain ⟨ns, h1, h2⟩ := q; exact ⟨ns, h1, i _ h2⟩)
theorem dIn_mono {neg : Bool} : Mono2 (dIn neg) := fun d e Q Q' i q => by
  cases e <;> first | exact dInXs_mono i q | exact q | skip
  cases d <;> first | exact q | (obtain ⟨c, h1, h2⟩ := q; exact ⟨c, h1, i _ h2⟩)
theorem inV_ints {i : Int} : ∀ {ns : List Int}, inV (.int i) (ns.map V.int) = ns.contains i
  | [] => rfl
  | n :: ns => by
    have h := inV_ints (i := i) (ns := ns)
    unfold inV at h ⊢
    rw [List.map_cons, List.any_cons, h, List.contains_cons]
    show ((n == i) || _) = _
    rw [show (n == i) = (i == n) from Bool.eq_iff_iff.mpr ⟨fun h => by simpa using (eq_of_beq h).symm, fun h => by simpa using (eq_of_beq h).symm⟩]
theorem inV_strs {i : Str} : ∀ {ns : List Str}, inV (.str i) (ns.map V.str) = ns.contains i
  | [] => rfl
  | n :: ns => by
    have h := inV_strs (i := i) (ns := ns)
    unfold inV at h ⊢
    rw [List.map_cons, List.any_cons, h, List.contains_cons]
    show ((n == i) || _) = _
    rw [show (n == i) = (i == n) from Bool.eq_iff_iff.mpr ⟨fun h => by simpa using (eq_of_beq h).symm, fun h => by simpa using (eq_of_beq h).symm⟩]
theorem flat_ints : ∀ ns : List Int, (ns.map V.int).all flatV = true
  | [] => rfl
  | n :: ns => by rw [List.map_cons, List.all_cons, flat_ints ns]; rfl
theorem flat_strs : ∀ ns : List Str, (ns.map V.str).all flatV = true
  | [] => rfl
  | n :: ns => by rw [List.map_cons, List.all_cons, flat_strs ns]; rfl
section
variable {X : Cx}
theorem rIn_of {K : PySem.W.Frag} {F H : Hp} {neg : Bool} {x : V} {d : D} {a : Addr} {vs : List V} {xs : List D} {Q : VK} (hf : Same F H) (hq : SqL K H a vs ∨ SqT K H a vs) (rx : BRep K F H x d) (r : Reps K F vs xs) (q : dInXs neg d xs (Wants K F H Q)) : rIn K neg x (.ref a) H Q := by
  cases d with
  | int i =>
    obtain ⟨ns, h1, h2⟩ := q
    rw [asInts_eq h1] at r
    rw [r.ints] at hq
    rw [rx.int]
    refine ⟨a, _, rfl, hq, rfl, flat_ints ns, ?_⟩
    rw [inV_ints]; exact h2.bl hf
  | str i =>
    obtain ⟨ns, h1, h2⟩ := q
    rw [asStrs_eq h1] at r
    rw [r.strs] at hq
    rw [rx.str]
    refine ⟨a, _, rfl, hq, rfl, flat_strs ns, ?_⟩
    rw [inV_strs]; exact h2.bl hf
  | _ => exact q.elim
theorem or_in : OpR X (compareOp .In) (rD2 X.K (dIn false)) := fun pins s σ H x y u v Q I rx ry ⟨F, d, e, hf, r1, r2, q⟩ => by
  cases e with
  | tup xs =>
    obtain ⟨a, vs, rfl, h, rs, _⟩ := r2.tup hf
    exact op_in_seq pins s σ H x _ u v Q I rx ry (rIn_of hf (.inr h) r1 rs q)
  | lst xs =>
    obtain ⟨a, vs, rfl, h, rs⟩ := r2.lst hf
    exact op_in_seq pins s σ H x _ u v Q I rx ry (rIn_of hf (.inl (.of h)) r1 rs q)
  | str z =>
    cases d with
    | str y' =>
      obtain ⟨c, rfl, q⟩ := q
      have e2 := r2.str; have e1 := r1.str
      exact op_in_sign pins s σ H x y u v Q I rx ry ⟨c, z, e1, e2, q.bl hf⟩
    | _ => exact q.elim
  | _ => exact q.elim
theorem or_notin : OpR X (compareOp .NotIn) (rD2 X.K (dIn true)) := fun pins s σ H x y u v Q I rx ry ⟨F, d, e, hf, r1, r2, q⟩ => by
  cases e with
  | tup xs =>
    obtain ⟨a, vs, rfl, h, rs, _⟩ := r2.tup hf
    exact op_notIn_seq pins s σ H x _ u v Q I rx ry (rIn_of hf (.inr h) r1 rs q)
  | lst xs =>
    obtain ⟨a, vs, rfl, h, rs⟩ := r2.lst hf
    exact op_notIn_seq pins s σ H x _ u v Q I rx ry (rIn_of hf (.inl (.of h)) r1 rs q)
  | str z =>
    cases d with
    | str y' =>
      obtain ⟨c, rfl, q⟩ := q
      have e2 := r2.str; have e1 := r1.str
      exact op_notIn_sign pins s σ H x y u v Q I rx ry ⟨c, z, e1, e2, q.bl hf⟩
    | _ => exact q.elim
  | _ => exact q.elim
end
theorem nomark_name {x : Str} {p : Pos} {op : CmpOp} : behindInMarks op (.Name x p) = false := rfl

/-! ### chains of three -/
def tChain3 (r r' r'' : R2) (ta tb tc td : TE) : TE := fun σ H Q => ta σ H fun x H1 => tb σ H1 fun y H2 => r x y H2 fun z H3 => ∃ k, z = .bl k ∧
  (if k = true then tc σ H3 fun w' H4 => r' y w' H4 fun z' H5 => ∃ k', z' = .bl k' ∧ (if k' = true then td σ H5 fun u' H6 => r'' w' u' H6 Q else Q (.bl false) H5) else Q (.bl false) H3)
section
variable {X : Cx} {a b c d : Expr} {ta tb tc td : TE} {pos : Pos}
theorem pe_chain3 {op op' op'' : CmpOp} {r r' r'' : R2} (ho : OpR X (compareOp op) r) (ho' : OpR X (compareOp op') r') (ho'' : OpR X (compareOp op'') r'') (ha : PE X a ta) (hb : PE X b tb) (hc : PE X c tc) (hd : PE X d td)
    (hm : lastMarks [op, op', op''] [b, c, d] = false := by with_unfolding_all rfl) : PE X (.Compare a [op, op', op''] [b, c, d] pos) (tChain3 r r' r'' ta tb tc td) := by
  refine ⟨fun pins s σ H Q I h => ?_⟩
  refine Compare_chain (thn (ha.run pins s σ H _ I h) fun v s1 ⟨x, H1, I1, r1, q1⟩ => chain_link (thn (hb.run pins s1 σ H1 _ I1 q1) fun u s2 ⟨y, H2, I2, r2, q2⟩ =>
    thn (ho pins s2 σ H2 x y v u _ I2 r1 r2 q2) fun d s3 ⟨z, H3, I3, r3, k, e, q3⟩ => ?_)) hm
  subst e
  cases r3
  refine wpAny_truthy_bool ?_
  cases k with
  | false => exact ite_ff ⟨.bl false, H3, I3, rfl, q3⟩
  | true =>
    refine ite_tt (chain_link (thn (hc.run pins s3 σ H3 _ I3 q3) fun w' s4 ⟨z', H4, I4, r4, q4⟩ => thn (ho' pins s4 σ H4 y z' u w' _ I4 r2 r4 q4) fun d' s5 ⟨z5, H5, I5, r5, k', e', q5⟩ => ?_))
    subst e'
    cases r5
    refine wpAny_truthy_bool ?_
    cases k' with
    | false => exact ite_ff ⟨.bl false, H5, I5, rfl, q5⟩
    | true => exact ite_tt (chain_last (thn (hd.run pins s5 σ H5 _ I5 q5) fun w6 s6 ⟨z6, H6, I6, r6, q6⟩ => ho'' pins s6 σ H6 z' z6 w' w6 Q I6 r4 r6 q6))
theorem pt_chain3 {op op' op'' : CmpOp} {r r' r'' : R2} (ho : OpR X (compareOp op) r) (ho' : OpR X (compareOp op') r') (ho'' : OpR X (compareOp op'') r'') (ha : PE X a ta) (hb : PE X b tb) (hc : PE X c tc) (hd : PE X d td)
    (hm : lastMarks [op, op', op''] [b, c, d] = false := by with_unfolding_all rfl) : PT X (.Compare a [op, op', op''] [b, c, d] pos) (tTest (tChain3 r r' r'' ta tb tc td)) := by
  refine ⟨fun pins s σ H Q I h => ?_⟩
  refine isTrue_chain (thn (ha.run pins s σ H _ I h) fun v s1 ⟨x, H1, I1, r1, q1⟩ => test_link (thn (hb.run pins s1 σ H1 _ I1 q1) fun u s2 ⟨y, H2, I2, r2, q2⟩ =>
    thn (ho pins s2 σ H2 x y v u _ I2 r1 r2 q2) fun d s3 ⟨z, H3, I3, r3, k, e, q3⟩ => ?_)) hm
  subst e
  cases r3
  refine wpAny_truthy_bool ?_
  cases k with
  | false =>
    obtain ⟨k', e', q'⟩ := q3
    cases e'
    exact ite_ff ⟨H3, I3, q'⟩
  | true =>
    refine ite_tt (test_link (thn (hc.run pins s3 σ H3 _ I3 q3) fun w' s4 ⟨z', H4, I4, r4, q4⟩ => thn (ho' pins s4 σ H4 y z' u w' _ I4 r2 r4 q4) fun d' s5 ⟨z5, H5, I5, r5, k', e', q5⟩ => ?_))
    subst e'
    cases r5
    refine wpAny_truthy_bool ?_
    cases k' with
    | false =>
      obtain ⟨k2, e2, q'⟩ := q5
      cases e2
      exact ite_ff ⟨H5, I5, q'⟩
    | true =>
      refine ite_tt (test_last (thn (hd.run pins s5 σ H5 _ I5 q5) fun w6 s6 ⟨z6, H6, I6, r6, q6⟩ => thn (ho'' pins s6 σ H6 z' z6 w' w6 _ I6 r4 r6 q6) fun d7 s7 ⟨z7, H7, I7, r7, k2, e2, q7⟩ => ?_))
      subst e2
      cases r7
      exact wpAny_truthy_bool ⟨H7, I7, q7⟩
variable {ma mb mc md : RE} {δ δ' δ'' : Op2}
def rChain3 (δ δ' δ'' : Op2) (ma mb mc md : RE) : RE := fun env Q => ma env fun x e1 => mb e1 fun y e2 => δ x y fun d => ∃ k, d = .bl k ∧ (if k = true then mc e2 fun z e3 => δ' y z fun d' => ∃ k', d' = .bl k' ∧ (if k' = true then md e3 fun u e4 => δ'' z u fun d'' => Q d'' e4 else Q (.bl false) e3) else Q (.bl false) e2)
theorem rChain3_mono (hd : Mono2 δ) (hd' : Mono2 δ') (hd'' : Mono2 δ'') (ha : MonoQ ma) (hb : MonoQ mb) (hc : MonoQ mc) (h4 : MonoQ md) : MonoQ (rChain3 δ δ' δ'' ma mb mc md) := fun env Q Q' i q =>
  ha _ _ _ (fun x e1 q => hb _ _ _ (fun y e2 q => hd _ _ _ _ (fun d ⟨k, h1, h2⟩ => ⟨k, h1, by
    cases k with
    | true => exact hc _ _ _ (fun z e3 q => hd' _ _ _ _ (fun d ⟨k', h3, h5⟩ => ⟨k', h3, by
        cases k' with
        | true => exact h4 _ _ _ (fun u e4 q => hd'' _ _ _ _ (fun d q => i _ _ q) q) h5
        | false => exact i _ _ h5⟩) q) h2
    | false => exact i _ _ h2⟩) q) q) q
theorem chain3_core {G F0 : Hp} {σ : L2.St} {H : Hp} {Q : VK} (hd : Mono2 δ) (hd' : Mono2 δ') (hd'' : Mono2 δ'') (ha : EB X a ma) (hb : EB X b mb) (hc : EB X c mc) (h4 : EB X d md) (h : tM X.K G F0 (rChain3 δ δ' δ'' ma mb mc md) σ H Q) :
    tChain3 (rD2 X.K δ) (rD2 X.K δ') (rD2 X.K δ'') (tBo X.K G F0 ma) (tBo X.K G F0 mb) (tBo X.K G F0 mc) (tBo X.K G F0 md) σ H Q := by
  obtain ⟨F, env, k, q⟩ := h
  refine ⟨F, env, k, ha.mono _ _ _ (fun x e1 q v1 F1 H1 a1 r1 => ?_) q⟩
  refine ⟨F1, e1, a1.ok, hb.mono _ _ _ (fun y e2 q v2 F2 H2 a2 r2 => ?_) q⟩
  refine ⟨F2, x, y, a2.ok.fh, r1.ext a2.fF a2.hH, r2, hd _ _ _ _ (fun d ⟨k, h1, h2⟩ v F3 H3 x3 r3 => ?_) q⟩
  subst h1
  cases r3
  refine ⟨k, rfl, ?_⟩
  cases k with
  | false => exact h2 _ F3 H3 ((a1.trans a2).ext x3) (.bl false)
  | true =>
    show tBo X.K G F0 mc σ H3 _
    refine ⟨F3, e2, a2.ok.ext x3, hc.mono _ _ _ (fun z e3 q v4 F4 H4 a4 r4 => ?_) h2⟩
    refine ⟨F4, y, z, a4.ok.fh, (r2.ext x3.fF x3.hH).ext a4.fF a4.hH, r4, hd' _ _ _ _ (fun d ⟨k', h1, h2⟩ v F5 H5 x5 r5 => ?_) q⟩
    subst h1
    cases r5
    refine ⟨k', rfl, ?_⟩
    cases k' with
    | false => exact h2 _ F5 H5 ((((a1.trans a2).ext x3).trans a4).ext x5) (.bl false)
    | true =>
      show tBo X.K G F0 md σ H5 _
      refine ⟨F5, e3, a4.ok.ext x5, h4.mono _ _ _ (fun u e4 q v6 F6 H6 a6 r6 => ?_) h2⟩
      exact ⟨F6, z, u, a6.ok.fh, (r4.ext x5.fF x5.hH).ext a6.fF a6.hH, r6, hd'' _ _ _ _ (fun d q v F7 H7 x7 r7 => q v F7 H7 ((((((a1.trans a2).ext x3).trans a4).ext x5).trans a6).ext x7) r7) q⟩
theorem ee_chain3 {op op' op'' : CmpOp} (ho : OpR X (compareOp op) (rD2 X.K δ)) (ho' : OpR X (compareOp op') (rD2 X.K δ')) (ho'' : OpR X (compareOp op'') (rD2 X.K δ'')) (hd : Mono2 δ) (hd' : Mono2 δ') (hd'' : Mono2 δ'') (ha : EB X a ma) (hb : EB X b mb) (hc : EB X c mc) (h4 : EB X d md)
    (hm : lastMarks [op, op', op''] [b, c, d] = false := by with_unfolding_all rfl) : EE X (.Compare a [op, op', op''] [b, c, d] pos) (rChain3 δ δ' δ'' ma mb mc md) where
  mono := rChain3_mono hd hd' hd'' ha.mono hb.mono hc.mono h4.mono
  pe := fun G F0 => PE_imp (pe_chain3 ho ho' ho'' (ha.pe G F0) (hb.pe G F0) (hc.pe G F0) (h4.pe G F0) hm) fun σ H Q h => chain3_core hd hd' hd'' ha hb hc h4 h
theorem et_chain3 {op op' op'' : CmpOp} (ho : OpR X (compareOp op) (rD2 X.K δ)) (ho' : OpR X (compareOp op') (rD2 X.K δ')) (ho'' : OpR X (compareOp op'') (rD2 X.K δ'')) (hd : Mono2 δ) (hd' : Mono2 δ') (hd'' : Mono2 δ'') (ha : EB X a ma) (hb : EB X b mb) (hc : EB X c mc) (h4 : EB X d md)
    (hm : lastMarks [op, op', op''] [b, c, d] = false := by with_unfolding_all rfl) : ET X (.Compare a [op, op', op''] [b, c, d] pos) (rTest (rChain3 δ δ' δ'' ma mb mc md)) where
  mono := rTest_mono (rChain3_mono hd hd' hd'' ha.mono hb.mono hc.mono h4.mono)
  pe := fun G F0 => PT_imp (pt_chain3 ho ho' ho'' (ha.pe G F0) (hb.pe G F0) (hc.pe G F0) (h4.pe G F0) hm) fun σ H Q h => test_core (rChain3_mono hd hd' hd'' ha.mono hb.mono hc.mono h4.mono) (fun Q h => chain3_core hd hd' hd'' ha hb hc h4 h) h
end

/-! ### x.bit_length(), 1 << k, range with a step -/
section
variable {X : Cx} {o : Expr} {m : RE} {apos pos p : Pos}
def rBits (m : RE) : RE := fun env Q => m env fun d e => match d with
  | .int i => Q (.int (Builtin.Int.intBits i : Nat)) e
  | _ => False
theorem ee_bits (ho : EE X o m) (hbase : attributeBase o "bit_length" X.env (eval o X.env) = eval o X.env := by rfl) (hline : (apos.endLine == pos.line) = true := by rfl) : EE X (.Call (.Attribute o "bit_length" apos) [] [] pos) (rBits m) where
  mono := fun env Q Q' i q => ho.mono _ _ _ (fun d e q => by cases d <;> first | exact i _ _ q | exact q) q
  pe := fun G F0 => PE_imp (pe_bits (ho.pe G F0) hbase hline) fun σ H Q ⟨F, env, k, q⟩ => ⟨F, env, k, ho.mono _ _ _ (fun d e q v F' H' a r => by
    cases r <;> first | exact q.elim | exact ⟨_, rfl, q _ F' H' a (.int _)⟩) q⟩
def dShl : Op2 := fun d e Q => match d, e with
  | .int i, .int j => CShl i j ∧ Q (.int (i * 2 ^ j.toNat))
  | _, _ => False
theorem dShl_mono : Mono2 dShl := fun d e Q Q' i q => by
  unfold dShl at q ⊢
  split at q
  · exact ⟨q.1, i _ q.2⟩
  · exact q
theorem or_shl : OpR X (binaryOp .LShift) (rD2 X.K dShl) := fun pins s σ H x y u v Q I rx ry ⟨F, d, e, hf, r1, r2, q⟩ => by
  unfold dShl at q
  split at q
  · have e1 := r1.int; have e2 := r2.int
    exact op_shlW pins s σ H x y u v Q I rx ry ⟨_, _, e1, e2, q.1, q.2.int hf⟩
  · exact q.elim
/-- i, i + c, .. -/
def rangeC (i c : Int) : Nat → List D
  | 0 => []
  | n + 1 => .int i :: rangeC (i + c) c n
theorem rangeC_get : ∀ (lo c : Int) (n i : Nat), (rangeC lo c n)[i]? = if i < n then some (.int (lo + i * c)) else none
  | lo, c, 0, i => by simp [rangeC]
  | lo, c, n + 1, 0 => by simp [rangeC]
  | lo, c, n + 1, i + 1 => by
    have h := rangeC_get (lo + c) c n i
    simp only [rangeC, List.getElem?_cons_succ, h]
    have e : lo + c + (i : Int) * c = lo + ((i + 1 : Nat) : Int) * c := by push_cast; rw [Int.add_mul]; omega
    rw [e]
    by_cases c : i < n
    · rw [if_pos c, if_pos (by omega)]
    · rw [if_neg c, if_neg (by omega)]
theorem ItOk.rangeC {K : PySem.W.Frag} {F : Hp} {lo c : Int} {n : Nat} : ItOk K F (Itc lo c n) (rangeC lo c n) := fun i F1 H1 s1 s2 => by
  rw [rangeC_get]
  refine ⟨fun d e => ?_, fun e => ?_⟩
  · split at e
    · rename_i hlt
      cases e
      refine ⟨hlt, fun x H2 y => ?_⟩
      obtain ⟨rfl, rfl⟩ := y
      exact ⟨F1, Ext.refl s2, .int _⟩
    · cases e
  · split at e
    · cases e
    · rename_i h; exact Nat.le_of_not_lt h
variable {tg a b c : Expr} {mn : RN}
def iRg3 (m : RN) : RN := fun env Q => m env fun ds e => match ds with
  | [.int i, .int j, .int k] => ∃ n, RgC i j k n ∧ Q (rangeC i k n) e
  | _ => False
theorem ei_range3 (hg : Gl X "range") (hm : X.mg "range" = none) (ha : EA X [a, b, c] mn) (hs : starEach [a, b, c] X.env = (false, eval a X.env) :: starEach [b, c] X.env := by rfl) (hpl : (backTo pos (starEach [b, c] X.env)).any (·.1) = false := by rfl) :
    EI X tg (.Call (.Name "range" p) [a, b, c] [] pos) (iRg3 mn) where
  mono := fun env Q Q' i q => ha.mono _ _ _ (fun ds e q => by
    revert q; split <;> intro q
    · obtain ⟨n, h1, h2⟩ := q; exact ⟨n, h1, i _ _ h2⟩
    · exact q) q
  pi := fun G F0 => PI_imp (pi_range3 hg hm (ha.pe G F0) hs hpl) fun σ H R ⟨F, env, k, q⟩ => ⟨F, env, k, ha.mono _ _ _ (fun ds e q vs F' H' a r => by
    revert q; split <;> intro q
    · obtain ⟨n, h1, q⟩ := q
      cases r with | cons r t => cases t with | cons r' t => cases t with | cons r'' t => cases t; cases r; cases r'; cases r''; exact ⟨_, _, _, n, rfl, h1, q _ F' H' a ItOk.rangeC⟩
    · exact q.elim) q⟩
end

/-! ### C(.., k = v, ..) -/
/-- gd: positional values and keywords' values put in the parameters' order, the lacking ones filled up -/
structure CalMK (P : Program) (w : World) (K : PySem.W.Frag) (mg : Str → Option Value) (base : PySem.Heap) (x : Str) (k : Nat) (c : Addr) (fs : List Str) (n : Nat) (ks : List Str) (gd : List D → List D → List D) (spec : SpecD) : Prop where
  mono : MonoSp spec
  ins : InsK K c fs
  hi : ∀ ds Q, spec ds Q → spec ds fun d => (∃ xs, d = .ins c fs xs) ∧ Q d
  ex : ∃ (f : Addr) (fd : FuncData) (ps : List Str) (g : List Value → List Value → List Value) (gV : List V → List V → List V), FnOk P w K mg base CX0 k f fd ("self" :: ps) (spI K c fs ps.length spec) ∧ Mk K c f ∧ mg x = some (.ref c) ∧ KBn K fd ("self" :: ps) (n + 1) ks g gV ∧
    ∀ (F : Hp) (p : Addr) (vs zs : List V) (ds es : List D), vs.length = n → zs.length = ks.length → Reps K F vs ds → Reps K F zs es → ∃ rest, gV (.ref p :: vs) zs = .ref p :: rest ∧ rest.length = ps.length ∧ Reps K F rest (gd ds es)
def rMakeK (spec : SpecD) (gd : List D → List D → List D) (n kn : Nat) (m mk : RN) : RE := fun env Q => m env fun ds e => mk e fun es e' => ds.length = n ∧ es.length = kn ∧ spec (gd ds es) fun d => Q d e'
section
variable {X : Cx} {x : Str} {k n : Nat} {c : Addr} {fs ks : List Str} {gd : List D → List D → List D} {spec : SpecD} {p pos : Pos} {e : Expr} {es : List Expr} {kws : List Keyword} {m mk : RN}
theorem ee_makeK (cm : CalMK X.prog X.w X.K X.mg X.base x k c fs n ks gd spec) (hr : Room (k + 1) X.A) (hg : Gl X x) (ha : EA X (e :: es) m) (hk : EK X kws mk) {kn : Nat} (hkn : ks.length = kn := by rfl)
    (hall : (backToKw pos (keywordEach kws X.env)).all (·.1.isSome) = true := by rfl) (hks : (backToKw pos (keywordEach kws X.env)).filterMap (·.1) = ks := by rfl) (hdb : (x == ("__debug__" : Str)) = false := by decide)
    (he : starEach (e :: es) X.env = (false, eval e X.env) :: starEach es X.env := by rfl) (hpl : ((backTo pos (starEach (e :: es) X.env)).any (·.1) || (backToKw pos (keywordEach kws X.env)).any (·.1.isNone)) = false := by rfl) : EE X (.Call (.Name x p) (e :: es) kws pos) (rMakeK spec gd n kn m mk) where
  mono := fun env Q Q' i q => ha.mono _ _ _ (fun ds e q => hk.mono _ _ _ (fun es e' q => ⟨q.1, q.2.1, cm.mono _ _ _ (fun d q => i _ _ q) q.2.2⟩) q) q
  pe := fun G F0 => by
    obtain ⟨f, fd, ps, g, gV, F, hM, hm, hb, hgd⟩ := cm.ex
    refine PE_imp (pe_makeK hM F hr hg hm hb pass0 (ha.pe G F0) (hk.pk G F0) hall hks hdb he hpl) fun σ H Q ⟨F, env, k, q⟩ => ⟨F, env, k, ha.mono _ _ _ (fun ds e q vs F1 H1 a1 r1 => ?_) q⟩
    refine ⟨F1, e, a1.ok, hk.mono _ _ _ (fun es e' q zs F2 H2 a2 r2 => ?_) q⟩
    have l1 : vs.length = n := by rw [r1.length]; exact q.1
    have l2 : zs.length = ks.length := by rw [r2.length, hkn]; exact q.2.1
    refine ⟨l1, l2, fun y dx hy hdx hne => ?_⟩
    obtain ⟨rest, e1, e2, r3⟩ := hgd F2 y vs zs ds es l1 l2 (r1.mono a2.fF) r2
    have q2 := cm.hi _ _ q.2.2
    have fy : F2 y = none := a2.ok.fh.at_none hy
    have fd' : F2 dx = none := a2.ok.fh.at_none hdx
    have s2 : Same F2 (upd (upd H2 dx (.own y)) y (.ins c dx [])) := fun b o eb => by
      rw [upd_ne (ne_of_none eb fy), upd_ne (ne_of_none eb fd')]; exact a2.ok.fh _ _ eb
    rw [e1]
    refine ⟨y, dx, rest, rfl, e2, upd_same, F2, _, fy, s2, r3, ?_⟩
    refine cm.mono _ _ _ (fun d ⟨⟨xs, ed⟩, qd⟩ xs' ed' F' H' dx' vfs h1 h2 h3 h4 h5 h6 h7 h8 => ⟨rfl, ?_⟩) q2
    subst ed'
    have old : ∀ b, H2 b ≠ none → b ≠ y ∧ b ≠ dx := fun b hb => ⟨fun z => hb (z ▸ hy), fun z => hb (z ▸ hdx)⟩
    have sF : Same F' (upd F' y (.ins c dx' vfs)) := same_upd h4
    refine qd (.ref y) (upd F' y (.ins c dx' vfs)) H' ((a1.trans a2).ext ⟨h1.trans sF, fun b o eb => ?_, fun b o eb => ?_, fun b hb => ?_⟩) ?_
    · have := old b (by rw [eb]; exact fun z => nomatch z)
      exact h2 b o this.1 (by rw [upd_ne this.1, upd_ne this.2]; exact eb)
    · by_cases hb : b = y
      · subst hb; rw [upd_same] at eb; rw [h6]; exact eb
      · rw [upd_ne hb] at eb; exact h3 _ _ eb
    · have := old b hb
      rw [upd_ne this.1]
      exact h5 b this.1 (by rw [upd_ne this.1, upd_ne this.2]; exact hb)
    · subst h7
      exact .ins cm.ins upd_same (h8.mono sF)
end
/-- all keywords given, in the parameters' order -/
theorem calMK_mk {P : Program} {w : World} {K : PySem.W.Frag} {mg : Str → Option Value} {base : PySem.Heap} {x : Str} {k : Nat} {c : Addr} {fs : List Str} {n : Nat} {ks : List Str} {spec : SpecD} (h1 : MonoSp spec) (h2 : InsK K c fs) (h3 : ∀ ds Q, spec ds Q → spec ds fun d => (∃ xs, d = .ins c fs xs) ∧ Q d)
    {f : Addr} {fd : FuncData} {ps : List Str} (hn : ps.length = n + ks.length) (h4 : FnOk P w K mg base CX0 k f fd ("self" :: ps) (spI K c fs ps.length spec)) (h5 : Mk K c f) (h6 : mg x = some (.ref c))
    (h7 : ∀ (s : Shared) (us ws : List Value), us.length = n + 1 → ws.length = ks.length → BindsTo s fd ⟨us, ks.zip ws⟩ (((("self" : Str) :: ps)).zip (us ++ ws))) : CalMK P w K mg base x k c fs n ks (fun ds es => ds ++ es) spec where
  mono := h1
  ins := h2
  hi := h3
  ex := ⟨f, fd, ps, fun us ws => us ++ ws, fun vs zs => vs ++ zs, h4, h5, h6, ⟨fun s us ws _ l1 l2 => h7 s us ws l1 l2, fun r1 r2 => r1.append r2⟩, fun F p vs zs ds es l1 l2 r1 r2 => ⟨vs ++ zs, rfl, by rw [List.length_append, l1, l2, hn], r1.append r2⟩⟩
/-- the last ones lack, their defaults stand in the dict Dk -/
theorem calMK_mk0 {P : Program} {w : World} {K : PySem.W.Frag} {mg : Str → Option Value} {base : PySem.Heap} {x xf qual : Str} {k : Nat} {c : Addr} {fs : List Str} {n : Nat} {ks : List Str} {spec : SpecD} (h1 : MonoSp spec) (h2 : InsK K c fs) (h3 : ∀ ds Q, spec ds Q → spec ds fun d => (∃ xs, d = .ins c fs xs) ∧ Q d)
    {f : Addr} {fd : FuncData} {ps : List Str} {params : Arguments} {body : List Stmt} {scope : Scope} {ms : List (Str × V)} {md : List D} (hms : ms ≠ []) (hmd : ∀ F, Reps K F (ms.map (·.2)) md) (hn : ps.length = n + ks.length + ms.length) (h4 : FnOk P w K mg base CX0 k f fd ("self" :: ps) (spI K c fs ps.length spec)) (h5 : Mk K c f) (h6 : mg x = some (.ref c))
    (FD : FunD K xf qual params body scope [] ms f fd)
    (h7 : ∀ (D : Addr) (doc pm : Value) (an : Option Addr) (cdv ct : Value) (us mv ws : List Value), us.length = n + 1 → mv.length = ms.length → ws.length = ks.length →
      KwChain D ((ms.map (·.1)).zip mv) (bindArgs (PySem.W.fnOf xf qual params body scope .none (.ref D) doc pm an cdv ct) ⟨us, ks.zip ws⟩) (((("self" : Str) :: ps)).zip (us ++ ws ++ mv))) : CalMK P w K mg base x k c fs n ks (fun ds es => ds ++ es ++ md) spec where
  mono := h1
  ins := h2
  hi := h3
  ex := by
    obtain ⟨mv, kb⟩ := FD.kbinds0 (ps := "self" :: ps) (n + 1) ks ms (fun us mv ws => us ++ ws ++ mv) hms (fun q h => h) (fun r1 r2 r3 => (r1.append r3).append r2) h7
    exact ⟨f, fd, ps, _, _, h4, h5, h6, kb, fun F p vs zs ds es l1 l2 r1 r2 => ⟨vs ++ zs ++ ms.map (·.2), rfl, by rw [List.length_append, List.length_append, l1, l2, List.length_map, hn], (r1.append r2).append (hmd F)⟩⟩
end DL
namespace DL
open PySem PySem.Spec PyProof.Rows L2
/-! ### attributes of written instances -/
theorem fld_ne {n f : Str} {ns : List Str} {x : D} {xs : List D} (h : (f == n) = false) : fldD (n :: ns) (x :: xs) f = fldD ns xs f := by
  show (if (f == n) = true then _ else _) = _
  rw [if_neg (by rw [h]; decide)]
theorem fld_eq {f : Str} {ns : List Str} {x : D} {xs : List D} : fldD (f :: ns) (x :: xs) f = some x := by
  show (if (f == f) = true then _ else _) = _
  rw [if_pos (by simp)]
theorem q_of {C : Addr} {ns : List Str} {xs : List D} {f : Str} {x : D} {Q : D → Prop} (e : fldD ns xs f = some x) : qFld (.ins C ns xs) f Q = Q x := by
  refine propext ⟨fun ⟨z, h, q⟩ => ?_, fun q => ⟨x, e, q⟩⟩
  rw [e] at h; cases h; exact q
theorem and_t {p q : Prop} (h : p) : (p ∧ q) = q := propext ⟨fun x => x.2, fun x => ⟨h, x⟩⟩
end DL

namespace DL
open PySem PySem.Spec PyProof.Rows L2

/-! ### x in NAME, a dict of the module with text keys -/
structure DictK (K : PySem.W.Frag) (w : World) (mg : Str → Option Value) (x : Str) (ks : List Str) : Prop where
  ex : ∃ d es n, mg x = some (.ref d) ∧ KDict K w d es n ∧ ∀ z ∈ ks, ∃ u, PySem.W.nsIn K d z = some (some u)
def rInK (ks : List Str) (m : RE) : RE := fun env Q => m env fun d e => ∃ z, d = .str z ∧ z ∈ ks ∧ Q (.bl true) e
theorem rInK_mono {ks : List Str} {m : RE} (h : MonoQ m) : MonoQ (rInK ks m) := fun env Q Q' i q => h _ _ _ (fun d e ⟨z, h1, h2, q⟩ => ⟨z, h1, h2, i _ _ q⟩) q
section
variable {X : Cx} {a : Expr} {x : Str} {ks : List Str} {m : RE} {p pos : Pos}
theorem inK_core {G F0 : Hp} {σ : L2.St} {H : Hp} {Q : VK} {d : Addr} (hks : ∀ z ∈ ks, ∃ u, PySem.W.nsIn X.K d z = some (some u)) (ha : EB X a m) (h : tM X.K G F0 (rInK ks m) σ H Q) :
    tOp (fun x y H Q => ∃ (z : Str) (r : Option Value), x = .str z ∧ y = .ref d ∧ PySem.W.nsIn X.K d z = some r ∧ Q (.bl r.isSome) H) (tBo X.K G F0 m) (tC (.ref d)) σ H Q := by
  obtain ⟨F, env, k, q⟩ := h
  refine ⟨F, env, k, ha.mono _ _ _ (fun y e ⟨z, h1, h2, q⟩ v F1 H1 a1 r1 => ?_) q⟩
  subst h1
  obtain ⟨u, hu⟩ := hks z h2
  exact ⟨z, some u, r1.str, rfl, hu, q _ F1 H1 a1 (.bl true)⟩
theorem ee_inK (P : DictK X.K X.w X.mg x ks) (hg : Gl X x) (ha : EB X a m) (hd : (x == ("__debug__" : Str)) = false := by decide) : EE X (.Compare a [.In] [.Name x p] pos) (rInK ks m) where
  mono := rInK_mono ha.mono
  pe := fun G F0 => by
    obtain ⟨d, es, n, hm, D, hks⟩ := P.ex
    exact PE_imp (pe_cmpR (op_in_kd D) (ha.pe G F0) (pe_glob (v := .ref d) hg hm rfl hd) rfl) fun σ H Q h => inK_core hks ha h
theorem et_inK (P : DictK X.K X.w X.mg x ks) (hg : Gl X x) (ha : EB X a m) (hd : (x == ("__debug__" : Str)) = false := by decide) : ET X (.Compare a [.In] [.Name x p] pos) (rTest (rInK ks m)) where
  mono := rTest_mono (rInK_mono ha.mono)
  pe := fun G F0 => by
    obtain ⟨d, es, n, hm, D, hks⟩ := P.ex
    exact PT_imp (pt_cmpR (op_in_kd D) (ha.pe G F0) (pe_glob (v := .ref d) hg hm rfl hd) rfl) fun σ H Q h => test_core (rInK_mono ha.mono) (fun Q h => inK_core hks ha h) h
end
end DL

namespace DL
open PySem PySem.Spec PyProof.Rows L2

/-! ### int(text), str(number) -/
def nInt2 : OpN := fun ds Q => match ds with
  | [.str a] => ∃ n, PySem.intText? a = some n ∧ a.length ≤ 640 ∧ Q (.int n)
  | _ => False
theorem nInt2_mono : MonoN nInt2 := by
  unfold nInt2; intro ds Q Q' i q
  split at q
  · obtain ⟨n, h1, h2, h3⟩ := q; exact ⟨n, h1, h2, i _ h3⟩
  · exact q
def nStrI : OpN := fun ds Q => match ds with
  | [.int i] => i.natAbs.log2 < 1920 ∧ Q (.str (toString i))
  | _ => False
theorem nStrI_mono : MonoN nStrI := by
  unfold nStrI; intro ds Q Q' i q
  split at q
  · exact ⟨q.1, i _ q.2⟩
  · exact q
section
variable {X : Cx}
theorem cn_int2 : CallR X (.type "int") (rDc X.K nInt2) := fun pins s σ H xs us Q I r ⟨F, ds, hf, r1, q⟩ => by
  unfold nInt2 at q
  split at q
  · obtain ⟨v, rfl, r2⟩ := r1.one
    obtain ⟨n, h1, h2, q⟩ := q
    rw [r2.str] at r
    exact call_int_str pins s σ H _ us Q I r ⟨_, n, rfl, h1, h2, q.int hf⟩
  · exact q.elim
theorem cn_strI : CallR X (.type "str") (rDc X.K nStrI) := fun pins s σ H xs us Q I r ⟨F, ds, hf, r1, q⟩ => by
  unfold nStrI at q
  split at q
  · obtain ⟨v, rfl, r2⟩ := r1.one
    rw [r2.int] at r
    exact call_str_int pins s σ H _ us Q I r ⟨_, rfl, q.1, q.2.str hf⟩
  · exact q.elim
end
end DL

namespace PySem
open Sem (wp)
open AutoSeq1 (wpAny_loadPart')
/-! ### enumerate of a tuple, at the library's level -/
theorem Draws.tupleX {prog : Program} {w : World} {A : Around} (hh : A.handled = none) (it t : Addr) (hne : t ≠ it) (items : Array Value) :
    Draws prog w A it [it, t] items.size (fun i v => items[i]? = some v) (fun i h => h.IsTupleIter it t i ∧ h.IsTuple t items) where
  live := fun _ _ st => let ⟨⟨o, ho, _⟩, _⟩ := st; ⟨o, ho⟩
  frame := fun _ _ _ st hk => ⟨let ⟨o, ho, r⟩ := st.1; ⟨o, hk it (by simp) o ho, r⟩, let ⟨o, ho, r⟩ := st.2; ⟨o, hk t (by simp) o ho, r⟩⟩
  item := fun i s Q E hi st hQ => by
    refine RZ.nextOf_tuple_item st.1 st.2 (x := items[i]) (Array.getElem?_eq_getElem hi) fun h' hit' hs' => ?_
    exact hQ _ h' s.toks (Array.getElem?_eq_getElem hi) ⟨hit', st.2.extBut hs'.extBut hne⟩ hs'
  done := fun s Q E st hE => RZ.nextOf_tuple_end hh st.1 st.2 (Array.getElem?_eq_none (Nat.le_refl _)) hE
set_option maxHeartbeats 1000000 in
theorem meets_enumerate_newT (l : Addr) (items : Array Value) (n : Nat) (dct : Option Addr) (sl : Array (Option Value)) :
    Meets (Builtin.«enumerate.__new__» ⟨[.type "enumerate", .ref l], []⟩) (fun _ R s => s.heap.get? l = some { cls := .type "tuple", dict := dct, data := .seq items n, slots := sl } ∧
      R (.ok (.ret (.ref (s.heap.push { cls := .type "tuple_iterator", data := .fields #[.ref l, .int 0 0] }).objs.size)))
        { s with heap := (s.heap.push { cls := .type "tuple_iterator", data := .fields #[.ref l, .int 0 0] }).push { cls := .type "enumerate", data := .fields #[.none, .bool false, .ref s.heap.objs.size, rawInt 0, .none, .none] } }) :=
  .of_wp fun prog w A R s h => by
    obtain ⟨hp, g, d, tk, os⟩ := s; obtain ⟨hl, h⟩ := h
    have hsub := sub_enumerate
    have hL : Heap.IsTuple (Shared.heap ⟨hp, g, d, tk, os⟩) l items := ⟨_, hl, rfl, n, rfl⟩
    wp_walk using wpAny_loadPart' hl
    refine wpAny_stack_any fun st => wpAny_pure ?_
    split
    · rename_i c _ _ _ _ _
      cases (c == Value.type "enumerate")
      · wp_walk using wpAny_loadPart' hl, wpAny_pyIter_tuple hL
        exact ⟨_, rfl, h⟩
      · wp_walk using wpAny_loadPart' hl, wpAny_pyIter_tuple hL
        exact ⟨_, rfl, h⟩
    · wp_walk using wpAny_loadPart' hl, wpAny_pyIter_tuple hL
      exact ⟨_, rfl, h⟩
section
variable {prog : Program} {w : World} {A : Around} {E : Value → Shared → Prop} {s : Shared}
theorem call_enumerate_tuple {l : Addr} {items : Array Value} {Q : Value → Shared → Prop} (hL : s.heap.IsTuple l items)
    (h : ∀ h', IsEnum h' (s.heap.objs.size + 1) s.heap.objs.size 0 .none → h'.IsTupleIter s.heap.objs.size l 0 → h'.objs.size = s.heap.objs.size + 2 →
      (∀ b o, s.heap.get? b = some o → h'.get? b = some o) → Q (.ref (s.heap.objs.size + 1)) { s with heap := h' }) :
    wpAny (model prog w) A (call (.type "enumerate") [.ref l]) Q E s := by
  obtain ⟨⟨c, dct, dt, sl⟩, hl, hc, n, hd⟩ := hL
  replace hc : c = .type "tuple" := hc
  replace hd : dt = .seq items n := hd
  subst hc hd
  refine callType_new F.called_enumerate (by decide) (F.typeCall_enumerate_1 _) (F.newCall_enumerate_1 _) (fun obj => F.args_object_init_2 obj _) F.entry_enumerate_new
    (meets_enumerate_newT l items n dct sl) ⟨hl, ?_⟩
  have hz : (s.heap.push { cls := .type "tuple_iterator", data := .fields #[.ref l, .int 0 0] }).objs.size = s.heap.objs.size + 1 := Heap.size_push ..
  show _ ∧ _
  rw [hz]
  have he : IsEnum ((s.heap.push { cls := .type "tuple_iterator", data := .fields #[.ref l, .int 0 0] }).push
      { cls := .type "enumerate", data := .fields #[.none, .bool false, .ref s.heap.objs.size, rawInt 0, .none, .none] }) (s.heap.objs.size + 1) s.heap.objs.size 0 .none := by
    have := Heap.get?_push_size (s.heap.push { cls := .type "tuple_iterator", data := .fields #[.ref l, .int 0 0] })
      (o := { cls := .type "enumerate", data := .fields #[.none, .bool false, .ref s.heap.objs.size, rawInt 0, .none, .none] }) rfl
    rw [hz] at this; exact this
  refine ⟨⟨_, he, rfl⟩, h _ he ⟨_, Heap.get?_push_of_some _ (Heap.get?_push_size _ rfl), rfl, rfl⟩ (by rw [Heap.size_push, hz]) fun b o x => Heap.get?_push_of_some _ (Heap.get?_push_of_some _ x)⟩
end
end PySem
namespace DL
open PySem PySem.Spec PyProof.Rows L2
/-- the tuple at a, each item in a new pair -/
def IteT (K : PySem.W.Frag) (a : Addr) : It :=
  ⟨fun i H => ∃ (xs : List V) (x : V), SqT K H a xs ∧ xs[i]? = some x, fun i H v H' => ∃ T x, v = .ref T ∧ H T = none ∧ H' = upd H T (.tup [.int (i : Nat), x]) ∧ ∀ xs, SqT K H a xs → xs[i]? = some x, fun i H => ∃ xs : List V, SqT K H a xs ∧ xs.length ≤ i⟩
theorem tit_ne {h : Heap} {it a : Addr} {i : Nat} {items : Array Value} (hit : h.IsTupleIter it a i) (ht : h.IsTuple a items) : a ≠ it := fun e => by
  subst e
  obtain ⟨o, ho, hc, _⟩ := hit
  obtain ⟨o', ho', hc', _⟩ := ht
  have z : o = o' := Option.some.inj (ho.symm.trans ho')
  subst z
  rw [hc] at hc'
  exact absurd (Value.type.inj hc') (by decide +kernel)
theorem en_ne {h : Heap} {e it a : Addr} {i : Int} {old : Value} {items : Array Value} (he : IsEnum h e it i old) (ht : h.IsTuple a items) : e ≠ a := fun z => by
  subst z
  obtain ⟨o', ho', hc', _⟩ := ht
  have z := Option.some.inj (he.symm.trans ho')
  subst z
  exact absurd (Value.type.inj hc') (by decide +kernel)
theorem turn_enumT {P : Program} {w : World} {K : PySem.W.Frag} {elts : List Expr} {kk : Nat} {tpos : Pos} (a e it : Addr) :
    Turn P w K (.Tuple elts kk tpos) (IteT K a) [e, it] e (fun i h => (∃ old, IsEnum h e it ((i : Nat) : Int) old) ∧ h.IsTupleIter it a i ∧ e ≠ it) where
  mem := by simp
  obj := fun i h st b hb => by
    obtain ⟨⟨old, he⟩, ⟨o, ho, hc, hd⟩, _⟩ := st
    have e' : b = e ∨ b = it := by simpa using hb
    rcases e' with z | z
    · rw [z]; exact ⟨_, he, fun v q => nomatch q⟩
    · rw [z]; exact ⟨o, ho, fun v q => by rw [hd] at q; cases q⟩
  keep := fun i h h' st k => let ⟨⟨old, he⟩, hi, hne⟩ := st; ⟨⟨old, k e (by simp) _ he⟩, hi.at fun o q => k it (by simp) o q, hne⟩
  item := by
    intro X hP hw hK hc i pins s σ H E I hf st hg
    subst hP hw hK
    obtain ⟨⟨old, he⟩, hit, hne⟩ := st
    obtain ⟨xs, x, hq, hx⟩ := hg
    obtain ⟨its, rv, p, hz⟩ := I.tuple hq
    obtain ⟨u, hu, ru⟩ := rv.get hx
    have hel : e < s.heap.objs.size := Heap.lt_size he
    have hil : it < s.heap.objs.size := by obtain ⟨_, q, _⟩ := hit; exact Heap.lt_size q
    have ht : s.heap.IsTuple a its.toArray := p
    have hai := tit_ne hit ht
    have hea := en_ne he ht
    have hlt : i < its.toArray.size := by
      have hu' : its.toArray[i]? = some u := by simpa using hu
      exact (Array.getElem?_eq_some_iff.mp hu').1
    refine wpAny_pyNext_enum_itemD (Draws.tupleX (prog := X.prog) (w := X.w) (A := X.A.in1) (show X.A.in1.handled = none from I.ok.hd hc) it a hai its.toArray) he ⟨hit, ht⟩ hlt hne (fun z => by rcases List.mem_cons.mp z with z | z; exact hne z; rcases List.mem_cons.mp z with z | z; exact hea z; cases z) fun x' h' tk hx' ho hst' hT hsz hk => ?_
    have hux : x' = u := by
      have hu' : its.toArray[i]? = some u := by simpa using hu
      exact Option.some.inj (hx'.symm.trans hu')
    subst hux
    refine ⟨_, rfl, wpAny_letOwnedTupleGo_enum (s := { s with heap := h', toks := tk + 1 }) ho fun h'' he' sb => ?_⟩
    have hT2 : h''.get? s.heap.objs.size = some { cls := .type "tuple", data := .seq #[.int i tk, x'] } := (sb.2 _ (Nat.ne_of_gt hel)).trans hT
    have new : ObjOk X.prog X.w (upd H s.heap.objs.size (.tup [.int (i : Nat), x])) h'' s.heap.objs.size (.tup [.int (i : Nat), x]) :=
      ⟨by show 2 ≤ sizeLine; decide, [.int i tk, x'], .cons ⟨_, rfl⟩ (.cons ru .nil), ⟨_, hT2, rfl, _, rfl⟩⟩
    have I1 : Inv X pins σ (upd H s.heap.objs.size (.tup [.int (i : Nat), x])) { s with heap := h'', toks := tk + 1 } :=
      I.turnedNew (ch := [e, it]) (fun b ob hb q => (sb.2 b (fun z => hb (by simp [z]))).trans (hk b ob (fun z => hb (by simp [z])) (fun z => hb (by simp [z])) q)) hf (Nat.le_refl _) new
    refine ⟨.ref s.heap.objs.size, _, I1, rfl, ⟨_, x, rfl, I.hok.fresh (Nat.le_refl _), rfl, fun ys hy => by rw [I.tuple_inj hy hq]; exact hx⟩, ⟨⟨x', ?_⟩, hst'.1.at fun o q => (sb.2 it (Ne.symm hne)).trans q, hne⟩, fun b hb => ?_⟩
    · have e1 : ((i + 1 : Nat) : Int) = (i : Int) + 1 := by omega
      rw [e1]; exact he'
    · have hb' : b < s.heap.objs.size := by
        have e' : b = e ∨ b = it := by simpa using hb
        rcases e' with z | z
        · rw [z]; exact hel
        · rw [z]; exact hil
      rw [upd_ne (Nat.ne_of_lt hb')]
      exact (hf b hb).1
  done := by
    intro X hP hw hK hc i pins s σ H E I hf st hg
    subst hP hw hK
    obtain ⟨⟨old, he⟩, hit, hne⟩ := st
    obtain ⟨xs, hq, hx⟩ := hg
    obtain ⟨its, rv, p, hz⟩ := I.tuple hq
    obtain ⟨f0, f1, f2, f3, f4, f5⟩ := hf it (by simp)
    have ht : s.heap.IsTuple a its.toArray := p
    have hl := rv.length
    have D : Draws X.prog X.w X.A.in1 it [it, a] i (fun _ _ => True) (fun k h => k = i ∧ h.IsTupleIter it a i ∧ h.IsTuple a its.toArray) :=
      { live := fun _ _ st => let ⟨_, ⟨o, ho, _⟩, _⟩ := st; ⟨o, ho⟩
        frame := fun _ _ _ st hk => ⟨st.1, let ⟨o, ho, r⟩ := st.2.1; ⟨o, hk it (by simp) o ho, r⟩, let ⟨o, ho, r⟩ := st.2.2; ⟨o, hk a (by simp) o ho, r⟩⟩
        item := fun j s Q E hj st hQ => absurd hj (by rw [st.1]; exact Nat.lt_irrefl _)
        done := fun s Q E st hE => RZ.nextOf_tuple_end (I.ok.hd hc) st.2.1 st.2.2 (Array.getElem?_eq_none (by simp; omega)) hE }
    exact wpAny_pyNext_enum_endD D he ⟨rfl, hit, ht⟩ fun h' eb => ⟨rfl, I.turned (t' := s.toks) (fun b o hb q => eb b o hb q) f0 f1 f3 f4 f5⟩
  self := fun A i s Q E st h => let ⟨⟨_, he⟩, _⟩ := st; wpAny_pyIter_enum he h
def iEnumB (K : PySem.W.Frag) (ta : TA) : TI := fun σ H R => ta σ H fun vs H1 => ∃ a xs, vs = [.ref a] ∧ ((SqL K H1 a xs ∧ R (Ite K a) H1) ∨ (SqT K H1 a xs ∧ R (IteT K a) H1))
theorem pi_enumB {X : Cx} {e : Expr} {ta : TA} {p pos tpos : Pos} {elts : List Expr} {kk : Nat} (hg : Gl X "enumerate") (hm : X.mg "enumerate" = none) (ha : PA X [e] ta) (hs : starEach [e] X.env = [(false, eval e X.env)] := by rfl) :
    PI X (.Tuple elts kk tpos) (.Call (.Name "enumerate" p) [e] [] pos) (iEnumB X.K ta) := by
  refine ⟨fun pins s σ H R I h => ?_⟩
  refine Call_ (ld_blt I hg hm boot_enumerate (PyProof.Rows.callWith_type1 (thn (ha.run pos pins s σ H _ I h) fun us s1 ⟨vs, H1, I1, r1, q1⟩ => ?_) hs rfl))
  obtain ⟨a, xs, ex, q1⟩ := q1
  subst ex
  cases r1 with
  | cons r rr =>
    cases rr
    cases r
    have fr : ∀ b ∈ [s1.heap.objs.size + 1, s1.heap.objs.size], FpOk X pins H1 b := fun b hb => by
      have e' : b = s1.heap.objs.size + 1 ∨ b = s1.heap.objs.size := by simpa using hb
      have hle : s1.heap.objs.size ≤ b := by
        rcases e' with z | z
        · rw [z]; exact Nat.le_add_right _ _
        · rw [z]; exact Nat.le_refl _
      exact I1.fpOk hle (I1.hok.fresh hle)
    rcases q1 with ⟨hq, q⟩ | ⟨hq, q⟩
    · obtain ⟨its, rv, p', hz⟩ := I1.list hq
      refine call_enumerate_list p'.isList fun h' he hit hsz hk => wpAny_pyIter_enum he ?_
      have I2 : Inv X pins σ H1 { s1 with heap := h' } := I1.kept (t' := s1.toks) hk
      exact ⟨s1.heap.objs.size + 1, [s1.heap.objs.size + 1, s1.heap.objs.size], _, _, H1, rfl, I2, turn_enum a (s1.heap.objs.size + 1) s1.heap.objs.size, ⟨⟨.none, he⟩, hit, Nat.succ_ne_self _⟩, fr, q⟩
    · obtain ⟨its, rv, p', hz⟩ := I1.tuple hq
      refine call_enumerate_tuple (show s1.heap.IsTuple a its.toArray from p') fun h' he hit hsz hk => wpAny_pyIter_enum he ?_
      have I2 : Inv X pins σ H1 { s1 with heap := h' } := I1.kept (t' := s1.toks) hk
      exact ⟨s1.heap.objs.size + 1, [s1.heap.objs.size + 1, s1.heap.objs.size], _, _, H1, rfl, I2, turn_enumT a (s1.heap.objs.size + 1) s1.heap.objs.size, ⟨⟨.none, he⟩, hit, Nat.succ_ne_self _⟩, fr, q⟩
theorem ItOk.enumT {K : PySem.W.Frag} {F : Hp} {a : Addr} {vs : List V} {ds : List D} (h : SqT K F a vs) (r : Reps K F vs ds) : ItOk K F (IteT K a) (enumD 0 ds) := fun i F1 H1 s1 s2 => by
  have h1 : SqT K H1 a vs := SqT_mono (s1.trans s2) h
  rw [enumD_get]
  refine ⟨fun d e => ?_, fun e => ?_⟩
  · obtain ⟨d', e', rfl⟩ := Option.map_eq_some_iff.mp e
    obtain ⟨v, ev, rv⟩ := r.get e'
    refine ⟨⟨vs, v, h1, ev⟩, fun x H2 y => ?_⟩
    obtain ⟨T, x', rfl, hT, rfl, y⟩ := y
    have e2 := (y vs h1).symm.trans ev
    cases e2
    have e3 : (0 : Int) + (i : Int) = (i : Int) := by omega
    rw [e3]
    exact pair_new s2 hT (.int _) (rv.mono s1)
  · exact ⟨vs, h1, by rw [r.length]; exact List.getElem?_eq_none_iff.mp (Option.map_eq_none_iff.mp e)⟩
/-- enumerate of a list or a tuple -/
def qEnumA (ds : List D) (Q : List D → Prop) : Prop := match ds with
  | [.lst xs] => Q (enumD 0 xs)
  | [.tup xs] => Q (enumD 0 xs)
  | _ => False
def iEnumA (m : RN) : RN := fun env Q => m env fun ds e => qEnumA ds fun x => Q x e
theorem qEnumA_l {xs : List D} {Q : List D → Prop} : qEnumA [.lst xs] Q = Q (enumD 0 xs) := rfl
theorem qEnumA_t {xs : List D} {Q : List D → Prop} : qEnumA [.tup xs] Q = Q (enumD 0 xs) := rfl
section
variable {X : Cx} {a : Expr} {m : RN} {p pos tpos : Pos} {elts : List Expr} {kk : Nat}
theorem ei_enumA (hg : Gl X "enumerate") (hm : X.mg "enumerate" = none) (ha : EA X [a] m) (hs : starEach [a] X.env = [(false, eval a X.env)] := by rfl) : EI X (.Tuple elts kk tpos) (.Call (.Name "enumerate" p) [a] [] pos) (iEnumA m) where
  mono := fun env Q Q' i q => ha.mono _ _ _ (fun ds e q => by revert q; unfold qEnumA; split <;> intro q <;> first | exact i _ _ q | exact q) q
  pi := fun G F0 => PI_imp (pi_enumB hg hm (ha.pe G F0) hs) fun σ H R ⟨F, env, k, q⟩ => ⟨F, env, k, ha.mono _ _ _ (fun ds e q vs F' H' a r => by
    revert q; unfold qEnumA; split <;> intro q
    · cases r with | cons r t => cases t; cases r with | lst h rs => exact ⟨_, _, rfl, .inl ⟨.of (a.ok.fh _ _ h), q _ F' H' a (ItOk.enum (.of h) rs)⟩⟩
    · cases r with | cons r t => cases t; cases r with | tup h rs => exact ⟨_, _, rfl, .inr ⟨SqT_mono a.ok.fh h, q _ F' H' a (ItOk.enumT h rs)⟩⟩
    · exact q.elim) q⟩
end
/-- tuple(range(n)) -/
def rgI (n : Nat) : List Int := (List.range n).map fun (i : Nat) => (i : Int)
def qTupRg (d : D) (Q : D → Prop) : Prop := match d with
  | .int j => RgOk 0 j ∧ Q (.tup ((rgI j.toNat).map D.int))
  | _ => False
def rTupRg (m : RE) : RE := fun env Q => m env fun d e => qTupRg d fun x => Q x e
theorem qTupRg_i {j : Int} {Q : D → Prop} : qTupRg (.int j) Q = (RgOk 0 j ∧ Q (.tup ((rgI j.toNat).map D.int))) := rfl
section
variable {X : Cx} {a : Expr} {me : RE} {p p2 pos pos2 : Pos}
theorem ee_tupRg (hg : Gl X "tuple") (hm : X.mg "tuple" = none) (hg2 : Gl X "range") (hm2 : X.mg "range" = none) (ha : EE X a me) (hc : X.calm = true := by rfl)
    (na : starEach [a] X.env = (false, eval a X.env) :: starEach [] X.env := by rfl)
    (nb : starEach [.Call (.Name "range" p2) [a] [] pos2] X.env = (false, eval (.Call (.Name "range" p2) [a] [] pos2) X.env) :: starEach [] X.env := by rfl) :
    EE X (.Call (.Name "tuple" p) [.Call (.Name "range" p2) [a] [] pos2] [] pos) (rTupRg me) where
  mono := fun env Q Q' i q => ha.mono _ _ _ (fun d e q => by revert q; unfold qTupRg; split <;> intro q <;> first | exact ⟨q.1, i _ _ q.2⟩ | exact q) q
  pe := fun G F0 => PE_imp (pe_tupRg hc hg hm (prg_1 hg2 hm2 (ha.pe G F0) na) nb) fun σ H Q ⟨F, env, k, q⟩ => ⟨F, env, k, ha.mono _ _ _ (fun d e q v F1 H1 a1 r1 => by
    revert q; unfold qTupRg; split <;> intro q
    · rename_i j
      cases r1
      refine ⟨j, rfl, q.1, fun p hp => ?_⟩
      have x := Ext.alloc (o := .tup (rgV 0 j)) a1.ok.fh hp
      have e1 : rgV 0 j = (rgI j.toNat).map V.int := by
        unfold rgV rgI
        rw [List.map_map, Int.sub_zero]
        exact List.map_congr_left fun i _ => by show V.int (0 + (i : Int)) = V.int (i : Int); rw [Int.zero_add]
      refine q.2 (.ref p) _ _ (a1.ext x) (.tup (.of upd_same) ?_)
      rw [e1]
      exact Reps.of_ints _
    · exact q.elim) q⟩
end
/-! ### x is True, x is not True -/
def dIsB (neg : Bool) : Op2 := fun d e Q => match d, e with
  | .bl a, .bl b => Q (.bl (neg != (a == b)))
  | _, _ => False
theorem dIsB_mono {neg : Bool} : Mono2 (dIsB neg) := fun d e Q Q' i q => by
  unfold dIsB at q ⊢
  split at q <;> first | exact i _ q | exact q
theorem dIsB_b {neg a b : Bool} {Q : D → Prop} : dIsB neg (.bl a) (.bl b) Q = Q (.bl (neg != (a == b))) := rfl
section
variable {X : Cx}
theorem or_isB : OpR X (compareOp .Is) (rD2 X.K (dIsB false)) := fun pins s σ H x y v u Q I rx ry ⟨F, d, e, hf, r1, r2, q⟩ => by
  unfold dIsB at q
  split at q
  · rename_i a b
    rw [r1.bl] at rx; rw [r2.bl] at ry
    cases (show v = Value.bool a from rx)
    cases (show u = Value.bool b from ry)
    refine wpAny_is_plain (by rfl) (fin_bl I (q.bl hf) ?_)
    cases a <;> cases b <;> rfl
  · exact q.elim
theorem or_isnotB : OpR X (compareOp .IsNot) (rD2 X.K (dIsB true)) := fun pins s σ H x y v u Q I rx ry ⟨F, d, e, hf, r1, r2, q⟩ => by
  unfold dIsB at q
  split at q
  · rename_i a b
    rw [r1.bl] at rx; rw [r2.bl] at ry
    cases (show v = Value.bool a from rx)
    cases (show u = Value.bool b from ry)
    refine wpAny_isNot_plain (by rfl) (fin_bl I (q.bl hf) ?_)
    cases a <;> cases b <;> rfl
  · exact q.elim
end
end DL

namespace DL
open PySem PySem.SeqAt
open AutoSeq1 (wpAny_loadPart')
open MeetsSeq MeetsSeq2 MeetsSeq3 SeqRoads2
/-! ### != of two lists whose items are equal one by one (by an own __eq__ too): False -/
section
variable {prog : Program} {w : World} {A : Around} {R : Result → Shared → Prop}
theorem ne_turns (l b : Addr) (N : Nat) (I : Nat → Shared → Prop) (hl : GQ.ListI prog w A (fun e s' => R (.error e) s') l b N I) (fin : ∀ s, I N s → R (.ok (.ret (.bool false))) s) :
    ∀ k i : Nat, N - i = k → i ≤ N → ∀ s, I i s → wpAny (model prog w) A.in1 (Builtin.«list.__eq__.loop» ⟨[.ref l, .ref b, rawInt i, rawInt 3], []⟩) (GQ.FinOf prog w A R) (fun e s' => R (.error e) s') s
  | 0, i, hk, hi, s, h => by
    obtain ⟨xs, ys, n, n2, hx, hy, sx, sy, _⟩ := hl _ _ h
    have eN : i = N := by omega
    have q : R (.ok (.ret (.bool false))) s := fin s (eN ▸ h)
    obtain ⟨hp, g, d, tk, os⟩ := s
    wp_walk using wpAny_loadPart' hx, wpAny_loadPart' hy
    have z1 : xs[((i : Nat) : Int).toNat]? = none := by simp; omega
    have z2 : ys[((i : Nat) : Int).toNat]? = none := by simp; omega
    rw [z1, z2]
    wp_walk using wpAny_loadPart' hx, wpAny_loadPart' hy
    show R (.ok (.ret (.bool (xs.size != ys.size)))) _
    rw [sx, sy]
    simpa using q
  | k + 1, i, hk, hi, s, h => by
    obtain ⟨xs, ys, n, n2, hx, hy, sx, sy, turn⟩ := hl _ _ h
    have l1 : i < xs.size := by omega
    have l2 : i < ys.size := by omega
    have ht := turn l1 l2
    obtain ⟨hp, g, d, tk, os⟩ := s
    wp_walk using wpAny_loadPart' hx, wpAny_loadPart' hy
    have z1 : xs[((i : Nat) : Int).toNat]? = some xs[i] := by simp [l1]
    have z2 : ys[((i : Nat) : Int).toNat]? = some ys[i] := by simp [l2]
    have nx : ((i : Int) + 1) = ((i + 1 : Nat) : Int) := by omega
    rw [z1, z2]
    refine wpAny_bind (wpAny_mono ht (fun r s2 q => ?_) fun _ _ x => x)
    obtain ⟨rfl, q⟩ := q
    have rc1 := ne_turns l b N I hl fin k (i + 1) (by omega) (by omega) s2 q
    obtain ⟨hp2, g2, d2, tk2, os2⟩ := s2
    wp_walk
    rw [nx]
    exact ⟨plainId_quiet plain_eq_loop _, codeAny_builtin entry_eq_loop (by
      rw [Around.under_plainId plain_eq_loop _]
      exact rc1)⟩
theorem list_neG (l b : Addr) (N : Nat) (I : Nat → Shared → Prop) (hl : GQ.ListI prog w A (fun e s' => R (.error e) s') l b N I) (fin : ∀ s, I N s → R (.ok (.ret (.bool false))) s) {s : Shared} (h : I 0 s) :
    wpAny (model prog w) A.in1 (Builtin.«list.__ne__» ⟨[.ref l, .ref b], []⟩) (GQ.FinOf prog w A R) (fun e s' => R (.error e) s') s := by
  obtain ⟨xs, ys, n, n2, hx, hy, sx, sy, _⟩ := hl _ _ h
  have rc1 := ne_turns (A := A) (R := R) l b N I hl fin _ 0 rfl (Nat.zero_le _) s h
  obtain ⟨hp, g, d, tk, os⟩ := s
  have sub := AutoSeq1.sub_list_list
  have eqz : ¬ (xs.size != ys.size) = true := by simp [sx, sy]
  wp_walk using wpAny_loadPart' hx, wpAny_loadPart' hy
  exact ⟨plainId_quiet plain_eq_loop _, codeAny_builtin entry_eq_loop (by
    rw [Around.under_plainId plain_eq_loop _]
    exact rc1)⟩
end
section
variable {prog : Program} {w : World} {A : Around} {E : Value → Shared → Prop} {s : Shared}
theorem rc_neG {l b : Addr} {N : Nat} {Q : Value → Shared → Prop} (hu : A.units < cLine) (I : Nat → Shared → Prop) (hl : GQ.ListI prog w A E l b N I) (fin : ∀ s, I N s → Q (.bool false) s) (h : I 0 s) :
    wpAny (model prog w) A (richCompare .NotEq (.ref l) (.ref b)) Q E s := by
  obtain ⟨xs, ys, n, n2, hx, hy, _, _, _⟩ := hl _ _ h
  refine wpAny_richCompare_same_room (op := .NotEq) ⟨_, hx, rfl⟩ ⟨_, hy, rfl⟩ F.slot_list_ne (GQ.call_here F.slot_list_ne ⟨_, hx, rfl⟩ F.entry_list_ne (F.args_list_ne_2 _ _) ?_) hu
  exact list_neG (R := wants (fun v s' => v ≠ .notImplemented ∧ Q v s') E) l b N I hl (fun s' q => ⟨(fun x => nomatch x), fin s' q⟩) h
end
end DL
namespace DL
open PySem PySem.Spec PyProof.Rows L2
/-! ### data that is equal to itself, instances with an own __eq__ within -/
inductive SelfOk (tbl : List (Addr × SpecD)) : Nat → D → Prop
  | non {n : Nat} : SelfOk tbl n .non
  | bl {n : Nat} {b : Bool} : SelfOk tbl n (.bl b)
  | int {n : Nat} {i : Int} : SelfOk tbl n (.int i)
  | str {n : Nat} {z : Str} : SelfOk tbl n (.str z)
  | tup {n : Nat} {ds : List D} : (∀ d ∈ ds, SelfOk tbl n d) → SelfOk tbl (n + 1) (.tup ds)
  | lst {n : Nat} {ds : List D} : (∀ d ∈ ds, SelfOk tbl n d) → SelfOk tbl (n + 1) (.lst ds)
  | ins {n : Nat} {C : Addr} {ns : List Str} {xs : List D} {sp : SpecD} : (C, sp) ∈ tbl → (∀ R : D → Prop, R (.bl true) → sp [.ins C ns xs, .ins C ns xs] R) → SelfOk tbl n (.ins C ns xs)
def DS (K : PySem.W.Frag) (d : D) : Eqv := fun x y H => Rep K H x d ∧ Rep K H y d
theorem mon_DS {K : PySem.W.Frag} {d : D} : Mon (DS K d) := fun x y H H' e q => ⟨q.1.mono e, q.2.mono e⟩
def DSs (K : PySem.W.Frag) (ds : List D) : Eqv := fun x y H => ∃ d ∈ ds, DS K d x y H
theorem mon_DSs {K : PySem.W.Frag} {ds : List D} : Mon (DSs K ds) := fun x y H H' e ⟨d, h, q⟩ => ⟨d, h, mon_DS x y H H' e q⟩
theorem prs_DSs {K : PySem.W.Frag} {H : Hp} {vs ws : List V} {ds : List D} (r : Reps K H vs ds) (r2 : Reps K H ws ds) : Prs (DSs K ds) vs ws H := by
  refine ⟨by rw [r.length, r2.length], fun i x y hx hy => ?_⟩
  have hi : i < ds.length := by rw [← r.length]; exact (List.getElem?_eq_some_iff.mp hx).1
  obtain ⟨v, ev, rv⟩ := r.get (List.getElem?_eq_getElem hi)
  obtain ⟨u, eu, ru⟩ := r2.get (List.getElem?_eq_getElem hi)
  rw [hx] at ev; rw [hy] at eu
  cases ev; cases eu
  exact ⟨_, List.getElem_mem hi, rv, ru⟩
theorem rep_insx {K : PySem.W.Frag} {H : Hp} {x : V} {C : Addr} {ns : List Str} {xs : List D} (r : Rep K H x (.ins C ns xs)) : ∃ a dx fs, x = .ref a ∧ H a = some (.ins C dx fs) := by
  cases r with | ins ik ha rs => exact ⟨_, _, _, rfl, ha⟩
theorem rep_lstx {K : PySem.W.Frag} {H : Hp} {x : V} {ds : List D} (r : Rep K H x (.lst ds)) : ∃ a vs, x = .ref a ∧ H a = some (.lst vs) ∧ Reps K H vs ds := by
  cases r with | lst h rs => exact ⟨_, _, rfl, h, rs⟩
theorem rep_tupx {K : PySem.W.Frag} {H : Hp} {x : V} {ds : List D} (r : Rep K H x (.tup ds)) : ∃ a vs, x = .ref a ∧ SqT K H a vs ∧ Reps K H vs ds := by
  cases r with | tup h rs => exact ⟨_, _, rfl, h, rs⟩
section
variable {X : Cx} {k : Nat} {tbl : List (Addr × SpecD)} {cs : List Addr}
theorem eqG_flatD {d : D} {v : V} (h : ∀ H x, Rep X.K H x d → x = v) (hf : flatV v = true) (he : eqV v v = true) : EqG X 0 (DS X.K d) := eqG_flat.imp fun x y H q => by
  rw [h H x q.1, h H y q.2]; exact ⟨hf, hf, he⟩
theorem DS_tup {ds : List D} : ∀ x y H, DS X.K (.tup ds) x y H → DTup X.K (DSs X.K ds) x y H := fun x y H q => by
  obtain ⟨a, vs, rfl, h1, r1⟩ := rep_tupx q.1
  obtain ⟨b, ws, rfl, h2, r2⟩ := rep_tupx q.2
  exact ⟨a, b, vs, ws, rfl, rfl, h1, h2, prs_DSs r1 r2⟩
theorem DS_lst {ds : List D} : ∀ x y H, DS X.K (.lst ds) x y H → DList (DSs X.K ds) x y H := fun x y H q => by
  obtain ⟨a, vs, rfl, h1, r1⟩ := rep_lstx q.1
  obtain ⟨b, ws, rfl, h2, r2⟩ := rep_lstx q.2
  exact ⟨a, b, vs, ws, rfl, rfl, h1, h2, prs_DSs r1 r2⟩
theorem eqG_all {n : Nat} {ds : List D} (h : ∀ d ∈ ds, EqG X n (DS X.K d)) : EqG X n (DSs X.K ds) := fun A pins s σ H x y u v sb I rx ry ⟨d, hd, q⟩ => h d hd A pins s σ H x y u v sb I rx ry q
theorem eqG_self (ht : ∀ c sp, (c, sp) ∈ tbl → CalE X.prog X.w X.K X.mg X.base k c cs sp) {n : Nat} {d : D} (h : SelfOk tbl n d) : EqG X (k + n) (DS X.K d) := by
  induction h with
  | non => exact (eqG_flatD (v := .non) (fun H x r => by cases r; rfl) rfl rfl).mono (Nat.zero_le _)
  | @bl n b => exact (eqG_flatD (v := .bl b) (fun H x r => by cases r; rfl) rfl (by cases b <;> rfl)).mono (Nat.zero_le _)
  | @int n i => exact (eqG_flatD (v := .int i) (fun H x r => by cases r; rfl) rfl (by simp [eqV])).mono (Nat.zero_le _)
  | @str n z => exact (eqG_flatD (v := .str z) (fun H x r => by cases r; rfl) rfl (by simp [eqV])).mono (Nat.zero_le _)
  | tup _ ih => exact (eqG_tup mon_DSs (eqG_all ih)).imp DS_tup
  | lst _ ih => exact (eqG_list mon_DSs (eqG_all ih)).imp DS_lst
  | @ins n C ns xs sp hin hsp =>
    have ce := ht _ _ hin
    have hm := ce.mono
    obtain ⟨f, fd, ps, hps, FN, hs, hfn, hb⟩ := ce.ex
    refine EqG.mono (n := k) (EqG.imp (D := DIns C fun a b H => Rep X.K H (.ref a) (.ins C ns xs) ∧ Rep X.K H (.ref b) (.ins C ns xs)) (eqG_ins (CX := CX0) (E := E0) (FN.imp fun vs H Q E q => ?_) hs hfn hb pass0) fun x y H q => ?_) (Nat.le_add_right _ _)
    · obtain ⟨a, b, rfl, ⟨r1, r2⟩, q⟩ := q
      refine ⟨rfl, H, _, Same.refl _, .cons r1 (.cons r2 .nil), hsp _ fun w F2 H2 x2 r => ?_⟩
      cases r
      exact q H2 x2.hH
    · obtain ⟨a, dx, fs, rfl, ha⟩ := rep_insx q.1
      obtain ⟨b, dy, gs, rfl, hb⟩ := rep_insx q.2
      exact ⟨a, b, dx, dy, fs, gs, rfl, rfl, ha, hb, q.1, q.2⟩
/-- == of lists and tuples: by data, or as the same data with instances within -/
def dEqS (tbl : List (Addr × SpecD)) : Op2 := fun d e Q => dEq d e Q ∨ (d = e ∧ (∃ ds, (d = .lst ds ∨ d = .tup ds) ∧ ∀ x ∈ ds, SelfOk tbl 4 x) ∧ Q (.bl true))
def dNeS (tbl : List (Addr × SpecD)) : Op2 := fun d e Q => dNe d e Q ∨ (d = e ∧ (∃ ds, d = .lst ds ∧ ∀ x ∈ ds, SelfOk tbl 4 x) ∧ Q (.bl false))
theorem dEqS_mono : Mono2 (dEqS tbl) := fun d e Q Q' i q => q.elim (fun q => .inl (dEq_mono _ _ _ _ i q)) fun q => .inr ⟨q.1, q.2.1, i _ q.2.2⟩
theorem dNeS_mono : Mono2 (dNeS tbl) := fun d e Q Q' i q => q.elim (fun q => .inl (dNe_mono _ _ _ _ i q)) fun q => .inr ⟨q.1, q.2.1, i _ q.2.2⟩
theorem or_eqS (ho : OpR X (compareOp .Eq) (rD2 X.K dEq)) (hr : Room (k + 5) X.A) (ht : ∀ c sp, (c, sp) ∈ tbl → CalE X.prog X.w X.K X.mg X.base k c cs sp) : OpR X (compareOp .Eq) (rD2 X.K (dEqS tbl)) := fun pins s σ H x y u v Q I rx ry ⟨F, d, e, hf, r1, r2, q⟩ => by
  rcases q with q | ⟨rfl, ⟨ds, hds, hx⟩, q⟩
  · exact ho pins s σ H x y u v Q I rx ry ⟨F, d, e, hf, r1, r2, q⟩
  · have q1 := r1.rep hf
    have q2 := r2.rep hf
    have fin : ∀ H', L2.Ext H H' → Q (.bl true) H' := fun H' ex => q (.bl true) F H' ⟨Same.refl _, ex, hf.trans ex, fun _ _ => rfl⟩ (.bl true)
    have ea := eqG_all (X := X) (n := k + 4) fun d hd => eqG_self ht (hx d hd)
    rcases hds with rfl | rfl
    · exact op_eqG (rcG_list mon_DSs ea) hr pins s σ H x y u v Q I rx ry ⟨DS_lst _ _ _ ⟨q1, q2⟩, fin⟩
    · exact op_eqG (rcG_tup mon_DSs ea) hr pins s σ H x y u v Q I rx ry ⟨DS_tup _ _ _ ⟨q1, q2⟩, fin⟩
theorem or_neS (ho : OpR X (compareOp .NotEq) (rD2 X.K dNe)) (hr : Room (k + 5) X.A) (ht : ∀ c sp, (c, sp) ∈ tbl → CalE X.prog X.w X.K X.mg X.base k c cs sp) : OpR X (compareOp .NotEq) (rD2 X.K (dNeS tbl)) := fun pins s σ H x y u v Q I rx ry ⟨F, d, e, hf, r1, r2, q⟩ => by
  rcases q with q | ⟨rfl, ⟨ds, rfl, hx⟩, q⟩
  · exact ho pins s σ H x y u v Q I rx ry ⟨F, d, e, hf, r1, r2, q⟩
  · have q1 := r1.rep hf
    have q2 := r2.rep hf
    have fin : ∀ H', L2.Ext H H' → Q (.bl false) H' := fun H' ex => q (.bl false) F H' ⟨Same.refl _, ex, hf.trans ex, fun _ _ => rfl⟩ (.bl false)
    have ea := eqG_all (X := X) (n := k + 4) fun d hd => eqG_self ht (hx d hd)
    obtain ⟨a, b, vs, ws, rfl, rfl, ha, hb, p⟩ := DS_lst _ _ _ ⟨q1, q2⟩
    cases rx
    cases ry
    have sb : Sub X (k + 4 + 1) X.A := ⟨hr, rfl⟩
    refine rc_neG (N := vs.length) hr.units0 (fun _ s' => LoopI X pins σ H s') (fun i s' q => ?_) (fun s' ⟨H', I', ex⟩ => ⟨.bl false, H', I', rfl, fin H' ex⟩) ⟨H, I, L2.Ext.rfl'⟩
    obtain ⟨H1, I1, e1⟩ := id q
    obtain ⟨z, its, k', rv, e⟩ := I1.hok a _ (e1 _ _ ha)
    obtain ⟨z2, its2, k2, rv2, e2⟩ := I1.hok b _ (e1 _ _ hb)
    refine ⟨its.toArray, its2.toArray, k', k2, e, e2, by rw [List.size_toArray, ← rv.length], by rw [List.size_toArray, ← rv2.length, ← p.1], fun h1 h2 => ?_⟩
    exact turnG mon_DSs ea sb p rv rv2 i h1 h2 s' q
end
/-! ### while -/
def sWhile (mt : RT) (body : RS) : RS := fun Z env => ∃ W : Nat → En → Prop, (∃ m, W m env) ∧ ∀ m e, W m e → mt e fun b e1 => if b = true then body { Z with nx := fun e' => ∃ m', m' < m ∧ W m' e', ct := fun e' => ∃ m', m' < m ∧ W m' e', bk := Z.nx } e1 else Z.nx e1
section
variable {X : Cx} {c : Expr} {body : List Stmt} {mt : RT} {mb : RS} {pos : Pos}
theorem ss_while (hp : PassesOwn (model X.prog X.w) X.A X.env X.xe) (hc : ET X c mt) (hb : SSs X body mb) : SS X (.While c body [] pos) (sWhile mt mb) where
  mono := fun D D' env l ⟨W, h0, h⟩ => ⟨W, h0, fun m e w => hc.mono _ _ _ (fun b e1 q => by
    cases b with
    | true => exact hb.mono { D with nx := fun e' => ∃ m', m' < m ∧ W m' e', ct := fun e' => ∃ m', m' < m ∧ W m' e', bk := D.nx } _ _ ⟨fun _ x => x, l.rt, l.nx, fun _ x => x⟩ q
    | false => exact l.nx _ q) (h m e w)⟩
  ps := fun G F0 => ⟨fun pins s σ H D I ⟨F, env, k, W, ⟨m0, w0⟩, h⟩ => (ps_while hp (hc.pe G F0) (hb.ps G F0)).run pins s σ H D I ⟨fun m σ H => ∃ F env, StOk X.K G F0 F H env σ ∧ W m env, ⟨m0, F, env, k, w0⟩, fun m σ1 H1 ⟨F1, env1, k1, w⟩ => ⟨F1, env1, k1, hc.mono _ _ _ (fun b e q F' H' a => by
    cases b with
    | true =>
      refine ⟨fun σ' H' => ∃ m', m' < m ∧ ∃ F env, StOk X.K G F0 F H' env σ' ∧ W m' env, fun σ' H' x => x, F', e, a.ok, hb.mono { liftD X.K G F0 D with nx := fun e' => ∃ m', m' < m ∧ W m' e', ct := fun e' => ∃ m', m' < m ∧ W m' e', bk := (liftD X.K G F0 D).nx } _ _ ⟨?_, fun _ x => x, fun _ x => x, ?_⟩ q⟩
      · exact fun e2 ⟨m', hm, w'⟩ σ2 F2 H2 k2 => ⟨m', hm, F2, e2, k2, w'⟩
      · exact fun e2 ⟨m', hm, w'⟩ σ2 F2 H2 k2 => ⟨m', hm, F2, e2, k2, w'⟩
    | false => exact q σ1 F' H' a.ok) (h m env1 w)⟩⟩⟩
end
end DL

namespace DL
open PySem PySem.Spec PyProof.Rows L2
/-! ### f(e, .., k = v, ..): a def with keyword-only parameters -/
/-- gd: positional values and keywords' values put in the parameters' order, the lacking ones filled up -/
structure CalK (P : Program) (w : World) (K : PySem.W.Frag) (mg : Str → Option Value) (base : PySem.Heap) (x : Str) (k n : Nat) (ks : List Str) (gd : List D → List D → List D) (spec : SpecD) : Prop where
  mono : MonoSp spec
  ex : ∃ (f : Addr) (fd : FuncData) (ps : List Str) (g : List Value → List Value → List Value) (gV : List V → List V → List V), FnOk P w K mg base CX0 k f fd ps (spD K ps.length spec) ∧ mg x = some (.ref f) ∧ PySem.W.keepIn K (.ref f) = true ∧ KBn K fd ps n ks g gV ∧
    ∀ (F : Hp) (vs zs : List V) (ds es : List D), vs.length = n → zs.length = ks.length → Reps K F vs ds → Reps K F zs es → (gV vs zs).length = ps.length ∧ Reps K F (gV vs zs) (gd ds es)
section
variable {X : Cx} {x : Str} {k n : Nat} {ks : List Str} {gd : List D → List D → List D} {spec : SpecD} {p pos : Pos} {e : Expr} {es : List Expr} {kws : List Keyword} {m mk : RN}
theorem ee_callK (cm : CalK X.prog X.w X.K X.mg X.base x k n ks gd spec) (hr : Room k X.A) (hg : Gl X x) (ha : EA X (e :: es) m) (hk : EK X kws mk) {kn : Nat} (hkn : ks.length = kn := by rfl)
    (hall : (backToKw pos (keywordEach kws X.env)).all (·.1.isSome) = true := by rfl) (hks : (backToKw pos (keywordEach kws X.env)).filterMap (·.1) = ks := by rfl) (hdb : (x == ("__debug__" : Str)) = false := by decide)
    (he : starEach (e :: es) X.env = (false, eval e X.env) :: starEach es X.env := by rfl) (hpl : ((backTo pos (starEach (e :: es) X.env)).any (·.1) || (backToKw pos (keywordEach kws X.env)).any (·.1.isNone)) = false := by rfl) : EE X (.Call (.Name x p) (e :: es) kws pos) (rMakeK spec gd n kn m mk) where
  mono := fun env Q Q' i q => ha.mono _ _ _ (fun ds e q => hk.mono _ _ _ (fun es e' q => ⟨q.1, q.2.1, cm.mono _ _ _ (fun d q => i _ _ q) q.2.2⟩) q) q
  pe := fun G F0 => by
    obtain ⟨f, fd, ps, g, gV, F, hm, hkp, hb, hgd⟩ := cm.ex
    refine PE_imp (pe_callN F hr hg hm hkp hb pass0 (ha.pe G F0) (hk.pk G F0) hall hks hdb he hpl) fun σ H Q ⟨F, env, k, q⟩ => ⟨F, env, k, ha.mono _ _ _ (fun ds e q vs F1 H1 a1 r1 => ?_) q⟩
    refine ⟨F1, e, a1.ok, hk.mono _ _ _ (fun es e' q zs F2 H2 a2 r2 => ?_) q⟩
    have l1 : vs.length = n := by rw [r1.length]; exact q.1
    have l2 : zs.length = ks.length := by rw [r2.length, hkn]; exact q.2.1
    obtain ⟨e1, r3⟩ := hgd F2 vs zs ds es l1 l2 (r1.mono a2.fF) r2
    exact ⟨l1, l2, e1, F2, _, a2.ok.fh, r3, cm.mono _ _ _ (fun d q v F' H' x' r' => q v F' H' ((a1.trans a2).ext x') r') q.2.2⟩
end
section
variable {P : Program} {w : World} {K : PySem.W.Frag} {mg : Str → Option Value} {base : PySem.Heap} {x xf qual : Str} {k n : Nat} {ks ps : List Str} {spec : SpecD} {f : Addr} {fd : FuncData} {params : Arguments} {body : List Stmt} {scope : Scope} {ms kws : List (Str × V)} {md : List D}
/-- all keywords given, in the parameters' order -/
theorem calK_mk (h1 : MonoSp spec) (hn : ps.length = n + ks.length) (h4 : FnOk P w K mg base CX0 k f fd ps (spD K ps.length spec)) (hm : mg x = some (.ref f)) (kp : PySem.W.keepIn K (.ref f) = true)
    (h7 : ∀ (s : Shared) (us ws : List Value), us.length = n → ws.length = ks.length → BindsTo s fd ⟨us, ks.zip ws⟩ (ps.zip (us ++ ws))) : CalK P w K mg base x k n ks (fun ds es => ds ++ es) spec where
  mono := h1
  ex := ⟨f, fd, ps, fun us ws => us ++ ws, fun vs zs => vs ++ zs, h4, hm, kp, ⟨fun s us ws _ l1 l2 => h7 s us ws l1 l2, fun r1 r2 => r1.append r2⟩, fun F vs zs ds es l1 l2 r1 r2 => ⟨by rw [List.length_append, l1, l2, hn], r1.append r2⟩⟩
/-- those ahead lack, their defaults stand in the dict Dk -/
theorem calK_mk0 (h1 : MonoSp spec) (hw : kws ≠ []) (hms : ∀ q ∈ ms, q ∈ kws) (hmd : ∀ F, Reps K F (ms.map (·.2)) md) (hn : ps.length = n + ms.length + ks.length) (h4 : FnOk P w K mg base CX0 k f fd ps (spD K ps.length spec)) (hm : mg x = some (.ref f)) (kp : PySem.W.keepIn K (.ref f) = true)
    (FD : FunD K xf qual params body scope [] kws f fd)
    (h7 : ∀ (D : Addr) (doc pm : Value) (an : Option Addr) (cdv ct : Value) (us mv ws : List Value), us.length = n → mv.length = ms.length → ws.length = ks.length →
      KwChain D ((ms.map (·.1)).zip mv) (bindArgs (PySem.W.fnOf xf qual params body scope .none (.ref D) doc pm an cdv ct) ⟨us, ks.zip ws⟩) (ps.zip (us ++ mv ++ ws))) : CalK P w K mg base x k n ks (fun ds es => ds ++ md ++ es) spec where
  mono := h1
  ex := by
    obtain ⟨mv, kb⟩ := FD.kbinds0 (ps := ps) n ks ms (fun us mv ws => us ++ mv ++ ws) hw hms (fun r1 r2 r3 => (r1.append r2).append r3) h7
    exact ⟨f, fd, ps, _, _, h4, hm, kp, kb, fun F vs zs ds es l1 l2 r1 r2 => ⟨by rw [List.length_append, List.length_append, l1, l2, List.length_map, hn], (r1.append (hmd F)).append r2⟩⟩
/-- the last ones lack -/
theorem calK_mk1 (h1 : MonoSp spec) (hw : kws ≠ []) (hms : ∀ q ∈ ms, q ∈ kws) (hmd : ∀ F, Reps K F (ms.map (·.2)) md) (hn : ps.length = n + ks.length + ms.length) (h4 : FnOk P w K mg base CX0 k f fd ps (spD K ps.length spec)) (hm : mg x = some (.ref f)) (kp : PySem.W.keepIn K (.ref f) = true)
    (FD : FunD K xf qual params body scope [] kws f fd)
    (h7 : ∀ (D : Addr) (doc pm : Value) (an : Option Addr) (cdv ct : Value) (us mv ws : List Value), us.length = n → mv.length = ms.length → ws.length = ks.length →
      KwChain D ((ms.map (·.1)).zip mv) (bindArgs (PySem.W.fnOf xf qual params body scope .none (.ref D) doc pm an cdv ct) ⟨us, ks.zip ws⟩) (ps.zip (us ++ ws ++ mv))) : CalK P w K mg base x k n ks (fun ds es => ds ++ es ++ md) spec where
  mono := h1
  ex := by
    obtain ⟨mv, kb⟩ := FD.kbinds0 (ps := ps) n ks ms (fun us mv ws => us ++ ws ++ mv) hw hms (fun r1 r2 r3 => (r1.append r3).append r2) h7
    exact ⟨f, fd, ps, _, _, h4, hm, kp, kb, fun F vs zs ds es l1 l2 r1 r2 => ⟨by rw [List.length_append, List.length_append, l1, l2, List.length_map, hn], (r1.append r2).append (hmd F)⟩⟩
end
end DL
namespace DL
open PySem PySem.Spec PyProof.Rows L2
/-- an empty tuple of the module -/
theorem tup_k {K : PySem.W.Frag} {F : Hp} {a : Addr} {od : Option Addr} {n : Nat} {os : Array (Option Value)} (h : K.lookup a = some ⟨.type "tuple", od, .seq #[] n, os⟩) : SqT K F a [] := .inr ⟨_, _, _, h, rfl, rfl, by show 0 ≤ _; omega, .nil⟩
end DL
namespace DL
open PySem PySem.Spec PyProof.Rows L2
/-! ### [x, ..] * k as a new list -/
def qRepN (d e : D) (Q : List D → Prop) : Prop := match d, e with
  | .lst xs, .int k => -(2 ^ 63) ≤ k ∧ k < 2 ^ 63 ∧ xs.length * k.toNat ≤ sizeLine ∧ Q (repD k.toNat xs)
  | _, _ => False
theorem qRepN_li {xs : List D} {k : Int} {Q : List D → Prop} : qRepN (.lst xs) (.int k) Q = (-(2 ^ 63) ≤ k ∧ k < 2 ^ 63 ∧ xs.length * k.toNat ≤ sizeLine ∧ Q (repD k.toNat xs)) := rfl
theorem qRepN_mono {d e : D} {Q Q' : List D → Prop} (i : ∀ x, Q x → Q' x) (q : qRepN d e Q) : qRepN d e Q' := by
  unfold qRepN at q ⊢
  split at q
  · exact ⟨q.1, q.2.1, q.2.2.1, i _ q.2.2.2⟩
  · exact q
def rRepN (ma mb : RE) : RN := fun env Q => ma env fun d e1 => mb e1 fun e e2 => qRepN d e fun xs => Q xs e2
section
variable {X : Cx} {a b : Expr} {ma mb : RE} {pos : Pos}
theorem en_rep (ha : EB X a ma) (hb : EB X b mb) : EN X (.BinOp a .Mult b pos) (rRepN ma mb) where
  mono := fun env Q Q' i q => ha.mono _ _ _ (fun d e1 q => hb.mono _ _ _ (fun e e2 q => qRepN_mono (fun x q => i _ _ q) q) q) q
  pe := fun G F0 => PE_imp (pe_op op_rep (ha.pe G F0) (hb.pe G F0)) fun σ H Q ⟨F, env, k, q⟩ => by
    refine ⟨F, env, k, ha.mono _ _ _ (fun x e1 q v1 F1 H1 a1 r1 => ?_) q⟩
    refine ⟨F1, e1, a1.ok, hb.mono _ _ _ (fun y e2 q v2 F2 H2 a2 r2 => ?_) q⟩
    have r3 := r1.ext a2.fF a2.hH
    unfold qRepN at q
    split at q
    · obtain ⟨p0, vs, rfl, h1, p1⟩ := r3.lst a2.ok.fh
      have e2 := r2.int
      subst e2
      obtain ⟨h2, h3, h4, q⟩ := q
      exact ⟨p0, _, vs, rfl, rfl, h1, h2, h3, by rw [p1.length]; exact h4, fun p hp => by
        obtain ⟨a3, hF, hG, no⟩ := af_new (vs := (List.replicate _ vs).flatten) (a1.trans a2) hp
        exact q p _ F2 _ a3 upd_same hF hG no (p1.rep _)⟩
    · exact q.elim
end
end DL

namespace DL
open PySem PySem.Spec PyProof.Rows L2
/-! ### zip of a list and a tuple -/
theorem sep_of {z TI TO i1 i2 a b : Addr} (D : ZipApart z TI TO i1 i2 a b) : ZipSep2 z TI TO i1 i2 [i1, a] [i2, b] where
  TIz := D.TIz
  TOz := D.TOz
  TITO := D.TITO
  TIi1 := D.TIi1
  mem1 := by simp
  zf1 := by simp [D.i1z.symm, D.l1z.symm]
  Tf1 := by simp [D.TOi1, D.l1TO.symm]
  TIi2 := D.TIi2
  mem2 := by simp
  zf2 := by simp [D.i2z.symm, D.l2z.symm]
  Tf2 := by simp [D.TOi2, D.l2TO.symm]
  sep1_2 := by simp [D.i12, D.l2i1.symm]
  sep2_1 := by simp [D.i12.symm, D.l1i2.symm]
/-- a draw that is at its end, or the whole one -/
theorem draws_l {prog : Program} {w : World} {A : Around} (hh : A.handled = none) {it l : Addr} {i : Nat} {items : Array Value} {h : Heap} (hit : h.IsListIter it l i) (hl : h.IsList l items) (hne : l ≠ it) :
    ∃ (n : Nat) (P : Nat → Value → Prop) (St : Nat → Heap → Prop), Draws prog w A it [it, l] n P St ∧ St i h ∧ i ≤ n ∧ (items.size ≤ i → n = i) := by
  by_cases c : items.size ≤ i
  · refine ⟨i, fun _ _ => True, fun k h => k = i ∧ h.IsListIter it l i ∧ h.IsList l items, ?_, ⟨rfl, hit, hl⟩, Nat.le_refl _, fun _ => rfl⟩
    exact { live := fun _ _ st => let ⟨_, ⟨o, ho, _⟩, _⟩ := st; ⟨o, ho⟩
            frame := fun _ _ _ st hk => ⟨st.1, st.2.1.at fun o e => hk it (by simp) o e, st.2.2.at fun o e => hk l (by simp) o e⟩
            item := fun j s Q E hj st hQ => absurd hj (by rw [st.1]; exact Nat.lt_irrefl _)
            done := fun s Q E st hE => wpAny_nextOf_list_end hh st.2.1 st.2.2 (Array.getElem?_eq_none c) hE }
  · exact ⟨_, _, _, Draws.list hh it l hne items, ⟨hit, hl⟩, by omega, fun q => absurd q c⟩
theorem draws_t {prog : Program} {w : World} {A : Around} (hh : A.handled = none) {it l : Addr} {i : Nat} {items : Array Value} {h : Heap} (hit : h.IsTupleIter it l i) (hl : h.IsTuple l items) (hne : l ≠ it) :
    ∃ (n : Nat) (P : Nat → Value → Prop) (St : Nat → Heap → Prop), Draws prog w A it [it, l] n P St ∧ St i h ∧ i ≤ n ∧ (items.size ≤ i → n = i) := by
  by_cases c : items.size ≤ i
  · refine ⟨i, fun _ _ => True, fun k h => k = i ∧ h.IsTupleIter it l i ∧ h.IsTuple l items, ?_, ⟨rfl, hit, hl⟩, Nat.le_refl _, fun _ => rfl⟩
    exact { live := fun _ _ st => let ⟨_, ⟨o, ho, _⟩, _⟩ := st; ⟨o, ho⟩
            frame := fun _ _ _ st hk => ⟨st.1, st.2.1.at fun o e => hk it (by simp) o e, st.2.2.at fun o e => hk l (by simp) o e⟩
            item := fun j s Q E hj st hQ => absurd hj (by rw [st.1]; exact Nat.lt_irrefl _)
            done := fun s Q E st hE => RZ.nextOf_tuple_end hh st.2.1 st.2.2 (Array.getElem?_eq_none c) hE }
  · exact ⟨_, _, _, Draws.tupleX hh it l hne items, ⟨hit, hl⟩, by omega, fun q => absurd q c⟩
/-- the list at a and the tuple at b, in new pairs -/
def ItzM (K : PySem.W.Frag) (a b : Addr) : It :=
  ⟨fun i H => ∃ (vs ws : List V) (v w : V), SqL K H a vs ∧ SqT K H b ws ∧ vs[i]? = some v ∧ ws[i]? = some w,
    fun i H u H' => ∃ T v w, u = .ref T ∧ H T = none ∧ H' = upd H T (.tup [v, w]) ∧ (∀ vs, SqL K H a vs → vs[i]? = some v) ∧ ∀ ws, SqT K H b ws → ws[i]? = some w,
    fun i H => ∃ vs ws : List V, SqL K H a vs ∧ SqT K H b ws ∧ (vs.length ≤ i ∨ ws.length ≤ i)⟩
theorem turn_zipM {P : Program} {w : World} {K : PySem.W.Frag} {elts : List Expr} {kk : Nat} {tpos : Pos} {a b z TI TO i1 i2 : Addr} (D : ZipApart z TI TO i1 i2 a b) :
    Turn P w K (.Tuple elts kk tpos) (ItzM K a b) [z, TI, TO, i1, i2] z (fun i h => IsZip h z TI TO .none ∧ IsTupOf2 h TI (.ref i1) (.ref i2) ∧ (∃ v u, IsTupOf2 h TO v u) ∧ h.IsListIter i1 a i ∧ h.IsTupleIter i2 b i) where
  mem := by simp
  obj := fun i h st c hc => by
    obtain ⟨gz, gI, ⟨v, u, gO⟩, ⟨o1, e1, _, d1⟩, ⟨o2, e2, _, d2⟩⟩ := st
    rcases (show c = z ∨ c = TI ∨ c = TO ∨ c = i1 ∨ c = i2 by simpa using hc) with q | q | q | q | q
    · rw [q]; exact ⟨_, gz, fun v q => nomatch q⟩
    · rw [q]; exact ⟨_, gI, fun v q => nomatch q⟩
    · rw [q]; exact ⟨_, gO, fun v q => nomatch q⟩
    · rw [q]; exact ⟨o1, e1, fun v q => by rw [d1] at q; cases q⟩
    · rw [q]; exact ⟨o2, e2, fun v q => by rw [d2] at q; cases q⟩
  keep := fun i h h' st k => by
    obtain ⟨gz, gI, ⟨v, u, gO⟩, g1, g2⟩ := st
    exact ⟨k z (by simp) _ gz, k TI (by simp) _ gI, ⟨v, u, k TO (by simp) _ gO⟩, g1.at fun o q => k i1 (by simp) o q, g2.at fun o q => k i2 (by simp) o q⟩
  item := by
    intro X hP hw hK hc i pins s σ H E I hf st hg
    subst hP hw hK
    obtain ⟨gz, gI, ⟨v0, u0, gO⟩, g1, g2⟩ := st
    obtain ⟨vs, ws, v, w, hqx, hqy, hx, hy⟩ := hg
    obtain ⟨its, rv, p, _⟩ := I.list hqx
    obtain ⟨its2, rv2, p2, _⟩ := I.tuple hqy
    obtain ⟨u, hu, ru⟩ := rv.get hx
    obtain ⟨u2, hu2, ru2⟩ := rv2.get hy
    have hzl : z < s.heap.objs.size := Heap.lt_size gz
    have tb : s.heap.IsTuple b its2.toArray := p2
    have lt1 : i < its.toArray.size := by
      have : its.toArray[i]? = some u := by simpa using hu
      exact (Array.getElem?_eq_some_iff.mp this).1
    have lt2 : i < its2.toArray.size := by
      have : its2.toArray[i]? = some u2 := by simpa using hu2
      exact (Array.getElem?_eq_some_iff.mp this).1
    have hhd : X.A.in1.handled = none := I.ok.hd hc
    refine wpAny_pyNext_zipD2_item (sep_of D) (Draws.list (prog := X.prog) (w := X.w) (A := X.A.in1) hhd i1 a D.l1i1 its.toArray) (Draws.tupleX (prog := X.prog) (w := X.w) (A := X.A.in1) hhd i2 b D.l2i2 its2.toArray) gz gI gO ⟨g1, p.isList⟩ ⟨g2, tb⟩ lt1 lt2 fun x1 x2 h' tk y1 y2 z' TO' s1' s2' hT hsz hk => ?_
    have e1 : x1 = u := by
      have q : its.toArray[i]? = some u := by simpa using hu
      exact Option.some.inj (y1.symm.trans q)
    have e2 : x2 = u2 := by
      have q : its2.toArray[i]? = some u2 := by simpa using hu2
      exact Option.some.inj (y2.symm.trans q)
    subst e1 e2
    refine ⟨_, rfl, wpAny_letOwnedTupleGo_zip (s := { s with heap := h', toks := tk }) z' fun h'' z'' sb => ?_⟩
    have hT2 : h''.get? s.heap.objs.size = some { cls := .type "tuple", data := .seq #[x1, x2] } := (sb.2 _ (Nat.ne_of_gt hzl)).trans hT
    have new : ObjOk X.prog X.w (upd H s.heap.objs.size (.tup [v, w])) h'' s.heap.objs.size (.tup [v, w]) :=
      ⟨by show 2 ≤ sizeLine; decide, [x1, x2], .cons ru (.cons ru2 .nil), ⟨_, hT2, rfl, _, rfl⟩⟩
    have I1 : Inv X pins σ (upd H s.heap.objs.size (.tup [v, w])) { s with heap := h'', toks := tk } :=
      I.turnedNew (ch := [z, TI, TO, i1, i2]) (fun c o nb q => (sb.2 c (fun q' => nb (by simp [q']))).trans (hk c o (fun q' => nb (by simp [q'])) (fun q' => nb (by simp [q'])) (fun q' => nb (by simp [q'])) (fun q' => nb (by simp [q'])) q)) hf (Nat.le_refl _) new
    refine ⟨.ref s.heap.objs.size, _, I1, rfl, ⟨_, v, w, rfl, I.hok.fresh (Nat.le_refl _), rfl, fun l hl => by rw [I.list_inj hl hqx]; exact hx, fun l hl => by rw [I.tuple_inj hl hqy]; exact hy⟩, ⟨z'', ?_, ⟨x1, x2, ?_⟩, ?_, ?_⟩, fun c hcm => ?_⟩
    · exact (sb.2 _ D.TIz).trans (hk _ _ D.TIz D.TITO D.TIi1 D.TIi2 gI)
    · exact (sb.2 _ D.TOz).trans TO'
    · exact s1'.1.at fun o q => (sb.2 _ D.i1z).trans q
    · exact s2'.1.at fun o q => (sb.2 _ D.i2z).trans q
    · have hlt : c < s.heap.objs.size := by
        rcases (show c = z ∨ c = TI ∨ c = TO ∨ c = i1 ∨ c = i2 by simpa using hcm) with q | q | q | q | q
        · rw [q]; exact hzl
        · rw [q]; exact Heap.lt_size gI
        · rw [q]; exact Heap.lt_size gO
        · rw [q]; obtain ⟨_, e1, _⟩ := g1; exact Heap.lt_size e1
        · rw [q]; obtain ⟨_, e2, _⟩ := g2; exact Heap.lt_size e2
      rw [upd_ne (Nat.ne_of_lt hlt)]
      exact (hf c hcm).1
  done := by
    intro X hP hw hK hc i pins s σ H E I hf st hg
    subst hP hw hK
    obtain ⟨gz, gI, ⟨v0, u0, gO⟩, g1, g2⟩ := st
    obtain ⟨vs, ws, hqx, hqy, hend⟩ := hg
    obtain ⟨its, rv, p, _⟩ := I.list hqx
    obtain ⟨its2, rv2, p2, _⟩ := I.tuple hqy
    have tb : s.heap.IsTuple b its2.toArray := p2
    have n1 := rv.length
    have n2 := rv2.length
    have hhd : X.A.in1.handled = none := I.ok.hd hc
    obtain ⟨m1, P1, S1, D1, a1, b1, c1⟩ := draws_l (prog := X.prog) (w := X.w) (A := X.A.in1) hhd g1 p.isList D.l1i1
    obtain ⟨m2, P2, S2, D2, a2, b2, c2⟩ := draws_t (prog := X.prog) (w := X.w) (A := X.A.in1) hhd g2 tb D.l2i2
    refine wpAny_pyNext_zipD2_end (sep_of D) D1 D2 gz gI gO a1 a2 b1 b2 (hend.imp (fun q => (c1 (by simp; omega)).symm) fun q => (c2 (by simp; omega)).symm) fun h' tk hk => ⟨rfl, ?_⟩
    exact I.turnedL (t' := tk) (ch := [z, TI, TO, i1, i2]) (fun c o nb q => hk c o (fun q' => nb (by simp [q'])) (fun q' => nb (by simp [q'])) (fun q' => nb (by simp [q'])) (fun q' => nb (by simp [q'])) q) hf
  self := fun A i s Q E st h => wpAny_pyIter_zip st.1 h
def iZipB (K : PySem.W.Frag) (ta : TA) : TI := fun σ H R => ta σ H fun vs H1 => ∃ a b xs ys, vs = [.ref a, .ref b] ∧ ((SqL K H1 a xs ∧ SqL K H1 b ys ∧ R (Itz K a b) H1) ∨ (SqT K H1 a xs ∧ SqT K H1 b ys ∧ R (RZ.ItzT K a b) H1) ∨ (SqL K H1 a xs ∧ SqT K H1 b ys ∧ R (ItzM K a b) H1))
theorem pi_zipB {X : Cx} {e e2 : Expr} {ta : TA} {p pos tpos : Pos} {elts : List Expr} {kk : Nat} (hg : Gl X "zip") (hm : X.mg "zip" = none) (ha : PA X [e, e2] ta)
    (hs : starEach [e, e2] X.env = (false, eval e X.env) :: starEach [e2] X.env := by rfl) (hpl : (backTo pos (starEach [e2] X.env)).any (·.1) = false := by rfl) :
    PI X (.Tuple elts kk tpos) (.Call (.Name "zip" p) [e, e2] [] pos) (iZipB X.K ta) := by
  refine ⟨fun pins s σ H R I h => ?_⟩
  refine Call_ (ld_blt I hg hm PyProof.Rows.boot_zip (PyProof.Rows.callWith_type1 (thn (ha.run pos pins s σ H _ I h) fun us s1 ⟨vs, H1, I1, r1, q1⟩ => ?_) hs hpl))
  obtain ⟨a, b, xs, ys, ex, q1⟩ := q1
  subst ex
  obtain ⟨rfl⟩ : us = [.ref a, .ref b] := by
    cases r1 with | cons r rr => cases rr with | cons r' rr => cases rr; cases r; cases r'; rfl
  have fr : ∀ c, c ∈ [s1.heap.objs.size + 4, s1.heap.objs.size + 2, s1.heap.objs.size + 3, s1.heap.objs.size, s1.heap.objs.size + 1] → FpOk X pins H1 c := fun c hcm => by
    have hle : s1.heap.objs.size ≤ c := by
      rcases (show c = s1.heap.objs.size + 4 ∨ c = s1.heap.objs.size + 2 ∨ c = s1.heap.objs.size + 3 ∨ c = s1.heap.objs.size ∨ c = s1.heap.objs.size + 1 by simpa using hcm) with z | z | z | z | z <;> rw [z]
      · exact Nat.le_add_right _ _
      · exact Nat.le_add_right _ _
      · exact Nat.le_add_right _ _
      · exact Nat.le_refl _
      · exact Nat.le_add_right _ _
    exact I1.fpOk hle (I1.hok.fresh hle)
  rcases q1 with ⟨hqx, hqy, q⟩ | ⟨hqx, hqy, q⟩ | ⟨hqx, hqy, q⟩
  · obtain ⟨its, rv, p1, _⟩ := I1.list hqx
    obtain ⟨its2, rv2, p2, _⟩ := I1.list hqy
    refine call_zip_2 p1.isList p2.isList fun h' hz hTI hTO h1 h2 hsz hk => wpAny_pyIter_zip hz ?_
    have I2 : Inv X pins σ H1 { s1 with heap := h' } := I1.kept (t' := s1.toks) hk
    exact ⟨s1.heap.objs.size + 4, [s1.heap.objs.size + 4, s1.heap.objs.size + 2, s1.heap.objs.size + 3, s1.heap.objs.size, s1.heap.objs.size + 1], _, _, H1, rfl, I2, turn_zip (PySem.W.ktu_apart s1.heap.objs.size a b p1.lt p2.lt), ⟨hz, hTI, ⟨_, _, hTO⟩, h1, h2⟩, fr, q⟩
  · obtain ⟨its, rv, p1, _⟩ := I1.tuple hqx
    obtain ⟨its2, rv2, p2, _⟩ := I1.tuple hqy
    obtain ⟨o1, ho1, _⟩ := id p1
    obtain ⟨o2, ho2, _⟩ := id p2
    refine RZ.call_zipT (show s1.heap.IsTuple a its.toArray from p1) (show s1.heap.IsTuple b its2.toArray from p2) fun h' hz hTI hTO h1 h2 hsz hk => wpAny_pyIter_zip hz ?_
    have I2 : Inv X pins σ H1 { s1 with heap := h' } := I1.kept (t' := s1.toks) hk
    exact ⟨s1.heap.objs.size + 4, [s1.heap.objs.size + 4, s1.heap.objs.size + 2, s1.heap.objs.size + 3, s1.heap.objs.size, s1.heap.objs.size + 1], _, _, H1, rfl, I2, RZ.turn_zipT (PySem.W.ktu_apart s1.heap.objs.size a b (Heap.lt_size ho1) (Heap.lt_size ho2)), ⟨hz, hTI, ⟨_, _, hTO⟩, h1, h2⟩, fr, q⟩
  · obtain ⟨its, rv, p1, _⟩ := I1.list hqx
    obtain ⟨its2, rv2, p2, _⟩ := I1.tuple hqy
    obtain ⟨o2, ho2, _⟩ := id p2
    refine zip_begins2 (begins_list a its.toArray) (begins_tuple b its2.toArray) p1.isList (show s1.heap.IsTuple b its2.toArray from p2) fun h' hz hTI hTO h1 h2 hsz hk => wpAny_pyIter_zip hz ?_
    have I2 : Inv X pins σ H1 { s1 with heap := h' } := I1.kept (t' := s1.toks) hk
    exact ⟨s1.heap.objs.size + 4, [s1.heap.objs.size + 4, s1.heap.objs.size + 2, s1.heap.objs.size + 3, s1.heap.objs.size, s1.heap.objs.size + 1], _, _, H1, rfl, I2, turn_zipM (PySem.W.ktu_apart s1.heap.objs.size a b p1.lt (Heap.lt_size ho2)), ⟨hz, hTI, ⟨_, _, hTO⟩, ⟨_, h1, rfl, rfl⟩, ⟨_, h2, rfl, rfl⟩⟩, fr, q⟩
section
variable {K : PySem.W.Frag} {G F0 F F' H H' : Hp} {env : En} {σ : L2.St}
theorem ItOk.zipLT {a b : Addr} {vs ws : List V} {ds es : List D} (h : SqL K F a vs) (h' : SqT K F b ws) (r : Reps K F vs ds) (r' : Reps K F ws es) : ItOk K F (ItzM K a b) (zipD ds es) := fun i F1 H1 s1 s2 => by
  have h1 : SqL K H1 a vs := (s1.trans s2).seq h
  have h2 : SqT K H1 b ws := SqT_mono (s1.trans s2) h'
  rw [zipD_get]
  refine ⟨fun d e => ?_, fun e => ?_⟩
  · obtain ⟨d', e', e⟩ := Option.bind_eq_some_iff.mp e
    obtain ⟨d2, e2, rfl⟩ := Option.map_eq_some_iff.mp e
    obtain ⟨v, ev, rv⟩ := r.get e'
    obtain ⟨w, ew, rw'⟩ := r'.get e2
    refine ⟨⟨vs, ws, v, w, h1, h2, ev, ew⟩, fun x H2 y => ?_⟩
    obtain ⟨T, x', y', rfl, hT, rfl, y1, y2⟩ := y
    have q1 := (y1 vs h1).symm.trans ev
    have q2 := (y2 ws h2).symm.trans ew
    cases q1; cases q2
    exact pair_new s2 hT (rv.mono s1) (rw'.mono s1)
  · refine ⟨vs, ws, h1, h2, ?_⟩
    rw [r.length, r'.length]
    cases e1 : ds[i]? with
    | none => exact .inl (List.getElem?_eq_none_iff.mp e1)
    | some d =>
      rw [e1] at e
      exact .inr (List.getElem?_eq_none_iff.mp (Option.map_eq_none_iff.mp e))
end
section
variable {X : Cx} {a b : Expr} {m : RN} {p pos tpos : Pos} {elts : List Expr} {kk : Nat}
/-- two lists, two tuples, a list and a tuple -/
def qZipA : List D → (List D → Prop) → Prop := fun ds Q => match ds with
  | [.lst xs, .lst ys] => Q (zipD xs ys)
  | [.tup xs, .tup ys] => Q (zipD xs ys)
  | [.lst xs, .tup ys] => Q (zipD xs ys)
  | _ => False
theorem qZipA_ll {xs ys : List D} {Q : List D → Prop} : qZipA [.lst xs, .lst ys] Q = Q (zipD xs ys) := rfl
theorem qZipA_tt {xs ys : List D} {Q : List D → Prop} : qZipA [.tup xs, .tup ys] Q = Q (zipD xs ys) := rfl
theorem qZipA_lt {xs ys : List D} {Q : List D → Prop} : qZipA [.lst xs, .tup ys] Q = Q (zipD xs ys) := rfl
theorem qZipA_mono {ds : List D} {Q Q' : List D → Prop} (i : ∀ x, Q x → Q' x) (q : qZipA ds Q) : qZipA ds Q' := by
  unfold qZipA at q ⊢; split at q <;> first | exact i _ q | exact q
def iZipX (m : RN) : RN := fun env Q => m env fun ds e => qZipA ds fun xs => Q xs e
theorem ei_zipA (hg : Gl X "zip") (hm : X.mg "zip" = none) (ha : EA X [a, b] m) (hs : starEach [a, b] X.env = (false, eval a X.env) :: starEach [b] X.env := by rfl) (hpl : (backTo pos (starEach [b] X.env)).any (·.1) = false := by rfl) :
    EI X (.Tuple elts kk tpos) (.Call (.Name "zip" p) [a, b] [] pos) (iZipX m) where
  mono := fun env Q Q' i q => ha.mono _ _ _ (fun ds e q => qZipA_mono (fun x q => i _ _ q) q) q
  pi := fun G F0 => PI_imp (pi_zipB hg hm (ha.pe G F0) hs hpl) fun σ H R ⟨F, env, k, q⟩ => ⟨F, env, k, ha.mono _ _ _ (fun ds e q vs F' H' a r => by
    revert q; unfold qZipA; split <;> intro q
    · cases r with | cons r t => cases t with | cons r' t => cases t; cases r with | lst h rs => cases r' with | lst h' rs' => exact ⟨_, _, _, _, rfl, .inl ⟨.of (a.ok.fh _ _ h), .of (a.ok.fh _ _ h'), q _ F' H' a (ItOk.zipLL (.of h) (.of h') rs rs')⟩⟩
    · cases r with | cons r t => cases t with | cons r' t => cases t; cases r with | tup h rs => cases r' with | tup h' rs' => exact ⟨_, _, _, _, rfl, .inr (.inl ⟨SqT_mono a.ok.fh h, SqT_mono a.ok.fh h', q _ F' H' a (ItOk.zipTT h h' rs rs')⟩)⟩
    · cases r with | cons r t => cases t with | cons r' t => cases t; cases r with | lst h rs => cases r' with | tup h' rs' => exact ⟨_, _, _, _, rfl, .inr (.inr ⟨.of (a.ok.fh _ _ h), SqT_mono a.ok.fh h', q _ F' H' a (ItOk.zipLT (.of h) h' rs rs')⟩)⟩
    · exact q.elim) q⟩
end
end DL

namespace L2
open PySem PySem.Spec PyProof.Rows
/-! ### C(.., k = v, ..) of an __init__ that may raise: the slots count -/
def tMakeS (C : Addr) (n m : Nat) (sp : Sp) (gV : List V → List V → List V) (E : St → XK) (t tk : TA) : TE := fun σ H Q => t σ H fun vs H1 => tk σ H1 fun zs H2 => vs.length = n ∧ zs.length = m ∧ ∀ x dx, H2 x = none → H2 dx = none → dx ≠ x →
  sp (gV (.ref x :: vs) zs) (upd (upd H2 dx (.own x)) x (.ins C dx [])) (fun v H3 => v = .non ∧ Q (.ref x) H3) (E σ)
section
variable {X : Cx} {CX : CXT} {k n : Nat} {f C : Addr} {fd : FuncData} {ps ks : List Str} {sp : Sp} {E : St → XK} {x : Str} {p pos : Pos} {e : Expr} {es : List Expr} {kws : List Keyword} {t tk : TA} {g : List Value → List Value → List Value} {gV : List V → List V → List V}
theorem run_makeS {pins : List (Addr × Obj)} {σ : St} {H : Hp} {s : Shared} {Q : VK} {us ws : List Value} {vs zs : List V} (M : Mk X.K C f) (F : FnOk X.prog X.w X.K X.mg X.base CX k f fd ps sp) (hr : Room (k + 1) X.A) (hb : KBn X.K fd ps (n + 1) ks g gV) (hx : PassesAt CX X σ (E σ))
    (I : Inv X pins σ H s) (r : Vals vs us) (rz : Vals zs ws) (l1 : vs.length = n) (l2 : zs.length = ks.length)
    (h : ∀ x dx, H x = none → H dx = none → dx ≠ x → sp (gV (.ref x :: vs) zs) (upd (upd H dx (.own x)) x (.ins C dx [])) (fun v H2 => v = .non ∧ Q (.ref x) H2) (E σ)) :
    wpAny (model X.prog X.w) X.A (call (.ref C) us (ks.zip ws)) (EP X pins σ Q) X.xe s := by
  have q0 := h (s.heap.objs.size + 1) s.heap.objs.size (I.hok.fresh (Nat.le_succ _)) (I.hok.fresh (Nat.le_refl _)) (Nat.ne_of_lt (Nat.lt_succ_self _))
  have J := Inv.made (C := C) I
  have rv : Vals (V.ref (s.heap.objs.size + 1) :: vs) (Value.ref (s.heap.objs.size + 1) :: us) := .cons rfl r
  have rg := hb.rel rv rz
  have nl : (Value.ref (s.heap.objs.size + 1) :: us).length = n + 1 := by
    rw [List.length_cons, ← r.length, l1]
  refine wpAny_call (make_map (f := f) I.kIn M.makes M.init (beq_iff_eq.mp M.fn) (codeAny_mono (F.run _ X.stack _ _ ⟨Value.ref (s.heap.objs.size + 1) :: us, ks.zip ws⟩ (g (Value.ref (s.heap.objs.size + 1) :: us) ws) _ _ (E σ) (hr.make C us (ks.zip ws))
    (J.env0.make C us (ks.zip ws)) (hb.to _ (Value.ref (s.heap.objs.size + 1) :: us) ws J.kIn nl (rz.length.symm.trans l2)) rg q0) fun r s' hq' => ?_))
  cases r with
  | error e => exact hx pins _ _ e s' J hq'
  | ok fl =>
    cases fl with
    | ret u =>
      obtain ⟨v, H', I3, rw1, ev, q3⟩ := J.after hq'
      subst ev
      exact ⟨rw1, ⟨V.ref (s.heap.objs.size + 1), H', I3, rfl, q3⟩⟩
    | next => exact False.elim hq'
    | brk => exact False.elim hq'
    | cont => exact False.elim hq'
theorem pe_makeS (M : Mk X.K C f) (F : FnOk X.prog X.w X.K X.mg X.base CX k f fd ps sp) (hr : Room (k + 1) X.A) (hg : Gl X x) (hm : X.mg x = some (.ref C)) (hb : KBn X.K fd ps (n + 1) ks g gV) (hx : ∀ σ, PassesAt CX X σ (E σ)) (ha : PA X (e :: es) t) (hkw : PK X kws tk)
    (hall : (backToKw pos (keywordEach kws X.env)).all (·.1.isSome) = true := by rfl) (hks : (backToKw pos (keywordEach kws X.env)).filterMap (·.1) = ks := by rfl) (hdb : (x == ("__debug__" : Str)) = false := by decide)
    (he : starEach (e :: es) X.env = (false, eval e X.env) :: starEach es X.env := by rfl) (hpl : ((backTo pos (starEach (e :: es) X.env)).any (·.1) || (backToKw pos (keywordEach kws X.env)).any (·.1.isNone)) = false := by rfl) :
    PE X (.Call (.Name x p) (e :: es) kws pos) (tMakeS C n ks.length sp gV E t tk) := by
  refine ⟨fun pins s σ H Q I h => ?_⟩
  refine wpAny_Call_Name_kw (ld_glob I hg hm ?_ hdb)
  refine PySem.W.callWith_KW (h₀ := X.base) I.ok.mod.kin M.kp hall (thn (ha.run pos pins s σ H _ I h) fun us s1 ⟨vs, H1, I1, r, q⟩ => ?_) hpl he
  refine thn (hkw.run pos pins s1 σ H1 _ I1 q) fun ws s2 ⟨zs, H2, I2, rz, l1, l2, q2⟩ => ⟨I2.kIn, ?_⟩
  rw [hks]
  exact run_makeS M F hr hb (hx σ) I2 r rz l1 l2 q2
end
end L2
namespace DL
open PySem PySem.Spec PyProof.Rows L2
/-- C(..): C's __init__ may raise -/
structure CalMX (P : Program) (w : World) (K : PySem.W.Frag) (mg : Str → Option Value) (base : PySem.Heap) (x : Str) (k : Nat) (c : Addr) (fs : List Str) (n : Nat) (ks : List Str) (gd : List D → List D → List D) (spec : SpecX) : Prop where
  mono : MonoX spec
  ins : InsK K c fs
  hi : ∀ ds Q R, spec ds Q R → spec ds (fun d => (∃ xs, d = .ins c fs xs) ∧ Q d) R
  ex : ∃ (f : Addr) (fd : FuncData) (ps : List Str) (g : List Value → List Value → List Value) (gV : List V → List V → List V), FnOk P w K mg base (L2.CX P w) k f fd ("self" :: ps) (spIX K c fs ps.length spec) ∧ Mk K c f ∧ mg x = some (.ref c) ∧ KBn K fd ("self" :: ps) (n + 1) ks g gV ∧
    ∀ (F : Hp) (p : Addr) (vs zs : List V) (ds es : List D), vs.length = n → zs.length = ks.length → Reps K F vs ds → Reps K F zs es → ∃ rest, gV (.ref p :: vs) zs = .ref p :: rest ∧ rest.length = ps.length ∧ Reps K F rest (gd ds es)
def rMakeX (spec : SpecX) (gd : List D → List D → List D) (n kn : Nat) (m mk : RN) (r : RX) : RE := fun env Q => m env fun ds e => mk e fun es e' => ds.length = n ∧ es.length = kn ∧ spec (gd ds es) (fun d => Q d e') fun C => r C e'
section
variable {X : Cx} {x : Str} {k n : Nat} {c : Addr} {fs ks : List Str} {gd : List D → List D → List D} {spec : SpecX} {p pos : Pos} {e : Expr} {es : List Expr} {kws : List Keyword} {m mk : RN}
theorem ex_makeX (cm : CalMX X.prog X.w X.K X.mg X.base x k c fs n ks gd spec) (hr : Room (k + 1) X.A) (hg : Gl X x) (ha : EA X (e :: es) m) (hk : EK X kws mk) {kn : Nat} (hkn : ks.length = kn := by rfl)
    (hall : (backToKw pos (keywordEach kws X.env)).all (·.1.isSome) = true := by rfl) (hks : (backToKw pos (keywordEach kws X.env)).filterMap (·.1) = ks := by rfl) (hdb : (x == ("__debug__" : Str)) = false := by decide)
    (he : starEach (e :: es) X.env = (false, eval e X.env) :: starEach es X.env := by rfl) (hpl : ((backTo pos (starEach (e :: es) X.env)).any (·.1) || (backToKw pos (keywordEach kws X.env)).any (·.1.isNone)) = false := by rfl) : EX X (.Call (.Name x p) (e :: es) kws pos) (rMakeX spec gd n kn m mk) where
  mono := fun r r' env Q Q' lr i q => ha.mono _ _ _ (fun ds e q => hk.mono _ _ _ (fun es e' q => ⟨q.1, q.2.1, cm.mono _ _ _ _ _ (fun d q => i _ _ q) (fun C q => lr _ _ q) q.2.2⟩) q) q
  pe := fun G F0 => by
    obtain ⟨f, fd, ps, g, gV, F, hM, hm, hb, hgd⟩ := cm.ex
    refine PE_imp (pe_makeS hM F hr hg hm hb (fun σ => passAt (takes_WI (X := X)) σ) (ha.pe G F0) (hk.pk G F0) hall hks hdb he hpl) fun σ H Q ⟨F, env, k, q⟩ => ⟨F, env, k, ha.mono _ _ _ (fun ds e q vs F1 H1 a1 r1 => ?_) q⟩
    refine ⟨F1, e, a1.ok, hk.mono _ _ _ (fun es e' q zs F2 H2 a2 r2 => ?_) q⟩
    have l1 : vs.length = n := by rw [r1.length]; exact q.1
    have l2 : zs.length = ks.length := by rw [r2.length, hkn]; exact q.2.1
    refine ⟨l1, l2, fun y dx hy hdx hne => ?_⟩
    obtain ⟨rest, e1, e2, r3⟩ := hgd F2 y vs zs ds es l1 l2 (r1.mono a2.fF) r2
    have q2 := cm.hi _ _ _ q.2.2
    have fy : F2 y = none := a2.ok.fh.at_none hy
    have fd' : F2 dx = none := a2.ok.fh.at_none hdx
    have s2 : Same F2 (upd (upd H2 dx (.own y)) y (.ins c dx [])) := fun b o eb => by
      rw [upd_ne (ne_of_none eb fy), upd_ne (ne_of_none eb fd')]; exact a2.ok.fh _ _ eb
    have old : ∀ b, H2 b ≠ none → b ≠ y ∧ b ≠ dx := fun b hb => ⟨fun z => hb (z ▸ hy), fun z => hb (z ▸ hdx)⟩
    rw [e1]
    refine ⟨y, dx, rest, rfl, e2, upd_same, F2, _, fy, s2, r3, ?_⟩
    refine cm.mono _ _ _ _ _ (fun d ⟨⟨xs, ed⟩, qd⟩ xs' ed' F' H' dx' vfs h1 h2 h3 h4 h5 h6 h7 h8 => ⟨rfl, ?_⟩) (fun C qC F' H' h1 h2 h3 h5 => ?_) q2
    · refine qC σ F' H' (a2.ok.ext ⟨h1, fun b o eb => ?_, h3, fun b hb => ?_⟩)
      · have := old b (by rw [eb]; exact fun z => nomatch z)
        exact h2 b o this.1 (by rw [upd_ne this.1, upd_ne this.2]; exact eb)
      · have := old b hb
        exact h5 b this.1 (by rw [upd_ne this.1, upd_ne this.2]; exact hb)
    · subst ed'
      have sF : Same F' (upd F' y (.ins c dx' vfs)) := same_upd h4
      refine qd (.ref y) (upd F' y (.ins c dx' vfs)) H' ((a1.trans a2).ext ⟨h1.trans sF, fun b o eb => ?_, fun b o eb => ?_, fun b hb => ?_⟩) ?_
      · have := old b (by rw [eb]; exact fun z => nomatch z)
        exact h2 b o this.1 (by rw [upd_ne this.1, upd_ne this.2]; exact eb)
      · by_cases hb : b = y
        · subst hb; rw [upd_same] at eb; rw [h6]; exact eb
        · rw [upd_ne hb] at eb; exact h3 _ _ eb
      · have := old b hb
        rw [upd_ne this.1]
        exact h5 b this.1 (by rw [upd_ne this.1, upd_ne this.2]; exact hb)
      · subst h7
        exact .ins cm.ins upd_same (h8.mono sF)
/-- where nothing is raised -/
theorem EX.e0 {e : Expr} {m : RX → RE} (h : EX X e m) : EE X e (m fun _ _ => False) where
  mono := fun env Q Q' i q => h.mono _ _ _ _ _ RX.le.rfl' i q
  pe := fun G F0 => PE_imp (h.pe G F0) fun σ H Q ⟨F, env, k, q⟩ => ⟨F, env, k, h.mono _ _ _ _ _ (fun _ _ q => q.elim) (fun _ _ q => q) q⟩
theorem SX.s0 {st : Stmt} {m : RX → RS} (h : SX X st m) : SS X st (m fun _ _ => False) where
  mono := fun D D' env l q => h.mono _ _ _ _ _ RX.le.rfl' l q
  ps := fun G F0 => PS_imp (h.ps G F0) fun D σ H ⟨F, env, k, q⟩ => ⟨F, env, k, h.mono _ _ _ _ _ (fun _ _ q => q.elim) (DE.le.refl _) q⟩
end
/-- all keywords given, in the parameters' order -/
theorem calMX_mk {P : Program} {w : World} {K : PySem.W.Frag} {mg : Str → Option Value} {base : PySem.Heap} {x : Str} {k : Nat} {c : Addr} {fs : List Str} {n : Nat} {ks : List Str} {spec : SpecX} (h1 : MonoX spec) (h2 : InsK K c fs) (h3 : ∀ ds Q R, spec ds Q R → spec ds (fun d => (∃ xs, d = .ins c fs xs) ∧ Q d) R)
    {f : Addr} {fd : FuncData} {ps : List Str} (hn : ps.length = n + ks.length) (h4 : FnOk P w K mg base (L2.CX P w) k f fd ("self" :: ps) (spIX K c fs ps.length spec)) (h5 : Mk K c f) (h6 : mg x = some (.ref c))
    (h7 : ∀ (s : Shared) (us ws : List Value), us.length = n + 1 → ws.length = ks.length → BindsTo s fd ⟨us, ks.zip ws⟩ (((("self" : Str) :: ps)).zip (us ++ ws))) : CalMX P w K mg base x k c fs n ks (fun ds es => ds ++ es) spec where
  mono := h1
  ins := h2
  hi := h3
  ex := ⟨f, fd, ps, fun us ws => us ++ ws, fun vs zs => vs ++ zs, h4, h5, h6, ⟨fun s us ws _ l1 l2 => h7 s us ws l1 l2, fun r1 r2 => r1.append r2⟩, fun F p vs zs ds es l1 l2 r1 r2 => ⟨vs ++ zs, rfl, by rw [List.length_append, l1, l2, hn], r1.append r2⟩⟩
/-- the last ones lack -/
theorem calMX_mk0 {P : Program} {w : World} {K : PySem.W.Frag} {mg : Str → Option Value} {base : PySem.Heap} {x xf qual : Str} {k : Nat} {c : Addr} {fs : List Str} {n : Nat} {ks : List Str} {spec : SpecX} (h1 : MonoX spec) (h2 : InsK K c fs) (h3 : ∀ ds Q R, spec ds Q R → spec ds (fun d => (∃ xs, d = .ins c fs xs) ∧ Q d) R)
    {f : Addr} {fd : FuncData} {ps : List Str} {params : Arguments} {body : List Stmt} {scope : Scope} {ms kws : List (Str × V)} {md : List D} (hw : kws ≠ []) (hms : ∀ q ∈ ms, q ∈ kws) (hmd : ∀ F, Reps K F (ms.map (·.2)) md) (hn : ps.length = n + ks.length + ms.length) (h4 : FnOk P w K mg base (L2.CX P w) k f fd ("self" :: ps) (spIX K c fs ps.length spec)) (h5 : Mk K c f) (h6 : mg x = some (.ref c))
    (FD : FunD K xf qual params body scope [] kws f fd)
    (h7 : ∀ (D : Addr) (doc pm : Value) (an : Option Addr) (cdv ct : Value) (us mv ws : List Value), us.length = n + 1 → mv.length = ms.length → ws.length = ks.length →
      KwChain D ((ms.map (·.1)).zip mv) (bindArgs (PySem.W.fnOf xf qual params body scope .none (.ref D) doc pm an cdv ct) ⟨us, ks.zip ws⟩) (((("self" : Str) :: ps)).zip (us ++ ws ++ mv))) : CalMX P w K mg base x k c fs n ks (fun ds es => ds ++ es ++ md) spec where
  mono := h1
  ins := h2
  hi := h3
  ex := by
    obtain ⟨mv, kb⟩ := FD.kbinds0 (ps := "self" :: ps) (n + 1) ks ms (fun us mv ws => us ++ ws ++ mv) hw hms (fun r1 r2 r3 => (r1.append r3).append r2) h7
    exact ⟨f, fd, ps, _, _, h4, h5, h6, kb, fun F p vs zs ds es l1 l2 r1 r2 => ⟨vs ++ zs ++ ms.map (·.2), rfl, by rw [List.length_append, List.length_append, l1, l2, List.length_map, hn], (r1.append r2).append (hmd F)⟩⟩
/-! ### raise C('..') -/
structure ErrK (K : PySem.W.Frag) (C : Addr) : Prop where
  q : PySem.W.excIn K C [.type "ValueError", .type "Exception", .type "BaseException", .type "object"] "ValueError.__new__" = true
  kp : PySem.W.keepIn K (.ref C) = true
  ty : PySem.W.typeIn K (.ref C) = some (.type "type")
  ex : ExcC K C
section
variable {X : Cx} {C : Addr} {x m : Str} {j : Nat} {p p2 cpos pos : Pos}
theorem sx_raiseC (k : ErrK X.K C) (g : X.mg x = some (.ref C)) (hg : Gl X x) (hc : X.calm = true := by rfl) (hdb : (x == ("__debug__" : Str)) = false := by decide) : SX X (.Raise (some (.Call (.Name x p) [.Constant (.str m) j p2] [] cpos)) none pos) (sRaise C) :=
  sx_raise hc (pmk_own PySem.F.excBase_ValueError k.q g k.kp (raises_own k.ex.hs k.ty) hg hdb)
end
/-! ### try: .. except x as n: .. -/
abbrev TbE := List (D × Bool)
/-- the name of an except clause goes -/
def unD (i : Nat) (Z : DE) : DE := { nx := fun e => Z.nx (es e i .un), rt := Z.rt, bk := fun e => Z.bk (es e i .un), ct := fun e => Z.ct (es e i .un) }
/-- ct: the classes, whether the clause catches them, what isinstance tells of them -/
def sTry (i : Nat) (ct : List (Addr × Bool × TbE)) (mb : RX → RS) (hand : TbE → Addr → RS) (r : RX) : RS := fun Z env =>
  mb (fun C env' => ∃ b tb, (C, b, tb) ∈ ct ∧ (b = true → ∀ a, hand tb a (unD i Z) (es env' i (.v (.cls a)))) ∧ (b = false → r C env')) Z env
def TbOk (K : PySem.W.Frag) (C : Addr) (tb : TbE) : Prop := ∀ t b, (t, b) ∈ tb → (∃ T, t = .cls T ∧ PySem.W.kitOne K (.ref C) (.ref T) = some b) ∨ ∃ n, t = .ty n ∧ PySem.W.kitOne K (.ref C) (.type n) = some b
def nIsE (tb : TbE) (a : Addr) : OpN := fun ds Q => match ds with
  | [.cls a', t] => a' = a ∧ ∃ b, (t, b) ∈ tb ∧ Q (.bl b)
  | _ => False
theorem nIsE_mono {tb : TbE} {a : Addr} : MonoN (nIsE tb a) := by
  intro ds Q Q' i q; unfold nIsE at q ⊢
  split at q
  · obtain ⟨h, b, h1, h2⟩ := q; exact ⟨h, b, h1, i _ h2⟩
  · exact q.elim
theorem cn_isE {X : Cx} {a C : Addr} {oe : Obj} {pn : List (Addr × Obj)} {tb : TbE} (k : ExcC X.K C) (hz : Zc (.ref C) none oe) (hf : ∃ vs, oe.data = .fields vs) (ht : TbOk X.K C tb) : CallR (X.suite a ((a, oe) :: pn)) (.builtin "isinstance") (rDc X.K (nIsE tb a)) := fun pins s σ H xs us Q I r ⟨F, ds, hfh, r1, q⟩ => by
  unfold nIsE at q
  split at q
  · rename_i a' t
    obtain ⟨rfl, b, h1, q⟩ := q
    obtain ⟨v, v', rfl, r2, r3⟩ := r1.two
    have ev : v = .ref a' := by
      rcases r2 with r2 | ⟨_, _, _, _, z, _⟩
      · cases r2; rfl
      · cases z
    subst ev
    rcases ht t b h1 with ⟨T, rfl, e⟩ | ⟨n, rfl, e⟩
    · have ev : v' = .ref T := by
        rcases r3 with r3 | ⟨_, _, _, _, z, _⟩
        · cases r3; rfl
        · cases z
      subst ev
      exact call_isE k hz hf pins s σ H _ us Q I r ⟨_, _, b, rfl, (fun u h => by cases h; rfl), e, q.bl hfh⟩
    · have ev : v' = .ty n := by
        rcases r3 with r3 | ⟨_, _, _, _, z, _⟩
        · cases r3; rfl
        · cases z
      subst ev
      exact call_isE k hz hf pins s σ H _ us Q I r ⟨_, _, b, rfl, (fun u h => by cases h; rfl), e, q.bl hfh⟩
  · exact q.elim
theorem StOk.unAt {K : PySem.W.Frag} {G F0 F H : Hp} {env : En} {σ : L2.St} (k : StOk K G F0 F H env σ) (i : Nat) : StOk K G F0 F H (es env i .un) (σ.set i none) := k.wipes [i]
section
variable {X : Cx} {x n : Str} {c : Value} {i : Nat} {body suite : List Stmt} {b₀ : Stmt} {np pos pos' : Pos} {ct : List (Addr × Bool × TbE)} {mb : RX → RS} {hand : TbE → Addr → RS}
theorem sx_try (hN : X.N.Nodup) (hi : X.N[i]? = some n) (hln : X.env.kindOf n = some .local) (hc : Names X x c) (hct : ∀ C b tb, (C, b, tb) ∈ ct → PySem.W.exmOne X.K (.ref C) c = some b)
    (hb : ∀ pn xe, SXs (X.tr pn xe) body mb)
    (hh : ∀ C tb, (C, true, tb) ∈ ct → ∀ a oe pn, Zc (.ref C) none oe → (∃ vs, oe.data = .fields vs) → SSs (X.suite a ((a, oe) :: pn)) (b₀ :: suite) (hand tb a))
    (hs : X.stack = X.env :: X.outer := by rfl) (hf : X.env.frame = some X.env.locals := by rfl) :
    SX X (.Try body [.ExceptHandler (some (.Name x np)) (some n) (b₀ :: suite) pos'] [] [] pos) (sTry i ct mb hand) where
  mono := fun r r' Z Z' env lr l q => by
    refine (hb [] (fun _ _ => True)).mono _ _ _ _ _ (fun C env' ⟨b, tb, h1, h2, h3⟩ => ⟨b, tb, h1, fun e a => ?_, fun e => lr _ _ (h3 e)⟩) l q
    subst e
    exact (hh C tb h1 a ⟨.ref C, none, .fields #[], #[]⟩ [] ⟨rfl, rfl⟩ ⟨_, rfl⟩).mono (unD i Z) (unD i Z') _ ⟨fun e (q : Z.nx (es e i .un)) => l.nx _ q, l.rt, fun e (q : Z.bk (es e i .un)) => l.bk _ q, fun e (q : Z.ct (es e i .un)) => l.ct _ q⟩ (h2 rfl a)
  ps := fun G F0 => by
    refine PS_imp (ps_try_as hs hf hN hi hln hc (takes_WI (X := X)) (tb := fun W Z σ H => ∃ F env, StOk X.K G F0 F H env σ ∧ mb (fun C env' => ∀ σ F H, StOk X.K G F0 F H env' σ → W (.ref C) none σ H) (liftD X.K G F0 Z) env)
      (ts := fun a cls d Z σ H => ∃ C tb, cls = .ref C ∧ d = none ∧ (C, true, tb) ∈ ct ∧ ∃ F env, StOk X.K G F0 F H env σ ∧ hand tb a (liftD X.K G F0 Z) env)
      (fun W pn xe tk pw => PSs_imp ((hb pn xe).ps G F0) fun Z σ H ⟨F, env, k, q⟩ => ⟨F, env, k, (hb pn xe).mono _ _ _ _ _ (fun C env' h σ F H k => WI_of tk (h σ F H k)) (DE.le.refl _) q⟩)
      (fun a oe cls d pn hz hfd => ⟨fun pins s σ H Z I ⟨C, tb, e1, e2, h1, h2⟩ => ?_⟩)) fun Z σ H ⟨F, env, k, q⟩ => ?_
    · subst e1; subst e2
      exact ((hh C tb h1 a oe pn hz hfd).ps G F0).run pins s σ H Z I h2
    · refine ⟨F, env, k, (hb [] (fun _ _ => True)).mono _ _ _ _ _ (fun C env' ⟨b, tb, h1, h2, h3⟩ σ' F' H' k' => ⟨b, hct _ _ _ h1, fun e a na => ?_, fun e => h3 e σ' F' H' k'⟩) (DE.le.refl _) q⟩
      subst e
      refine ⟨C, tb, rfl, rfl, h1, F', es env' i (.v (.cls a)), by rw [es_eq]; exact k'.setV i (.cls a), ?_⟩
      exact (hh C tb h1 a ⟨.ref C, none, .fields #[], #[]⟩ [] ⟨rfl, rfl⟩ ⟨_, rfl⟩).mono (unD i (liftD X.K G F0 Z)) _ _ ⟨fun e (q : (liftD X.K G F0 Z).nx (es e i .un)) σ2 F2 H2 k2 => q _ _ _ (k2.unAt i), fun d q => q, fun e (q : (liftD X.K G F0 Z).bk (es e i .un)) σ2 F2 H2 k2 => q _ _ _ (k2.unAt i), fun e (q : (liftD X.K G F0 Z).ct (es e i .un)) σ2 F2 H2 k2 => q _ _ _ (k2.unAt i)⟩ (h2 rfl a)
end
/-! facts of the classes -/
def CtOk (K : PySem.W.Frag) (c : Value) (ct : List (Addr × Bool × TbE)) : Prop := ∀ C b tb, (C, b, tb) ∈ ct → PySem.W.exmOne K (.ref C) c = some b ∧ ExcC K C ∧ TbOk K C tb
section
variable {K : PySem.W.Frag} {c : Value} {C S T : Addr} {b : Bool} {tb : TbE} {ct : List (Addr × Bool × TbE)} {n : String}
theorem ct_nil : CtOk K c [] := fun C b tb h => nomatch h
theorem ct_cons (h1 : PySem.W.exmOne K (.ref C) c = some b) (h2 : ExcC K C) (h3 : TbOk K C tb) (t : CtOk K c ct) : CtOk K c ((C, b, tb) :: ct) := fun C' b' tb' h => by
  rcases List.mem_cons.mp h with e | h
  · cases e; exact ⟨h1, h2, h3⟩
  · exact t _ _ _ h
theorem te_nil : TbOk K C [] := fun t b h => nomatch h
theorem te_own (h1 : PySem.W.kitOne K (.ref C) (.ref T) = some b) (t : TbOk K C tb) : TbOk K C ((.cls T, b) :: tb) := fun t' b' h => by
  rcases List.mem_cons.mp h with e | h
  · cases e; exact .inl ⟨_, rfl, h1⟩
  · exact t _ _ h
theorem te_ty (h1 : PySem.W.kitOne K (.ref C) (.type n) = some b) (t : TbOk K C tb) : TbOk K C ((.ty n, b) :: tb) := fun t' b' h => by
  rcases List.mem_cons.mp h with e | h
  · cases e; exact .inr ⟨_, rfl, h1⟩
  · exact t _ _ h
theorem kit_ty (hm : PySem.W.kitMeta n = true) (h : PySem.W.subIn K (.ref C) (.type n) = some b) : PySem.W.kitOne K (.ref C) (.type n) = some b := by
  unfold PySem.W.kitOne
  rw [if_neg (by show ¬ ((Value.ref C == Value.type n) = true); exact fun z => nomatch (beq_iff_eq.mp z))]
  show (if PySem.W.kitMeta n = true then _ else none) = _
  rw [if_pos hm]; exact h
end
end DL

namespace DL
open PySem PySem.Spec PyProof.Rows L2
/-! ### xs + ys as a new list -/
def qCatN (d e : D) (Q : List D → Prop) : Prop := match d, e with
  | .lst xs, .lst ys => xs.length + ys.length ≤ sizeLine ∧ Q (xs ++ ys)
  | _, _ => False
theorem qCatN_l {xs ys : List D} {Q : List D → Prop} : qCatN (.lst xs) (.lst ys) Q = (xs.length + ys.length ≤ sizeLine ∧ Q (xs ++ ys)) := rfl
theorem qCatN_mono {d e : D} {Q Q' : List D → Prop} (i : ∀ x, Q x → Q' x) (q : qCatN d e Q) : qCatN d e Q' := by
  unfold qCatN at q ⊢
  split at q
  · exact ⟨q.1, i _ q.2⟩
  · exact q
def rCatN (ma mb : RE) : RN := fun env Q => ma env fun d e1 => mb e1 fun e e2 => qCatN d e fun xs => Q xs e2
section
variable {X : Cx} {a b : Expr} {ma mb : RE} {pos : Pos}
theorem en_cat (ha : EB X a ma) (hb : EB X b mb) : EN X (.BinOp a .Add b pos) (rCatN ma mb) where
  mono := fun env Q Q' i q => ha.mono _ _ _ (fun d e1 q => hb.mono _ _ _ (fun e e2 q => qCatN_mono (fun x q => i _ _ q) q) q) q
  pe := fun G F0 => PE_imp (pe_op op_cat (ha.pe G F0) (hb.pe G F0)) fun σ H Q ⟨F, env, k, q⟩ => by
    refine ⟨F, env, k, ha.mono _ _ _ (fun x e1 q v1 F1 H1 a1 r1 => ?_) q⟩
    refine ⟨F1, e1, a1.ok, hb.mono _ _ _ (fun y e2 q v2 F2 H2 a2 r2 => ?_) q⟩
    have r3 := r1.ext a2.fF a2.hH
    unfold qCatN at q
    split at q
    · obtain ⟨p0, vs, rfl, h1, p1⟩ := r3.lst a2.ok.fh
      obtain ⟨p2, ws, rfl, h2, p3⟩ := r2.lst a2.ok.fh
      obtain ⟨h4, q⟩ := q
      exact ⟨p0, p2, vs, ws, rfl, rfl, h1, h2, by rw [p1.length, p3.length]; exact h4, fun p hp => by
        obtain ⟨a3, hF, hG, no⟩ := af_new (vs := vs ++ ws) (a1.trans a2) hp
        exact q p _ F2 _ a3 upd_same hF hG no (p1.append p3)⟩
    · exact q.elim
end
end DL

namespace DL
open PySem PySem.Spec PyProof.Rows L2
/-! ### a comprehension over a list of one's own, which stays one's own -/
def ItOkH (K : PySem.W.Frag) (F H : Hp) (J : It) (ds : List D) : Prop := ∀ (i : Nat) (F1 H1 : Hp), Same F F1 → Same F1 H1 → Same H H1 →
  (∀ d, ds[i]? = some d → J.go i H1 ∧ ∀ x H2, J.yld i H1 x H2 → ∃ F2, Ext F1 H1 F2 H2 ∧ Rep K F2 x d) ∧ (ds[i]? = none → J.stop i H1)
def tIth (K : PySem.W.Frag) (G F0 : Hp) (m : RN) : TI := fun σ H R => ∃ F env, StOk K G F0 F H env σ ∧ m env fun ds env' => ∀ J F' H', Af K G F0 F H σ F' H' env' → ItOkH K F' H J ds → R J H'
structure EIh (X : Cx) (tg iter : Expr) (m : RN) : Prop where
  mono : MonoQ m
  pi : ∀ G F0, PI X tg iter (tIth X.K G F0 m)
section
variable {X : Cx}
theorem lc_core2h {G F0 : Hp} {σ : L2.St} {H : Hp} {Q : VK} {tg iter : Expr} {mi : RN} {g : RG} {tt : RT} {me : RE} {fz vs : List Nat} (hi : EIh X tg iter mi) (hg : MonoG g) (ht : MonoQ tt) (hm : MonoQ me) (h : tN X.K G F0 (rLc fz vs mi g tt me) σ H Q) :
    tLc (tIth X.K G F0 mi) (fun v σ H Q => ∃ G F0, tG X.K G F0 vs g v σ H Q) (fun σ H Q => ∃ G F0, tTe X.K G F0 tt σ H Q) (fun σ H Q => ∃ G F0, tM X.K G F0 me σ H Q) vs σ H Q := by
  obtain ⟨F, env, k, q⟩ := h
  refine ⟨F, env, k, hi.mono _ _ _ (fun ds e0 ⟨no, q⟩ J F1 H1 af0 io => fun Dd hD => ?_) q⟩
  obtain ⟨F', sF', kf⟩ := StOk.frzE fz af0.ok
  generalize frzE e0 fz = e at no q kf
  have af : Af X.K G F0 F H σ F' H1 e := ⟨af0.hH, af0.fF.trans sF', kf⟩
  obtain ⟨a1, hF, hG, nd⟩ := af_new (vs := []) af hD
  -- the state between two turns
  refine ⟨fun i m Hx => m = ds.length - i ∧ ∃ Fx acc accD, StOk X.K G F0 Fx Hx e σ ∧ Same F' Fx ∧ Same H Hx ∧ Hx Dd = some (.lst acc) ∧ Fx Dd = none ∧ Reps X.K Fx acc accD ∧ lcL vs g tt me e (fun acc => ∀ a vs' F'' H'', Af X.K G F0 F H σ F'' H'' e → H'' a = some (.lst vs') → F'' a = none → G a = none → NotOwn e σ a → Reps X.K F'' vs' acc → Q (.ref a) H'') (ds.drop i) accD,
    ⟨ds.length, by simp, F', [], [], a1.ok, Same.refl _, a1.hH, upd_same, hF, .nil, by simpa using q⟩, ?_⟩
  rintro i m Hx ⟨rfl, Fx, acc, accD, kx, sx, hx, hDx, fDx, ra, qx⟩
  have io1 := io i Fx Hx (sF'.trans sx) kx.fh hx
  cases e1 : ds[i]? with
  | none =>
    refine .inl ⟨io1.2 e1, ?_⟩
    rw [List.drop_eq_nil_of_le (List.getElem?_eq_none_iff.mp e1)] at qx
    exact qx Dd acc Fx Hx ⟨hx, af.fF.trans sx, kx⟩ hDx fDx hG nd ra
  | some d =>
    have hlt : i < ds.length := by
      rcases Nat.lt_or_ge i ds.length with h | h
      · exact h
      · rw [List.getElem?_eq_none h] at e1; cases e1
    have ed : ds.drop i = d :: ds.drop (i + 1) := by
      rw [List.drop_eq_getElem_cons hlt]
      rw [List.getElem?_eq_getElem hlt] at e1
      rw [Option.some.inj e1]
    rw [ed] at qx
    obtain ⟨go, yl⟩ := io1.1 d e1
    refine .inr ⟨go, fun Hy => ∃ Fx acc accD, StOk X.K G F0 Fx Hy e σ ∧ Same F' Fx ∧ Same H Hy ∧ Hy Dd = some (.lst acc) ∧ Fx Dd = none ∧ Reps X.K Fx acc accD ∧ lcL vs g tt me e (fun acc => ∀ a vs' F'' H'', Af X.K G F0 F H σ F'' H'' e → H'' a = some (.lst vs') → F'' a = none → G a = none → NotOwn e σ a → Reps X.K F'' vs' acc → Q (.ref a) H'') (ds.drop (i + 1)) accD,
      fun H' ⟨Fx, acc, accD, w⟩ => ⟨ds.length - (i + 1), by omega, rfl, Fx, acc, accD, w⟩, fun x H2 y => ?_⟩
    obtain ⟨F2, x2, r2⟩ := yl x H2 y
    -- the turn runs with the new list's cell among what stays
    have hD2 : H2 Dd = some (.lst acc) := x2.hH _ _ hDx
    have f2D : F2 Dd = none := by rw [x2.nw Dd (by rw [hDx]; exact fun z => nomatch z)]; exact fDx
    have k2 : StOk X.K G F0 F2 H2 e σ := kx.ext x2
    have kw := k2.wipes vs
    have noD : NotOwn (wipeE e vs) (wipe σ vs) Dd := fun j es' ej => by
      intro z
      by_cases hj : j ∈ vs
      · have this := wipe_none (σ := σ) hj
        rw [this] at z; cases z
      · rw [wipe_at hj] at z
        rw [wipeE_get hj] at ej
        exact nd j es' ej z
    have kG : StOk X.K (upd G Dd (.lst acc)) F2 F2 H2 (wipeE e vs) (wipe σ vs) := by
      refine ⟨kw.fh, fun b o eb => ?_, Same.refl _, fun _ _ => rfl, kw.len, kw.sl, fun j ds' a ej ea => ?_, kw.inj⟩
      · by_cases hb : b = Dd
        · subst hb; rw [upd_same] at eb; rw [hD2]; exact eb
        · rw [upd_ne hb] at eb; exact kw.gh _ _ eb
      · have : a ≠ Dd := fun z => noD j ds' ej (by rw [ea, z])
        rw [upd_ne this]; exact kw.og j ds' a ej ea
    -- back to the slots ahead of the turn
    have back : ∀ {F4 H4 : Hp} {e4 : En} {σ2 : L2.St} {acc' : List V}, StOk X.K (upd G Dd (.lst acc)) F2 F4 H4 e4 σ2 → Same H2 H4 → wipeE e4 vs = wipeE e vs → wipe σ2 vs = wipe σ vs → F4 Dd = none ∧ Same F2 F4 ∧ StOk X.K G F0 F4 (upd H4 Dd (.lst acc')) e σ := by
      intro F4 H4 e4 σ2 acc' k4 s4 we ws
      have f4D : F4 Dd = none := by rw [k4.nw Dd (by rw [upd_same]; exact fun z => nomatch z)]; exact f2D
      have gne : ∀ a, G a ≠ none → a ≠ Dd := fun a n z => n (z ▸ hG)
      refine ⟨f4D, k4.ff, fun b o q => ?_, fun b o q => ?_, k2.ff.trans k4.ff, fun b n => ?_, k2.len, fun j s ej => ?_, k2.og, k2.inj⟩
      · rw [upd_ne (ne_of_none q f4D)]; exact k4.fh _ _ q
      · have : b ≠ Dd := ne_of_none q hG
        rw [upd_ne this]; exact s4 _ _ (k2.gh _ _ q)
      · have : b ≠ Dd := gne b n
        rw [k4.nw b (by rw [upd_ne this]; exact n)]; exact k2.nw b n
      · have old := k2.sl j s ej
        cases s with
        | un => trivial
        | v d' => obtain ⟨v, ev, rv⟩ := old; exact ⟨v, ev, rv.mono k4.ff⟩
        | own ys =>
          by_cases hj : j ∈ vs
          · exfalso
            have := no j hj ys
            apply this
            exact eg_of ej
          · obtain ⟨b, vs', eb, _, hb, rb⟩ := old
            have e4j : e4[j]? = some (Sl.own ys) := by rw [← wipeE_get (env := e4) hj, we, wipeE_get hj]; exact ej
            obtain ⟨b', vs2, eb', n4, hb', rb'⟩ := k4.sl j _ e4j
            rw [← wipe_at (σ := σ2) hj, ws, wipe_at hj, eb] at eb'
            cases eb'
            have : b ≠ Dd := fun z => nd j ys ej (by rw [eb, z])
            exact ⟨b, vs2, eb, n4, by rw [upd_ne this]; exact hb', rb'⟩
    refine ⟨upd G Dd (.lst acc), F2, F2, wipeE e vs, d, kG, r2, hg _ _ _ _ (fun e2 ⟨we2, q3⟩ σ3 b3 k3 => ?_) qx⟩
    have wσ3 : wipe σ3 vs = wipe σ vs := wipe_but b3
    · refine ⟨wσ3, upd G Dd (.lst acc), F2, F2, e2, k3, ht _ _ _ (fun b e3 q4 F4 H4 a4 => ?_) q3⟩
      cases b with
      | true =>
        rw [if_pos rfl]
        rw [if_pos rfl] at q4
        refine ⟨upd G Dd (.lst acc), F2, F4, e3, a4.ok, hm _ _ _ (fun d5 e5 ⟨we5, hz, q5⟩ y F5 H5 a5 r5 => ?_) q4⟩
        obtain ⟨f5D, s25, k5⟩ := back (acc' := acc ++ [y]) a5.ok (a4.hH.trans a5.hH) we5 wσ3
        refine ⟨acc, a5.hH _ _ (a4.hH _ _ hD2), by rw [ra.length]; exact hz, F5, acc ++ [y], accD ++ [d5], k5, sx.trans (x2.fF.trans s25), fun b o eb => ?_, upd_same, f5D, (ra.mono (x2.fF.trans s25)).append (Reps.one r5), q5⟩
        have : b ≠ Dd := ne_of_none eb (af0.hH.at_none hD)
        rw [upd_ne this]; exact a5.hH _ _ (a4.hH _ _ (x2.hH _ _ (hx _ _ eb)))
      | false =>
        rw [if_neg (by decide)]
        rw [if_neg (by decide)] at q4
        obtain ⟨we4, q4⟩ := q4
        obtain ⟨f4D, s24, k4⟩ := back (acc' := acc) a4.ok a4.hH we4 wσ3
        have h4D : H4 Dd = some (.lst acc) := a4.hH _ _ hD2
        have eU : upd H4 Dd (.lst acc) = H4 := by
          funext b
          by_cases hb : b = Dd
          · subst hb; rw [upd_same, h4D]
          · rw [upd_ne hb]
        rw [eU] at k4
        exact ⟨F4, acc, accD, k4, sx.trans (x2.fF.trans s24), hx.trans (x2.hH.trans a4.hH), h4D, f4D, ra.mono (x2.fF.trans s24), q4⟩
theorem en_lcH {elt tg iter : Expr} {ifs : List Expr} {scope : Scope} {own : List (Str × Nat)} {pos : Pos} {mi : RN} {g : RG} {tt : RT} {me : RE} (fz : List Nat) (hc : X.calm = true) (hN : X.N.Nodup) (hi : EIh X tg iter mi) (ok : BlkOk X.N X.env.scope scope own)
    (hg : ∀ (s : Shared) (H : Hp) (C : Addr) (cl : List (Str × Addr)) (fp : List Addr), EG (X.blk s H scope (compEnvC scope cl C X.env) fp) tg (own.map (·.2)) g)
    (ht : ∀ (s : Shared) (H : Hp) (C : Addr) (cl : List (Str × Addr)) (fp : List Addr), ETs (X.blk s H scope (compEnvC scope cl C X.env) fp) ifs tt)
    (he : ∀ (s : Shared) (H : Hp) (C : Addr) (cl : List (Str × Addr)) (fp : List Addr), EE (X.blk s H scope (compEnvC scope cl C X.env) fp) elt me) (hs : ∀ x, foldedSetIterable iter X.env x = pure x := by intro _; rfl) :
    EN X (.ListComp elt [⟨tg, iter, ifs, 0⟩] scope pos) (rLc fz (own.map (·.2)) mi g tt me) :=
  { mono := fun env Q Q' i q => by
      have m1 : MonoG g := (hg X.s_0 X.H_0 0 [] []).mono
      have m2 : MonoQ tt := (ht X.s_0 X.H_0 0 [] []).mono
      have m3 : MonoQ me := (he X.s_0 X.H_0 0 [] []).mono
      exact rLc_mono hi.mono m1 m2 m3 env Q Q' i q
    pe := fun G F0 => by
      refine PE_of_run fun pins s σ H Q I h => ?_
      have m1 : MonoG g := (hg s H 0 [] []).mono
      have m2 : MonoQ tt := (ht s H 0 [] []).mono
      have m3 : MonoQ me := (he s H 0 [] []).mono
      exact (pe_lc hc hN (hi.pi G F0) ok (fun s H C cl fp => PG_of (t := fun G F0 => tG X.K G F0 (own.map (·.2)) g) fun G F0 => (hg s H C cl fp).pg G F0) (fun s H C cl fp => PTs_of (t := fun G F0 => tTe X.K G F0 tt) fun G F0 => (ht s H C cl fp).pe G F0) (fun s H C cl fp => PE_of (t := fun G F0 => tM X.K G F0 me) fun G F0 => (he s H C cl fp).pe G F0) hs).run pins s σ H Q I (lc_core2h hi m1 m2 m3 h) }
/-- the list in slot i, one's own or not -/
theorem ei_varB {tg : Expr} {x : Str} {p : Pos} {i : Nat} (hp : PE X (.Name x p) (tVar i)) : EIh X tg (.Name x p) (iSeq (rVarB i)) where
  mono := iSeq_mono (rVarB_mono i)
  pi := fun G F0 => PI_imp (pi_seqV hp) fun σ H R ⟨F, env, k, q⟩ => by
    have up : ∀ {J : It} {ds : List D} {F' : Hp}, ItOk X.K F' J ds → ItOkH X.K F' H J ds := fun h i F1 H1 s1 s2 _ => h i F1 H1 s1 s2
    unfold iSeq rVarB at q
    split at q
    · rename_i d e
      have g := eg_get (env := env) (i := i) (by rw [e]; exact fun z => nomatch z)
      rw [e] at g
      obtain ⟨v, ev, r⟩ := k.sl i _ g
      refine ⟨v, at_some ev, ?_⟩
      cases r <;> first | exact q.elim | skip
      · exact .inr (.inr ⟨_, rfl, q _ F H (Af.refl k) (up ItOk.str)⟩)
      · rename_i vs ds h rs
        exact .inr (.inl ⟨_, vs, rfl, SqT_mono k.fh h, q _ F H (Af.refl k) (up (ItOk.tup h rs))⟩)
      · rename_i vs ds h rs
        exact .inl ⟨_, vs, rfl, .of (k.fh _ _ h), q _ F H (Af.refl k) (up (ItOk.list (.of h) rs))⟩
      · rename_i ns h
        exact .inl ⟨_, _, rfl, k.fh.seq h, q _ F H (Af.refl k) (up (ItOk.list h (Reps.of_ints _)))⟩
    · rename_i ds e
      have g := eg_get (env := env) (i := i) (by rw [e]; exact fun z => nomatch z)
      rw [e] at g
      obtain ⟨a, ho, ea, hF, hH, r⟩ := k.sl i _ g
      obtain ⟨vs, rfl, r⟩ := r.lst
      refine ⟨.ref a, at_some ea, .inl ⟨a, vs, rfl, .of hH, q _ F H (Af.refl k) fun j F1 H1 s1 s2 s3 => ?_⟩⟩
      have h1 : SqL X.K H1 a vs := .of (s3 _ _ hH)
      refine ⟨fun d e' => ?_, fun e' => ?_⟩
      · obtain ⟨w, ew, rw'⟩ := r.get e'
        refine ⟨⟨vs, w, h1, ew⟩, fun y H2 z => ?_⟩
        obtain ⟨rfl, z⟩ := z
        have e2 := (z vs h1).symm.trans ew
        cases e2
        exact ⟨F1, Ext.refl s2, rw'.mono s1⟩
      · exact ⟨vs, h1, by rw [r.length]; exact List.getElem?_eq_none_iff.mp e'⟩
    · exact q.elim
end
end DL

namespace DL
open PySem PySem.Spec PyProof.Rows L2

/-! ### x in NAME, also for keys that are not there -/
structure DictN (K : PySem.W.Frag) (w : World) (mg : Str → Option Value) (x : Str) (ks bs : List Str) : Prop where
  ex : ∃ d es n, mg x = some (.ref d) ∧ KDict K w d es n ∧ (∀ z ∈ ks, ∃ u, PySem.W.nsIn K d z = some (some u)) ∧ ∀ z ∈ bs, PySem.W.nsIn K d z = some none
def rInN (ks bs : List Str) (m : RE) : RE := fun env Q => m env fun d e => ∃ z b, d = .str z ∧ ((z ∈ ks ∧ b = true) ∨ (z ∈ bs ∧ b = false)) ∧ Q (.bl b) e
theorem rInN_mono {ks bs : List Str} {m : RE} (h : MonoQ m) : MonoQ (rInN ks bs m) := fun env Q Q' i q => h _ _ _ (fun d e ⟨z, b, h1, h2, q⟩ => ⟨z, b, h1, h2, i _ _ q⟩) q
section
variable {X : Cx} {a : Expr} {x : Str} {ks bs : List Str} {m : RE} {p pos : Pos}
theorem inN_core {G F0 : Hp} {σ : L2.St} {H : Hp} {Q : VK} {d : Addr} (hks : ∀ z ∈ ks, ∃ u, PySem.W.nsIn X.K d z = some (some u)) (hbs : ∀ z ∈ bs, PySem.W.nsIn X.K d z = some none) (ha : EB X a m) (h : tM X.K G F0 (rInN ks bs m) σ H Q) :
    tOp (fun x y H Q => ∃ (z : Str) (r : Option Value), x = .str z ∧ y = .ref d ∧ PySem.W.nsIn X.K d z = some r ∧ Q (.bl r.isSome) H) (tBo X.K G F0 m) (tC (.ref d)) σ H Q := by
  obtain ⟨F, env, k, q⟩ := h
  refine ⟨F, env, k, ha.mono _ _ _ (fun y e ⟨z, b, h1, h2, q⟩ v F1 H1 a1 r1 => ?_) q⟩
  subst h1
  rcases h2 with ⟨h2, rfl⟩ | ⟨h2, rfl⟩
  · obtain ⟨u, hu⟩ := hks z h2
    exact ⟨z, some u, r1.str, rfl, hu, q _ F1 H1 a1 (.bl true)⟩
  · exact ⟨z, none, r1.str, rfl, hbs z h2, q _ F1 H1 a1 (.bl false)⟩
theorem ee_inN (P : DictN X.K X.w X.mg x ks bs) (hg : Gl X x) (ha : EB X a m) (hd : (x == ("__debug__" : Str)) = false := by decide) : EE X (.Compare a [.In] [.Name x p] pos) (rInN ks bs m) where
  mono := rInN_mono ha.mono
  pe := fun G F0 => by
    obtain ⟨d, es, n, hm, D, hks, hbs⟩ := P.ex
    exact PE_imp (pe_cmpR (op_in_kd D) (ha.pe G F0) (pe_glob (v := .ref d) hg hm rfl hd) rfl) fun σ H Q h => inN_core hks hbs ha h
end

/-! ### a text written k times -/
def repS (k : Nat) (z : Str) : Str := ⟨(List.replicate k z.cps).foldl (· ++ ·) #[]⟩
def dMulS : Op2 := fun d e Q => match d, e with
  | .str z, .int k => 2 ≤ k ∧ k ≤ 1000 ∧ 1 ≤ z.length ∧ z.length ≤ 1000 ∧ (repS k.toNat z).length ≤ sizeLine ∧ Q (.str (repS k.toNat z))
  | _, _ => False
theorem dMulS_mono : Mono2 dMulS := fun d e Q Q' i q => by
  unfold dMulS at q ⊢
  split at q <;> first | exact ⟨q.1, q.2.1, q.2.2.1, q.2.2.2.1, q.2.2.2.2.1, i _ q.2.2.2.2.2⟩ | exact q
theorem or_mulS {X : Cx} : OpR X (binaryOp .Mult) (rD2 X.K dMulS) := fun pins s σ H x y v u Q I rx ry ⟨F, d, e, hf, r1, r2, q⟩ => by
  unfold dMulS at q
  split at q
  · rename_i z k
    rw [r1.str] at rx; rw [r2.int] at ry
    obtain ⟨t, rfl⟩ := rx
    obtain ⟨t', rfl⟩ := ry
    obtain ⟨h2, h3, h4, h5, h6, q⟩ := q
    have c1 : (k == 1) = false := by rw [beq_eq_false_iff_ne]; omega
    have c2 : (z.length == 0) = false := by rw [beq_eq_false_iff_ne]; omega
    refine P.mul_str ?_ (fun _ _ h => ?_) (fun _ _ => ?_) ?_
    · rw [decide_eq_false (by omega), decide_eq_false (by omega)]; rfl
    · have hd : (2 ^ 63 - 1 : Int) / 1000 ≤ (2 ^ 63 - 1) / k := by
        refine (Int.le_ediv_iff_mul_le (by omega)).mpr ?_
        have e1 : ((2 : Int) ^ 63 - 1) / 1000 = 9223372036854775 := by decide
        rw [e1]
        have : (9223372036854775 : Int) * k ≤ 9223372036854775 * 1000 := Int.mul_le_mul_of_nonneg_left (by omega) (by omega)
        omega
      have e1 : ((2 : Int) ^ 63 - 1) / 1000 = 9223372036854775 := by decide
      rw [e1] at hd
      omega
    · unfold PySem.Builtin.Str.tooLong
      refine decide_eq_false fun h => ?_
      have h' : z.length * k.toNat > 16777216 := h
      have := Nat.mul_le_mul (show z.length ≤ 1000 by omega) (show k.toNat ≤ 1000 by omega)
      omega
    · rw [if_neg (by omega), c1, c2]
      exact ⟨h6, ⟨.str (repS k.toNat z), H, I.tok _, ⟨_, rfl⟩, q.str hf⟩⟩
  · exact q.elim
end DL

namespace DL
open PySem PySem.Spec PyProof.Rows L2

/-! ### defs whose result is a new list that stays one's own -/
def liftN (K : PySem.W.Frag) (G F0 : Hp) (D : Ends) : DE where
  nx := fun env => ∀ σ F H, StOk K G F0 F H env σ → D.nx σ H
  rt := fun d => ∃ es, d = .lst es ∧ ∀ a vs F H, Ext F0 G F H → H a = some (.lst vs) → F a = none → G a = none → Reps K F vs es → D.rt (.ref a) H
  bk := fun env => ∀ σ F H, StOk K G F0 F H env σ → D.bk σ H
  ct := fun env => ∀ σ F H, StOk K G F0 F H env σ → D.ct σ H
def tStN (K : PySem.W.Frag) (G F0 : Hp) (m : RS) : TS := fun D σ H => ∃ F env, StOk K G F0 F H env σ ∧ m (liftN K G F0 D) env
structure SNs (X : Cx) (st : List Stmt) (m : RS) : Prop where
  mono : MonoS m
  ps : ∀ G F0, PSs X st (tStN X.K G F0 m)
def sRetO (mn : RN) : RS := fun D env => mn env fun ds _ => D.rt (.lst ds)
def sSeqN (m m' : RS) : RS := fun D env => m { D with rt := fun _ => False, nx := fun e => m' D e } env
section
variable {X : Cx} {st : Stmt} {rest : List Stmt} {m m' : RS} {e : Expr} {mn : RN} {pos : Pos}
theorem sn_ret (h : EN X e mn) : SNs X [.Return (some e) pos] (sRetO mn) where
  mono := fun D D' env l q => h.mono _ _ _ (fun d e q => l.rt _ q) q
  ps := fun G F0 => pss_one (PS_imp (ps_ret (h.pe G F0)) fun D σ H ⟨F, env, k, q⟩ => ⟨F, env, k, h.mono _ _ _ (fun ds e ⟨es, h1, q⟩ a vs F' H' af h2 h3 h4 _ r => by
    cases h1
    exact q a vs F' H' af.ok.toExt h2 h3 h4 r) q⟩)
theorem sn_cons (h1 : SS X st m) (h2 : SNs X rest m') : SNs X (st :: rest) (sSeqN m m') where
  mono := fun Z Z' env l q => h1.mono { Z with rt := fun _ => False, nx := fun e => m' Z e } { Z' with rt := fun _ => False, nx := fun e => m' Z' e } env ⟨fun e q => h2.mono Z Z' e l q, fun _ q => q, l.bk, l.ct⟩ q
  ps := fun G F0 => PSs_imp (pss_cons (h1.ps G F0) (h2.ps G F0)) fun Z σ H ⟨F, env, k, q⟩ => ⟨F, env, k, h1.mono { liftN X.K G F0 Z with rt := fun _ => False, nx := fun e => m' (liftN X.K G F0 Z) e } _ env ⟨fun e q σ' F' H' k' => ⟨F', e, k', q⟩, fun _ q => q.elim, fun _ q => q, fun _ q => q⟩ q⟩
/-- an own list by its name: it is handed on -/
def rOwnV (i : Nat) : RN := fun env Q => ∃ ds, env[i]? = some (.own (.l ds)) ∧ Q ds (es env i .un)
theorem rOwnV_mono {i : Nat} : MonoQ (rOwnV i) := fun env Q Q' j q => by
  obtain ⟨ds, h, q⟩ := q
  exact ⟨ds, h, j _ _ q⟩
end
def WantsN (K : PySem.W.Frag) (F H : Hp) (Q : VK) (d : D) : Prop := ∃ es, d = .lst es ∧ ∀ a ws F' H', Ext F H F' H' → H' a = some (.lst ws) → F' a = none → H a = none → Reps K F' ws es → Q (.ref a) H'
def spN (K : PySem.W.Frag) (n : Nat) (spec : SpecD) : Sp := fun vs H Q _ => vs.length = n ∧ ∃ F ds, Same F H ∧ Reps K F vs ds ∧ spec ds (WantsN K F H Q)
section
variable {P : Program} {w : World} {K : PySem.W.Frag} {mg : Str → Option Value} {base : Heap}
theorem fn_okN {x qual : Str} {st : Stmt} {f : Addr} {fd : FuncData} {N ps : List Str} {k : Nat} {m : RS} (F : Fun K x qual st f fd) (S : FnScope N ps (defScope st))
    (hm : ∀ (cdv : Value) (A : Around) (outer : List Env) (s : Shared) (H : Hp) (E : XK), Room k (A.deeper (envOfC qual (defScope st) s.heap.objs.size f cdv)) → SNs (cxOf CX0 P w K mg base N qual (defScope st) f cdv A outer s H E).nox (defBody st) m) :
    FnOk P w K mg base CX0 (k + 1) f fd ps (spN K ps.length (runD N.length m)) :=
  F.ok S (fun vs H Q E h => h.1) fun cdv A outer s H vs Q E hr ⟨hl, F', ds, hF, r, q⟩ => by
    have M := hm cdv A outer s H E hr
    refine ⟨_, M.ps H F', F', startD N.length ds, start_ok hF r ?_, ?_⟩
    · rw [hl]
      have := congrArg List.length S.pre
      rw [List.length_take] at this
      omega
    · have h1 : ∀ e, WantsN K F' H Q .non → ∀ σ F1 H1, StOk K H F' F1 H1 e σ → Q .non H1 := fun e q => by
        obtain ⟨es, h, _⟩ := q
        exact nomatch h
      exact M.mono { nx := fun _ => WantsN K F' H Q .non, rt := WantsN K F' H Q } _ _ ⟨fun e q => h1 e q, fun d q => q, fun _ q => q.elim, fun _ q => q.elim⟩ q
structure CalN (P : Program) (w : World) (K : PySem.W.Frag) (mg : Str → Option Value) (base : Heap) (x : Str) (k : Nat) (ps : List Str) (spec : SpecD) : Prop where
  mono : MonoSp spec
  ex : ∃ (f : Addr) (fd : FuncData), FnOk P w K mg base CX0 k f fd ps (spN K ps.length spec) ∧ mg x = some (.ref f) ∧ PySem.W.keepIn K (.ref f) = true ∧ Binds K fd ps []
theorem calN_mk {x qual : Str} {st : Stmt} {f : Addr} {fd : FuncData} {N ps : List Str} {k : Nat} {m : RS} (F : Fun K x qual st f fd) (S : FnScope N ps (defScope st)) (hg : mg x = some (.ref f)) (hb : Binds K fd ps [])
    (hm : ∀ (cdv : Value) (A : Around) (outer : List Env) (s : Shared) (H : Hp) (E : XK), Room k (A.deeper (envOfC qual (defScope st) s.heap.objs.size f cdv)) → SNs (cxOf CX0 P w K mg base N qual (defScope st) f cdv A outer s H E).nox (defBody st) m)
    (hr0 : Room (k + 1) callerA) : CalN P w K mg base x (k + 1) ps (runD N.length m) where
  mono := runD_mono (hm .none callerA [] {} (fun _ => none) (fun _ _ _ => False) (hr0.deeper _)).mono
  ex := ⟨f, fd, fn_okN F S hm, hg, F.kp, hb⟩
end
def rUserN (spec : SpecD) (n : Nat) (m : RN) : RN := fun env Q => m env fun ds e => ds.length = n ∧ spec ds fun d => ∃ es, d = .lst es ∧ Q es e
section
variable {X : Cx} {x : Str} {k : Nat} {ps : List Str} {spec : SpecD} {p pos : Pos} {e : Expr} {es : List Expr} {m : RN}
theorem en_call (c : CalN X.prog X.w X.K X.mg X.base x k ps spec) (hr : Room k X.A) (hg : Gl X x) (ha : EA X (e :: es) m) {n : Nat} (hn : ps.length = n := by rfl) (hdb : (x == ("__debug__" : Str)) = false := by decide)
    (he : starEach (e :: es) X.env = (false, eval e X.env) :: starEach es X.env := by rfl) (hpl : (backTo pos (starEach es X.env)).any (·.1) = false := by rfl) : EN X (.Call (.Name x p) (e :: es) [] pos) (rUserN spec n m) where
  mono := fun env Q Q' i q => ha.mono _ _ _ (fun ds e q => ⟨q.1, c.mono _ _ _ (fun d ⟨es, h, q⟩ => ⟨es, h, i _ _ q⟩) q.2⟩) q
  pe := fun G F0 => by
    obtain ⟨f, fd, F, hm, hk, hb⟩ := c.ex
    refine PE_imp (pe_call F hr hg hm hk hb .nil pass0 (ha.pe G F0) hdb he hpl) fun σ H Q ⟨F, env, k, q⟩ => ⟨F, env, k, ha.mono _ _ _ (fun ds e q vs F1 H1 a1 r1 => ?_) q⟩
    refine ⟨by rw [List.append_nil, r1.length, hn]; exact q.1, F1, ds, a1.ok.fh, by rw [List.append_nil]; exact r1, c.mono _ _ _ (fun d q => ?_) q.2⟩
    obtain ⟨es', h, q⟩ := q
    exact ⟨es', h, fun a ws F2 H2 x2 h1 h2 h3 r2 => q a ws F2 H2 (a1.ext x2) h1 h2 (a1.ok.gh.at_none h3) (a1.ok.notOwn_new h3) r2⟩
end
end DL

namespace DL
open PySem PySem.Spec PyProof.Rows L2

/-! ### x = xs.pop(), a, b = xs.pop(): the last item of a list of one's own -/
def sPop (j : Nat) (g : RG) : RS := fun D env => ownAt env j fun ds => ∃ ys d, ds = ys ++ [d] ∧ g d (es env j (.own (.l ys))) fun e => D.nx e
def sPop1 (i j : Nat) : RS := fun D env => ownAt env j fun ds => ∃ ys d, ds = ys ++ [d] ∧ D.nx (es (es env j (.own (.l ys))) i (.v d))
section
variable {X : Cx} {pos : Pos}
theorem pop_core {G F0 F : Hp} {H : Hp} {σ : L2.St} {env : En} {j : Nat} {ys : List D} {d : D} {Q : VK} (k : StOk X.K G F0 F H env σ) (g0 : env[j]? = some (Sl.own (.l (ys ++ [d]))))
    (h : ∀ v H', StOk X.K G F0 F H' (es env j (.own (.l ys))) σ → Rep X.K F v d → Q v H') : tBM0 X.K "list" rPop (tVar j) σ H Q := by
  obtain ⟨a, ho, ea, hF, hH, r⟩ := k.sl j _ g0
  obtain ⟨vs, rfl, r⟩ := r.lst
  have hl := r.length
  rw [List.length_append] at hl
  simp only [List.length_cons, List.length_nil] at hl
  have e1 : vs = vs.take ys.length ++ vs.drop ys.length := (List.take_append_drop ..).symm
  obtain ⟨y, hy, ry⟩ := r.get (i := ys.length) (d := d) (by simp)
  refine ⟨.ref a, at_some ea, .inl ⟨rfl, vs, .of hH⟩, ?_⟩
  refine ⟨a, vs, y, rfl, rfl, hH, by rw [show vs.length - 1 = ys.length by omega]; exact hy, ?_⟩
  refine h y _ ?_ ry
  rw [es_eq]
  refine k.write g0 ea ?_
  have e2 : vs.dropLast = vs.take ys.length := by rw [List.dropLast_eq_take]; congr 1; omega
  rw [e2]
  have := r.take ys.length
  rw [List.take_left] at this
  exact this
theorem ss_pop {j : Nat} {o tg : Expr} {apos cpos : Pos} {g : RG} {sl : List Nat} (hp : PE X o (tVar j)) (hg : EG X tg sl g)
    (hs : swapsWithSole [tg] (.Call (.Attribute o "pop" apos) [] [] cpos) pos.line X.env = pure false := by rfl) (hw : swappedStores [tg] (.Call (.Attribute o "pop" apos) [] [] cpos) X.env = pure none := by rfl)
    (h1 : (assignEach [tg] X.env).map (·.2) = [assign tg X.env] := by rfl)
    (hbase : attributeBase o "pop" X.env (eval o X.env) = eval o X.env := by rfl) (hline : (apos.endLine == cpos.line) = true := by rfl) :
    SS X (.Assign [tg] (.Call (.Attribute o "pop" apos) [] [] cpos) pos) (sPop j g) where
  mono := fun D D' env l q => ownAt_mono (fun ds ⟨ys, d, h, q⟩ => ⟨ys, d, h, hg.mono _ _ _ _ (fun e q => l.nx _ q) q⟩) q
  ps := fun G F0 => PS_imp (ps_asg (pe_bm0 PySem.F.plainAttrs_list PySem.F.slot_list_pop PySem.F.type_list_pop mt_pop hp hbase hline) (hg.pg G F0) hs hw h1) fun D σ H ⟨F, env, k, q⟩ => by
    obtain ⟨ds, g0, ys, d, rfl, q⟩ := ownAt_get q
    exact pop_core k g0 fun v H' k' r => ⟨F, _, d, k', r, hg.mono _ _ _ _ (fun e q σ' _ k2 => q σ' F _ k2) q⟩
theorem ss_pop1 {i j : Nat} {o : Expr} {x : Str} {apos cpos pos' : Pos} (hN : X.N.Nodup) (hi : X.N[i]? = some x) (hx : Loc X.env.scope x) (hp : PE X o (tVar j))
    (hs : swapsWith (.Call (.Attribute o "pop" apos) [] [] cpos) (some (.Name x pos')) pos.line X.env = pure false := by rfl)
    (hf : X.fn x = true ∨ X.env.scope.names.lookup x = some .local := by first | exact .inl rfl | exact .inr rfl | assumption)
    (hbase : attributeBase o "pop" X.env (eval o X.env) = eval o X.env := by rfl) (hline : (apos.endLine == cpos.line) = true := by rfl) :
    SS X (.Assign [.Name x pos'] (.Call (.Attribute o "pop" apos) [] [] cpos) pos) (sPop1 i j) where
  mono := fun D D' env l q => ownAt_mono (fun ds ⟨ys, d, h, q⟩ => ⟨ys, d, h, l.nx _ q⟩) q
  ps := fun G F0 => PS_imp (ps_set hN hi hx (pe_bm0 PySem.F.plainAttrs_list PySem.F.slot_list_pop PySem.F.type_list_pop mt_pop hp hbase hline) hs hf) fun D σ H ⟨F, env, k, q⟩ => by
    obtain ⟨ds, g0, ys, d, rfl, q⟩ := ownAt_get q
    refine pop_core k g0 fun v H' k' r => ?_
    rw [es_eq (i := i)] at q
    exact q _ F H' (k'.setV i r)
theorem sPop_mono {j : Nat} {g : RG} (hg : MonoG g) : MonoS (sPop j g) := fun D D' env l q => ownAt_mono (fun ds ⟨ys, d, h, q⟩ => ⟨ys, d, h, hg _ _ _ _ (fun e q => l.nx _ q) q⟩) q
end
end DL

namespace DL
open PySem PySem.Spec PyProof.Rows L2

/-! ### calls with lists of one's own, whose result holds no list -/
inductive NoL : D → Prop
  | non : NoL .non
  | bl {b : Bool} : NoL (.bl b)
  | int {i : Int} : NoL (.int i)
  | str {x : Str} : NoL (.str x)
  | tup {ds : List D} : (∀ d ∈ ds, NoL d) → NoL (.tup ds)
  | ins {C : Addr} {ns : List Str} {xs : List D} : (∀ d ∈ xs, NoL d) → NoL (.ins C ns xs)
theorem Rep.noL {K : PySem.W.Frag} {F F' : Hp} (h : ∀ a o, F a = some o → (∀ vs, o ≠ .lst vs) → F' a = some o) {v : V} {d : D} (r : Rep K F v d) : NoL d → Rep K F' v d :=
  Rep.rec (motive_1 := fun v d _ => NoL d → Rep K F' v d) (motive_2 := fun vs ds _ => (∀ d ∈ ds, NoL d) → Reps K F' vs ds)
    (fun _ => .non) (fun b _ => .bl b) (fun i _ => .int i) (fun x _ => .str x)
    (fun q _ ih n => .tup (by
      rcases q with (q | ⟨o, q⟩) | q
      · exact .inl (.inl (h _ _ q fun vs z => nomatch z))
      · exact .inl (.inr ⟨o, h _ _ q fun vs z => nomatch z⟩)
      · exact .inr q) (ih (by cases n with | tup n => exact n)))
    (fun _ _ _ n => nomatch n) (fun _ n => nomatch n)
    (fun k q _ ih n => .ins k (h _ _ q fun vs z => nomatch z) (ih (by cases n with | ins n => exact n)))
    (fun _ n => nomatch n) (fun _ n => nomatch n) (fun _ n => nomatch n)
    (fun _ => .nil) (fun _ _ i1 i2 n => .cons (i1 (n _ (List.mem_cons_self ..))) (i2 fun d hd => n d (List.mem_cons_of_mem _ hd))) r
open Classical in
/-- the tracked heap and the lists among the arguments -/
noncomputable def addL (F H : Hp) (vs : List V) : Hp := fun a => match F a with
  | some o => some o
  | none => if V.ref a ∈ vs ∧ ∃ ws, H a = some (.lst ws) then H a else none
section
variable {K : PySem.W.Frag} {F H : Hp} {vs : List V}
theorem addL_some {a : Addr} {o : HO} (h : F a = some o) : addL F H vs a = some o := by unfold addL; rw [h]
open Classical in
theorem addL_none {a : Addr} (h : F a = none) : addL F H vs a = none ∨ ∃ ws, addL F H vs a = some (.lst ws) ∧ H a = some (.lst ws) := by
  unfold addL
  rw [h]
  by_cases c : V.ref a ∈ vs ∧ ∃ ws, H a = some (.lst ws)
  · obtain ⟨h1, ws, h2⟩ := c
    have c : V.ref a ∈ vs ∧ ∃ ws, H a = some (.lst ws) := ⟨h1, ws, h2⟩
    refine .inr ⟨ws, ?_, h2⟩
    show (if V.ref a ∈ vs ∧ ∃ ws, H a = some (.lst ws) then H a else none) = _
    rw [if_pos c]; exact h2
  · refine .inl ?_
    show (if V.ref a ∈ vs ∧ ∃ ws, H a = some (.lst ws) then H a else none) = _
    rw [if_neg c]
open Classical in
theorem addL_lst {a : Addr} {ws : List V} (hf : Same F H) (h1 : V.ref a ∈ vs) (h2 : H a = some (.lst ws)) : addL F H vs a = some (.lst ws) := by
  unfold addL
  cases e : F a with
  | some o =>
    have := hf _ _ e
    rw [h2] at this; exact this.symm
  | none =>
    show (if V.ref a ∈ vs ∧ ∃ ws, H a = some (.lst ws) then H a else none) = _
    rw [if_pos ⟨h1, ws, h2⟩]; exact h2
theorem addL_same : Same F (addL F H vs) := fun a o h => addL_some h
theorem addL_fh (hf : Same F H) : Same (addL F H vs) H := fun a o h => by
  cases e : F a with
  | some o' =>
    rw [addL_some e] at h; cases h; exact hf _ _ e
  | none =>
    rcases addL_none (H := H) (vs := vs) e with z | ⟨ws, z1, z2⟩
    · rw [z] at h; cases h
    · rw [z1] at h; cases h; exact z2
theorem addL_reps (hf : Same F H) {us : List V} {ds : List D} (r : BReps K F H us ds) : (∀ u ∈ us, u ∈ vs) → Reps K (addL F H vs) us ds := by
  induction r with
  | nil => exact fun _ => .nil
  | cons r _ ih =>
    intro hm
    refine .cons ?_ (ih fun u hu => hm u (List.mem_cons_of_mem _ hu))
    rcases r with r | ⟨a, ws, es, rfl, rfl, h1, h2⟩
    · exact r.mono addL_same
    · exact .lst (addL_lst hf (hm _ (List.mem_cons_self ..)) h1) (h2.mono addL_same)
open Classical in
noncomputable def dropL (F1 H1 F2 : Hp) : Hp := fun a => if F1 a = none ∧ H1 a ≠ none then none else F2 a
theorem dropL_ext {F1 H1 F2 H2 : Hp} (hf : Same F1 H1) (x : Ext (addL F1 H1 vs) H1 F2 H2) : Ext F1 H1 (dropL F1 H1 F2) H2 where
  fF := fun a o h => by
    unfold dropL
    rw [if_neg (fun z => by rw [h] at z; cases z.1)]
    exact x.fF _ _ (addL_some h)
  hH := x.hH
  fh := fun a o h => by
    unfold dropL at h
    split at h
    · cases h
    · exact x.fh _ _ h
  nw := fun a n => by
    unfold dropL
    cases e : F1 a with
    | none => rw [if_pos ⟨rfl, n⟩]
    | some o =>
      rw [if_neg (fun z => nomatch z.1), x.nw a n]
      exact addL_some e
theorem dropL_rep {F1 H1 F2 H2 : Hp} (x : Ext (addL F1 H1 vs) H1 F2 H2) {v : V} {d : D} (n : NoL d) (r : Rep K F2 v d) : Rep K (dropL F1 H1 F2) v d := r.noL (fun a o h nl => by
  unfold dropL
  by_cases c : F1 a = none ∧ H1 a ≠ none
  · rw [x.nw a c.2] at h
    rcases addL_none (H := H1) (vs := vs) c.1 with z | ⟨ws, z1, _⟩
    · rw [z] at h; cases h
    · rw [z1] at h; cases h; exact absurd rfl (nl ws)
  · rw [if_neg c]; exact h) n
end
def rUserL (spec : SpecD) (nd : List D) (n : Nat) (m : RN) : RE := fun env Q => m env fun ds e => (ds ++ nd).length = n ∧ spec (ds ++ nd) fun d => NoL d ∧ Q d e
section
variable {X : Cx} {x : Str} {k : Nat} {ps : List Str} {nd : List D} {spec : SpecD} {p pos : Pos} {e : Expr} {es : List Expr} {m : RN}
theorem ee_callL (c : Cal X.prog X.w X.K X.mg X.base x k ps nd spec) (hr : Room k X.A) (hg : Gl X x) (ha : EAb X (e :: es) m) {n : Nat} (hn : ps.length = n := by rfl) (hdb : (x == ("__debug__" : Str)) = false := by decide)
    (he : starEach (e :: es) X.env = (false, eval e X.env) :: starEach es X.env := by rfl) (hpl : (backTo pos (starEach es X.env)).any (·.1) = false := by rfl) : EE X (.Call (.Name x p) (e :: es) [] pos) (rUserL spec nd n m) where
  mono := fun env Q Q' i q => ha.mono _ _ _ (fun ds e q => ⟨q.1, c.mono _ _ _ (fun d q => ⟨q.1, i _ _ q.2⟩) q.2⟩) q
  pe := fun G F0 => by
    obtain ⟨f, fd, dvs, ds, F, hm, hk, hb, hd, rd, hl⟩ := c.ex
    refine PE_imp (pe_call F hr hg hm hk hb hd pass0 (ha.pe G F0) hdb he hpl) fun σ H Q ⟨F, env, k, q⟩ => ⟨F, env, k, ha.mono _ _ _ (fun es e q vs F1 H1 a1 r1 => ?_) q⟩
    have r2 := (addL_reps (vs := vs) a1.ok.fh r1 fun u hu => hu).append (rd (addL F1 H1 vs))
    refine ⟨by rw [r2.length, hn]; exact q.1, addL F1 H1 vs, _, addL_fh a1.ok.fh, r2, c.mono _ _ _ (fun d q v F2 H2 x2 r2 => ?_) q.2⟩
    exact q.2 v (dropL F1 H1 F2) H2 (a1.ext (dropL_ext a1.ok.fh x2)) (dropL_rep x2 q.1 r2)
end
end DL

namespace DL
open PySem PySem.Spec PyProof.Rows L2
/-! ### a def with keyword-only parameters called without them; two keywords the other way round -/
section
variable {P : Program} {w : World} {K : PySem.W.Frag} {mg : Str → Option Value} {base : PySem.Heap} {x xf qual : Str} {k n : Nat} {ks ps : List Str} {spec : SpecD} {f : Addr} {fd : FuncData} {params : Arguments} {body : List Stmt} {scope : Scope} {ms kws : List (Str × V)} {md : List D}
theorem cal_mkD0 (h1 : MonoSp spec) (hw : kws ≠ []) (hmd : ∀ F, Reps K F (kws.map (·.2)) md) (hn : n + kws.length = ps.length) (h4 : FnOk P w K mg base CX0 k f fd ps (spD K ps.length spec)) (hm : mg x = some (.ref f)) (kp : PySem.W.keepIn K (.ref f) = true)
    (FD : FunD K xf qual params body scope [] kws f fd)
    (h7 : ∀ (D : Addr) (doc pm : Value) (an : Option Addr) (cdv ct : Value) (us mv : List Value), us.length = n → mv.length = kws.length →
      KwChain D ((kws.map (·.1)).zip mv) (bindArgs (PySem.W.fnOf xf qual params body scope .none (.ref D) doc pm an cdv ct) ⟨us, []⟩) (ps.zip (us ++ mv))) : Cal P w K mg base x k ps md spec where
  mono := h1
  ex := by
    obtain ⟨ds, hv, hb⟩ := FD.binds0 (ps := ps) n hw hn h7
    exact ⟨f, fd, _, ds, h4, hm, kp, hb, hv, hmd, by rw [← (hmd fun _ => none).length, List.length_map]; omega⟩
theorem calK_mkR (h1 : MonoSp spec) (hn : ps.length = n + ks.length) (h4 : FnOk P w K mg base CX0 k f fd ps (spD K ps.length spec)) (hm : mg x = some (.ref f)) (kp : PySem.W.keepIn K (.ref f) = true)
    (h7 : ∀ (s : Shared) (us ws : List Value), us.length = n → ws.length = ks.length → BindsTo s fd ⟨us, ks.zip ws⟩ (ps.zip (us ++ ws.reverse))) : CalK P w K mg base x k n ks (fun ds es => ds ++ es.reverse) spec where
  mono := h1
  ex := ⟨f, fd, ps, fun us ws => us ++ ws.reverse, fun vs zs => vs ++ zs.reverse, h4, hm, kp, ⟨fun s us ws _ l1 l2 => h7 s us ws l1 l2, fun r1 r2 => r1.append r2.reverse⟩, fun F vs zs ds es l1 l2 r1 r2 => ⟨by rw [List.length_append, List.length_reverse, l1, l2, hn], r1.append r2.reverse⟩⟩
end
end DL

namespace DL
open PySem PySem.Spec PyProof.Rows L2
/-! ### defs that answer with something flat or with a new list, called with lists of one's own -/
section
variable {X : Cx} {i : Nat} {x : Str} {p : Pos}
theorem StOk.giveUp {K : PySem.W.Frag} {G F0 F H : Hp} {env : En} {σ : L2.St} (k : StOk K G F0 F H env σ) {ds : List D} (e : env[i]? = some (Sl.own (.l ds))) :
    ∃ a vs, L2.St.at σ i = some (V.ref a) ∧ H a = some (.lst vs) ∧ F a = none ∧ G a = none ∧ Reps K F vs ds ∧ StOk K G F0 F H (env.set i .un) σ ∧ NotOwn (env.set i .un) σ a := by
  obtain ⟨a, ho, ea, hF, hH, r⟩ := k.sl i _ e
  obtain ⟨vs, rfl, r⟩ := r.lst
  have hi : i < env.length := (List.getElem?_eq_some_iff.mp e).1
  have nt : ∀ (j : Nat) (c : OC), (env.set i Sl.un)[j]? = some (Sl.own c) → j ≠ i ∧ env[j]? = some (Sl.own c) := fun j c h => by
    rcases getElem?_set_some h with ⟨_, z, _⟩ | ⟨h1, h2⟩
    · cases z
    · exact ⟨h1, h2⟩
  refine ⟨a, vs, ea, hH, hF, k.og i _ a e ea, r, ⟨k.fh, k.gh, k.ff, k.nw, by rw [List.length_set]; exact k.len, fun j s h => ?_, fun j c b h => k.og j c b (nt j c h).2, fun j j' c c' b h h' => k.inj j j' c c' b (nt j c h).2 (nt j' c' h').2⟩, fun j c h z => (nt j c h).1 (k.inj j i c _ a (nt j c h).2 e z ea)⟩
  rcases getElem?_set_some h with ⟨_, rfl, _⟩ | ⟨_, h2⟩
  · trivial
  · exact k.sl j s h2
theorem en_own (hp : PE X (.Name x p) (tVar i)) : EN X (.Name x p) (rOwnV i) where
  mono := rOwnV_mono
  pe := fun G F0 => PE_imp hp fun σ H Q ⟨F, env, k, ds, h, q⟩ => by
    obtain ⟨a, vs, ea, hH, hF, hG, r, k2, no⟩ := k.giveUp h
    refine ⟨.ref a, at_some ea, ?_⟩
    rw [es_eq] at q
    exact q a vs F H ⟨Same.refl _, Same.refl _, k2⟩ hH hF hG no r
end
def liftV (K : PySem.W.Frag) (G F0 : Hp) (D : Ends) : DE where
  nx := fun env => ∀ σ F H, StOk K G F0 F H env σ → D.nx σ H
  rt := fun d => (flat d ∧ ∀ v F H, Ext F0 G F H → Rep K F v d → D.rt v H) ∨ ∃ es, d = .lst es ∧ ∀ a vs F H, Ext F0 G F H → H a = some (.lst vs) → F a = none → G a = none → Reps K F vs es → D.rt (.ref a) H
  bk := fun env => ∀ σ F H, StOk K G F0 F H env σ → D.bk σ H
  ct := fun env => ∀ σ F H, StOk K G F0 F H env σ → D.ct σ H
def tStV (K : PySem.W.Frag) (G F0 : Hp) (m : RS) : TS := fun D σ H => ∃ F env, StOk K G F0 F H env σ ∧ m (liftV K G F0 D) env
structure SVs (X : Cx) (st : List Stmt) (m : RS) : Prop where
  mono : MonoS m
  ps : ∀ G F0, PSs X st (tStV X.K G F0 m)
def sSeqV (m m' : RS) : RS := fun D env => m { D with rt := fun d => flat d ∧ D.rt d, nx := fun e => m' D e } env
section
variable {X : Cx} {st : Stmt} {rest : List Stmt} {m m' : RS} {e : Expr} {mn : RN} {pos : Pos}
theorem sv_ret (h : EN X e mn) : SVs X [.Return (some e) pos] (sRetO mn) where
  mono := fun D D' env l q => h.mono _ _ _ (fun d e q => l.rt _ q) q
  ps := fun G F0 => pss_one (PS_imp (ps_ret (h.pe G F0)) fun D σ H ⟨F, env, k, q⟩ => ⟨F, env, k, h.mono _ _ _ (fun ds e q a vs F' H' af h2 h3 h4 _ r => by
    rcases q with ⟨z, _⟩ | ⟨es, h1, q⟩
    · exact z.elim
    · cases h1
      exact q a vs F' H' af.ok.toExt h2 h3 h4 r) q⟩)
theorem sv_cons (h1 : SS X st m) (h2 : SVs X rest m') : SVs X (st :: rest) (sSeqV m m') where
  mono := fun Z Z' env l q => h1.mono { Z with rt := fun d => flat d ∧ Z.rt d, nx := fun e => m' Z e } { Z' with rt := fun d => flat d ∧ Z'.rt d, nx := fun e => m' Z' e } env ⟨fun e q => h2.mono Z Z' e l q, fun d q => ⟨q.1, l.rt d q.2⟩, l.bk, l.ct⟩ q
  ps := fun G F0 => PSs_imp (pss_cons (h1.ps G F0) (h2.ps G F0)) fun Z σ H ⟨F, env, k, q⟩ => ⟨F, env, k, h1.mono { liftV X.K G F0 Z with rt := fun d => flat d ∧ (liftV X.K G F0 Z).rt d, nx := fun e => m' (liftV X.K G F0 Z) e } _ env ⟨fun e q σ' F' H' k' => ⟨F', e, k', q⟩, fun d ⟨hf, q⟩ v F' H' x r => by
    rcases q with ⟨_, q⟩ | ⟨es, h, _⟩
    · exact q v F' H' x r
    · subst h; exact hf.elim, fun _ q => q, fun _ q => q⟩ q⟩
end
def WantsV (K : PySem.W.Frag) (F H : Hp) (Q : VK) (d : D) : Prop := (flat d ∧ ∀ v F' H', Ext F H F' H' → Rep K F' v d → Q v H') ∨ ∃ es, d = .lst es ∧ ∀ a ws F' H', Ext F H F' H' → H' a = some (.lst ws) → F' a = none → H a = none → Reps K F' ws es → Q (.ref a) H'
def spV (K : PySem.W.Frag) (n : Nat) (spec : SpecD) : Sp := fun vs H Q _ => vs.length = n ∧ ∃ F ds, Same F H ∧ Reps K F vs ds ∧ spec ds (WantsV K F H Q)
section
variable {P : Program} {w : World} {K : PySem.W.Frag} {mg : Str → Option Value} {base : Heap}
theorem fn_okV {x qual : Str} {st : Stmt} {f : Addr} {fd : FuncData} {N ps : List Str} {k : Nat} {m : RS} (F : Fun K x qual st f fd) (S : FnScope N ps (defScope st))
    (hm : ∀ (cdv : Value) (A : Around) (outer : List Env) (s : Shared) (H : Hp) (E : XK), Room k (A.deeper (envOfC qual (defScope st) s.heap.objs.size f cdv)) → SVs (cxOf CX0 P w K mg base N qual (defScope st) f cdv A outer s H E).nox (defBody st) m) :
    FnOk P w K mg base CX0 (k + 1) f fd ps (spV K ps.length (runD N.length m)) :=
  F.ok S (fun vs H Q E h => h.1) fun cdv A outer s H vs Q E hr ⟨hl, F', ds, hF, r, q⟩ => by
    have M := hm cdv A outer s H E hr
    refine ⟨_, M.ps H F', F', startD N.length ds, start_ok hF r ?_, ?_⟩
    · rw [hl]
      have := congrArg List.length S.pre
      rw [List.length_take] at this
      omega
    · have h1 : ∀ e, WantsV K F' H Q .non → ∀ σ F1 H1, StOk K H F' F1 H1 e σ → Q .non H1 := fun e q σ F1 H1 k => by
        rcases q with ⟨_, q⟩ | ⟨es, h, _⟩
        · exact q .non F1 H1 k.toExt .non
        · exact nomatch h
      exact M.mono { nx := fun _ => WantsV K F' H Q .non, rt := WantsV K F' H Q } _ _ ⟨fun e q => h1 e q, fun d q => q, fun _ q => q.elim, fun _ q => q.elim⟩ q
structure CalV (P : Program) (w : World) (K : PySem.W.Frag) (mg : Str → Option Value) (base : Heap) (x : Str) (k : Nat) (ps : List Str) (spec : SpecD) : Prop where
  mono : MonoSp spec
  ex : ∃ (f : Addr) (fd : FuncData), FnOk P w K mg base CX0 k f fd ps (spV K ps.length spec) ∧ mg x = some (.ref f) ∧ PySem.W.keepIn K (.ref f) = true ∧ Binds K fd ps []
theorem calV_mk {x qual : Str} {st : Stmt} {f : Addr} {fd : FuncData} {N ps : List Str} {k : Nat} {m : RS} (F : Fun K x qual st f fd) (S : FnScope N ps (defScope st)) (hg : mg x = some (.ref f)) (hb : Binds K fd ps [])
    (hm : ∀ (cdv : Value) (A : Around) (outer : List Env) (s : Shared) (H : Hp) (E : XK), Room k (A.deeper (envOfC qual (defScope st) s.heap.objs.size f cdv)) → SVs (cxOf CX0 P w K mg base N qual (defScope st) f cdv A outer s H E).nox (defBody st) m)
    (hr0 : Room (k + 1) callerA) : CalV P w K mg base x (k + 1) ps (runD N.length m) where
  mono := runD_mono (hm .none callerA [] {} (fun _ => none) (fun _ _ _ => False) (hr0.deeper _)).mono
  ex := ⟨f, fd, fn_okV F S hm, hg, F.kp, hb⟩
end
/-- flat, or a list of things that hold no list -/
def OkV (d : D) : Prop := flat d ∨ ∃ es, d = .lst es ∧ ∀ x ∈ es, NoL x
def rUserV (spec : SpecD) (n : Nat) (m : RN) : RE := fun env Q => m env fun ds e => ds.length = n ∧ spec ds fun d => OkV d ∧ Q d e
theorem Reps.noLs {K : PySem.W.Frag} {F F' : Hp} (h : ∀ a o, F a = some o → (∀ vs, o ≠ .lst vs) → F' a = some o) : ∀ {vs : List V} {ds : List D}, Reps K F vs ds → (∀ d ∈ ds, NoL d) → Reps K F' vs ds
  | _, _, .nil, _ => .nil
  | _, _, .cons r t, n => .cons (Rep.noL h r (n _ (List.mem_cons_self ..))) (Reps.noLs h t fun d hd => n d (List.mem_cons_of_mem _ hd))
section
variable {X : Cx} {x : Str} {k : Nat} {ps : List Str} {spec : SpecD} {p pos : Pos} {e : Expr} {es : List Expr} {m : RN}
theorem ee_callV (c : CalV X.prog X.w X.K X.mg X.base x k ps spec) (hr : Room k X.A) (hg : Gl X x) (ha : EAb X (e :: es) m) {n : Nat} (hn : ps.length = n := by rfl) (hdb : (x == ("__debug__" : Str)) = false := by decide)
    (he : starEach (e :: es) X.env = (false, eval e X.env) :: starEach es X.env := by rfl) (hpl : (backTo pos (starEach es X.env)).any (·.1) = false := by rfl) : EE X (.Call (.Name x p) (e :: es) [] pos) (rUserV spec n m) where
  mono := fun env Q Q' i q => ha.mono _ _ _ (fun ds e q => ⟨q.1, c.mono _ _ _ (fun d q => ⟨q.1, i _ _ q.2⟩) q.2⟩) q
  pe := fun G F0 => by
    obtain ⟨f, fd, F, hm, hk, hb⟩ := c.ex
    refine PE_imp (pe_call F hr hg hm hk hb .nil pass0 (ha.pe G F0) hdb he hpl) fun σ H Q ⟨F, env, k, q⟩ => ⟨F, env, k, ha.mono _ _ _ (fun es e q vs F1 H1 a1 r1 => ?_) q⟩
    have r2 := addL_reps (vs := vs) a1.ok.fh r1 fun u hu => hu
    refine ⟨by rw [List.append_nil, r2.length, hn]; exact q.1, addL F1 H1 vs, _, addL_fh a1.ok.fh, by rw [List.append_nil]; exact r2, c.mono _ _ _ (fun d q => ?_) q.2⟩
    obtain ⟨ov, q⟩ := q
    rcases ov with hf | ⟨ls, rfl, hn⟩
    · exact .inl ⟨hf, fun v F2 H2 x2 r2 => q v (dropL F1 H1 F2) H2 (a1.ext (dropL_ext a1.ok.fh x2)) (r2.flat_any hf)⟩
    · refine .inr ⟨ls, rfl, fun a ws F2 H2 x2 hH hF hN r2 => ?_⟩
      have dx := dropL_ext a1.ok.fh x2
      have da : dropL F1 H1 F2 a = none := by
        unfold dropL
        split
        · rfl
        · exact hF
      have rr : Reps X.K (dropL F1 H1 F2) ws ls := r2.noLs (fun b o h nl => by
        unfold dropL
        by_cases c : F1 b = none ∧ H1 b ≠ none
        · rw [x2.nw b c.2] at h
          rcases addL_none (H := H1) (vs := vs) c.1 with z | ⟨ws, z1, _⟩
          · rw [z] at h; cases h
          · rw [z1] at h; cases h; exact absurd rfl (nl ws)
        · rw [if_neg c]; exact h) hn
      have sd : Same (dropL F1 H1 F2) (upd (dropL F1 H1 F2) a (.lst ws)) := same_upd da
      refine q (.ref a) (upd (dropL F1 H1 F2) a (.lst ws)) H2 (a1.ext ⟨dx.fF.trans sd, dx.hH, fun b o hb => ?_, fun b nb => ?_⟩) (.lst upd_same (rr.mono sd))
      · by_cases c : b = a
        · subst c; rw [upd_same] at hb; rw [hH]; exact hb
        · rw [upd_ne c] at hb; exact dx.fh _ _ hb
      · have : b ≠ a := fun z => nb (z ▸ hN)
        rw [upd_ne this]; exact dx.nw b nb
end
end DL

namespace DL
open PySem PySem.Spec PyProof.Rows L2
/-! ### x.insert(k, e), x a list of one's own -/
def sIns (i : Nat) (mk me : RE) : RS := fun D env => ownAt env i fun _ => mk env fun k e1 => me e1 fun d e2 => match k with
  | .int j => ownAt e2 i fun ds => ds.length < sizeLine ∧ 0 ≤ j ∧ j < 2 ^ 63 ∧ D.nx (es e2 i (.own (.l (ds.take j.toNat ++ [d] ++ ds.drop j.toNat))))
  | _ => False
section
variable {X : Cx} {e o ix : Expr} {me mk : RE} {pos apos cpos : Pos} {i : Nat}
theorem sIns_mono (hk : MonoQ mk) (h : MonoQ me) : MonoS (sIns i mk me) := fun D D' env l q => ownAt_mono (fun ds q => hk _ _ _ (fun k e1 q => h _ _ _ (fun d e q => by
  cases k <;> first | exact q | exact ownAt_mono (fun ds q => ⟨q.1, q.2.1, q.2.2.1, l.nx _ q.2.2.2⟩) q) q) q) q
theorem ss_insert (hp : PE X o (tVar i)) (hk : EE X ix mk) (he : EE X e me)
    (hs : swapsWith (.Call (.Attribute o "insert" apos) [ix, e] [] cpos) none pos.line X.env = pure false := by rfl)
    (hbase : attributeBase o "insert" X.env (eval o X.env) = eval o X.env := by rfl)
    (hfew : ((backTo cpos (starEach [ix, e] X.env)).all (fun x => !x.1) && (backToKw cpos (keywordEach [] X.env)).all (fun x => x.1.isSome)
      && decide (([ix, e] : List Expr).length + ([] : List Keyword).length + (if ([] : List Keyword).isEmpty then 0 else 1) < 30)) = true := by rfl)
    (hline : (apos.endLine == cpos.line) = true := by rfl) (hst : starEach [ix, e] X.env = (false, eval ix X.env) :: starEach [e] X.env := by rfl) (hst2 : starEach [e] X.env = (false, eval e X.env) :: starEach [] X.env := by rfl) (hpl : (backTo cpos (starEach [e] X.env)).any (·.1) = false := by rfl) :
    SS X (.Expr (.Call (.Attribute o "insert" apos) [ix, e] [] cpos) pos) (sIns i mk me) where
  mono := sIns_mono hk.mono he.mono
  ps := fun G F0 => PS_imp (ps_expr (pe_bm PySem.F.plainAttrs_list PySem.F.slot_list_insert PySem.F.type_list_insert mt_insert hp (pa_cons (hk.pe G F0) (pa_cons (he.pe G F0) pa_nil hst2) hst) hbase hfew hline hst hpl) hs) fun D σ H ⟨F, env, k, q⟩ => by
    obtain ⟨ds0, g0, q⟩ := ownAt_get q
    obtain ⟨a, ho, ea, hF, hH, r⟩ := k.sl i _ g0
    obtain ⟨vs, rfl, r⟩ := r.lst
    refine ⟨.ref a, at_some ea, .inl ⟨rfl, vs, .of hH⟩, ?_⟩
    refine ⟨F, env, k, hk.mono _ _ _ (fun kd e0 q kv F0' H0 a0 r0 => ?_) q⟩
    refine ⟨F0', e0, a0.ok, he.mono _ _ _ (fun d e q v F1 H1 a1 r1 => ?_) q⟩
    cases r0 <;> first | exact q.elim | skip
    obtain ⟨ds, g, hz, j0, j1, q⟩ := ownAt_get q
    obtain ⟨b, ho', eb, hF', hH', r'⟩ := a1.ok.sl i _ g
    obtain ⟨vs', rfl, r'⟩ := r'.lst
    rw [ea] at eb; cases eb
    refine ⟨a, vs', _, v, rfl, rfl, hH', by rw [r'.length]; exact hz, j0, j1, ?_⟩
    rw [es_eq] at q
    exact q σ F1 _ (a1.ok.write g ea (((r'.take _).append (Reps.one r1)).append (r'.drop _)))
end
end DL

namespace DL
open PySem PySem.Spec PyProof.Rows L2
/-! ### set(list of ints) and its length -/
def nubI (ns : List Int) : List Int := PyProof.Rows.firstMet (fun i => ns.getD i 0) ns.length
def nSetI : OpN := fun ds Q => match ds with
  | [.lst xs] => ∃ ns : List Int, xs = ns.map D.int ∧ ns.length < 1000 ∧ Q (.sz (nubI ns).length)
  | _ => False
def nLenS : OpN := fun ds Q => match ds with
  | [.sz n] => n < 1000 ∧ Q (.int n)
  | _ => False
theorem nSetI_mono : MonoN nSetI := by unfold nSetI; intro ds Q Q' i q; revert q; split <;> intro q <;> first | exact q.elim | (obtain ⟨ns, h1, h2, h3⟩ := q; exact ⟨ns, h1, h2, i _ h3⟩)
theorem nLenS_mono : MonoN nLenS := by unfold nLenS; intro ds Q Q' i q; revert q; split <;> intro q <;> first | exact q.elim | exact ⟨q.1, i _ q.2⟩
theorem Wants.newS {K : PySem.W.Frag} {F H : Hp} {Q : VK} {S : Int → Bool} {n : Nat} {p : Addr} (hf : Same F H) (hp : H p = none) (h : Wants K F H Q (.sz n)) : Q (.ref p) (upd H p (.set S n)) := by
  have x := Ext.alloc (o := .set S n) hf hp
  exact h _ _ _ x (.sz upd_same)
theorem intsAre_vals : ∀ {ns : List Int} {us : List Value}, Vals (ns.map V.int) us → PyProof.Rows.IntsAre us ns
  | [], _, .nil => .nil
  | n :: ns, _, .cons r t => by
    obtain ⟨k, rfl⟩ := r
    exact .cons n k (intsAre_vals t)
section
variable {X : Cx}
theorem cn_setI (hc : X.calm = true) : CallR X (.type "set") (rDc X.K nSetI) := fun pins s σ H xs us Q I r ⟨F, ds, hf, r1, q⟩ => by
  unfold nSetI at q
  split at q
  · obtain ⟨v, rfl, r2⟩ := r1.one
    obtain ⟨ns, rfl, hl, q⟩ := q
    obtain ⟨a, vs, rfl, h, rs⟩ := r2.lst hf
    have ev := rs.ints
    subst ev
    obtain ⟨u, rfl, ru⟩ := vals1 r
    cases ru
    obtain ⟨its, rv, pl, hz⟩ := I.list (.of h)
    have hlen : its.toArray.size = ns.length := by rw [List.size_toArray, ← rv.length, List.length_map]
    refine call_set_list (I.ok.hd hc) pl.isList (by simpa using intsAre_vals rv) (by rw [hlen]; unfold scanBound; omega) fun h' tk hS hk => ?_
    rw [hlen] at hS
    have I2 := I.laid (t' := tk) (fun b o e => hk b o (Heap.lt_size e) e) (Nat.le_refl _) (show ObjOk X.prog X.w _ _ _ (.set _ _) from hS)
    exact ⟨.ref s.heap.objs.size, _, I2, rfl, q.newS hf (I.hok.fresh (Nat.le_refl _))⟩
  · exact q.elim
theorem cn_lenS : CallR X (.builtin "len") (rDc X.K nLenS) := fun pins s σ H xs us Q I r ⟨F, ds, hf, r1, q⟩ => by
  unfold nLenS at q
  split at q
  · obtain ⟨v, rfl, r2⟩ := r1.one
    rcases r2 with r2 | ⟨_, _, _, _, z, _⟩
    · cases r2 with
      | sz hF =>
        obtain ⟨u, rfl, ru⟩ := vals1 r
        cases ru
        have hS := I.hok _ _ (hf _ _ hF)
        obtain ⟨o, es, ep, t, ho, hex, hd, _, _, _, hft, hn⟩ := hS
        exact call_len_set ho hex hd hft (by rw [hn]; have := q.1; omega) ⟨.int _, H, I.tok _, ⟨_, by rw [hn]⟩, q.2.int hf⟩
    · cases z
  · exact q.elim
end
end DL

namespace DL
open PySem PySem.Spec PyProof.Rows L2

/-! ### plain lemmas about readings (no program in sight) -/
theorem mulOk_l {i j : Int} (h1 : -18446744073709551616 < i) (h2 : i < 18446744073709551616) : MulOk i j := .inl (.inl ⟨h1, h2⟩)
theorem mulOk_r {i j : Int} (h1 : -18446744073709551616 < j) (h2 : j < 18446744073709551616) : MulOk i j := .inl (.inr ⟨h1, h2⟩)
theorem mulOk_lt {i j : Int} (h1 : -18446744073709551616 < i) (h2 : i < 18446744073709551616) : MulOk i j = True := eq_true (mulOk_l h1 h2)
theorem mulOk_rt {i j : Int} (h1 : -18446744073709551616 < j) (h2 : j < 18446744073709551616) : MulOk i j = True := eq_true (mulOk_r h1 h2)
theorem cdiv_ok {i j : Int} (h : 0 < j) (h2 : j < 18446744073709551616) : CDivW i j :=
  wide_div (b := 64) h (by show j.natAbs < 18446744073709551616; omega) (by decide) (by decide)
theorem cdiv_lt {i j : Int} (h : 0 < j) (h2 : j < 18446744073709551616) : CDivW i j = True := eq_true (cdiv_ok h h2)
theorem ex_bl {b : Bool} {P : Bool → Prop} : (∃ c, D.bl b = D.bl c ∧ P c) = P b := by
  refine propext ⟨fun ⟨c, h, p⟩ => ?_, fun p => ⟨b, rfl, p⟩⟩
  cases h; exact p
theorem ex_some {α : Type} {a : α} {P : α → Prop} : (∃ c, some a = some c ∧ P c) = P a := by
  refine propext ⟨fun ⟨c, h, p⟩ => ?_, fun p => ⟨a, rfl, p⟩⟩
  cases h; exact p
theorem if_dec {p : Prop} [Decidable p] {A B : Prop} : (if decide p = true then A else B) = (if p then A else B) := by
  by_cases h : p <;> simp [h]
/-- equal data -/
theorem eqv_int (i j : Int) : PyData.eqv (.int i) (.int j) = (i == j) := rfl
theorem dEq_int {i j : Int} {Q : D → Prop} : dEq (.int i) (.int j) Q = Q (.bl (decide (i = j))) := by
  refine propext ⟨fun ⟨p, q, h1, h2, _, _, h⟩ => ?_, fun h => ⟨.int i, .int j, rfl, rfl, rfl, rfl, ?_⟩⟩
  · simp only [toPy, Option.some.injEq] at h1 h2; subst h1 h2
    exact h
  · exact h
theorem dNe_int {i j : Int} {Q : D → Prop} : dNe (.int i) (.int j) Q = Q (.bl (!decide (i = j))) := by
  refine propext ⟨fun ⟨p, q, h1, h2, _, _, h⟩ => ?_, fun h => ⟨.int i, .int j, rfl, rfl, rfl, rfl, ?_⟩⟩
  · simp only [toPy, Option.some.injEq] at h1 h2; subst h1 h2
    exact h
  · exact h
theorem isi_ty {d : D} {a n : String} {Q : D → Prop} (h1 : tyS d = some a) (h2 : tysD.contains n = true) : nIsiB [d, .ty n] Q = Q (.bl (isiS a n)) := by
  refine propext ⟨fun ⟨b, h3, _, h⟩ => ?_, fun h => ⟨a, h1, h2, h⟩⟩
  rw [h1] at h3; cases h3; exact h
theorem isi_int_int {i : Int} {Q : D → Prop} : nIsiB [(.int i), .ty "int"] Q = Q (.bl true) := (isi_ty (a := "int") (n := "int") rfl (by decide)).trans (congrArg Q (congrArg D.bl (by decide)))
theorem isi_int_bool {i : Int} {Q : D → Prop} : nIsiB [(.int i), .ty "bool"] Q = Q (.bl false) := (isi_ty (a := "int") (n := "bool") rfl (by decide)).trans (congrArg Q (congrArg D.bl (by decide)))
theorem isi_int_str {i : Int} {Q : D → Prop} : nIsiB [(.int i), .ty "str"] Q = Q (.bl false) := (isi_ty (a := "int") (n := "str") rfl (by decide)).trans (congrArg Q (congrArg D.bl (by decide)))
theorem isi_int_tuple {i : Int} {Q : D → Prop} : nIsiB [(.int i), .ty "tuple"] Q = Q (.bl false) := (isi_ty (a := "int") (n := "tuple") rfl (by decide)).trans (congrArg Q (congrArg D.bl (by decide)))
theorem isi_int_list {i : Int} {Q : D → Prop} : nIsiB [(.int i), .ty "list"] Q = Q (.bl false) := (isi_ty (a := "int") (n := "list") rfl (by decide)).trans (congrArg Q (congrArg D.bl (by decide)))
theorem isi_bl_int {i : Bool} {Q : D → Prop} : nIsiB [(.bl i), .ty "int"] Q = Q (.bl true) := (isi_ty (a := "bool") (n := "int") rfl (by decide)).trans (congrArg Q (congrArg D.bl (by decide)))
theorem isi_bl_bool {i : Bool} {Q : D → Prop} : nIsiB [(.bl i), .ty "bool"] Q = Q (.bl true) := (isi_ty (a := "bool") (n := "bool") rfl (by decide)).trans (congrArg Q (congrArg D.bl (by decide)))
theorem isi_bl_str {i : Bool} {Q : D → Prop} : nIsiB [(.bl i), .ty "str"] Q = Q (.bl false) := (isi_ty (a := "bool") (n := "str") rfl (by decide)).trans (congrArg Q (congrArg D.bl (by decide)))
theorem isi_bl_tuple {i : Bool} {Q : D → Prop} : nIsiB [(.bl i), .ty "tuple"] Q = Q (.bl false) := (isi_ty (a := "bool") (n := "tuple") rfl (by decide)).trans (congrArg Q (congrArg D.bl (by decide)))
theorem isi_bl_list {i : Bool} {Q : D → Prop} : nIsiB [(.bl i), .ty "list"] Q = Q (.bl false) := (isi_ty (a := "bool") (n := "list") rfl (by decide)).trans (congrArg Q (congrArg D.bl (by decide)))
theorem isi_str_int {i : Str} {Q : D → Prop} : nIsiB [(.str i), .ty "int"] Q = Q (.bl false) := (isi_ty (a := "str") (n := "int") rfl (by decide)).trans (congrArg Q (congrArg D.bl (by decide)))
theorem isi_str_bool {i : Str} {Q : D → Prop} : nIsiB [(.str i), .ty "bool"] Q = Q (.bl false) := (isi_ty (a := "str") (n := "bool") rfl (by decide)).trans (congrArg Q (congrArg D.bl (by decide)))
theorem isi_str_str {i : Str} {Q : D → Prop} : nIsiB [(.str i), .ty "str"] Q = Q (.bl true) := (isi_ty (a := "str") (n := "str") rfl (by decide)).trans (congrArg Q (congrArg D.bl (by decide)))
theorem isi_str_tuple {i : Str} {Q : D → Prop} : nIsiB [(.str i), .ty "tuple"] Q = Q (.bl false) := (isi_ty (a := "str") (n := "tuple") rfl (by decide)).trans (congrArg Q (congrArg D.bl (by decide)))
theorem isi_str_list {i : Str} {Q : D → Prop} : nIsiB [(.str i), .ty "list"] Q = Q (.bl false) := (isi_ty (a := "str") (n := "list") rfl (by decide)).trans (congrArg Q (congrArg D.bl (by decide)))
theorem isi_tup_int {i : List D} {Q : D → Prop} : nIsiB [(.tup i), .ty "int"] Q = Q (.bl false) := (isi_ty (a := "tuple") (n := "int") rfl (by decide)).trans (congrArg Q (congrArg D.bl (by decide)))
theorem isi_tup_bool {i : List D} {Q : D → Prop} : nIsiB [(.tup i), .ty "bool"] Q = Q (.bl false) := (isi_ty (a := "tuple") (n := "bool") rfl (by decide)).trans (congrArg Q (congrArg D.bl (by decide)))
theorem isi_tup_str {i : List D} {Q : D → Prop} : nIsiB [(.tup i), .ty "str"] Q = Q (.bl false) := (isi_ty (a := "tuple") (n := "str") rfl (by decide)).trans (congrArg Q (congrArg D.bl (by decide)))
theorem isi_tup_tuple {i : List D} {Q : D → Prop} : nIsiB [(.tup i), .ty "tuple"] Q = Q (.bl true) := (isi_ty (a := "tuple") (n := "tuple") rfl (by decide)).trans (congrArg Q (congrArg D.bl (by decide)))
theorem isi_tup_list {i : List D} {Q : D → Prop} : nIsiB [(.tup i), .ty "list"] Q = Q (.bl false) := (isi_ty (a := "tuple") (n := "list") rfl (by decide)).trans (congrArg Q (congrArg D.bl (by decide)))
theorem isi_lst_int {i : List D} {Q : D → Prop} : nIsiB [(.lst i), .ty "int"] Q = Q (.bl false) := (isi_ty (a := "list") (n := "int") rfl (by decide)).trans (congrArg Q (congrArg D.bl (by decide)))
theorem isi_lst_bool {i : List D} {Q : D → Prop} : nIsiB [(.lst i), .ty "bool"] Q = Q (.bl false) := (isi_ty (a := "list") (n := "bool") rfl (by decide)).trans (congrArg Q (congrArg D.bl (by decide)))
theorem isi_lst_str {i : List D} {Q : D → Prop} : nIsiB [(.lst i), .ty "str"] Q = Q (.bl false) := (isi_ty (a := "list") (n := "str") rfl (by decide)).trans (congrArg Q (congrArg D.bl (by decide)))
theorem isi_lst_tuple {i : List D} {Q : D → Prop} : nIsiB [(.lst i), .ty "tuple"] Q = Q (.bl false) := (isi_ty (a := "list") (n := "tuple") rfl (by decide)).trans (congrArg Q (congrArg D.bl (by decide)))
theorem isi_lst_list {i : List D} {Q : D → Prop} : nIsiB [(.lst i), .ty "list"] Q = Q (.bl true) := (isi_ty (a := "list") (n := "list") rfl (by decide)).trans (congrArg Q (congrArg D.bl (by decide)))
theorem isi_non_int {Q : D → Prop} : nIsiB [.non, .ty "int"] Q = Q (.bl false) := (isi_ty (a := "NoneType") (n := "int") rfl (by decide)).trans (congrArg Q (congrArg D.bl (by decide)))
theorem isi_non_bool {Q : D → Prop} : nIsiB [.non, .ty "bool"] Q = Q (.bl false) := (isi_ty (a := "NoneType") (n := "bool") rfl (by decide)).trans (congrArg Q (congrArg D.bl (by decide)))
theorem isi_non_str {Q : D → Prop} : nIsiB [.non, .ty "str"] Q = Q (.bl false) := (isi_ty (a := "NoneType") (n := "str") rfl (by decide)).trans (congrArg Q (congrArg D.bl (by decide)))
theorem isi_non_tuple {Q : D → Prop} : nIsiB [.non, .ty "tuple"] Q = Q (.bl false) := (isi_ty (a := "NoneType") (n := "tuple") rfl (by decide)).trans (congrArg Q (congrArg D.bl (by decide)))
theorem isi_non_list {Q : D → Prop} : nIsiB [.non, .ty "list"] Q = Q (.bl false) := (isi_ty (a := "NoneType") (n := "list") rfl (by decide)).trans (congrArg Q (congrArg D.bl (by decide)))
/-! a place in a list -/
theorem atI_ofNat {α : Type} {xs : List α} {i : Int} {j : Nat} {x : α} (e : i = (j : Int)) (h : xs[j]? = some x) : atI xs i = some x := by
  subst e; exact atI_nat h
theorem ix_tup_at {xs : List D} {i : Int} {x : D} {Q : D → Prop} (h : atI xs i = some x) : dIx (.tup xs) (.int i) Q = Q x := by
  refine propext ⟨fun ⟨y, h1, q⟩ => ?_, fun q => ⟨x, h, q⟩⟩
  rw [h] at h1; cases h1; exact q
theorem ix_lst_at {xs : List D} {i : Int} {x : D} {Q : D → Prop} (h : atI xs i = some x) : dIx (.lst xs) (.int i) Q = Q x := by
  refine propext ⟨fun ⟨y, h1, q⟩ => ?_, fun q => ⟨x, h, q⟩⟩
  rw [h] at h1; cases h1; exact q
theorem ix_scr_at {xs : List Int} {i x : Int} {Q : D → Prop} (h : atI xs i = some x) : dIx (.scr xs) (.int i) Q = Q (.int x) := by
  refine propext ⟨fun ⟨y, h1, q⟩ => ?_, fun q => ⟨x, h, q⟩⟩
  rw [h] at h1; cases h1; exact q
theorem atI_0 {α : Type} {x : α} {xs : List α} : atI (x :: xs) 0 = some x := by
  simp [atI, ixN]
theorem atI_1 {α : Type} {x y : α} {xs : List α} : atI (x :: y :: xs) 1 = some y := by
  have : (1 : Int) < (xs.length : Int) + 1 + 1 := by omega
  simp [atI, ixN, this]
theorem atI_2 {α : Type} {x y z : α} {xs : List α} : atI (x :: y :: z :: xs) 2 = some z := by
  have : (2 : Int) < (xs.length : Int) + 1 + 1 + 1 := by omega
  simp [atI, ixN, this]
theorem atI_3 {α : Type} {x y z u : α} {xs : List α} : atI (x :: y :: z :: u :: xs) 3 = some u := by
  have : (3 : Int) < (xs.length : Int) + 1 + 1 + 1 + 1 := by omega
  simp [atI, ixN, this]
theorem ix_t0 {x : D} {xs : List D} {Q : D → Prop} : dIx (.tup (x :: xs)) (.int 0) Q = Q x := ix_tup_at atI_0
theorem ix_t1 {x y : D} {xs : List D} {Q : D → Prop} : dIx (.tup (x :: y :: xs)) (.int 1) Q = Q y := ix_tup_at atI_1
theorem ix_t2 {x y z : D} {xs : List D} {Q : D → Prop} : dIx (.tup (x :: y :: z :: xs)) (.int 2) Q = Q z := ix_tup_at atI_2
theorem ix_t3 {x y z u : D} {xs : List D} {Q : D → Prop} : dIx (.tup (x :: y :: z :: u :: xs)) (.int 3) Q = Q u := ix_tup_at atI_3
theorem ix_l0 {x : D} {xs : List D} {Q : D → Prop} : dIx (.lst (x :: xs)) (.int 0) Q = Q x := ix_lst_at atI_0
theorem ix_l1 {x y : D} {xs : List D} {Q : D → Prop} : dIx (.lst (x :: y :: xs)) (.int 1) Q = Q y := ix_lst_at atI_1
theorem ix_l2 {x y z : D} {xs : List D} {Q : D → Prop} : dIx (.lst (x :: y :: z :: xs)) (.int 2) Q = Q z := ix_lst_at atI_2
theorem ix_l3 {x y z u : D} {xs : List D} {Q : D → Prop} : dIx (.lst (x :: y :: z :: u :: xs)) (.int 3) Q = Q u := ix_lst_at atI_3
theorem sz_lit {n : Nat} (h : n ≤ 1000) : (n ≤ sizeLine) = True := eq_true (by show n ≤ 16777216; omega)
theorem noOwn_nil {env : En} : noOwn env [] = True := eq_true fun v h => nomatch h
theorem noOwn_cons {env : En} {v : Nat} {vs : List Nat} : noOwn env (v :: vs) = ((∀ ds, eg env v ≠ .own ds) ∧ noOwn env vs) := by
  refine propext ⟨fun h => ⟨h v (List.mem_cons_self ..), fun u hu => h u (List.mem_cons_of_mem _ hu)⟩, fun ⟨h1, h2⟩ u hu => ?_⟩
  rcases List.mem_cons.mp hu with e | hu
  · subst e; exact h1
  · exact h2 u hu
theorem dAdd_i {i j : Int} {Q : D → Prop} : dAdd (.int i) (.int j) Q = Q (.int (i + j)) := rfl
theorem dAdd_ib {i : Int} {j : Bool} {Q : D → Prop} : dAdd (.int i) (.bl j) Q = Q (.int (i + b2i j)) := rfl
theorem dAdd_s {i j : Str} {Q : D → Prop} : dAdd (.str i) (.str j) Q = (i.length + j.length ≤ sizeLine ∧ Q (.str (i ++ j))) := rfl
theorem dAdd_t {i j : List D} {Q : D → Prop} : dAdd (.tup i) (.tup j) Q = (i.length + j.length ≤ sizeLine ∧ Q (.tup (i ++ j))) := rfl
theorem dAdd_l {i j : List D} {Q : D → Prop} : dAdd (.lst i) (.lst j) Q = (i.length + j.length ≤ sizeLine ∧ Q (.lst (i ++ j))) := rfl
theorem dSub_i {i j : Int} {Q : D → Prop} : dSub (.int i) (.int j) Q = Q (.int (i - j)) := rfl
theorem dMul_i {i j : Int} {Q : D → Prop} : dMul (.int i) (.int j) Q = (MulOk i j ∧ Q (.int (i * j))) := rfl
theorem dDiv_i {i j : Int} {Q : D → Prop} : dDiv (.int i) (.int j) Q = (CDivW i j ∧ Q (.int (i / j))) := rfl
theorem dMod_i {i j : Int} {Q : D → Prop} : dMod (.int i) (.int j) Q = (0 < j ∧ Q (.int (i % j))) := rfl
theorem dRel_i {f : Int → Int → Bool} {i j : Int} {Q : D → Prop} : dRel f (.int i) (.int j) Q = Q (.bl (f i j)) := rfl
theorem dTr_non {Q : Bool → Prop} : dTr (.non) Q = Q false := rfl
theorem dTr_bl {b : Bool} {Q : Bool → Prop} : dTr (.bl b) Q = Q b := rfl
theorem dTr_int {b : Int} {Q : Bool → Prop} : dTr (.int b) Q = Q (b != 0) := rfl
theorem dTr_tup {b : List D} {Q : Bool → Prop} : dTr (.tup b) Q = Q (!b.isEmpty) := rfl
theorem dTr_lst {b : List D} {Q : Bool → Prop} : dTr (.lst b) Q = Q (!b.isEmpty) := rfl
theorem nInt_i {i : Int} {Q : D → Prop} : nInt [.int i] Q = Q (.int i) := rfl
theorem nInt_b {i : Bool} {Q : D → Prop} : nInt [.bl i] Q = Q (.int (if i then 1 else 0)) := rfl
theorem nLen_t {i : List D} {Q : D → Prop} : nLen [.tup i] Q = Q (.int i.length) := rfl
theorem nLen_l {i : List D} {Q : D → Prop} : nLen [.lst i] Q = Q (.int i.length) := rfl
theorem nLen_c {i : List Int} {Q : D → Prop} : nLen [.scr i] Q = Q (.int i.length) := rfl
theorem nLen_s {i : Str} {Q : D → Prop} : nLen [.str i] Q = (i.length ≤ sizeLine ∧ Q (.int i.length)) := rfl
theorem nTuple_t {i : List D} {Q : D → Prop} : nTuple [.tup i] Q = Q (.tup i) := rfl
theorem nTuple_l {i : List D} {Q : D → Prop} : nTuple [.lst i] Q = Q (.tup i) := rfl
theorem nList_t {i : List D} {Q : D → Prop} : nList [.tup i] Q = Q (.lst i) := rfl
theorem nList_l {i : List D} {Q : D → Prop} : nList [.lst i] Q = Q (.lst i) := rfl
theorem nListN_t {i : List D} {Q : List D → Prop} : nListN [.tup i] Q = Q i := rfl
theorem nListN_l {i : List D} {Q : List D → Prop} : nListN [.lst i] Q = Q i := rfl
theorem nAbs_i {i : Int} {Q : D → Prop} : nAbs [.int i] Q = Q (.int (if i < 0 then -i else i)) := rfl
theorem nMax2_i {i j : Int} {Q : D → Prop} : nMax2 [.int i, .int j] Q = Q (.int (if j > i then j else i)) := rfl
theorem nMin2_i {i j : Int} {Q : D → Prop} : nMin2 [.int i, .int j] Q = Q (.int (if j < i then j else i)) := rfl
theorem dSeq_t {i : List D} {Q : List D → Prop} : dSeq (.tup i) Q = Q i := rfl
theorem dSeq_l {i : List D} {Q : List D → Prop} : dSeq (.lst i) Q = Q i := rfl
theorem dSeq_c {i : List Int} {Q : List D → Prop} : dSeq (.scr i) Q = Q (i.map D.int) := rfl
theorem dSeq_s {i : Str} {Q : List D → Prop} : dSeq (.str i) Q = Q (signs i) := rfl
theorem dSl_t {i : List D} {a b : Option Int} {Q : D → Prop} : dSl (.tup i) a b Q = Q (.tup (cutD i a b)) := rfl
theorem dSl_l {i : List D} {a b : Option Int} {Q : D → Prop} : dSl (.lst i) a b Q = Q (.lst (cutD i a b)) := rfl
theorem dSl_s {i : Str} {a b : Option Int} {Q : D → Prop} : dSl (.str i) a b Q = (i.length ≤ sizeLine ∧ Q (.str (cutS i a b))) := rfl
theorem gTp_t {n : Nat} {gs : RGs} {ds : List D} {e : En} {Q : En → Prop} : gTp n gs (.tup ds) e Q = (ds.length = n ∧ gs ds e Q) := rfl
theorem gsCons_c {g : RG} {gs : RGs} {d : D} {ds : List D} {e : En} {Q : En → Prop} : gsCons g gs (d :: ds) e Q = g d e fun e => gs ds e Q := rfl
theorem dIs_nn {Q : D → Prop} : dIs .non .non Q = Q (.bl true) := rfl
theorem dIsNot_nn {Q : D → Prop} : dIsNot .non .non Q = Q (.bl false) := rfl
theorem dIs_bl {i : Bool} {Q : D → Prop} : dIs (.bl i) .non Q = Q (.bl false) := rfl
theorem dIsNot_bl {i : Bool} {Q : D → Prop} : dIsNot (.bl i) .non Q = Q (.bl true) := rfl
theorem dIs_int {i : Int} {Q : D → Prop} : dIs (.int i) .non Q = Q (.bl false) := rfl
theorem dIsNot_int {i : Int} {Q : D → Prop} : dIsNot (.int i) .non Q = Q (.bl true) := rfl
theorem dIs_str {i : Str} {Q : D → Prop} : dIs (.str i) .non Q = Q (.bl false) := rfl
theorem dIsNot_str {i : Str} {Q : D → Prop} : dIsNot (.str i) .non Q = Q (.bl true) := rfl
theorem dIs_tup {i : List D} {Q : D → Prop} : dIs (.tup i) .non Q = Q (.bl false) := rfl
theorem dIsNot_tup {i : List D} {Q : D → Prop} : dIsNot (.tup i) .non Q = Q (.bl true) := rfl
theorem dIs_lst {i : List D} {Q : D → Prop} : dIs (.lst i) .non Q = Q (.bl false) := rfl
theorem dIsNot_lst {i : List D} {Q : D → Prop} : dIsNot (.lst i) .non Q = Q (.bl true) := rfl
theorem dIs_ins {c : Addr} {a : List Str} {b : List D} {Q : D → Prop} : dIs (.ins c a b) .non Q = Q (.bl false) := rfl
theorem dIsNot_ins {c : Addr} {a : List Str} {b : List D} {Q : D → Prop} : dIsNot (.ins c a b) .non Q = Q (.bl true) := rfl
theorem ix_lst_any {xs : List D} {i : Int} {Q : D → Prop} (h0 : 0 ≤ i) (h1 : i < xs.length) (h : ∀ x ∈ xs, Q x) : dIx (.lst xs) (.int i) Q := by
  have b : xs[i.toNat]? = some (xs[i.toNat]'(by omega)) := List.getElem?_eq_getElem (by omega)
  rw [ix_lst_at (atI_ofNat (j := i.toNat) (by omega) b)]
  exact h _ (List.getElem_mem _)
theorem ix_tup_any {xs : List D} {i : Int} {Q : D → Prop} (h0 : 0 ≤ i) (h1 : i < xs.length) (h : ∀ x ∈ xs, Q x) : dIx (.tup xs) (.int i) Q := by
  have b : xs[i.toNat]? = some (xs[i.toNat]'(by omega)) := List.getElem?_eq_getElem (by omega)
  rw [ix_tup_at (atI_ofNat (j := i.toNat) (by omega) b)]
  exact h _ (List.getElem_mem _)
theorem cast_0 : ((0 : Nat) : Int) = 0 := rfl
theorem cast_1 : ((1 : Nat) : Int) = 1 := rfl
theorem cast_2 : ((2 : Nat) : Int) = 2 := rfl
theorem cast_3 : ((3 : Nat) : Int) = 3 := rfl
theorem cast_4 : ((4 : Nat) : Int) = 4 := rfl
theorem cast_5 : ((5 : Nat) : Int) = 5 := rfl
theorem cast_6 : ((6 : Nat) : Int) = 6 := rfl
theorem cast_7 : ((7 : Nat) : Int) = 7 := rfl
theorem cast_8 : ((8 : Nat) : Int) = 8 := rfl
/-! the matches inside readings, kept shut while nothing is known -/
def qVar (s : Sl) (i : Nat) (env : En) (Q : D → En → Prop) : Prop := match s with
  | .v d => Q d env
  | .own (.l ds) => Q (.lst ds) (es env i (.v (.lst ds)))
  | _ => False
def qVarB (s : Sl) (env : En) (Q : D → En → Prop) : Prop := match s with
  | .v d => Q d env
  | .own (.l ds) => Q (.lst ds) env
  | _ => False
def qOwn (s : Sl) (Q : List D → Prop) : Prop := match s with
  | .own (.l ds) => Q ds
  | _ => False
def qSome (d : D) (Q : Option Int → Prop) : Prop := match d with
  | .int i => Q (some i)
  | _ => False
def qNeg (d : D) (Q : D → Prop) : Prop := match d with
  | .int i => Q (.int (-i))
  | _ => False
def qRg1 (ds : List D) (Q : List D → Prop) : Prop := match ds with
  | [.int j] => inR j ∧ Q (rangeD 0 j.toNat)
  | _ => False
def qRg2 (ds : List D) (Q : List D → Prop) : Prop := match ds with
  | [.int i, .int j] => inR i ∧ inR j ∧ Q (rangeD i (j - i).toNat)
  | _ => False
def qZip (ds : List D) (Q : List D → Prop) : Prop := match ds with
  | [.lst xs, .lst ys] => Q (zipD xs ys)
  | [.tup xs, .tup ys] => Q (zipD xs ys)
  | _ => False
def qEnum (ds : List D) (Q : List D → Prop) : Prop := match ds with
  | [.lst xs] => Q (enumD 0 xs)
  | _ => False
theorem rVar_q {i : Nat} {env : En} {Q : D → En → Prop} : rVar i env Q = qVar (eg env i) i env Q := rfl
theorem rVarB_q {i : Nat} {env : En} {Q : D → En → Prop} : rVarB i env Q = qVarB (eg env i) env Q := rfl
theorem ownAt_q {i : Nat} {env : En} {Q : List D → Prop} : ownAt env i Q = qOwn (eg env i) Q := rfl
theorem roSome_q {m : RE} {env : En} {Q : Option Int → En → Prop} : roSome m env Q = m env fun d e => qSome d fun o => Q o e := rfl
theorem rNeg_q {m : RE} {env : En} {Q : D → En → Prop} : rNeg m env Q = m env fun d e => qNeg d fun x => Q x e := rfl
theorem iRg1_q {m : RN} {env : En} {Q : List D → En → Prop} : iRg1 m env Q = m env fun ds e => qRg1 ds fun x => Q x e := rfl
theorem iRg2_q {m : RN} {env : En} {Q : List D → En → Prop} : iRg2 m env Q = m env fun ds e => qRg2 ds fun x => Q x e := by
  refine congrArg (m env) (funext fun ds => funext fun e => ?_)
  unfold qRg2; rfl
theorem iZipD_q {m : RN} {env : En} {Q : List D → En → Prop} : iZipD m env Q = m env fun ds e => qZip ds fun x => Q x e := rfl
theorem iEnumD_q {m : RN} {env : En} {Q : List D → En → Prop} : iEnumD m env Q = m env fun ds e => qEnum ds fun x => Q x e := rfl
theorem qVar_v {i : Nat} {d : D} {env : En} {Q : D → En → Prop} : qVar (.v d) i env Q = Q d env := rfl
theorem qVar_o {i : Nat} {ds : List D} {env : En} {Q : D → En → Prop} : qVar (.own (.l ds)) i env Q = Q (.lst ds) (es env i (.v (.lst ds))) := rfl
theorem qVarB_v {d : D} {env : En} {Q : D → En → Prop} : qVarB (.v d) env Q = Q d env := rfl
theorem qVarB_o {ds : List D} {env : En} {Q : D → En → Prop} : qVarB (.own (.l ds)) env Q = Q (.lst ds) env := rfl
theorem qOwn_o {ds : List D} {Q : List D → Prop} : qOwn (.own (.l ds)) Q = Q ds := rfl
theorem qSome_i {i : Int} {Q : Option Int → Prop} : qSome (.int i) Q = Q (some i) := rfl
theorem qNeg_i {i : Int} {Q : D → Prop} : qNeg (.int i) Q = Q (.int (-i)) := rfl
theorem qRg1_i {i : Int} {Q : List D → Prop} : qRg1 [.int i] Q = (inR i ∧ Q (rangeD 0 i.toNat)) := rfl
theorem qRg2_i {i j : Int} {Q : List D → Prop} : qRg2 [.int i, .int j] Q = (inR i ∧ inR j ∧ Q (rangeD i (j - i).toNat)) := rfl
theorem qZip_l {i j : List D} {Q : List D → Prop} : qZip [.lst i, .lst j] Q = Q (zipD i j) := rfl
theorem qZip_t {i j : List D} {Q : List D → Prop} : qZip [.tup i, .tup j] Q = Q (zipD i j) := rfl
theorem qEnum_l {i : List D} {Q : List D → Prop} : qEnum [.lst i] Q = Q (enumD 0 i) := rfl
def qSet (d : D) (Q : Int → Prop) : Prop := match d with
  | .int k => Q k
  | _ => False
theorem sSetIx_q {i : Nat} {mi mv : RE} {Z : DE} {env : En} : sSetIx i mi mv Z env = mv env fun v e1 => ownAt e1 i fun _ => mi e1 fun j e2 => qSet j fun k => ownAt e2 i fun ds => ∃ n, ixN ds.length k = some n ∧ Z.nx (es e2 i (.own (.l (ds.set n v)))) := rfl
theorem qSet_i {k : Int} {Q : Int → Prop} : qSet (.int k) Q = Q k := rfl
def qAug (s : Sl) (Q : Int → Prop) : Prop := match s with
  | .v (.int a) => Q a
  | _ => False
theorem sAug_q {f : Int → Int → Int} {i : Nat} {me : RE} {Z : DE} {env : En} : sAug f i me Z env = qAug (eg env i) fun a => me env fun d e => qSet d fun b => Z.nx (es e i (.v (.int (f a b)))) := by
  unfold sAug qAug qSet
  split <;> rfl
theorem qAug_i {a : Int} {Q : Int → Prop} : qAug (.v (.int a)) Q = Q a := rfl
/-! small ranges -/
theorem inR_ok {i : Int} (h : 0 ≤ i) (h2 : i ≤ 1000000) : inR i := ⟨by omega, by omega⟩
theorem inR_lit {i : Int} (h : -1000000 ≤ i) (h2 : i ≤ 1000000) : inR i = True := eq_true ⟨by omega, by omega⟩
/-! ### loops -/
theorem forL_inv {g : RG} {body : RS} (Inv : Nat → En → Prop) : ∀ (xs : List D) (Z : DE) (i : Nat) (e : En), Inv i e →
    (∀ (j : Nat) (x : D) (e : En) (Z' : DE), xs[j]? = some x → Inv (i + j) e → (∀ e', Inv (i + j + 1) e' → Z'.nx e') → (∀ e', Inv (i + j + 1) e' → Z'.ct e') → Z'.rt = Z.rt → Z'.bk = Z.nx → g x e fun e' => body Z' e') →
    (∀ e, Inv (i + xs.length) e → Z.nx e) → forL g body Z xs e
  | [], Z, i, e, h0, _, hd => hd e h0
  | x :: xs, Z, i, e, h0, hs, hd => by
    have tl : ∀ e', Inv (i + 1) e' → forL g body Z xs e' := fun e' h => forL_inv Inv xs Z (i + 1) e' h
      (fun j y e Z' hj hI h1 h2 h3 h4 => hs (j + 1) y e Z' (by simpa using hj) (by rw [show i + (j + 1) = i + 1 + j by omega]; exact hI) (fun e' q => h1 e' (by rw [show i + 1 + j + 1 = i + (j + 1) + 1 by omega]; exact q)) (fun e' q => h2 e' (by rw [show i + 1 + j + 1 = i + (j + 1) + 1 by omega]; exact q)) h3 h4)
      (fun e q => hd e (by rw [show i + (x :: xs).length = i + 1 + xs.length by simp; omega]; exact q))
    exact hs 0 x e { Z with nx := forL g body Z xs, ct := forL g body Z xs, bk := Z.nx } rfl h0 tl tl rfl rfl
theorem rangeD_length : ∀ (lo : Int) (n : Nat), (rangeD lo n).length = n
  | _, 0 => rfl
  | lo, n + 1 => by simp [rangeD, rangeD_length (lo + 1) n]
/-- a loop over a range -/
theorem forL_range {g : RG} {body : RS} {Z : DE} {lo : Int} {n : Nat} {e : En} (Inv : Nat → En → Prop) (h0 : Inv 0 e)
    (hs : ∀ (j : Nat) (e : En) (Z' : DE), j < n → Inv j e → (∀ e', Inv (j + 1) e' → Z'.nx e') → (∀ e', Inv (j + 1) e' → Z'.ct e') → Z'.rt = Z.rt → Z'.bk = Z.nx → g (.int (lo + j)) e fun e' => body Z' e')
    (hd : ∀ e, Inv n e → Z.nx e) : forL g body Z (rangeD lo n) e := by
  refine forL_inv Inv _ Z 0 e h0 (fun j x e Z' hj hI h1 h2 h3 h4 => ?_) (fun e q => hd e ?_)
  · rw [rangeD_get] at hj
    split at hj
    · rename_i hlt
      cases hj
      rw [Nat.zero_add] at hI h1 h2
      exact hs j e Z' hlt hI h1 h2 h3 h4
    · cases hj
  · rw [Nat.zero_add, rangeD_length] at q; exact q
/-- a comprehension that keeps every item -/
theorem lcL_map {vs : List Nat} {g : RG} {me : RE} {env : En} {Q : List D → Prop} (f : D → D) : ∀ (xs acc : List D), acc.length + xs.length ≤ sizeLine →
    (∀ x ∈ xs, ∀ P : D → En → Prop, (∀ e4, wipeE e4 vs = wipeE env vs → P (f x) e4) → g x (wipeE env vs) fun e2 => wipeE e2 vs = wipeE env vs ∧ me e2 P) →
    Q (acc ++ xs.map f) → lcL vs g rYes me env Q xs acc
  | [], acc, _, _, q => by
    have q' : Q acc := by simpa using q
    exact q'
  | x :: xs, acc, hl, hs, q => by
    have h := hs x (List.mem_cons_self ..) (fun d e4 => wipeE e4 vs = wipeE env vs ∧ acc.length < sizeLine ∧ lcL vs g rYes me env Q xs (acc ++ [d])) fun e4 w => ⟨w, by simp at hl; omega,
      lcL_map f xs (acc ++ [f x]) (by simp at hl ⊢; omega) (fun y hy => hs y (List.mem_cons_of_mem _ hy)) (by simpa using q)⟩
    exact h
/-- .. of items that are made of something plain -/
theorem lcL_of {α : Type} {vs : List Nat} {g : RG} {me : RE} {env : En} {Q : List D → Prop} (emb f : α → D) : ∀ (xs : List α) (acc : List D), acc.length + xs.length ≤ sizeLine →
    (∀ x ∈ xs, ∀ P : D → En → Prop, (∀ e4, wipeE e4 vs = wipeE env vs → P (f x) e4) → g (emb x) (wipeE env vs) fun e2 => wipeE e2 vs = wipeE env vs ∧ me e2 P) →
    Q (acc ++ xs.map f) → lcL vs g rYes me env Q (xs.map emb) acc
  | [], acc, _, _, q => by
    have q' : Q acc := by simpa using q
    exact q'
  | x :: xs, acc, hl, hs, q => by
    have h := hs x (List.mem_cons_self ..) (fun d e4 => wipeE e4 vs = wipeE env vs ∧ acc.length < sizeLine ∧ lcL vs g rYes me env Q (xs.map emb) (acc ++ [d])) fun e4 w => ⟨w, by simp at hl; omega,
      lcL_of emb f xs (acc ++ [f x]) (by simp at hl ⊢; omega) (fun y hy => hs y (List.mem_cons_of_mem _ hy)) (by simpa using q)⟩
    exact h
theorem asBls_of {α : Type} (p : α → Bool) (xs : List α) : asBls (xs.map fun a => D.bl (p a)) = some (xs.map p) := by
  rw [show (xs.map fun a => D.bl (p a)) = (xs.map p).map D.bl by rw [List.map_map]; rfl]; exact asBls_map _
theorem asInts_of {α : Type} (p : α → Int) (xs : List α) : asInts (xs.map fun a => D.int (p a)) = some (xs.map p) := by
  rw [show (xs.map fun a => D.int (p a)) = (xs.map p).map D.int by rw [List.map_map]; rfl]; exact asInts_map _
theorem all_id {α : Type} (p : α → Bool) (xs : List α) : (xs.map p).all id = xs.all p := by
  rw [List.all_map]; rfl
theorem any_id {α : Type} (p : α → Bool) (xs : List α) : (xs.map p).any id = xs.any p := by
  rw [List.any_map]; rfl
theorem nAll_of {α : Type} {p : α → Bool} {xs : List α} {Q : D → Prop} (h : Q (.bl (xs.all p))) : nAll [.lst (xs.map fun a => D.bl (p a))] Q := ⟨_, asBls_of p xs, by rw [all_id]; exact h⟩
theorem nAny_of {α : Type} {p : α → Bool} {xs : List α} {Q : D → Prop} (h : Q (.bl (xs.any p))) : nAny [.lst (xs.map fun a => D.bl (p a))] Q := ⟨_, asBls_of p xs, by rw [any_id]; exact h⟩
theorem nSum_of {α : Type} {p : α → Int} {xs : List α} {Q : D → Prop} (h : Q (.int (xs.map p).sum)) : nSum [.lst (xs.map fun a => D.int (p a))] Q := ⟨_, asInts_of p xs, h⟩
theorem nMaxL_of {α : Type} {p : α → Int} {xs : List α} {Q : D → Prop} (h0 : xs ≠ []) (h : ∀ a ∈ xs, (∀ b ∈ xs, p b ≤ p a) → Q (.int (p a))) : nMaxL [.lst (xs.map fun a => D.int (p a))] Q :=
  ⟨_, asInts_of p xs, by cases xs with
    | nil => exact absurd rfl h0
    | cons => simp, fun m hm hx => by
    obtain ⟨a, ha, rfl⟩ := List.mem_map.mp hm
    exact h a ha fun b hb => hx _ (List.mem_map_of_mem hb)⟩
theorem zipD_of {α β : Type} (f : α → D) (g : β → D) : ∀ (xs : List α) (ys : List β), zipD (xs.map f) (ys.map g) = (xs.zip ys).map fun p => D.tup [f p.1, g p.2]
  | [], _ => rfl
  | _ :: _, [] => rfl
  | x :: xs, y :: ys => by rw [List.map_cons, List.map_cons, zipD, zipD_of f g xs ys]; rfl
theorem dEq_bl {i j : Bool} {Q : D → Prop} : dEq (.bl i) (.bl j) Q = Q (.bl (i == j)) := by
  refine propext ⟨fun ⟨p, q, h1, h2, _, _, h⟩ => ?_, fun h => ⟨.bool i, .bool j, rfl, rfl, rfl, rfl, ?_⟩⟩
  · simp only [toPy, Option.some.injEq] at h1 h2; subst h1 h2
    exact h
  · exact h
/-! ### data that == tells apart -/
def Fa {α : Type} (emb : α → D) (k : Nat) : Prop := ∃ py : α → PyData, (∀ a, toPy (emb a) = some (py a)) ∧ (∀ a, (py a).canLay0 = true) ∧ (∀ a, (py a).depth ≤ k) ∧ ∀ a b, PyData.eqv (py a) (py b) = true ↔ a = b
theorem fa_int : Fa D.int 0 := ⟨PyData.int, fun _ => rfl, fun _ => rfl, fun _ => Nat.le_refl _, fun a b => by rw [PyData.eqv]; exact beq_iff_eq⟩
theorem fa_pair {α β : Type} {e : α → D} {f : β → D} {k : Nat} (h1 : Fa e k) (h2 : Fa f k) : Fa (fun p : α × β => D.tup [e p.1, f p.2]) (k + 1) := by
  obtain ⟨p, a1, a2, a3, a4⟩ := h1
  obtain ⟨q, b1, b2, b3, b4⟩ := h2
  refine ⟨fun x => .tuple [p x.1, q x.2], fun x => ?_, fun x => ?_, fun x => ?_, fun x y => ?_⟩
  · simp only [toPy, toPys, a1, b1, Option.map_some, Option.bind_some]
  · simp only [PyData.canLay0, PyData.canLayAll0, a2, b2, Bool.and_self]
  · have := a3 x.1
    have := b3 x.2
    simp only [PyData.depth, PyData.depthAll]; omega
  · simp only [PyData.eqv, PyData.eqvAll, Bool.and_true, Bool.and_eq_true, a4, b4]
    exact ⟨fun ⟨h1, h2⟩ => Prod.ext h1 h2, fun h => by subst h; exact ⟨rfl, rfl⟩⟩
theorem fa_all {α : Type} {e : α → D} {k : Nat} {p : α → PyData} (a1 : ∀ a, toPy (e a) = some (p a)) (a2 : ∀ a, (p a).canLay0 = true) (a3 : ∀ a, (p a).depth ≤ k) (a4 : ∀ a b, PyData.eqv (p a) (p b) = true ↔ a = b) :
    (∀ xs : List α, toPys (xs.map e) = some (xs.map p)) ∧ (∀ xs : List α, PyData.canLayAll0 (xs.map p) = true) ∧ (∀ xs : List α, PyData.depthAll (xs.map p) ≤ k) ∧ ∀ xs ys : List α, PyData.eqvAll (xs.map p) (ys.map p) = true ↔ xs = ys := by
  refine ⟨fun xs => ?_, fun xs => ?_, fun xs => ?_, fun xs => ?_⟩
  · induction xs with
    | nil => rfl
    | cons x xs ih => simp only [List.map_cons, toPys, a1, ih, Option.bind_some, Option.map_some]
  · induction xs with
    | nil => rfl
    | cons x xs ih => simp only [List.map_cons, PyData.canLayAll0, a2, ih, Bool.and_self]
  · induction xs with
    | nil => exact Nat.zero_le _
    | cons x xs ih =>
      have := a3 x
      simp only [List.map_cons, PyData.depthAll]; omega
  · induction xs with
    | nil => intro ys; cases ys <;> simp [PyData.eqvAll]
    | cons x xs ih =>
      intro ys
      cases ys with
      | nil => simp [PyData.eqvAll]
      | cons y ys => simp only [List.map_cons, PyData.eqvAll, Bool.and_eq_true, a4, ih ys, List.cons.injEq]
theorem fa_tup {α : Type} {e : α → D} {k : Nat} (h : Fa e k) : Fa (fun xs : List α => D.tup (xs.map e)) (k + 1) := by
  obtain ⟨p, a1, a2, a3, a4⟩ := h
  obtain ⟨b1, b2, b3, b4⟩ := fa_all a1 a2 a3 a4
  refine ⟨fun xs => .tuple (xs.map p), fun xs => ?_, fun xs => ?_, fun xs => ?_, fun xs ys => ?_⟩
  · simp only [toPy, b1, Option.map_some]
  · simp only [PyData.canLay0, b2]
  · have := b3 xs
    simp only [PyData.depth]; omega
  · rw [PyData.eqv]; exact b4 xs ys
theorem fa_lst {α : Type} {e : α → D} {k : Nat} (h : Fa e k) : Fa (fun xs : List α => D.lst (xs.map e)) (k + 1) := by
  obtain ⟨p, a1, a2, a3, a4⟩ := h
  obtain ⟨b1, b2, b3, b4⟩ := fa_all a1 a2 a3 a4
  refine ⟨fun xs => .list (xs.map p), fun xs => ?_, fun xs => ?_, fun xs => ?_, fun xs ys => ?_⟩
  · simp only [toPy, b1, Option.map_some]
  · simp only [PyData.canLay0, b2]
  · have := b3 xs
    simp only [PyData.depth]; omega
  · rw [PyData.eqv]; exact b4 xs ys
theorem shaped_of {d : PyData} {k : Nat} (h : d.canLay0 = true) (h2 : d.depth ≤ k) (hk : k ≤ 64) : SeqAt.shaped d = true := by
  unfold SeqAt.shaped; rw [h, decide_eq_true (Nat.le_trans h2 hk)]; rfl
theorem dEq_fa {α : Type} [DecidableEq α] {e : α → D} {k : Nat} (h : Fa e k) (hk : k ≤ 64) {a b : α} {Q : D → Prop} : dEq (e a) (e b) Q = Q (.bl (decide (a = b))) := by
  obtain ⟨p, a1, a2, a3, a4⟩ := h
  have e1 : PyData.eqv (p a) (p b) = decide (a = b) := by
    by_cases c : a = b
    · rw [decide_eq_true c]; exact (a4 a b).mpr c
    · rw [decide_eq_false c, ← Bool.not_eq_true]; exact fun z => c ((a4 a b).mp z)
  refine propext ⟨fun ⟨x, y, h1, h2, _, _, q⟩ => ?_, fun q => ⟨p a, p b, a1 a, a1 b, shaped_of (a2 a) (a3 a) hk, shaped_of (a2 b) (a3 b) hk, by rw [e1]; exact q⟩⟩
  rw [a1] at h1 h2; cases h1; cases h2
  rw [← e1]; exact q
theorem dNe_fa {α : Type} [DecidableEq α] {e : α → D} {k : Nat} (h : Fa e k) (hk : k ≤ 64) {a b : α} {Q : D → Prop} : dNe (e a) (e b) Q = Q (.bl (!decide (a = b))) := by
  obtain ⟨p, a1, a2, a3, a4⟩ := h
  have e1 : PyData.eqv (p a) (p b) = decide (a = b) := by
    by_cases c : a = b
    · rw [decide_eq_true c]; exact (a4 a b).mpr c
    · rw [decide_eq_false c, ← Bool.not_eq_true]; exact fun z => c ((a4 a b).mp z)
  refine propext ⟨fun ⟨x, y, h1, h2, _, _, q⟩ => ?_, fun q => ⟨p a, p b, a1 a, a1 b, shaped_of (a2 a) (a3 a) hk, shaped_of (a2 b) (a3 b) hk, by rw [e1]; exact q⟩⟩
  rw [a1] at h1 h2; cases h1; cases h2
  rw [← e1]; exact q
/-! slices -/
theorem sIx_some {n d : Nat} {v : Int} (h : 0 ≤ v) : HT.sIx n d (some v) = min v.toNat n := by
  show (if v < 0 then (v + (n : Int)).toNat else min v.toNat n) = _
  rw [if_neg (by omega)]
theorem cutD_to {xs : List D} {v : Int} (h : 0 ≤ v) : cutD xs none (some v) = xs.take v.toNat := by
  unfold cutD
  rw [HT.sIx_none, sIx_some h, List.drop_zero, Nat.sub_zero]
  by_cases c : v.toNat ≤ xs.length
  · rw [Nat.min_eq_left c]
  · rw [Nat.min_eq_right (by omega), List.take_length, List.take_of_length_le (by omega)]
theorem cutD_from {xs : List D} {v : Int} (h : 0 ≤ v) : cutD xs (some v) none = xs.drop v.toNat := by
  unfold cutD
  rw [HT.sIx_none, sIx_some h]
  by_cases c : v.toNat ≤ xs.length
  · rw [Nat.min_eq_left c, List.take_of_length_le (by simp)]
  · rw [Nat.min_eq_right (by omega), List.drop_length, List.drop_of_length_le (by omega)]; simp
/-! ### numbers of a script -/
def num1 (c : Int) : Int := if c < 0 then 1 - 2 * c else c
def num2 (c k : Int) : Int := (c * 48271 + k * 69621 + 7) % 2147483647 * 2147483563 + ((c * 48271 + k * 69621 + 7) % 2147483647 * 16807 + k * 40692 + 13) % 2147483563
def numFix (c k : Int) : Int := if num1 c < 1000000000 then num2 (num1 c) k else num1 c
def lawNum (ns : List Int) (k : Int) : Int := numFix (if k < ns.length then ns.getD k.toNat 0 else 104729 * k + 7919) k
theorem num1_nn (c : Int) : 0 ≤ num1 c := by unfold num1; split <;> omega
theorem num2_nn (c k : Int) : 0 ≤ num2 c k := by
  unfold num2
  have h1 := Int.emod_nonneg (c * 48271 + k * 69621 + 7) (show (2147483647 : Int) ≠ 0 by decide)
  have h2 := Int.emod_nonneg ((c * 48271 + k * 69621 + 7) % 2147483647 * 16807 + k * 40692 + 13) (show (2147483563 : Int) ≠ 0 by decide)
  omega
theorem numFix_nn (c k : Int) : 0 ≤ numFix c k := by
  unfold numFix
  split
  · exact num2_nn _ _
  · exact num1_nn _
theorem lawNum_nn (ns : List Int) (k : Int) : 0 ≤ lawNum ns k := numFix_nn _ _
/-! bit_length, range with a step, << -/
def qBits (d : D) (Q : Int → Prop) : Prop := match d with
  | .int i => Q i
  | _ => False
theorem rBits_q {m : RE} {env : En} {Q : D → En → Prop} : rBits m env Q = m env fun d e => qBits d fun i => Q (.int (Builtin.Int.intBits i : Nat)) e := by
  unfold rBits
  congr
theorem qBits_i {i : Int} {Q : Int → Prop} : qBits (.int i) Q = Q i := rfl
def qRg3 (ds : List D) (Q : Int → Int → Int → Prop) : Prop := match ds with
  | [.int i, .int j, .int k] => Q i j k
  | _ => False
theorem iRg3_q {m : RN} {env : En} {Q : List D → En → Prop} : iRg3 m env Q = m env fun ds e => qRg3 ds fun i j k => ∃ n, RgC i j k n ∧ Q (rangeC i k n) e := by
  unfold iRg3
  congr
theorem qRg3_i {i j k : Int} {Q : Int → Int → Int → Prop} : qRg3 [.int i, .int j, .int k] Q = Q i j k := rfl
theorem dShl_i {i j : Int} {Q : D → Prop} : dShl (.int i) (.int j) Q = (CShl i j ∧ Q (.int (i * 2 ^ j.toNat))) := rfl
end DL

/-! readings of sureplace_k51_how_bounds_are_widened, written by gen.py -/
namespace DL
open PySem PySem.Spec PyProof.Rows L2
def m_is_name : RS :=
  (sRet (rAndV (rChain dLe dLe (rC (.int 1)) (rCall nLen (rCons (rVarB 0) rNil)) (rC (.int (64)))) (rCall nAll (rCons (rFz (rLc [] [1] (iSeq (rVar 0)) (gNm 1) rYes (rBin (dIn false) (rVarB 1) (rC (.str (PySem.Str.ofString "abcdefghijklmnopqrstuvwxyz0123456789_-")))))) rNil))))
def m_K_Setting_init (cl : Nat → Addr) : RS :=
  (sSeq (sIf (rOr (rTest (rBin (dIn true) (rVarB 1) (rTup (rCons (rC (.int 2)) (rCons (rC (.int 3)) rNil))))) (rOr (rNot (rTest (rChain dLe dLe (rC (.int 0)) (rVarB 2) (rC (.int (1000000000000)))))) (rOr (rNot (rTest (rChain dLe dLe (rC (.int 0)) (rVarB 3) (rC (.int (1000000000000)))))) (rNot (rTest (rChain dLe dLe (rC (.int 1)) (rVarB 4) (rC (.int (1000000000000))))))))) sNo sNext)
  (sSeq (sFldD (cl 0) 0 "dims" (rVar 1))
  (sSeq (sFldD (cl 0) 0 "speed" (rVar 2))
  (sSeq (sFldD (cl 0) 0 "drift" (rVar 3))
  (sFldD (cl 0) 0 "per" (rVar 4))))))
def m_K_Setting_eq (cl : Nat → Addr) : RS :=
  (sSeq (sIf (rNot (rTru (rCall (nIsiO (cl 0) [cl 0, cl 1, cl 2]) (rCons (rVarB 1) (rCons (rC (.cls (cl 0))) rNil))))) (sRet (rC (.bl false))) sNext)
  (sSeq (sSet 2 (rTup (rCons (rFld "dims" (rVarB 0)) (rCons (rFld "speed" (rVarB 0)) (rCons (rFld "drift" (rVarB 0)) (rCons (rFld "per" (rVarB 0)) rNil))))))
  (sRet (rBin dEq (rVarB 2) (rTup (rCons (rFld "dims" (rVarB 1)) (rCons (rFld "speed" (rVarB 1)) (rCons (rFld "drift" (rVarB 1)) (rCons (rFld "per" (rVarB 1)) rNil)))))))))
def m_in_room : RS :=
  (sRet (rCall nAll (rCons (rFz (rLc [] [1] (iSeq (rVar 0)) (gNm 1) rYes (rChain dLe dLe (rNeg (rC (.int (1000000000000)))) (rVarB 1) (rC (.int (1000000000000)))))) rNil)))
def m_box_in_room : RS :=
  (sRet (rCall nAll (rCons (rFz (rLc [] [1, 2] (iSeq (rVar 0)) (gTp 2 (gsCons (gNm 1) (gsCons (gNm 2) gsNil))) rYes (rChain3 dLe dLe dLe (rNeg (rC (.int (1000000000000)))) (rVarB 1) (rVarB 2) (rC (.int (1000000000000)))))) rNil)))
def m_kind_in_bounds : RS :=
  (sSeq (sIf (rTest (rBin dEq (rBin dIx (rVarB 0) (rC (.int 0))) (rC (.str (PySem.Str.ofString "side"))))) (sRet (rAndV (rCall nAll (rCons (rFz (rLc [] [1] (iSeq (rBin dIx (rVarB 0) (rC (.int 1)))) (gNm 1) rYes (rBin dLe (rCall nAbs (rCons (rVarB 1) rNil)) (rC (.int (1000)))))) rNil)) (rCall nAny (rCons (rFz (rLc [] [1] (iSeq (rBin dIx (rVarB 0) (rC (.int 1)))) (gNm 1) rYes (rBin dNe (rVarB 1) (rC (.int 0))))) rNil)))) sNext)
  (sSeq (sIf (rTest (rBin dEq (rBin dIx (rVarB 0) (rC (.int 0))) (rC (.str (PySem.Str.ofString "boxes"))))) (sRet (rAndV (rChain dLe dLe (rC (.int 1)) (rCall nLen (rCons (rBin dIx (rVarB 0) (rC (.int 1))) rNil)) (rC (.int (16)))) (rCall nAll (rCons (rFz (rLc [] [2] (iSeq (rBin dIx (rVarB 0) (rC (.int 1)))) (gNm 2) rYes (rUser (runD 3 m_box_in_room) [] 1 (rCons (rVar 2) rNil)))) rNil)))) sNext)
  (sRet (rAndV (rInK ["range", "clocked", "differ", "piece"] (rBin dIx (rVarB 0) (rC (.int 0)))) (rCall nAll (rCons (rFz (rLc [] [3] (iSeq (rSl (rVarB 0) (roSome (rC (.int 1))) roNone)) (gNm 3) rYes (rUser (runD 2 m_in_room) [] 1 (rCons (rVar 3) rNil)))) rNil))))))
def m_K_Reading_init_1 (cl : Nat → Addr) : RS :=
  (sIf (rOr (rNot (rTru (rUser (runD 2 m_is_name) [] 1 (rCons (rVar 1) rNil)))) (rOr (rNot (rTru (rUser (runD 2 m_in_room) [] 1 (rCons (rTup (rCons (rVar 2) rNil)) rNil)))) (rNot (rTru (rUser (runD 4 m_kind_in_bounds) [] 1 (rCons (rVar 3) rNil)))))) sNo sNext)
def m_K_Reading_init_2 (cl : Nat → Addr) : RS :=
  (sIf (rOr (rNot (rTest (rChain3 dLe dLe dLe (rNeg (rC (.int (1000000000000000)))) (rVarB 4) (rVarB 5) (rC (.int (1000000000000000)))))) (rOr (rNot (rTest (rChain dLe dLe (rC (.int 0)) (rVarB 6) (rC (.int (1000000000000)))))) (rNot (rTest (rChain dLe dLe (rC (.int 0)) (rVarB 7) (rC (.int (1000000000000)))))))) sNo sNext)
def m_K_Reading_init_3 (cl : Nat → Addr) : RS :=
  (sFldD (cl 1) 0 "source" (rVar 1))
def m_K_Reading_init_4 (cl : Nat → Addr) : RS :=
  (sFldD (cl 1) 0 "moment" (rVar 2))
def m_K_Reading_init_5 (cl : Nat → Addr) : RS :=
  (sFldD (cl 1) 0 "kind" (rVar 3))
def m_K_Reading_init_6 (cl : Nat → Addr) : RS :=
  (sFldD (cl 1) 0 "low" (rVar 4))
def m_K_Reading_init_7 (cl : Nat → Addr) : RS :=
  (sFldD (cl 1) 0 "high" (rVar 5))
def m_K_Reading_init_8 (cl : Nat → Addr) : RS :=
  (sFldD (cl 1) 0 "late" (rVar 6))
def m_K_Reading_init_9 (cl : Nat → Addr) : RS :=
  (sFldD (cl 1) 0 "near" (rVar 7))
def m_K_Reading_init (cl : Nat → Addr) : RS :=
  (sSeq (m_K_Reading_init_1 cl)
  (sSeq (m_K_Reading_init_2 cl)
  (sSeq (m_K_Reading_init_3 cl)
  (sSeq (m_K_Reading_init_4 cl)
  (sSeq (m_K_Reading_init_5 cl)
  (sSeq (m_K_Reading_init_6 cl)
  (sSeq (m_K_Reading_init_7 cl)
  (sSeq (m_K_Reading_init_8 cl)
  (m_K_Reading_init_9 cl)))))))))
def m_K_Reading_eq (cl : Nat → Addr) : RS :=
  (sSeq (sIf (rNot (rTru (rCall (nIsiO (cl 1) [cl 0, cl 1, cl 2]) (rCons (rVarB 1) (rCons (rC (.cls (cl 1))) rNil))))) (sRet (rC (.bl false))) sNext)
  (sSeq (sSet 2 (rTup (rCons (rFld "source" (rVarB 0)) (rCons (rFld "moment" (rVarB 0)) (rCons (rFld "kind" (rVarB 0)) (rCons (rFld "low" (rVarB 0)) (rCons (rFld "high" (rVarB 0)) (rCons (rFld "late" (rVarB 0)) (rCons (rFld "near" (rVarB 0)) rNil)))))))))
  (sRet (rBin dEq (rVarB 2) (rTup (rCons (rFld "source" (rVarB 1)) (rCons (rFld "moment" (rVarB 1)) (rCons (rFld "kind" (rVarB 1)) (rCons (rFld "low" (rVarB 1)) (rCons (rFld "high" (rVarB 1)) (rCons (rFld "late" (rVarB 1)) (rCons (rFld "near" (rVarB 1)) rNil))))))))))))
def m_K_Question_init_1 (cl : Nat → Addr) : RS :=
  (sIf (rOr (rNot (rTru (rUser (runD 2 m_in_room) [] 1 (rCons (rTup (rCons (rVar 1) (rCons (rVar 5) (rCons (rVar 6) rNil)))) rNil)))) (rOr (rTest (rBin dGt (rVarB 5) (rVarB 6))) (rNot (rTru (rUser (runD 3 m_box_in_room) [] 1 (rCons (rVar 2) rNil)))))) sNo sNext)
def m_K_Question_init_2 (cl : Nat → Addr) : RS :=
  (sIf (rOr (rNot (rTest (rChain dLe dLe (rC (.int 0)) (rVarB 3) (rC (.int (3)))))) (rNot (rTest (rChain dLe dLe (rC (.int 1)) (rVarB 4) (rC (.int (1000000000000))))))) sNo sNext)
def m_K_Question_init_3 (cl : Nat → Addr) : RS :=
  (sFldD (cl 2) 0 "moment" (rVar 1))
def m_K_Question_init_4 (cl : Nat → Addr) : RS :=
  (sFldD (cl 2) 0 "root" (rVar 2))
def m_K_Question_init_5 (cl : Nat → Addr) : RS :=
  (sFldD (cl 2) 0 "liars" (rVar 3))
def m_K_Question_init_6 (cl : Nat → Addr) : RS :=
  (sFldD (cl 2) 0 "share" (rVar 4))
def m_K_Question_init_7 (cl : Nat → Addr) : RS :=
  (sFldD (cl 2) 0 "earliest" (rVar 5))
def m_K_Question_init_8 (cl : Nat → Addr) : RS :=
  (sFldD (cl 2) 0 "latest" (rVar 6))
def m_K_Question_init (cl : Nat → Addr) : RS :=
  (sSeq (m_K_Question_init_1 cl)
  (sSeq (m_K_Question_init_2 cl)
  (sSeq (m_K_Question_init_3 cl)
  (sSeq (m_K_Question_init_4 cl)
  (sSeq (m_K_Question_init_5 cl)
  (sSeq (m_K_Question_init_6 cl)
  (sSeq (m_K_Question_init_7 cl)
  (m_K_Question_init_8 cl))))))))
def m_K_Question_eq (cl : Nat → Addr) : RS :=
  (sSeq (sIf (rNot (rTru (rCall (nIsiO (cl 2) [cl 0, cl 1, cl 2]) (rCons (rVarB 1) (rCons (rC (.cls (cl 2))) rNil))))) (sRet (rC (.bl false))) sNext)
  (sSeq (sSet 2 (rTup (rCons (rFld "moment" (rVarB 0)) (rCons (rFld "root" (rVarB 0)) (rCons (rFld "liars" (rVarB 0)) (rCons (rFld "share" (rVarB 0)) (rCons (rFld "earliest" (rVarB 0)) (rCons (rFld "latest" (rVarB 0)) rNil))))))))
  (sRet (rBin dEq (rVarB 2) (rTup (rCons (rFld "moment" (rVarB 1)) (rCons (rFld "root" (rVarB 1)) (rCons (rFld "liars" (rVarB 1)) (rCons (rFld "share" (rVarB 1)) (rCons (rFld "earliest" (rVarB 1)) (rCons (rFld "latest" (rVarB 1)) rNil)))))))))))
def m_asked : RS :=
  (sRet (rFz (rLc [] [2, 3] (iSeq (rVar 1)) (gTp 2 (gsCons (gNm 2) (gsCons (gNm 3) gsNil))) (rTest (rChain dLe dLe (rFld "earliest" (rVarB 0)) (rFld "moment" (rVarB 3)) (rFld "latest" (rVarB 0)))) (rTup (rCons (rVar 2) (rCons (rVar 3) rNil))))))
def m_root_up : RS :=
  (sSeq (sSet 1 (rCall nSqrt (rCons (rVarB 0) rNil)))
  (sSeq (sIf (rTest (rBin dLt (rBin dMul (rVarB 1) (rVarB 1)) (rVarB 0))) (sRet (rBin dAdd (rVarB 1) (rC (.int 1)))) sNext)
  (sRet (rVar 1))))
def m_dot : RS :=
  (sRet (rCall nSum (rCons (rFz (rLc [] [2, 3] (iZipD (rCons (rVar 0) (rCons (rVar 1) rNil))) (gTp 2 (gsCons (gNm 2) (gsCons (gNm 3) gsNil))) rYes (rBin dMul (rVarB 2) (rVarB 3)))) rNil)))
def m_reach : RS :=
  (sRet (rNeg (rBin dDiv (rBin dMul (rNeg (rFld "speed" (rVarB 0))) (rVarB 1)) (rFld "per" (rVarB 0)))))
def m_slip : RS :=
  (sRet (rNeg (rBin dDiv (rBin dMul (rNeg (rFld "drift" (rVarB 0))) (rVarB 1)) (rFld "per" (rVarB 0)))))
def m_rate : RS :=
  (sSeq (sIf (rTest (rBin dEq (rBin dIx (rVarB 0) (rC (.int 0))) (rC (.str (PySem.Str.ofString "differ"))))) (sRet (rC (.int 2))) sNext)
  (sSeq (sIf (rTest (rBin dEq (rBin dIx (rVarB 0) (rC (.int 0))) (rC (.str (PySem.Str.ofString "side"))))) (sRet (rUser (runD 2 m_root_up) [] 1 (rCons (rUser (runD 4 m_dot) [] 2 (rCons (rBin dIx (rVarB 0) (rC (.int 1))) (rCons (rBin dIx (rVarB 0) (rC (.int 1))) rNil))) rNil))) sNext)
  (sRet (rC (.int 1)))))
def m_clock_rate : RS :=
  (sRet (rIf (rTest (rBin dEq (rBin dIx (rVarB 0) (rC (.int 0))) (rC (.str (PySem.Str.ofString "clocked"))))) (rC (.int 1)) (rC (.int 0))))
def m_moved : RS :=
  (sSeq (sIf (rTest (rBin dEq (rBin dIx (rVarB 0) (rC (.int 0))) (rC (.str (PySem.Str.ofString "side"))))) (sRet (rC (.int 0))) sNext)
  (sRet (rIf (rTest (rBin dEq (rBin dIx (rVarB 0) (rC (.int 0))) (rC (.str (PySem.Str.ofString "differ"))))) (rC (.int 2)) (rC (.int 1)))))
def m_cell_radius : RS :=
  (sSeq (sSet 2 (rBin dDiv (rBin dAdd (rVarB 1) (rC (.int 1))) (rC (.int 2))))
  (sRet (rUser (runD 2 m_root_up) [] 1 (rCons (rBin dMul (rBin dMul (rFld "dims" (rVarB 0)) (rVarB 2)) (rVarB 2)) rNil))))
def m_stretch : RS :=
  (sSeq (sSet 3 (rCall nSetI (rCons (rBin dAdd (rFz (rLc [] [4, 5] (iSeq (rUser (runD 4 m_asked) [] 2 (rCons (rVar 1) (rCons (rVar 2) rNil)))) (gTp 2 (gsCons (gNm 4) (gsCons (gNm 5) gsNil))) rYes (rFld "moment" (rVarB 5)))) (rFz (rLst (rCons (rFld "moment" (rVarB 1)) rNil)))) rNil)))
  (sRet (rBin dMul (rBin dMul (rC (.int 2)) (rCall nLenS (rCons (rVarB 3) rNil))) (rUser (runD 3 m_cell_radius) [] 2 (rCons (rVar 0) (rCons (rFld "share" (rVarB 1)) rNil))))))
def m_margin : RS :=
  (sSeq (sSet 3 (rFld "kind" (rVarB 2)))
  (sSeq (sSet 4 (rBin dAdd (rBin dMul (rUser (runD 1 m_rate) [] 1 (rCons (rVar 3) rNil)) (rUser (runD 2 m_reach) [] 2 (rCons (rVar 0) (rCons (rFld "late" (rVarB 2)) rNil)))) (rBin dMul (rUser (runD 1 m_clock_rate) [] 1 (rCons (rVar 3) rNil)) (rUser (runD 2 m_slip) [] 2 (rCons (rVar 0) (rCons (rFld "late" (rVarB 2)) rNil))))))
  (sSeq (sSet 5 (rBin dAdd (rBin dMul (rUser (runD 1 m_rate) [] 1 (rCons (rVar 3) rNil)) (rBin dAdd (rBin dMul (rC (.int 2)) (rUser (runD 3 m_cell_radius) [] 2 (rCons (rVar 0) (rCons (rFld "share" (rVarB 1)) rNil)))) (rC (.int 2)))) (rBin dMul (rUser (runD 1 m_clock_rate) [] 1 (rCons (rVar 3) rNil)) (rFld "share" (rVarB 1)))))
  (sRet (rBin dAdd (rBin dAdd (rBin dMul (rUser (runD 1 m_moved) [] 1 (rCons (rVar 3) rNil)) (rFld "near" (rVarB 2))) (rVarB 4)) (rVarB 5))))))
def m__law_rows_1 : RS :=
  (sSetN 2 (rLst rNil))
def m__law_rows_2b_1 : RS :=
  (sSet 4 (rC (.int 0)))
def m__law_rows_2b_2 : RS :=
  (sIf (rTest (rBin dGt (rCall nLen (rCons (rVarB 0) rNil)) (rC (.int 0)))) (sSet 4 (rCall nInt (rCons (rBin dIx (rVarB 0) (rBin dMod (rCall nInt (rCons (rVarB 3) rNil)) (rCall nLen (rCons (rVarB 0) rNil)))) rNil))) sNext)
def m__law_rows_2b_3 : RS :=
  (sIf (rTest (rBin dLt (rVarB 4) (rC (.int 0)))) (sSet 4 (rBin dSub (rC (.int 1)) (rBin dMul (rC (.int 2)) (rVarB 4)))) sNext)
def m__law_rows_2b_4 : RS :=
  (sIf (rOr (rTest (rBin dGe (rVarB 3) (rCall nLen (rCons (rVarB 0) rNil)))) (rTest (rBin dLt (rVarB 4) (rC (.int 1000000000))))) (sSeq (sSet 4 (rBin dMod (rCall nInt (rCons (rBin dAdd (rBin dMul (rBin dAdd (rBin dAdd (rVarB 4) (rBin dMul (rC (.int 131)) (rVarB 3))) (rC (.int 7))) (rC (.int 48271))) (rBin dMul (rBin dMul (rVarB 3) (rVarB 3)) (rC (.int 69621)))) rNil)) (rC (.int 1000000007))))
  (sSet 4 (rBin dMod (rCall nInt (rCons (rBin dMul (rBin dAdd (rBin dAdd (rVarB 4) (rBin dMul (rC (.int 17)) (rVarB 3))) (rC (.int 3))) (rC (.int 2862933555777941757))) rNil)) (rC (.int 18446744073709551557))))) sNext)
def m__law_rows_2b_5 : RS :=
  (sApp 2 (rVar 4))
def m__law_rows_2b : RS :=
  (sSeq m__law_rows_2b_1
  (sSeq m__law_rows_2b_2
  (sSeq m__law_rows_2b_3
  (sSeq m__law_rows_2b_4
  m__law_rows_2b_5))))
def m__law_rows_2 : RS :=
  (sFor (iRg1 (rCons (rVar 1) rNil)) (gNm 3)
  m__law_rows_2b)
def m__law_rows_3 : RS :=
  (sRet (rVar 2))
def m__law_rows : RS :=
  (sSeq m__law_rows_1
  (sSeq m__law_rows_2
  m__law_rows_3))
def m__law_root_1 : RS :=
  (sSet 1 (rC (.int 0)))
def m__law_root_2 : RS :=
  (sSet 2 (rC (.int 1)))
def m__law_root_3b_1 : RS :=
  (sIf (rTest (rBin dGt (rBin dMul (rVarB 2) (rVarB 2)) (rVarB 0))) sBreak sNext)
def m__law_root_3b_2 : RS :=
  (sSet 2 (rBin dMul (rVarB 2) (rC (.int 2))))
def m__law_root_3b : RS :=
  (sSeq m__law_root_3b_1
  m__law_root_3b_2)
def m__law_root_3 : RS :=
  (sFor (iRg1 (rCons (rC (.int 400)) rNil)) (gNm 3)
  m__law_root_3b)
def m__law_root_4b_1 : RS :=
  (sIf (rTest (rBin dLe (rBin dSub (rVarB 2) (rVarB 1)) (rC (.int 1)))) sBreak sNext)
def m__law_root_4b_2 : RS :=
  (sSet 4 (rBin dDiv (rBin dAdd (rVarB 1) (rVarB 2)) (rC (.int 2))))
def m__law_root_4b_3 : RS :=
  (sIf (rTest (rBin dLe (rBin dMul (rVarB 4) (rVarB 4)) (rVarB 0))) (sSet 1 (rVar 4)) (sSet 2 (rVar 4)))
def m__law_root_4b : RS :=
  (sSeq m__law_root_4b_1
  (sSeq m__law_root_4b_2
  m__law_root_4b_3))
def m__law_root_4 : RS :=
  (sFor (iRg1 (rCons (rC (.int 400)) rNil)) (gNm 3)
  m__law_root_4b)
def m__law_root_5 : RS :=
  (sRet (rVar 1))
def m__law_root : RS :=
  (sSeq m__law_root_1
  (sSeq m__law_root_2
  (sSeq m__law_root_3
  (sSeq m__law_root_4
  m__law_root_5))))
def m__law_up : RS :=
  (sSeq (sSet 1 (rUser (runD 5 m__law_root) [] 1 (rCons (rVar 0) rNil)))
  (sRet (rBin dAdd (rVarB 1) (rCall nInt (rCons (rBin dLt (rBin dMul (rVarB 1) (rVarB 1)) (rVarB 0)) rNil)))))
def m__law_digits : RS :=
  (sSeq (sSetN 3 (rLst rNil))
  (sSeq (sFor (iRg1 (rCons (rVar 2) rNil)) (gNm 4)
  (sSeq (sApp 3 (rBin dMod (rCall nInt (rCons (rVarB 0) rNil)) (rVarB 1)))
  (sSet 0 (rBin dDiv (rVarB 0) (rVarB 1)))))
  (sRet (rVar 3))))
def m__law_setting (cl : Nat → Addr) : RS :=
  (sSeq (sSet 1 (rBin dAdd (rC (.int 2)) (rBin dMod (rCall nInt (rCons (rVarB 0) rNil)) (rC (.int 2)))))
  (sRet (rMakeK (mkD (cl 0) ["dims", "speed", "drift", "per"] 5 (m_K_Setting_init cl)) (fun ds es => ds ++ es) 1 3 (rCons (rVar 1) rNil) (rCons (rBin dMod (rCall nInt (rCons (rBin dDiv (rVarB 0) (rC (.int 2))) rNil)) (rC (.int 9))) (rCons (rBin dMod (rCall nInt (rCons (rBin dDiv (rVarB 0) (rC (.int 18))) rNil)) (rC (.int 3))) (rCons (rBin dAdd (rC (.int 1)) (rBin dMod (rCall nInt (rCons (rBin dDiv (rVarB 0) (rC (.int 54))) rNil)) (rC (.int 3)))) rNil))))))
def m__law_velocity : RS :=
  (sSeq (sSet 2 (rFz (rLc [] [3] (iSeq (rUser (runD 5 m__law_digits) [] 3 (rCons (rVar 1) (rCons (rC (.int 7)) (rCons (rFld "dims" (rVarB 0)) rNil))))) (gNm 3) rYes (rBin dSub (rVarB 3) (rC (.int 3))))))
  (sSeq (sFor (iRg1 (rCons (rC (.int 8)) rNil)) (gNm 4)
  (sSeq (sSet 5 (rCall nSum (rCons (rFz (rLc [] [6] (iSeq (rVar 2)) (gNm 6) rYes (rBin dMul (rVarB 6) (rVarB 6)))) rNil)))
  (sSeq (sIf (rTest (rBin dLe (rBin dMul (rBin dMul (rFld "per" (rVarB 0)) (rFld "per" (rVarB 0))) (rVarB 5)) (rBin dMul (rFld "speed" (rVarB 0)) (rFld "speed" (rVarB 0))))) sBreak sNext)
  (sSet 2 (rFz (rLc [] [6] (iSeq (rVar 2)) (gNm 6) rYes (rBin dMul (rBin dDiv (rCall nAbs (rCons (rVarB 6) rNil)) (rC (.int 2))) (rBin dSub (rC (.int 1)) (rBin dMul (rC (.int 2)) (rCall nInt (rCons (rBin dLt (rVarB 6) (rC (.int 0))) rNil)))))))))))
  (sRet (rVar 2))))
def m__law_at_1 : RS :=
  (sAsg (rVar 0) (gTp 7 (gsCons (gNm 2) (gsCons (gNm 3) (gsCons (gNm 4) (gsCons (gNm 5) (gsCons (gNm 6) (gsCons (gNm 7) (gsCons (gNm 8) gsNil)))))))))
def m__law_at_2 : RS :=
  (sSet 9 (rBin dSub (rVarB 1) (rVarB 4)))
def m__law_at_3 : RS :=
  (sSet 10 (rVar 6))
def m__law_at_4 : RS :=
  (sSet 11 (rVar 8))
def m__law_at_5 : RS :=
  (sIf (rTest (rBin dLt (rVarB 9) (rC (.int 0)))) (sSeq (sSet 10 (rVar 5))
  (sSet 11 (rVar 7))) sNext)
def m__law_at_6 : RS :=
  (sSet 12 (rFz (rLc [] [13] (iRg1 (rCons (rCall nLen (rCons (rVarB 2) rNil)) rNil)) (gNm 13) rYes (rBin dAdd (rBin dIx (rVarB 2) (rVarB 13)) (rBin dMul (rBin dIx (rVarB 10) (rVarB 13)) (rVarB 9))))))
def m__law_at_7 : RS :=
  (sRet (rBin dAdd (rVarB 12) (rFz (rLst (rCons (rBin dAdd (rVarB 3) (rBin dMul (rVarB 11) (rVarB 9))) rNil)))))
def m__law_at : RS :=
  (sSeq m__law_at_1
  (sSeq m__law_at_2
  (sSeq m__law_at_3
  (sSeq m__law_at_4
  (sSeq m__law_at_5
  (sSeq m__law_at_6
  m__law_at_7))))))
def m__law_way : RS :=
  (sSeq (sSet 2 (rFz (rLc [] [3] (iSeq (rUser (runD 5 m__law_digits) [] 3 (rCons (rBin dIx (rVarB 1) (rC (.int 0))) (rCons (rC (.int 31)) (rCons (rFld "dims" (rVarB 0)) rNil))))) (gNm 3) rYes (rBin dSub (rVarB 3) (rC (.int 15))))))
  (sSeq (sSet 4 (rBin dDiv (rFld "drift" (rVarB 0)) (rFld "per" (rVarB 0))))
  (sSeq (sSet 5 (rBin dSub (rBin dMod (rCall nInt (rCons (rBin dIx (rVarB 1) (rC (.int 1))) rNil)) (rBin dAdd (rBin dMul (rC (.int 2)) (rVarB 4)) (rC (.int 1)))) (rVarB 4)))
  (sSeq (sSet 6 (rBin dSub (rBin dMod (rCall nInt (rCons (rBin dDiv (rBin dIx (rVarB 1) (rC (.int 1))) (rC (.int 16))) rNil)) (rBin dAdd (rBin dMul (rC (.int 2)) (rVarB 4)) (rC (.int 1)))) (rVarB 4)))
  (sSeq (sSet 7 (rUser (runD 7 m__law_velocity) [] 2 (rCons (rVar 0) (rCons (rBin dIx (rVarB 1) (rC (.int 2))) rNil))))
  (sSeq (sSet 8 (rUser (runD 7 m__law_velocity) [] 2 (rCons (rVar 0) (rCons (rBin dDiv (rBin dIx (rVarB 1) (rC (.int 2))) (rC (.int 2401))) rNil))))
  (sRet (rTup (rCons (rVar 2) (rCons (rBin dSub (rBin dMod (rCall nInt (rCons (rBin dDiv (rBin dIx (rVarB 1) (rC (.int 1))) (rC (.int 256))) rNil)) (rC (.int 9))) (rC (.int 4))) (rCons (rBin dSub (rBin dMod (rCall nInt (rCons (rBin dDiv (rBin dIx (rVarB 1) (rC (.int 1))) (rC (.int 4096))) rNil)) (rC (.int 9))) (rC (.int 4))) (rCons (rVar 7) (rCons (rVar 8) (rCons (rVar 5) (rCons (rVar 6) rNil)))))))))))))))
def m__law_square : RS :=
  (sRet (rCall nSum (rCons (rFz (rLc [] [2] (iRg1 (rCons (rCall nLen (rCons (rVarB 0) rNil)) rNil)) (gNm 2) rYes (rBin dMul (rBin dSub (rBin dIx (rVarB 0) (rVarB 2)) (rBin dIx (rVarB 1) (rVarB 2))) (rBin dSub (rBin dIx (rVarB 0) (rVarB 2)) (rBin dIx (rVarB 1) (rVarB 2)))))) rNil)))
def m__law_piece_1 : RS :=
  (sSet 3 (rFz (rLc [] [4] (iRg1 (rCons (rCall nLen (rCons (rVarB 1) rNil)) rNil)) (gNm 4) rYes (rBin dSub (rBin dIx (rVarB 2) (rVarB 4)) (rBin dIx (rVarB 1) (rVarB 4))))))
def m__law_piece_2 : RS :=
  (sSet 5 (rFz (rLc [] [4] (iRg1 (rCons (rCall nLen (rCons (rVarB 1) rNil)) rNil)) (gNm 4) rYes (rBin dSub (rBin dIx (rVarB 0) (rVarB 4)) (rBin dIx (rVarB 1) (rVarB 4))))))
def m__law_piece_3 : RS :=
  (sSet 6 (rCall nSum (rCons (rFz (rLc [] [7] (iSeq (rVar 3)) (gNm 7) rYes (rBin dMul (rVarB 7) (rVarB 7)))) rNil)))
def m__law_piece_4 : RS :=
  (sSet 8 (rCall nSum (rCons (rFz (rLc [] [4] (iRg1 (rCons (rCall nLen (rCons (rVarB 1) rNil)) rNil)) (gNm 4) rYes (rBin dMul (rBin dIx (rVarB 5) (rVarB 4)) (rBin dIx (rVarB 3) (rVarB 4))))) rNil)))
def m__law_piece_5 : RS :=
  (sIf (rTest (rBin dLe (rVarB 8) (rC (.int 0)))) (sRet (rTup (rCons (rUser (runD 3 m__law_square) [] 2 (rCons (rVar 0) (rCons (rVar 1) rNil))) (rCons (rUser (runD 3 m__law_square) [] 2 (rCons (rVar 0) (rCons (rVar 1) rNil))) rNil)))) sNext)
def m__law_piece_6 : RS :=
  (sIf (rTest (rBin dGe (rVarB 8) (rVarB 6))) (sRet (rTup (rCons (rUser (runD 3 m__law_square) [] 2 (rCons (rVar 0) (rCons (rVar 2) rNil))) (rCons (rUser (runD 3 m__law_square) [] 2 (rCons (rVar 0) (rCons (rVar 2) rNil))) rNil)))) sNext)
def m__law_piece_7 : RS :=
  (sSet 9 (rBin dSub (rBin dMul (rCall nSum (rCons (rFz (rLc [] [7] (iSeq (rVar 5)) (gNm 7) rYes (rBin dMul (rVarB 7) (rVarB 7)))) rNil)) (rVarB 6)) (rBin dMul (rVarB 8) (rVarB 8))))
def m__law_piece_8 : RS :=
  (sRet (rTup (rCons (rBin dDiv (rVarB 9) (rVarB 6)) (rCons (rBin dSub (rC (.int 0)) (rBin dDiv (rBin dSub (rC (.int 0)) (rVarB 9)) (rVarB 6))) rNil))))
def m__law_piece : RS :=
  (sSeq m__law_piece_1
  (sSeq m__law_piece_2
  (sSeq m__law_piece_3
  (sSeq m__law_piece_4
  (sSeq m__law_piece_5
  (sSeq m__law_piece_6
  (sSeq m__law_piece_7
  m__law_piece_8)))))))
def m__law_boxes_1 : RS :=
  (sSet 2 (rNeg (rC (.int 1))))
def m__law_boxes_2b_1 : RS :=
  (sSet 4 (rC (.int 0)))
def m__law_boxes_2b_2b_1 : RS :=
  (sSet 6 (rCall nMax3 (rCons (rBin dSub (rBin dIx (rBin dIx (rVarB 3) (rVarB 5)) (rC (.int 0))) (rBin dIx (rVarB 0) (rVarB 5))) (rCons (rBin dSub (rBin dIx (rVarB 0) (rVarB 5)) (rBin dIx (rBin dIx (rVarB 3) (rVarB 5)) (rC (.int 1)))) (rCons (rC (.int 0)) rNil)))))
def m__law_boxes_2b_2b_2 : RS :=
  (sSet 4 (rBin dAdd (rVarB 4) (rBin dMul (rVarB 6) (rVarB 6))))
def m__law_boxes_2b_2b : RS :=
  (sSeq m__law_boxes_2b_2b_1
  m__law_boxes_2b_2b_2)
def m__law_boxes_2b_2 : RS :=
  (sFor (iRg1 (rCons (rCall nLen (rCons (rVarB 0) rNil)) rNil)) (gNm 5)
  m__law_boxes_2b_2b)
def m__law_boxes_2b_3 : RS :=
  (sIf (rOr (rTest (rBin dLt (rVarB 2) (rC (.int 0)))) (rTest (rBin dLt (rVarB 4) (rVarB 2)))) (sSet 2 (rVar 4)) sNext)
def m__law_boxes_2b : RS :=
  (sSeq m__law_boxes_2b_1
  (sSeq m__law_boxes_2b_2
  m__law_boxes_2b_3))
def m__law_boxes_2 : RS :=
  (sFor (iSeq (rVar 1)) (gNm 3)
  m__law_boxes_2b)
def m__law_boxes_3 : RS :=
  (sRet (rVar 2))
def m__law_boxes : RS :=
  (sSeq m__law_boxes_1
  (sSeq m__law_boxes_2
  m__law_boxes_3))
def m__law_value_1 : RS :=
  (sIf (rTest (rBin dEq (rBin dIx (rVarB 0) (rC (.int 0))) (rC (.str (PySem.Str.ofString "side"))))) (sSeq (sSet 3 (rCall nSum (rCons (rFz (rLc [] [4] (iRg1 (rCons (rCall nLen (rCons (rVarB 1) rNil)) rNil)) (gNm 4) rYes (rBin dMul (rBin dIx (rBin dIx (rVarB 0) (rC (.int 1))) (rVarB 4)) (rBin dIx (rVarB 1) (rVarB 4))))) rNil)))
  (sRet (rTup (rCons (rVar 3) (rCons (rVar 3) rNil))))) sNext)
def m__law_value_2 : RS :=
  (sIf (rTest (rBin dEq (rBin dIx (rVarB 0) (rC (.int 0))) (rC (.str (PySem.Str.ofString "piece"))))) (sSeq (sAsg (rUser (runD 10 m__law_piece) [] 3 (rCons (rVar 1) (rCons (rBin dIx (rVarB 0) (rC (.int 1))) (rCons (rBin dIx (rVarB 0) (rC (.int 2))) rNil)))) (gTp 2 (gsCons (gNm 5) (gsCons (gNm 6) gsNil))))
  (sRet (rTup (rCons (rUser (runD 5 m__law_root) [] 1 (rCons (rVar 5) rNil)) (rCons (rUser (runD 2 m__law_up) [] 1 (rCons (rVar 6) rNil)) rNil))))) sNext)
def m__law_value_3 : RS :=
  (sIf (rTest (rBin dEq (rBin dIx (rVarB 0) (rC (.int 0))) (rC (.str (PySem.Str.ofString "boxes"))))) (sSeq (sSet 7 (rUser (runD 7 m__law_boxes) [] 2 (rCons (rVar 1) (rCons (rBin dIx (rVarB 0) (rC (.int 1))) rNil))))
  (sRet (rTup (rCons (rUser (runD 5 m__law_root) [] 1 (rCons (rVar 7) rNil)) (rCons (rUser (runD 2 m__law_up) [] 1 (rCons (rVar 7) rNil)) rNil))))) sNext)
def m__law_value_4 : RS :=
  (sSet 7 (rUser (runD 3 m__law_square) [] 2 (rCons (rVar 1) (rCons (rBin dIx (rVarB 0) (rC (.int 1))) rNil))))
def m__law_value_5 : RS :=
  (sIf (rTest (rBin dEq (rBin dIx (rVarB 0) (rC (.int 0))) (rC (.str (PySem.Str.ofString "differ"))))) (sSeq (sSet 8 (rUser (runD 3 m__law_square) [] 2 (rCons (rVar 1) (rCons (rBin dIx (rVarB 0) (rC (.int 2))) rNil))))
  (sRet (rTup (rCons (rBin dSub (rUser (runD 5 m__law_root) [] 1 (rCons (rVar 7) rNil)) (rUser (runD 2 m__law_up) [] 1 (rCons (rVar 8) rNil))) (rCons (rBin dSub (rUser (runD 2 m__law_up) [] 1 (rCons (rVar 7) rNil)) (rUser (runD 5 m__law_root) [] 1 (rCons (rVar 8) rNil))) rNil))))) sNext)
def m__law_value_6 : RS :=
  (sSet 9 (rBin dMul (rVarB 2) (rCall nInt (rCons (rBin dEq (rBin dIx (rVarB 0) (rC (.int 0))) (rC (.str (PySem.Str.ofString "clocked")))) rNil))))
def m__law_value_7 : RS :=
  (sRet (rTup (rCons (rBin dAdd (rUser (runD 5 m__law_root) [] 1 (rCons (rVar 7) rNil)) (rVarB 9)) (rCons (rBin dAdd (rUser (runD 2 m__law_up) [] 1 (rCons (rVar 7) rNil)) (rVarB 9)) rNil))))
def m__law_value : RS :=
  (sSeq m__law_value_1
  (sSeq m__law_value_2
  (sSeq m__law_value_3
  (sSeq m__law_value_4
  (sSeq m__law_value_5
  (sSeq m__law_value_6
  m__law_value_7))))))
def m__law_point : RS :=
  (sRet (rCall nTuple (rCons (rFz (rLc [] [2] (iSeq (rUser (runD 5 m__law_digits) [] 3 (rCons (rVar 1) (rCons (rC (.int 41)) (rCons (rVar 0) rNil))))) (gNm 2) rYes (rBin dSub (rVarB 2) (rC (.int 20))))) rNil)))
def m__law_kind_1 : RS :=
  (sSet 2 (rFz (rLst (rCons (rC (.str (PySem.Str.ofString "range"))) (rCons (rC (.str (PySem.Str.ofString "clocked"))) (rCons (rC (.str (PySem.Str.ofString "differ"))) (rCons (rC (.str (PySem.Str.ofString "side"))) (rCons (rC (.str (PySem.Str.ofString "piece"))) (rCons (rC (.str (PySem.Str.ofString "boxes"))) rNil)))))))))
def m__law_kind_2 : RS :=
  (sSet 3 (rBin dIx (rVarB 2) (rBin dMod (rCall nInt (rCons (rVarB 1) rNil)) (rC (.int 6)))))
def m__law_kind_3 : RS :=
  (sSet 4 (rBin dDiv (rVarB 1) (rC (.int 6))))
def m__law_kind_4 : RS :=
  (sIf (rTest (rBin dEq (rVarB 3) (rC (.str (PySem.Str.ofString "side"))))) (sSeq (sSetN 5 (rLc [] [6] (iSeq (rUser (runD 5 m__law_digits) [] 3 (rCons (rVar 4) (rCons (rC (.int 9)) (rCons (rVar 0) rNil))))) (gNm 6) rYes (rBin dSub (rVarB 6) (rC (.int 4)))))
  (sSeq (sIf (rTest (rBin dEq (rCall nSum (rCons (rFz (rLc [] [7] (iSeq (rVarB 5)) (gNm 7) rYes (rCall nAbs (rCons (rVarB 7) rNil)))) rNil)) (rC (.int 0)))) (sSetIx 5 (rC (.int 0)) (rC (.int 1))) sNext)
  (sRet (rTup (rCons (rVar 3) (rCons (rCall nTuple (rCons (rVarB 5) rNil)) rNil)))))) sNext)
def m__law_kind_5 : RS :=
  (sIf (rTest (rBin dEq (rVarB 3) (rC (.str (PySem.Str.ofString "boxes"))))) (sSeq (sSetN 8 (rLst rNil))
  (sSeq (sFor (iRg1 (rCons (rBin dAdd (rC (.int 1)) (rBin dMod (rCall nInt (rCons (rVarB 4) rNil)) (rC (.int 2)))) rNil)) (gNm 9)
  (sSeq (sSet 10 (rUser (runD 3 m__law_point) [] 2 (rCons (rVar 0) (rCons (rBin dAdd (rBin dDiv (rVarB 4) (rC (.int 2))) (rBin dMul (rC (.int 97)) (rVarB 9))) rNil))))
  (sApp 8 (rCall nTuple (rCons (rFz (rLc [] [7] (iSeq (rVar 10)) (gNm 7) rYes (rTup (rCons (rVar 7) (rCons (rBin dAdd (rVarB 7) (rBin dMod (rCall nInt (rCons (rBin dDiv (rVarB 4) (rC (.int 5))) rNil)) (rC (.int 7)))) rNil))))) rNil)))))
  (sRet (rTup (rCons (rVar 3) (rCons (rCall nTuple (rCons (rVarB 8) rNil)) rNil)))))) sNext)
def m__law_kind_6 : RS :=
  (sIf (rOr (rTest (rBin dEq (rVarB 3) (rC (.str (PySem.Str.ofString "differ"))))) (rTest (rBin dEq (rVarB 3) (rC (.str (PySem.Str.ofString "piece")))))) (sRet (rTup (rCons (rVar 3) (rCons (rUser (runD 3 m__law_point) [] 2 (rCons (rVar 0) (rCons (rVar 4) rNil))) (rCons (rUser (runD 3 m__law_point) [] 2 (rCons (rVar 0) (rCons (rBin dDiv (rVarB 4) (rC (.int 68921))) rNil))) rNil))))) sNext)
def m__law_kind_7 : RS :=
  (sRet (rTup (rCons (rVar 3) (rCons (rUser (runD 3 m__law_point) [] 2 (rCons (rVar 0) (rCons (rVar 4) rNil))) rNil))))
def m__law_kind : RS :=
  (sSeq m__law_kind_1
  (sSeq m__law_kind_2
  (sSeq m__law_kind_3
  (sSeq m__law_kind_4
  (sSeq m__law_kind_5
  (sSeq m__law_kind_6
  m__law_kind_7))))))
def m__law_moved_1 : RS :=
  (sIf (rTest (rBin dEq (rBin dIx (rVarB 0) (rC (.int 0))) (rC (.str (PySem.Str.ofString "side"))))) (sRet (rVar 0)) sNext)
def m__law_moved_2 : RS :=
  (sIf (rTest (rBin dEq (rBin dIx (rVarB 0) (rC (.int 0))) (rC (.str (PySem.Str.ofString "boxes"))))) (sSeq (sSetN 2 (rLst rNil))
  (sSeq (sFor (iSeq (rBin dIx (rVarB 0) (rC (.int 1)))) (gNm 3)
  (sApp 2 (rCall nTuple (rCons (rFz (rLc [] [4] (iRg1 (rCons (rCall nLen (rCons (rVarB 3) rNil)) rNil)) (gNm 4) rYes (rTup (rCons (rBin dAdd (rBin dIx (rBin dIx (rVarB 3) (rVarB 4)) (rC (.int 0))) (rBin dIx (rVarB 1) (rVarB 4))) (rCons (rBin dAdd (rBin dIx (rBin dIx (rVarB 3) (rVarB 4)) (rC (.int 1))) (rBin dIx (rVarB 1) (rVarB 4))) rNil))))) rNil))))
  (sRet (rTup (rCons (rBin dIx (rVarB 0) (rC (.int 0))) (rCons (rCall nTuple (rCons (rVarB 2) rNil)) rNil)))))) sNext)
def m__law_moved_3 : RS :=
  (sSet 5 (rFz (rLc [] [6] (iSeq (rSl (rVarB 0) (roSome (rC (.int 1))) roNone)) (gNm 6) rYes (rCall nTuple (rCons (rFz (rLc [] [4] (iRg1 (rCons (rCall nLen (rCons (rVarB 6) rNil)) rNil)) (gNm 4) rYes (rBin dAdd (rBin dIx (rVarB 6) (rVarB 4)) (rBin dIx (rVarB 1) (rVarB 4))))) rNil)))))
def m__law_moved_4 : RS :=
  (sRet (rCall nTuple (rCons (rBin dAdd (rFz (rLst (rCons (rBin dIx (rVarB 0) (rC (.int 0))) rNil))) (rVarB 5)) rNil)))
def m__law_moved : RS :=
  (sSeq m__law_moved_1
  (sSeq m__law_moved_2
  (sSeq m__law_moved_3
  m__law_moved_4)))
def m__law_reading_1 (cl : Nat → Addr) : RS :=
  (sSet 5 (rUser (runD 11 m__law_kind) [] 2 (rCons (rVar 1) (rCons (rBin dDiv (rVarB 3) (rC (.int 3125))) rNil))))
def m__law_reading_2 (cl : Nat → Addr) : RS :=
  (sSet 6 (rBin dSub (rBin dMod (rCall nInt (rCons (rVarB 3) rNil)) (rC (.int 25))) (rC (.int 12))))
def m__law_reading_3 (cl : Nat → Addr) : RS :=
  (sSet 7 (rBin dDiv (rBin dMod (rCall nInt (rCons (rBin dDiv (rVarB 3) (rC (.int 25))) rNil)) (rC (.int 5))) (rC (.int 2))))
def m__law_reading_4 (cl : Nat → Addr) : RS :=
  (sSet 8 (rBin dAdd (rVarB 6) (rBin dMul (rVarB 7) (rBin dSub (rBin dMod (rCall nInt (rCons (rBin dDiv (rVarB 3) (rC (.int 125))) rNil)) (rC (.int 3))) (rC (.int 1))))))
def m__law_reading_5 (cl : Nat → Addr) : RS :=
  (sSet 9 (rBin dDiv (rBin dMod (rCall nInt (rCons (rBin dDiv (rVarB 3) (rC (.int 375))) rNil)) (rC (.int 4))) (rC (.int 2))))
def m__law_reading_6 (cl : Nat → Addr) : RS :=
  (sSetN 10 (rRepN (rFz (rLst (rCons (rC (.int 0)) rNil))) (rVarB 1)))
def m__law_reading_7 (cl : Nat → Addr) : RS :=
  (sSetIx 10 (rBin dMod (rCall nInt (rCons (rBin dDiv (rVarB 3) (rC (.int 1500))) rNil)) (rVarB 1)) (rBin dMul (rVarB 9) (rBin dSub (rBin dMod (rCall nInt (rCons (rBin dDiv (rVarB 3) (rC (.int 625))) rNil)) (rC (.int 3))) (rC (.int 1)))))
def m__law_reading_8 (cl : Nat → Addr) : RS :=
  (sSet 11 (rUser (runD 14 m__law_at) [] 2 (rCons (rVar 0) (rCons (rVar 8) rNil))))
def m__law_reading_9 (cl : Nat → Addr) : RS :=
  (sAsg (rUser (runD 10 m__law_value) [] 3 (rCons (rUser (runD 7 m__law_moved) [] 2 (rCons (rVar 5) (rCons (rVar 10) rNil))) (rCons (rSl (rVarB 11) roNone (roSome (rVar 1))) (rCons (rBin dIx (rVarB 11) (rVarB 1)) rNil)))) (gTp 2 (gsCons (gNm 12) (gsCons (gNm 13) gsNil))))
def m__law_reading_10 (cl : Nat → Addr) : RS :=
  (sIf (rTru (rVarB 4)) (sSeq (sSet 12 (rBin dSub (rBin dAdd (rVarB 12) (rBin dMod (rCall nInt (rCons (rBin dDiv (rVarB 3) (rC (.int 7))) rNil)) (rC (.int 61)))) (rC (.int 30))))
  (sSet 13 (rBin dAdd (rVarB 12) (rBin dMod (rCall nInt (rCons (rBin dDiv (rVarB 3) (rC (.int 11))) rNil)) (rC (.int 5)))))) sNext)
def m__law_reading_11 (cl : Nat → Addr) : RS :=
  (sSet 12 (rBin dSub (rVarB 12) (rBin dMod (rCall nInt (rCons (rBin dDiv (rVarB 3) (rC (.int 5))) rNil)) (rC (.int 4)))))
def m__law_reading_12 (cl : Nat → Addr) : RS :=
  (sSet 13 (rBin dAdd (rVarB 13) (rBin dMod (rCall nInt (rCons (rBin dDiv (rVarB 3) (rC (.int 9))) rNil)) (rC (.int 4)))))
def m__law_reading_13 (cl : Nat → Addr) : RS :=
  (sRet (rMakeK (mkD (cl 1) ["source", "moment", "kind", "low", "high", "late", "near"] 8 (m_K_Reading_init cl)) (fun ds es => ds ++ es) 3 4 (rCons (rVar 2) (rCons (rVar 6) (rCons (rVar 5) rNil))) (rCons (rVar 12) (rCons (rVar 13) (rCons (rVar 7) (rCons (rVar 9) rNil))))))
def m__law_reading (cl : Nat → Addr) : RS :=
  (sSeq (m__law_reading_1 cl)
  (sSeq (m__law_reading_2 cl)
  (sSeq (m__law_reading_3 cl)
  (sSeq (m__law_reading_4 cl)
  (sSeq (m__law_reading_5 cl)
  (sSeq (m__law_reading_6 cl)
  (sSeq (m__law_reading_7 cl)
  (sSeq (m__law_reading_8 cl)
  (sSeq (m__law_reading_9 cl)
  (sSeq (m__law_reading_10 cl)
  (sSeq (m__law_reading_11 cl)
  (sSeq (m__law_reading_12 cl)
  (m__law_reading_13 cl)))))))))))))
def m__law_readings (cl : Nat → Addr) : RS :=
  (sSeq (sSetN 6 (rLst rNil))
  (sSeq (sFor (iRg1 (rCons (rVar 3) rNil)) (gNm 7)
  (sSeq (sSet 8 (rBin dIx (rVarB 4) (rBin dMod (rCall nInt (rCons (rBin dDiv (rBin dIx (rVarB 2) (rVarB 7)) (rC (.int 13))) rNil)) (rCall nLen (rCons (rVarB 4) rNil)))))
  (sApp 6 (rTup (rCons (rBin dAdd (rBin dMul (rVarB 7) (rC (.int 3))) (rC (.int 2))) (rCons (rUser (runD 14 (m__law_reading cl)) [] 5 (rCons (rVar 0) (rCons (rVar 1) (rCons (rVar 8) (rCons (rBin dIx (rVarB 2) (rVarB 7)) (rCons (rBin (dIn false) (rVarB 8) (rVarB 5)) rNil)))))) rNil))))))
  (sRet (rVar 6))))
def m__law_question_1 (cl : Nat → Addr) : RS :=
  (sSet 4 (rBin dSub (rBin dMod (rCall nInt (rCons (rVarB 2) rNil)) (rC (.int 21))) (rC (.int 10))))
def m__law_question_2 (cl : Nat → Addr) : RS :=
  (sSet 5 (rUser (runD 14 m__law_at) [] 2 (rCons (rVar 0) (rCons (rVar 4) rNil))))
def m__law_question_3 (cl : Nat → Addr) : RS :=
  (sSet 6 (rUser (runD 5 m__law_digits) [] 3 (rCons (rBin dDiv (rVarB 2) (rC (.int 21))) (rCons (rC (.int 13)) (rCons (rBin dAdd (rVarB 1) (rC (.int 1))) rNil)))))
def m__law_question_4 (cl : Nat → Addr) : RS :=
  (sSet 7 (rUser (runD 5 m__law_digits) [] 3 (rCons (rBin dDiv (rVarB 2) (rC (.int 33))) (rCons (rC (.int 11)) (rCons (rBin dAdd (rVarB 1) (rC (.int 1))) rNil)))))
def m__law_question_5 (cl : Nat → Addr) : RS :=
  (sSet 8 (rFz (rLc [] [9] (iRg1 (rCons (rBin dAdd (rVarB 1) (rC (.int 1))) rNil)) (gNm 9) rYes (rTup (rCons (rBin dSub (rBin dIx (rVarB 5) (rVarB 9)) (rBin dIx (rVarB 6) (rVarB 9))) (rCons (rBin dAdd (rBin dIx (rVarB 5) (rVarB 9)) (rBin dIx (rVarB 7) (rVarB 9))) rNil))))))
def m__law_question_6 (cl : Nat → Addr) : RS :=
  (sSet 10 (rBin dAdd (rC (.int 1)) (rBin dMod (rCall nInt (rCons (rBin dDiv (rVarB 2) (rC (.int 7))) rNil)) (rC (.int 6)))))
def m__law_question_7 (cl : Nat → Addr) : RS :=
  (sSet 11 (rBin dSub (rC (.int 0)) (rBin dMod (rCall nInt (rCons (rBin dDiv (rVarB 2) (rC (.int 3))) rNil)) (rC (.int 16)))))
def m__law_question_8 (cl : Nat → Addr) : RS :=
  (sSet 12 (rBin dAdd (rVarB 11) (rBin dMod (rCall nInt (rCons (rBin dDiv (rVarB 2) (rC (.int 5))) rNil)) (rC (.int 28)))))
def m__law_question_9 (cl : Nat → Addr) : RS :=
  (sRet (rMakeK (mkD (cl 2) ["moment", "root", "liars", "share", "earliest", "latest"] 7 (m_K_Question_init cl)) (fun ds es => ds ++ es) 2 4 (rCons (rVar 4) (rCons (rCall nTuple (rCons (rVarB 8) rNil)) rNil)) (rCons (rVar 3) (rCons (rVar 10) (rCons (rVar 11) (rCons (rVar 12) rNil))))))
def m__law_question (cl : Nat → Addr) : RS :=
  (sSeq (m__law_question_1 cl)
  (sSeq (m__law_question_2 cl)
  (sSeq (m__law_question_3 cl)
  (sSeq (m__law_question_4 cl)
  (sSeq (m__law_question_5 cl)
  (sSeq (m__law_question_6 cl)
  (sSeq (m__law_question_7 cl)
  (sSeq (m__law_question_8 cl)
  (m__law_question_9 cl)))))))))
def m_law_1 (cl : Nat → Addr) : RS :=
  (sSet 1 (rUser (runD 5 m__law_rows) [] 2 (rCons (rVar 0) (rCons (rC (.int 12)) rNil))))
def m_law_2 (cl : Nat → Addr) : RS :=
  (sSet 2 (rUser (runD 2 (m__law_setting cl)) [] 1 (rCons (rBin dIx (rVarB 1) (rC (.int 0))) rNil)))
def m_law_3 (cl : Nat → Addr) : RS :=
  (sSet 3 (rUser (runD 9 m__law_way) [] 2 (rCons (rVar 2) (rCons (rSl (rVarB 1) (roSome (rC (.int 1))) (roSome (rC (.int 4)))) rNil))))
def m_law_4 (cl : Nat → Addr) : RS :=
  (sSet 4 (rFld "dims" (rVarB 2)))
def m_law_5 (cl : Nat → Addr) : RS :=
  (sSet 5 (rUser (runD 13 (m__law_question cl)) [] 4 (rCons (rVar 3) (rCons (rVar 4) (rCons (rBin dIx (rVarB 1) (rC (.int 4))) (rCons (rBin dMod (rCall nInt (rCons (rBin dDiv (rBin dIx (rVarB 1) (rC (.int 0))) (rC (.int 200))) rNil)) (rC (.int 3))) rNil))))))
def m_law_6 (cl : Nat → Addr) : RS :=
  (sIf (rTest (rBin dEq (rBin dMod (rBin dDiv (rBin dIx (rVarB 1) (rC (.int 0))) (rC (.int 7))) (rC (.int 3))) (rC (.int 1)))) (sSet 5 (rMakeK (mkD (cl 2) ["moment", "root", "liars", "share", "earliest", "latest"] 7 (m_K_Question_init cl)) (fun ds es => ds ++ es) 2 4 (rCons (rFld "moment" (rVarB 5)) (rCons (rFld "root" (rVarB 5)) rNil)) (rCons (rC (.int 1)) (rCons (rBin dAdd (rC (.int 1)) (rBin dMod (rCall nInt (rCons (rBin dIx (rVarB 1) (rC (.int 5))) rNil)) (rC (.int 1000000)))) (rCons (rFld "earliest" (rVarB 5)) (rCons (rFld "latest" (rVarB 5)) rNil)))))) sNext)
def m_law_7 (cl : Nat → Addr) : RS :=
  (sSet 6 (rUser (runD 9 (m__law_readings cl)) [] 6 (rCons (rVar 3) (rCons (rVar 4) (rCons (rSl (rVarB 1) (roSome (rC (.int 6))) (roSome (rC (.int 12)))) (rCons (rBin dMod (rCall nInt (rCons (rBin dDiv (rBin dIx (rVarB 1) (rC (.int 5))) (rC (.int 3))) rNil)) (rC (.int 7))) (rCons (rFz (rLst (rCons (rC (.str (PySem.Str.ofString "a"))) (rCons (rC (.str (PySem.Str.ofString "b"))) (rCons (rC (.str (PySem.Str.ofString "c-1"))) rNil))))) (rCons (rFz (rLst (rCons (rC (.str (PySem.Str.ofString "b"))) rNil))) rNil))))))))
def m_law_8 (cl : Nat → Addr) : RS :=
  (sSet 7 (rBin dDiv (rBin dAdd (rFld "share" (rVarB 5)) (rC (.int 1))) (rC (.int 2))))
def m_law_9 (cl : Nat → Addr) : RS :=
  (sSet 8 (rUser (runD 2 m__law_up) [] 1 (rCons (rBin dMul (rBin dMul (rVarB 4) (rVarB 7)) (rVarB 7)) rNil)))
def m_law_10 (cl : Nat → Addr) : RS :=
  (sIf (rTest (rBin dNe (rUser (runD 3 m_cell_radius) [] 2 (rCons (rVar 2) (rCons (rFld "share" (rVarB 5)) rNil))) (rVarB 8))) (sRet (rC (.bl false))) sNext)
def m_law_11 (cl : Nat → Addr) : RS :=
  (sSetN 9 (rLst (rCons (rFld "moment" (rVarB 5)) rNil)))
def m_law_12b_1 (cl : Nat → Addr) : RS :=
  (sSet 12 (rFld "kind" (rVarB 11)))
def m_law_12b_2 (cl : Nat → Addr) : RS :=
  (sSet 13 (rBin dAdd (rBin dMul (rUser (runD 1 m_moved) [] 1 (rCons (rVar 12) rNil)) (rFld "near" (rVarB 11))) (rBin dMul (rUser (runD 1 m_rate) [] 1 (rCons (rVar 12) rNil)) (rUser (runD 2 m_reach) [] 2 (rCons (rVar 2) (rCons (rFld "late" (rVarB 11)) rNil))))))
def m_law_12b_3 (cl : Nat → Addr) : RS :=
  (sSet 13 (rBin dAdd (rBin dAdd (rVarB 13) (rBin dMul (rUser (runD 1 m_clock_rate) [] 1 (rCons (rVar 12) rNil)) (rUser (runD 2 m_slip) [] 2 (rCons (rVar 2) (rCons (rFld "late" (rVarB 11)) rNil))))) (rBin dMul (rUser (runD 1 m_rate) [] 1 (rCons (rVar 12) rNil)) (rBin dAdd (rBin dMul (rC (.int 2)) (rVarB 8)) (rC (.int 2))))))
def m_law_12b_4 (cl : Nat → Addr) : RS :=
  (sIf (rTest (rBin dNe (rUser (runD 6 m_margin) [] 3 (rCons (rVar 2) (rCons (rVar 5) (rCons (rVar 11) rNil)))) (rBin dAdd (rVarB 13) (rBin dMul (rUser (runD 1 m_clock_rate) [] 1 (rCons (rVar 12) rNil)) (rFld "share" (rVarB 5)))))) (sRet (rC (.bl false))) sNext)
def m_law_12b_5 (cl : Nat → Addr) : RS :=
  (sSet 14 (rChain dLe dLe (rFld "earliest" (rVarB 5)) (rFld "moment" (rVarB 11)) (rFld "latest" (rVarB 5))))
def m_law_12b_6 (cl : Nat → Addr) : RS :=
  (sIf (rAnd (rTru (rVarB 14)) (rTest (rBin (dIn true) (rFld "moment" (rVarB 11)) (rVarB 9)))) (sApp 9 (rFld "moment" (rVarB 11))) sNext)
def m_law_12b (cl : Nat → Addr) : RS :=
  (sSeq (m_law_12b_1 cl)
  (sSeq (m_law_12b_2 cl)
  (sSeq (m_law_12b_3 cl)
  (sSeq (m_law_12b_4 cl)
  (sSeq (m_law_12b_5 cl)
  (m_law_12b_6 cl))))))
def m_law_12 (cl : Nat → Addr) : RS :=
  (sFor (iSeq (rVar 6)) (gTp 2 (gsCons (gNm 10) (gsCons (gNm 11) gsNil)))
  (m_law_12b cl))
def m_law_13 (cl : Nat → Addr) : RS :=
  (sSet 15 (rCall nList (rCons (rVarB 6) rNil)))
def m_law_14 (cl : Nat → Addr) : RS :=
  (sRet (rAndV (rBin dEq (rUser (runD 6 m_stretch) [] 3 (rCons (rVar 2) (rCons (rVar 5) (rCons (rVar 6) rNil)))) (rBin dMul (rBin dMul (rC (.int 2)) (rCall nLen (rCons (rVarB 9) rNil))) (rVarB 8))) (rBin (dEqS [(cl 0, runD 3 (m_K_Setting_eq cl)), (cl 1, runD 3 (m_K_Reading_eq cl)), (cl 2, runD 3 (m_K_Question_eq cl))]) (rVarB 6) (rVarB 15))))
def m_law (cl : Nat → Addr) : RS :=
  (sSeq (m_law_1 cl)
  (sSeq (m_law_2 cl)
  (sSeq (m_law_3 cl)
  (sSeq (m_law_4 cl)
  (sSeq (m_law_5 cl)
  (sSeq (m_law_6 cl)
  (sSeq (m_law_7 cl)
  (sSeq (m_law_8 cl)
  (sSeq (m_law_9 cl)
  (sSeq (m_law_10 cl)
  (sSeq (m_law_11 cl)
  (sSeq (m_law_12 cl)
  (sSeq (m_law_13 cl)
  (m_law_14 cl))))))))))))))
theorem f_Setting_dims {C : Addr} {x0 x1 x2 x3 : D} {Q : D → Prop} : qFld (.ins C ["dims", "speed", "drift", "per"] [x0, x1, x2, x3]) "dims" Q = Q x0 := q_of fld_eq
theorem n_Setting_dims {P : Prop} : ((([] : List Str).contains "dims" = false) ∧ P) = P := and_t (by decide +kernel)
theorem l_Setting_dims {P : Prop} : (0 < 900 ∧ P) = P := and_t (by decide)
theorem f_Setting_speed {C : Addr} {x0 x1 x2 x3 : D} {Q : D → Prop} : qFld (.ins C ["dims", "speed", "drift", "per"] [x0, x1, x2, x3]) "speed" Q = Q x1 := q_of ((fld_ne (by decide +kernel)).trans fld_eq)
theorem n_Setting_speed {P : Prop} : (((["dims"] : List Str).contains "speed" = false) ∧ P) = P := and_t (by decide +kernel)
theorem l_Setting_speed {P : Prop} : (0 + 1 < 900 ∧ P) = P := and_t (by decide)
theorem f_Setting_drift {C : Addr} {x0 x1 x2 x3 : D} {Q : D → Prop} : qFld (.ins C ["dims", "speed", "drift", "per"] [x0, x1, x2, x3]) "drift" Q = Q x2 := q_of ((fld_ne (by decide +kernel)).trans ((fld_ne (by decide +kernel)).trans fld_eq))
theorem n_Setting_drift {P : Prop} : (((["dims", "speed"] : List Str).contains "drift" = false) ∧ P) = P := and_t (by decide +kernel)
theorem l_Setting_drift {P : Prop} : (0 + 1 + 1 < 900 ∧ P) = P := and_t (by decide)
theorem f_Setting_per {C : Addr} {x0 x1 x2 x3 : D} {Q : D → Prop} : qFld (.ins C ["dims", "speed", "drift", "per"] [x0, x1, x2, x3]) "per" Q = Q x3 := q_of ((fld_ne (by decide +kernel)).trans ((fld_ne (by decide +kernel)).trans ((fld_ne (by decide +kernel)).trans fld_eq)))
theorem n_Setting_per {P : Prop} : (((["dims", "speed", "drift"] : List Str).contains "per" = false) ∧ P) = P := and_t (by decide +kernel)
theorem l_Setting_per {P : Prop} : (0 + 1 + 1 + 1 < 900 ∧ P) = P := and_t (by decide)
theorem f_Reading_source {C : Addr} {x0 x1 x2 x3 x4 x5 x6 : D} {Q : D → Prop} : qFld (.ins C ["source", "moment", "kind", "low", "high", "late", "near"] [x0, x1, x2, x3, x4, x5, x6]) "source" Q = Q x0 := q_of fld_eq
theorem n_Reading_source {P : Prop} : ((([] : List Str).contains "source" = false) ∧ P) = P := and_t (by decide +kernel)
theorem l_Reading_source {P : Prop} : (0 < 900 ∧ P) = P := and_t (by decide)
theorem f_Reading_moment {C : Addr} {x0 x1 x2 x3 x4 x5 x6 : D} {Q : D → Prop} : qFld (.ins C ["source", "moment", "kind", "low", "high", "late", "near"] [x0, x1, x2, x3, x4, x5, x6]) "moment" Q = Q x1 := q_of ((fld_ne (by decide +kernel)).trans fld_eq)
theorem n_Reading_moment {P : Prop} : (((["source"] : List Str).contains "moment" = false) ∧ P) = P := and_t (by decide +kernel)
theorem l_Reading_moment {P : Prop} : (0 + 1 < 900 ∧ P) = P := and_t (by decide)
theorem f_Reading_kind {C : Addr} {x0 x1 x2 x3 x4 x5 x6 : D} {Q : D → Prop} : qFld (.ins C ["source", "moment", "kind", "low", "high", "late", "near"] [x0, x1, x2, x3, x4, x5, x6]) "kind" Q = Q x2 := q_of ((fld_ne (by decide +kernel)).trans ((fld_ne (by decide +kernel)).trans fld_eq))
theorem n_Reading_kind {P : Prop} : (((["source", "moment"] : List Str).contains "kind" = false) ∧ P) = P := and_t (by decide +kernel)
theorem l_Reading_kind {P : Prop} : (0 + 1 + 1 < 900 ∧ P) = P := and_t (by decide)
theorem f_Reading_low {C : Addr} {x0 x1 x2 x3 x4 x5 x6 : D} {Q : D → Prop} : qFld (.ins C ["source", "moment", "kind", "low", "high", "late", "near"] [x0, x1, x2, x3, x4, x5, x6]) "low" Q = Q x3 := q_of ((fld_ne (by decide +kernel)).trans ((fld_ne (by decide +kernel)).trans ((fld_ne (by decide +kernel)).trans fld_eq)))
theorem n_Reading_low {P : Prop} : (((["source", "moment", "kind"] : List Str).contains "low" = false) ∧ P) = P := and_t (by decide +kernel)
theorem l_Reading_low {P : Prop} : (0 + 1 + 1 + 1 < 900 ∧ P) = P := and_t (by decide)
theorem f_Reading_high {C : Addr} {x0 x1 x2 x3 x4 x5 x6 : D} {Q : D → Prop} : qFld (.ins C ["source", "moment", "kind", "low", "high", "late", "near"] [x0, x1, x2, x3, x4, x5, x6]) "high" Q = Q x4 := q_of ((fld_ne (by decide +kernel)).trans ((fld_ne (by decide +kernel)).trans ((fld_ne (by decide +kernel)).trans ((fld_ne (by decide +kernel)).trans fld_eq))))
theorem n_Reading_high {P : Prop} : (((["source", "moment", "kind", "low"] : List Str).contains "high" = false) ∧ P) = P := and_t (by decide +kernel)
theorem l_Reading_high {P : Prop} : (0 + 1 + 1 + 1 + 1 < 900 ∧ P) = P := and_t (by decide)
theorem f_Reading_late {C : Addr} {x0 x1 x2 x3 x4 x5 x6 : D} {Q : D → Prop} : qFld (.ins C ["source", "moment", "kind", "low", "high", "late", "near"] [x0, x1, x2, x3, x4, x5, x6]) "late" Q = Q x5 := q_of ((fld_ne (by decide +kernel)).trans ((fld_ne (by decide +kernel)).trans ((fld_ne (by decide +kernel)).trans ((fld_ne (by decide +kernel)).trans ((fld_ne (by decide +kernel)).trans fld_eq)))))
theorem n_Reading_late {P : Prop} : (((["source", "moment", "kind", "low", "high"] : List Str).contains "late" = false) ∧ P) = P := and_t (by decide +kernel)
theorem l_Reading_late {P : Prop} : (0 + 1 + 1 + 1 + 1 + 1 < 900 ∧ P) = P := and_t (by decide)
theorem f_Reading_near {C : Addr} {x0 x1 x2 x3 x4 x5 x6 : D} {Q : D → Prop} : qFld (.ins C ["source", "moment", "kind", "low", "high", "late", "near"] [x0, x1, x2, x3, x4, x5, x6]) "near" Q = Q x6 := q_of ((fld_ne (by decide +kernel)).trans ((fld_ne (by decide +kernel)).trans ((fld_ne (by decide +kernel)).trans ((fld_ne (by decide +kernel)).trans ((fld_ne (by decide +kernel)).trans ((fld_ne (by decide +kernel)).trans fld_eq))))))
theorem n_Reading_near {P : Prop} : (((["source", "moment", "kind", "low", "high", "late"] : List Str).contains "near" = false) ∧ P) = P := and_t (by decide +kernel)
theorem l_Reading_near {P : Prop} : (0 + 1 + 1 + 1 + 1 + 1 + 1 < 900 ∧ P) = P := and_t (by decide)
theorem f_Question_moment {C : Addr} {x0 x1 x2 x3 x4 x5 : D} {Q : D → Prop} : qFld (.ins C ["moment", "root", "liars", "share", "earliest", "latest"] [x0, x1, x2, x3, x4, x5]) "moment" Q = Q x0 := q_of fld_eq
theorem n_Question_moment {P : Prop} : ((([] : List Str).contains "moment" = false) ∧ P) = P := and_t (by decide +kernel)
theorem l_Question_moment {P : Prop} : (0 < 900 ∧ P) = P := and_t (by decide)
theorem f_Question_root {C : Addr} {x0 x1 x2 x3 x4 x5 : D} {Q : D → Prop} : qFld (.ins C ["moment", "root", "liars", "share", "earliest", "latest"] [x0, x1, x2, x3, x4, x5]) "root" Q = Q x1 := q_of ((fld_ne (by decide +kernel)).trans fld_eq)
theorem n_Question_root {P : Prop} : (((["moment"] : List Str).contains "root" = false) ∧ P) = P := and_t (by decide +kernel)
theorem l_Question_root {P : Prop} : (0 + 1 < 900 ∧ P) = P := and_t (by decide)
theorem f_Question_liars {C : Addr} {x0 x1 x2 x3 x4 x5 : D} {Q : D → Prop} : qFld (.ins C ["moment", "root", "liars", "share", "earliest", "latest"] [x0, x1, x2, x3, x4, x5]) "liars" Q = Q x2 := q_of ((fld_ne (by decide +kernel)).trans ((fld_ne (by decide +kernel)).trans fld_eq))
theorem n_Question_liars {P : Prop} : (((["moment", "root"] : List Str).contains "liars" = false) ∧ P) = P := and_t (by decide +kernel)
theorem l_Question_liars {P : Prop} : (0 + 1 + 1 < 900 ∧ P) = P := and_t (by decide)
theorem f_Question_share {C : Addr} {x0 x1 x2 x3 x4 x5 : D} {Q : D → Prop} : qFld (.ins C ["moment", "root", "liars", "share", "earliest", "latest"] [x0, x1, x2, x3, x4, x5]) "share" Q = Q x3 := q_of ((fld_ne (by decide +kernel)).trans ((fld_ne (by decide +kernel)).trans ((fld_ne (by decide +kernel)).trans fld_eq)))
theorem n_Question_share {P : Prop} : (((["moment", "root", "liars"] : List Str).contains "share" = false) ∧ P) = P := and_t (by decide +kernel)
theorem l_Question_share {P : Prop} : (0 + 1 + 1 + 1 < 900 ∧ P) = P := and_t (by decide)
theorem f_Question_earliest {C : Addr} {x0 x1 x2 x3 x4 x5 : D} {Q : D → Prop} : qFld (.ins C ["moment", "root", "liars", "share", "earliest", "latest"] [x0, x1, x2, x3, x4, x5]) "earliest" Q = Q x4 := q_of ((fld_ne (by decide +kernel)).trans ((fld_ne (by decide +kernel)).trans ((fld_ne (by decide +kernel)).trans ((fld_ne (by decide +kernel)).trans fld_eq))))
theorem n_Question_earliest {P : Prop} : (((["moment", "root", "liars", "share"] : List Str).contains "earliest" = false) ∧ P) = P := and_t (by decide +kernel)
theorem l_Question_earliest {P : Prop} : (0 + 1 + 1 + 1 + 1 < 900 ∧ P) = P := and_t (by decide)
theorem f_Question_latest {C : Addr} {x0 x1 x2 x3 x4 x5 : D} {Q : D → Prop} : qFld (.ins C ["moment", "root", "liars", "share", "earliest", "latest"] [x0, x1, x2, x3, x4, x5]) "latest" Q = Q x5 := q_of ((fld_ne (by decide +kernel)).trans ((fld_ne (by decide +kernel)).trans ((fld_ne (by decide +kernel)).trans ((fld_ne (by decide +kernel)).trans ((fld_ne (by decide +kernel)).trans fld_eq)))))
theorem n_Question_latest {P : Prop} : (((["moment", "root", "liars", "share", "earliest"] : List Str).contains "latest" = false) ∧ P) = P := and_t (by decide +kernel)
theorem l_Question_latest {P : Prop} : (0 + 1 + 1 + 1 + 1 + 1 < 900 ∧ P) = P := and_t (by decide)
-- extra: dIsB_b, rRepN, qRepN_li, rCatN, qCatN_l, iEnumA, qEnumA_l, qEnumA_t, rTupRg, qTupRg_i, rMakeK, rInK, rInN, sRetO, sSeqN, sSeqV, rUserV, rOwnV, flat, rUserN, rUserL, sPop, sPop1, sIns, rChain3, sNo, rNo, rBits_q, qBits_i, iRg3_q, qRg3_i, dShl_i, f_Setting_dims, n_Setting_dims, l_Setting_dims, f_Setting_speed, n_Setting_speed, l_Setting_speed, f_Setting_drift, n_Setting_drift, l_Setting_drift, f_Setting_per, n_Setting_per, l_Setting_per, f_Reading_source, n_Reading_source, l_Reading_source, f_Reading_moment, n_Reading_moment, l_Reading_moment, f_Reading_kind, n_Reading_kind, l_Reading_kind, f_Reading_low, n_Reading_low, l_Reading_low, f_Reading_high, n_Reading_high, l_Reading_high, f_Reading_late, n_Reading_late, l_Reading_late, f_Reading_near, n_Reading_near, l_Reading_near, f_Question_moment, n_Question_moment, l_Question_moment, f_Question_root, n_Question_root, l_Question_root, f_Question_liars, n_Question_liars, l_Question_liars, f_Question_share, n_Question_share, l_Question_share, f_Question_earliest, n_Question_earliest, l_Question_earliest, f_Question_latest, n_Question_latest, l_Question_latest
-- classes: Setting=0 Reading=1 Question=2
end DL

namespace DL
open PySem PySem.Spec PyProof.Rows L2
local macro_rules | `(tactic| walk_at "xd") => `(tactic| simp (config := { failIfUnchanged := false }) only [sSeq, sSet, sSetN, sIf, sRet, sRetN, sExpr, sNext, sFor, sApp, sAsg, sBreak, sCont, ownAt_q, qOwn_o, rBin, rC, rVar_q, qVar_v, qVar_o, rVarB_q, qVarB_v, qVarB_o, eg, es, rTest, rChain, rTru, rNot, rAnd, rOr, rAndV, rOrV, rNotV, rIf, rNil, rCons, rTup, rLst, rFz, rCall, rCallN, rNeg_q, qNeg_i, rSl, roNone, roSome_q, qSome_i,
  dEq_int, dNe_int, dEq_bl, isi_int_int, isi_int_bool, isi_int_str, isi_int_tuple, isi_int_list, isi_bl_int, isi_bl_bool, isi_bl_str, isi_bl_tuple, isi_bl_list, isi_str_int, isi_str_bool, isi_str_str, isi_str_tuple, isi_str_list, isi_tup_int, isi_tup_bool, isi_tup_str, isi_tup_tuple, isi_tup_list, isi_lst_int, isi_lst_bool, isi_lst_str, isi_lst_tuple, isi_lst_list, isi_non_int, isi_non_bool, isi_non_str, isi_non_tuple, isi_non_list, List.map, List.length_cons, List.length_nil, List.length_map, List.replicate, List.cons_append, List.nil_append, gNm, gsNil, iRg1_q, qRg1_i, iRg2_q, qRg2_i, iZipD_q, qZip_l, qZip_t, iZipX, qZipA_ll, qZipA_tt, qZipA_lt, iEnumD_q, qEnum_l, inR_lit, zipD_of, iSeq, rUser, rUserB,
  dAdd_i, dAdd_ib, dAdd_s, dAdd_t, dAdd_l, dSub_i, dMul_i, dDiv_i, dMod_i, dRel_i, dTr_non, dTr_bl, dTr_int, dTr_tup, dTr_lst, nInt_i, nInt_b, nLen_t, nLen_l, nLen_c, nLen_s, nTuple_t, nTuple_l, nList_t, nList_l, nListN_t, nListN_l, nAbs_i, nMax2_i, nMax3_i, nMax5_i, rFld, sFldD, qObj_o, rRevN, qRevN_l, nMin2_i, dSeq_t, dSeq_l, dSeq_c, dSeq_s, dSl_t, dSl_l, dSl_s, gTp_t, gsCons_c, dIs_nn, dIsNot_nn, dIs_bl, dIsNot_bl, dIs_int, dIsNot_int, dIs_str, dIsNot_str, dIs_tup, dIsNot_tup, dIs_lst, dIsNot_lst, dIs_ins, dIsNot_ins, cast_0, cast_1, cast_2, cast_3, cast_4, cast_5, cast_6, cast_7, cast_8, decide_true, decide_false, sSetIx_q, qSet_i, sAug_q, qAug_i, sz_lit, mulOk_lt, mulOk_rt, cdiv_lt, ex_bl, ex_some, if_dec, true_and, and_true, Int.reduceLT, Int.reduceNeg, Int.reduceLE, Int.reduceEq, Int.reduceSub, Int.reduceAdd, Int.reduceMul, Nat.reduceAdd, Nat.reduceSub, Nat.reduceMul, Nat.reduceLeDiff, if_true, if_false, Bool.not_true, Bool.not_false, ite_true, ite_false, reduceIte, Bool.false_eq_true, reduceCtorEq,
  ix_t0, ix_t1, ix_t2, ix_t3, ix_l0, ix_l1, ix_l2, ix_l3, rLc, rYes, noOwn_nil, noOwn_cons, frzE, frz1, wipeE, ne_eq, not_false_eq_true, implies_true, Nat.reduceLT, dIsB_b, rRepN, qRepN_li, rCatN, qCatN_l, iEnumA, qEnumA_l, qEnumA_t, rTupRg, qTupRg_i, rMakeK, rInK, rInN, sRetO, sSeqN, sSeqV, rUserV, rOwnV, flat, rUserN, rUserL, sPop, sPop1, sIns, rChain3, sNo, rNo, rBits_q, qBits_i, iRg3_q, qRg3_i, dShl_i, f_Setting_dims, n_Setting_dims, l_Setting_dims, f_Setting_speed, n_Setting_speed, l_Setting_speed, f_Setting_drift, n_Setting_drift, l_Setting_drift, f_Setting_per, n_Setting_per, l_Setting_per, f_Reading_source, n_Reading_source, l_Reading_source, f_Reading_moment, n_Reading_moment, l_Reading_moment, f_Reading_kind, n_Reading_kind, l_Reading_kind, f_Reading_low, n_Reading_low, l_Reading_low, f_Reading_high, n_Reading_high, l_Reading_high, f_Reading_late, n_Reading_late, l_Reading_late, f_Reading_near, n_Reading_near, l_Reading_near, f_Question_moment, n_Question_moment, l_Question_moment, f_Question_root, n_Question_root, l_Question_root, f_Question_liars, n_Question_liars, l_Question_liars, f_Question_share, n_Question_share, l_Question_share, f_Question_earliest, n_Question_earliest, l_Question_earliest, f_Question_latest, n_Question_latest, l_Question_latest])
local macro_rules | `(tactic| walk_at "xs") => `(tactic| simp (config := { failIfUnchanged := false }) only [sSeq, sSet, sSetN, sIf, sRet, sRetN, sExpr, sNext, sFor, sApp, sAsg, sBreak, sCont, ownAt_q, qOwn_o, rBin, rC, rVar_q, qVar_v, qVar_o, rVarB_q, qVarB_v, qVarB_o, eg, es, rTest, rChain, rTru, rNot, rAnd, rOr, rAndV, rOrV, rNotV, rIf, rNil, rCons, rTup, rLst, rFz, rCall, rCallN, rNeg_q, qNeg_i, rSl, roNone, roSome_q, qSome_i,
  dEq_int, dNe_int, dEq_bl, isi_int_int, isi_int_bool, isi_int_str, isi_int_tuple, isi_int_list, isi_bl_int, isi_bl_bool, isi_bl_str, isi_bl_tuple, isi_bl_list, isi_str_int, isi_str_bool, isi_str_str, isi_str_tuple, isi_str_list, isi_tup_int, isi_tup_bool, isi_tup_str, isi_tup_tuple, isi_tup_list, isi_lst_int, isi_lst_bool, isi_lst_str, isi_lst_tuple, isi_lst_list, isi_non_int, isi_non_bool, isi_non_str, isi_non_tuple, isi_non_list, List.map, List.length_cons, List.length_nil, List.length_map, List.replicate, List.cons_append, List.nil_append, gNm, gsNil, iRg1_q, qRg1_i, iRg2_q, qRg2_i, iZipD_q, qZip_l, qZip_t, iZipX, qZipA_ll, qZipA_tt, qZipA_lt, iEnumD_q, qEnum_l, inR_lit, zipD_of, iSeq, rUser, rUserB,
  dAdd_i, dAdd_ib, dAdd_s, dAdd_t, dAdd_l, dSub_i, dMul_i, dDiv_i, dMod_i, dRel_i, dTr_non, dTr_bl, dTr_int, dTr_tup, dTr_lst, nInt_i, nInt_b, nLen_t, nLen_l, nLen_c, nLen_s, nTuple_t, nTuple_l, nList_t, nList_l, nListN_t, nListN_l, nAbs_i, nMax2_i, nMax3_i, nMax5_i, rFld, sFldD, qObj_o, rRevN, qRevN_l, nMin2_i, dSeq_t, dSeq_l, dSeq_c, dSeq_s, dSl_t, dSl_l, dSl_s, gTp_t, gsCons_c, dIs_nn, dIsNot_nn, dIs_bl, dIsNot_bl, dIs_int, dIsNot_int, dIs_str, dIsNot_str, dIs_tup, dIsNot_tup, dIs_lst, dIsNot_lst, dIs_ins, dIsNot_ins, cast_0, cast_1, cast_2, cast_3, cast_4, cast_5, cast_6, cast_7, cast_8, decide_true, decide_false, sSetIx_q, qSet_i, sAug_q, qAug_i, sz_lit, mulOk_lt, mulOk_rt, cdiv_lt, ex_bl, ex_some, if_dec, true_and, and_true, Int.reduceLT, Int.reduceNeg, Int.reduceLE, Int.reduceEq, Int.reduceSub, Int.reduceAdd, Int.reduceMul, Nat.reduceAdd, Nat.reduceSub, Nat.reduceMul, Nat.reduceLeDiff, if_true, if_false, Bool.not_true, Bool.not_false, ite_true, ite_false, reduceIte, Bool.false_eq_true, reduceCtorEq,
  ix_t0, ix_t1, ix_t2, ix_t3, ix_l0, ix_l1, ix_l2, ix_l3, rLc, rYes, noOwn_nil, noOwn_cons, frzE, frz1, wipeE, ne_eq, not_false_eq_true, implies_true, Nat.reduceLT, dIsB_b, rRepN, qRepN_li, rCatN, qCatN_l, iEnumA, qEnumA_l, qEnumA_t, rTupRg, qTupRg_i, rMakeK, rInK, rInN, sRetO, sSeqN, sSeqV, rUserV, rOwnV, flat, rUserN, rUserL, sPop, sPop1, sIns, rChain3, sNo, rNo, rBits_q, qBits_i, iRg3_q, qRg3_i, dShl_i, f_Setting_dims, n_Setting_dims, l_Setting_dims, f_Setting_speed, n_Setting_speed, l_Setting_speed, f_Setting_drift, n_Setting_drift, l_Setting_drift, f_Setting_per, n_Setting_per, l_Setting_per, f_Reading_source, n_Reading_source, l_Reading_source, f_Reading_moment, n_Reading_moment, l_Reading_moment, f_Reading_kind, n_Reading_kind, l_Reading_kind, f_Reading_low, n_Reading_low, l_Reading_low, f_Reading_high, n_Reading_high, l_Reading_high, f_Reading_late, n_Reading_late, l_Reading_late, f_Reading_near, n_Reading_near, l_Reading_near, f_Question_moment, n_Question_moment, l_Question_moment, f_Question_root, n_Question_root, l_Question_root, f_Question_liars, n_Question_liars, l_Question_liars, f_Question_share, n_Question_share, l_Question_share, f_Question_earliest, n_Question_earliest, l_Question_earliest, f_Question_latest, n_Question_latest, l_Question_latest, *])

/-! prune -/
/-! ### drawn numbers near nought, lengths, boxes -/
def nearF (c : Int) : Int := if c % 9 = 0 then c / 9 % 2000000000001 - 1000000000000 else if c % 9 < 3 then c / 9 % 2001 - 1000 else c / 9 % 41 - 20
def lenF (c : Int) : Int := if c % 7 = 0 then 0 else if c % 7 = 1 then c / 7 % 1000000000 else c / 7 % 13
theorem nearF_b (c : Int) : -1000000000000 ≤ nearF c ∧ nearF c ≤ 1000000000000 := by unfold nearF; split <;> (try split) <;> omega
theorem lenF_b (c : Int) : 0 ≤ lenF c ∧ lenF c < 1000000000 := by unfold lenF; split <;> (try split) <;> omega
def sideF (ns : List Int) (k : Int) (j : Nat) : Int × Int := (nearF (lawNum ns (k + 2 * j)), nearF (lawNum ns (k + 2 * j)) + lenF (lawNum ns (k + 2 * j + 1)))
def boxF (ns : List Int) (k : Int) (n : Nat) : List (Int × Int) := (List.range n).map (sideF ns k)
def sideD (p : Int × Int) : D := .tup [.int p.1, .int p.2]
def boxD (bs : List (Int × Int)) : D := .tup (bs.map sideD)
theorem boxF_succ (ns : List Int) (k : Int) (n : Nat) : boxF ns k (n + 1) = boxF ns k n ++ [sideF ns k n] := by
  unfold boxF; rw [List.range_succ, List.map_append]; rfl
theorem boxF_length (ns : List Int) (k : Int) (n : Nat) : (boxF ns k n).length = n := by simp [boxF]
theorem fa_side : Fa sideD 1 := fa_pair fa_int fa_int
theorem fa_box : Fa boxD 2 := fa_tup fa_side
theorem boxF_le {ns : List Int} {k : Int} {n : Nat} : ∀ p ∈ boxF ns k n, p.1 ≤ p.2 ∧ -1000000000000 ≤ p.1 ∧ p.1 ≤ 1000000000000 ∧ p.2 < p.1 + 1000000000 := by
  intro p hp
  unfold boxF at hp
  obtain ⟨j, _, rfl⟩ := List.mem_map.mp hp
  have h1 := nearF_b (lawNum ns (k + 2 * j))
  have h2 := lenF_b (lawNum ns (k + 2 * j + 1))
  unfold sideF
  exact ⟨by show nearF _ ≤ nearF _ + lenF _; omega, h1.1, h1.2, by show nearF _ + lenF _ < nearF _ + 1000000000; omega⟩

/-! ### the root rounded up -/
structure IsUp (n r : Int) : Prop where
  nn : 0 ≤ r
  up : n ≤ r * r
  lo : 0 < r → (r - 1) * (r - 1) < n
theorem sq_ge {x : Int} (h : 0 ≤ x) : x ≤ x * x := by
  by_cases c : x = 0
  · subst c; decide
  · have h2 := Int.mul_le_mul_of_nonneg_left (show 1 ≤ x by omega) h
    rw [Int.mul_one] at h2; exact h2
theorem sq_mono {x y : Int} (h : 0 ≤ x) (h2 : x ≤ y) : x * x ≤ y * y := Int.mul_le_mul h2 h2 h (by omega)
theorem isUp_unique {n r s : Int} (h : IsUp n r) (g : IsUp n s) : r = s := by
  have h0 := h.nn
  have g0 := g.nn
  rcases Int.lt_trichotomy r s with c | c | c
  · have h1 := g.lo (by omega)
    have h2 := sq_mono h0 (show r ≤ s - 1 by omega)
    have := h.up
    omega
  · exact c
  · have h1 := h.lo (by omega)
    have h2 := sq_mono g0 (show s ≤ r - 1 by omega)
    have := g.up
    omega
theorem isUp_le {n r : Int} (h : IsUp n r) (hn : 0 ≤ n) : r ≤ n + 1 := by
  by_cases c : 0 < r
  · have h1 := h.lo c
    have h2 := sq_ge (show 0 ≤ r - 1 by omega)
    omega
  · omega
theorem log_ok {n : Int} {k : Nat} (h : n < 2 ^ k) (h0 : 0 ≤ n) (hk : k ≤ 12999) : n.toNat.log2 < 13000 := by
  by_cases z : n.toNat = 0
  · rw [z, Nat.log2_zero]; decide
  · have h1 : n.toNat < 2 ^ k := by
      have e : ((2 ^ k : Nat) : Int) = (2 : Int) ^ k := by simp
      omega
    have := (Nat.log2_lt z).mpr h1
    omega
theorem mul_log {a b n : Int} (ha : 0 ≤ a) (hb : 0 ≤ b) (h1 : a ≤ n) (h2 : b ≤ n) (hn : n.toNat.log2 < 13000) : MulOk a b := by
  refine .inr ?_
  have h0 : 0 ≤ n := by omega
  have key : ∀ x : Int, 0 ≤ x → x ≤ n → x.natAbs.log2 < 13000 := fun x h0 h1 => by
    by_cases z : x.natAbs = 0
    · rw [z, Nat.log2_zero]; decide
    · by_cases zn : n.toNat = 0
      · omega
      · refine (Nat.log2_lt z).mpr ?_
        have := (Nat.log2_lt zn).mp hn
        omega
  have := key a ha h1
  have := key b hb h2
  unfold CMulW
  omega
theorem x_root_up {n : Int} {Q : D → Prop} (h0 : 0 ≤ n) (hn : n.toNat.log2 < 13000) (h : ∀ r, IsUp n r → Q (.int r)) : runD 2 m_root_up [.int n] Q := by
  unfold runD startD m_root_up
  walk_at "xd"
  refine ⟨h0, hn, fun r h1 h2 => ?_⟩
  have e1 : ((r : Int) * r ≤ n) := by
    have : ((r * r : Nat) : Int) ≤ (n.toNat : Int) := Int.ofNat_le.mpr h1
    rw [Int.natCast_mul, Int.toNat_of_nonneg h0] at this; exact this
  have e2 : n < ((r : Int) + 1) * (r + 1) := by
    have : (n.toNat : Int) < (((r + 1) * (r + 1) : Nat) : Int) := Int.ofNat_lt.mpr h2
    rw [Int.natCast_mul, Int.toNat_of_nonneg h0] at this; exact this
  have r0 : (0 : Int) ≤ r := Int.natCast_nonneg r
  have hr : (r : Int) ≤ n := by have := sq_ge r0; omega
  walk_at "xd"
  refine ⟨mul_log r0 r0 hr hr hn, ?_⟩
  by_cases c : (r : Int) * r < n
  · rw [if_pos c]
    refine h _ ⟨by omega, by omega, fun _ => ?_⟩
    have : (r : Int) + 1 - 1 = r := by omega
    rw [this]; exact c
  · rw [if_neg c]
    refine h _ ⟨r0, by omega, fun hp => ?_⟩
    have h3 : ((r : Int) - 1) * (r - 1) ≤ (r - 1) * r := Int.mul_le_mul_of_nonneg_left (by omega) (by omega)
    have h4 : ((r : Int) - 1) * r = r * r - r := by rw [Int.sub_mul, Int.one_mul]
    omega
theorem sq_nn (x : Int) : 0 ≤ x * x := by
  rcases Int.le_total 0 x with h | h
  · exact Int.mul_nonneg h h
  · exact Int.mul_nonneg_of_nonpos_of_nonpos h h

def hfF (p : Int × Int) : Int := (p.2 - p.1 + 1) / 2
def midF (p : Int × Int) : Int := (p.1 + p.2) / 2
def sqS (bs : List (Int × Int)) : Int := (bs.map fun p => hfF p * hfF p).sum
/-- sides from less to more, not too long -/
def Sides (bs : List (Int × Int)) : Prop := ∀ p ∈ bs, p.1 ≤ p.2 ∧ p.2 < p.1 + 200000000000000
theorem hf_b {p : Int × Int} (h : p.1 ≤ p.2 ∧ p.2 < p.1 + 200000000000000) : 0 ≤ hfF p ∧ hfF p ≤ 100000000000000 := by unfold hfF; omega
theorem sum_nn {α : Type} {f : α → Int} : ∀ {xs : List α} {b : Int}, (∀ x ∈ xs, 0 ≤ f x ∧ f x ≤ b) → 0 ≤ (xs.map f).sum ∧ (xs.map f).sum ≤ b * xs.length
  | [], b, _ => by simp
  | x :: xs, b, h => by
    have h1 := h x (List.mem_cons_self ..)
    have h2 := sum_nn (xs := xs) (b := b) fun y hy => h y (List.mem_cons_of_mem _ hy)
    simp only [List.map_cons, List.sum_cons, List.length_cons]
    have e : b * ((xs.length + 1 : Nat) : Int) = b * xs.length + b := by rw [Int.natCast_add, Int.mul_add]; simp
    omega
theorem sqS_b {bs : List (Int × Int)} (h : Sides bs) (hl : bs.length ≤ 1000) : 0 ≤ sqS bs ∧ sqS bs ≤ 10000000000000000000000000000000 := by
  have key : ∀ p ∈ bs, 0 ≤ hfF p * hfF p ∧ hfF p * hfF p ≤ 10000000000000000000000000000 := fun p hp => by
    have h1 := hf_b (h p hp)
    refine ⟨Int.mul_nonneg h1.1 h1.1, ?_⟩
    have := sq_mono h1.1 h1.2
    omega
  have h2 := sum_nn key
  unfold sqS
  refine ⟨h2.1, ?_⟩
  have : (10000000000000000000000000000 : Int) * bs.length ≤ 10000000000000000000000000000 * 1000 := Int.mul_le_mul_of_nonneg_left (by omega) (by decide)
  omega
theorem cutD_but {xs : List D} : cutD xs none (some (-1)) = xs.take (xs.length - 1) := by
  unfold cutD
  have e : HT.sIx xs.length xs.length (some (-1)) = xs.length - 1 := by
    show (if (-1 : Int) < 0 then (-1 + (xs.length : Int)).toNat else min (-1 : Int).toNat xs.length) = _
    rw [if_pos (by decide)]; omega
  rw [HT.sIx_none, e, List.drop_zero, Nat.sub_zero]
/-! ### products and quotients of numbers below a bound; points -/
theorem mul_big {a b : Int} (h1 : -10000000000000000000000000000000000000000000000000000000000000000000000 ≤ a) (h2 : a ≤ 10000000000000000000000000000000000000000000000000000000000000000000000) (h3 : -10000000000000000000000000000000000000000000000000000000000000000000000 ≤ b) (h4 : b ≤ 10000000000000000000000000000000000000000000000000000000000000000000000) : MulOk a b := by
  refine .inr ?_
  have key : ∀ x : Int, -10000000000000000000000000000000000000000000000000000000000000000000000 ≤ x → x ≤ 10000000000000000000000000000000000000000000000000000000000000000000000 → x.natAbs.log2 < 250 := fun x h0 h1 => by
    by_cases z : x.natAbs = 0
    · rw [z, Nat.log2_zero]; decide
    · refine (Nat.log2_lt z).mpr ?_
      have : (2 : Nat) ^ 250 = 1809251394333065553493296640760748560207343510400633813116524750123642650624 := by decide
      omega
  have := key a h1 h2
  have := key b h3 h4
  unfold CMulW
  omega
theorem div_big {a b : Int} (h1 : 0 < b) (h4 : b ≤ 10000000000000000000000000000000000000000000000000000000000000000000000) : CDivW a b :=
  wide_div (b := 250) h1 (by
    have : (2 : Nat) ^ 250 = 1809251394333065553493296640760748560207343510400633813116524750123642650624 := by decide
    omega) (by decide) (by decide)
theorem rangeD_eq : ∀ (n : Nat) (lo : Nat), rangeD (lo : Int) n = (List.range' lo n).map fun (j : Nat) => D.int j
  | 0, _ => rfl
  | n + 1, lo => by
    have := rangeD_eq n (lo + 1)
    rw [Int.natCast_add] at this
    simp only [List.range'_succ, List.map_cons, rangeD]
    rw [← this]; rfl
theorem range0D (n : Nat) : rangeD 0 n = (List.range n).map fun (j : Nat) => D.int j := by
  rw [List.range_eq_range']; exact rangeD_eq n 0
def ptD (f : Nat → Int) (n : Nat) : D := .tup ((List.range n).map fun j => .int (f j))
def S (f : Nat → Int) (n : Nat) : Int := ((List.range n).map f).sum
theorem S_succ (f : Nat → Int) (n : Nat) : S f (n + 1) = S f n + f n := by
  unfold S; rw [List.range_succ]; simp
theorem S_b {f : Nat → Int} {b : Int} : ∀ {n : Nat}, (∀ j, j < n → -b ≤ f j ∧ f j ≤ b) → -(b * n) ≤ S f n ∧ S f n ≤ b * n
  | 0, _ => by simp [S]
  | n + 1, h => by
    have h1 := S_b (n := n) fun j hj => h j (by omega)
    have h2 := h n (by omega)
    rw [S_succ]
    have e : b * ((n + 1 : Nat) : Int) = b * n + b := by rw [Int.natCast_add, Int.mul_add]; simp
    omega
theorem S_nn {f : Nat → Int} : ∀ {n : Nat}, (∀ j, j < n → 0 ≤ f j) → 0 ≤ S f n
  | 0, _ => by simp [S]
  | n + 1, h => by
    have h1 := S_nn (n := n) fun j hj => h j (by omega)
    have h2 := h n (by omega)
    rw [S_succ]; omega
theorem S_cong {f g : Nat → Int} : ∀ {n : Nat}, (∀ j, j < n → f j = g j) → S f n = S g n
  | 0, _ => by simp [S]
  | n + 1, h => by rw [S_succ, S_succ, S_cong (n := n) fun j hj => h j (by omega), h n (by omega)]
theorem pt_at {f : Nat → Int} {n j : Nat} (h : j < n) : ∀ P : D → Prop, dIx (ptD f n) (.int (j : Int)) P = P (.int (f j)) := fun P => ix_tup_at (atI_nat (by rw [List.getElem?_map, List.getElem?_range h]; rfl))
theorem sqn0 (x : Int) : 0 ≤ x * x := by
  by_cases c : 0 ≤ x
  · exact Int.mul_nonneg c c
  · have := Int.mul_nonneg (show 0 ≤ -x by omega) (show 0 ≤ -x by omega)
    rw [Int.neg_mul_neg] at this; exact this
theorem zip_r (n : Nat) : (List.range n).zip (List.range n) = (List.range n).map fun j => (j, j) := by
  rw [List.zip_eq_zipWith, List.zipWith_self]
theorem zip_range (f g : Nat → Int) (n : Nat) : zipD ((List.range n).map fun j => D.int (f j)) ((List.range n).map fun j => D.int (g j)) = (List.range n).map fun j => D.tup [.int (f j), .int (g j)] := by
  rw [zipD_of, zip_r, List.map_map]; rfl
theorem ab_sq {x b : Int} (h : -b ≤ x) (h2 : x ≤ b) : x * x ≤ b * b := by
  by_cases c : 0 ≤ x
  · exact sq_mono c h2
  · have := sq_mono (show 0 ≤ -x by omega) (show -x ≤ b by omega)
    rw [Int.neg_mul_neg] at this; exact this
theorem ab_mul {x y b : Int} (h : -b ≤ x ∧ x ≤ b) (h2 : -b ≤ y ∧ y ≤ b) : -(b * b) ≤ x * y ∧ x * y ≤ b * b := by
  have b0 : 0 ≤ b := by omega
  have h3 : 0 ≤ (b - x) * (b + y) := Int.mul_nonneg (by omega) (by omega)
  have h4 : 0 ≤ (b + x) * (b - y) := Int.mul_nonneg (by omega) (by omega)
  have h5 : 0 ≤ (b - x) * (b - y) := Int.mul_nonneg (by omega) (by omega)
  have h6 : 0 ≤ (b + x) * (b + y) := Int.mul_nonneg (by omega) (by omega)
  constructor <;> grind
theorem ab_mul2 {x y b c : Int} (h : -b ≤ x ∧ x ≤ b) (h2 : -c ≤ y ∧ y ≤ c) : -(b * c) ≤ x * y ∧ x * y ≤ b * c := by
  have h3 : 0 ≤ (b - x) * (c + y) := Int.mul_nonneg (by omega) (by omega)
  have h4 : 0 ≤ (b + x) * (c - y) := Int.mul_nonneg (by omega) (by omega)
  have h5 : 0 ≤ (b - x) * (c - y) := Int.mul_nonneg (by omega) (by omega)
  have h6 : 0 ≤ (b + x) * (c + y) := Int.mul_nonneg (by omega) (by omega)
  constructor <;> grind
theorem forL_map {F : Nat → D} {g : RG} {body : RS} {Z : DE} {n : Nat} {e : En} (Inv : Nat → En → Prop) (h0 : Inv 0 e)
    (hs : ∀ (j : Nat) (e : En) (Z' : DE), j < n → Inv j e → (∀ e', Inv (j + 1) e' → Z'.nx e') → (∀ e', Inv (j + 1) e' → Z'.ct e') → Z'.rt = Z.rt → Z'.bk = Z.nx → g (F j) e fun e' => body Z' e')
    (hd : ∀ e, Inv n e → Z.nx e) : forL g body Z ((List.range n).map F) e := by
  refine forL_inv Inv _ Z 0 e h0 (fun j x e Z' hj hI h1 h2 h3 h4 => ?_) (fun e q => hd e ?_)
  · rw [List.getElem?_map] at hj
    by_cases hlt : j < n
    · rw [List.getElem?_range hlt] at hj
      cases hj
      rw [Nat.zero_add] at hI h1 h2
      exact hs j e Z' hlt hI h1 h2 h3 h4
    · rw [List.getElem?_eq_none (by simpa using hlt)] at hj; cases hj
  · rw [Nat.zero_add, List.length_map, List.length_range] at q; exact q
theorem zip_rmap (f g : Nat → D) (n : Nat) : zipD ((List.range n).map f) ((List.range n).map g) = (List.range n).map fun j => D.tup [f j, g j] := by
  rw [zipD_of, zip_r, List.map_map]; rfl
theorem rmap_at {f : Nat → D} {n j : Nat} (h : j < n) : ((List.range n).map f)[j]? = some (f j) := by rw [List.getElem?_map, List.getElem?_range h]; rfl
theorem S_le {f g : Nat → Int} : ∀ {n : Nat}, (∀ j, j < n → f j ≤ g j) → S f n ≤ S g n
  | 0, _ => by simp [S]
  | n + 1, h => by
    have h1 := S_le (n := n) fun j hj => h j (by omega)
    have h2 := h n (by omega)
    rw [S_succ, S_succ]; omega
theorem nSum_S {f : Nat → Int} {n : Nat} {Q : D → Prop} (h : Q (.int (S f n))) : nSum [.lst ((List.range n).map fun j => D.int (f j))] Q := nSum_of h
theorem zip_rm {G : Nat × Nat → D} {n : Nat} : List.map G ((List.range n).zip (List.range n)) = (List.range n).map fun j => G (j, j) := by
  rw [zip_r, List.map_map]; rfl
theorem S_first {f : Nat → Int} (h : ∀ j, 0 ≤ f j) : ∀ m : Nat, f 0 ≤ S f (m + 1)
  | 0 => by rw [S_succ]; simp [S]
  | m + 1 => by
    have h1 := S_first h m
    have h2 := h (m + 1)
    rw [S_succ]; omega

/-! ### boxes by place -/
def bxD (lo hi : Nat → Int) (n : Nat) : D := .tup ((List.range n).map fun j => .tup [.int (lo j), .int (hi j)])
theorem bx_at {lo hi : Nat → Int} {n j : Nat} (h : j < n) : ∀ P : D → Prop, dIx (bxD lo hi n) (.int (j : Int)) P = P (.tup [.int (lo j), .int (hi j)]) := fun P => ix_tup_at (atI_nat (rmap_at h))
theorem bxl_at {lo hi : Nat → Int} {n j : Nat} (h : j < n) : ∀ P : D → Prop, dIx (.lst ((List.range n).map fun j => .tup [.int (lo j), .int (hi j)])) (.int (j : Int)) P = P (.tup [.int (lo j), .int (hi j)]) := fun P => ix_lst_at (atI_nat (rmap_at h))
theorem box_bx (ns : List Int) (k : Int) (n : Nat) : boxD (boxF ns k n) = bxD (fun j => (sideF ns k j).1) (fun j => (sideF ns k j).2) n := by
  unfold boxD boxF bxD sideD; rw [List.map_map]; rfl
theorem bx_set (lo hi : Nat → Int) (n k : Nat) (a b : Int) : ((List.range n).map fun j => D.tup [.int (lo j), .int (hi j)]).set k (.tup [.int a, .int b]) = (List.range n).map fun j => D.tup [.int (if j = k then a else lo j), .int (if j = k then b else hi j)] := by
  refine List.ext_getElem? fun i => ?_
  rw [List.getElem?_set]
  by_cases h : i < n
  · rw [rmap_at h]
    by_cases c : k = i
    · subst c; simp [h]
    · rw [if_neg c, rmap_at h, if_neg (Ne.symm c), if_neg (Ne.symm c)]
  · rw [List.getElem?_eq_none (l := (List.range n).map fun j => D.tup [.int (if j = k then a else lo j), .int (if j = k then b else hi j)]) (by simpa using h)]
    by_cases c : k = i
    · subst c; simp [h]
    · rw [if_neg c, List.getElem?_eq_none (by simpa using h)]
theorem side_b (ns : List Int) (k : Int) (j : Nat) : (sideF ns k j).1 ≤ (sideF ns k j).2 ∧ -1000000000000 ≤ (sideF ns k j).1 ∧ (sideF ns k j).2 ≤ 1001000000000 := by
  have h1 := nearF_b (lawNum ns (k + 2 * j))
  have h2 := lenF_b (lawNum ns (k + 2 * j + 1))
  unfold sideF
  exact ⟨by show nearF _ ≤ nearF _ + lenF _; omega, h1.1, by show nearF _ + lenF _ ≤ _; omega⟩

/-- ends within reach -/
def Bd (lo hi : Nat → Int) (n : Nat) : Prop := ∀ j, j < n → lo j ≤ hi j ∧ -22000000000000 ≤ lo j ∧ hi j ≤ 22000000000000
/-- both dots -/
theorem x_dot {f g : Nat → Int} {n : Nat} {Q : D → Prop} (hn : n ≤ 1000) (hf : ∀ j, j < n → -200000000000000 ≤ f j ∧ f j ≤ 200000000000000) (h : Q (.int (S (fun j => f j * g j) n))) : runD 4 m_dot [ptD f n, ptD g n] Q := by
  unfold runD startD m_dot ptD
  walk_at "xd"
  have ez : List.map (fun p : Nat × Nat => D.tup [D.int (f p.fst), D.int (g p.snd)]) ((List.range n).zip (List.range n)) = (List.range n).map fun j => D.tup [D.int (f j), D.int (g j)] := by rw [zip_r, List.map_map]; rfl
  rw [ez]
  refine lcL_of _ (fun j : Nat => D.int (f j * g j)) _ _ ?_ (fun x hx P hP => ?_) ?_
  · simp; show n ≤ 16777216; omega
  · walk_at "xd"
    have := hf x (List.mem_range.mp hx)
    exact ⟨mulOk_l (by omega) (by omega), hP _ rfl⟩
  · rw [List.nil_append]; exact nSum_of h

def Bd12 (lo hi : Nat → Int) (n : Nat) : Prop := ∀ j, j < n → lo j ≤ hi j ∧ -1000000000000 ≤ lo j ∧ hi j ≤ 1000000000000
/-! ### the six kinds -/
def Sx (x : String) : D := .str (PySem.Str.ofString x)
theorem dEq_strT {a : Str} {Q : D → Prop} (ok : (PyData.str a).canLay0 = true) : dEq (.str a) (.str a) Q = Q (.bl true) := by
  have e : PyData.eqv (.str a) (.str a) = true := by rw [PyData.eqv]; exact beq_self_eq_true a
  refine propext ⟨fun ⟨p, q, h1, h2, _, _, h⟩ => ?_, fun h => ⟨.str a, .str a, rfl, rfl, shaped_of (k := 0) ok (Nat.le_refl _) (by decide), shaped_of (k := 0) ok (Nat.le_refl _) (by decide), ?_⟩⟩
  · simp only [toPy, Option.some.injEq] at h1 h2; subst h1 h2
    rw [e] at h; exact h
  · rw [e]; exact h
theorem dEq_strF {a b : Str} {Q : D → Prop} (n : (a == b) = false) (ok : (PyData.str a).canLay0 = true) (ok2 : (PyData.str b).canLay0 = true) : dEq (.str a) (.str b) Q = Q (.bl false) := by
  have e : PyData.eqv (.str a) (.str b) = false := by rw [PyData.eqv]; exact n
  refine propext ⟨fun ⟨p, q, h1, h2, _, _, h⟩ => ?_, fun h => ⟨.str a, .str b, rfl, rfl, shaped_of (k := 0) ok (Nat.le_refl _) (by decide), shaped_of (k := 0) ok2 (Nat.le_refl _) (by decide), ?_⟩⟩
  · simp only [toPy, Option.some.injEq] at h1 h2; subst h1 h2
    rw [e] at h; exact h
  · rw [e]; exact h
theorem q_range_clocked {Q : D → Prop} : dEq (.str (PySem.Str.ofString "range")) (.str (PySem.Str.ofString "clocked")) Q = Q (.bl false) := dEq_strF (by decide +kernel) (by decide +kernel) (by decide +kernel)
theorem q_range_differ {Q : D → Prop} : dEq (.str (PySem.Str.ofString "range")) (.str (PySem.Str.ofString "differ")) Q = Q (.bl false) := dEq_strF (by decide +kernel) (by decide +kernel) (by decide +kernel)
theorem q_range_piece {Q : D → Prop} : dEq (.str (PySem.Str.ofString "range")) (.str (PySem.Str.ofString "piece")) Q = Q (.bl false) := dEq_strF (by decide +kernel) (by decide +kernel) (by decide +kernel)
theorem q_range_side {Q : D → Prop} : dEq (.str (PySem.Str.ofString "range")) (.str (PySem.Str.ofString "side")) Q = Q (.bl false) := dEq_strF (by decide +kernel) (by decide +kernel) (by decide +kernel)
theorem q_range_boxes {Q : D → Prop} : dEq (.str (PySem.Str.ofString "range")) (.str (PySem.Str.ofString "boxes")) Q = Q (.bl false) := dEq_strF (by decide +kernel) (by decide +kernel) (by decide +kernel)
theorem q_clocked_range {Q : D → Prop} : dEq (.str (PySem.Str.ofString "clocked")) (.str (PySem.Str.ofString "range")) Q = Q (.bl false) := dEq_strF (by decide +kernel) (by decide +kernel) (by decide +kernel)
theorem q_clocked_differ {Q : D → Prop} : dEq (.str (PySem.Str.ofString "clocked")) (.str (PySem.Str.ofString "differ")) Q = Q (.bl false) := dEq_strF (by decide +kernel) (by decide +kernel) (by decide +kernel)
theorem q_clocked_piece {Q : D → Prop} : dEq (.str (PySem.Str.ofString "clocked")) (.str (PySem.Str.ofString "piece")) Q = Q (.bl false) := dEq_strF (by decide +kernel) (by decide +kernel) (by decide +kernel)
theorem q_clocked_side {Q : D → Prop} : dEq (.str (PySem.Str.ofString "clocked")) (.str (PySem.Str.ofString "side")) Q = Q (.bl false) := dEq_strF (by decide +kernel) (by decide +kernel) (by decide +kernel)
theorem q_clocked_boxes {Q : D → Prop} : dEq (.str (PySem.Str.ofString "clocked")) (.str (PySem.Str.ofString "boxes")) Q = Q (.bl false) := dEq_strF (by decide +kernel) (by decide +kernel) (by decide +kernel)
theorem q_differ_range {Q : D → Prop} : dEq (.str (PySem.Str.ofString "differ")) (.str (PySem.Str.ofString "range")) Q = Q (.bl false) := dEq_strF (by decide +kernel) (by decide +kernel) (by decide +kernel)
theorem q_differ_clocked {Q : D → Prop} : dEq (.str (PySem.Str.ofString "differ")) (.str (PySem.Str.ofString "clocked")) Q = Q (.bl false) := dEq_strF (by decide +kernel) (by decide +kernel) (by decide +kernel)
theorem q_differ_piece {Q : D → Prop} : dEq (.str (PySem.Str.ofString "differ")) (.str (PySem.Str.ofString "piece")) Q = Q (.bl false) := dEq_strF (by decide +kernel) (by decide +kernel) (by decide +kernel)
theorem q_differ_side {Q : D → Prop} : dEq (.str (PySem.Str.ofString "differ")) (.str (PySem.Str.ofString "side")) Q = Q (.bl false) := dEq_strF (by decide +kernel) (by decide +kernel) (by decide +kernel)
theorem q_differ_boxes {Q : D → Prop} : dEq (.str (PySem.Str.ofString "differ")) (.str (PySem.Str.ofString "boxes")) Q = Q (.bl false) := dEq_strF (by decide +kernel) (by decide +kernel) (by decide +kernel)
theorem q_piece_range {Q : D → Prop} : dEq (.str (PySem.Str.ofString "piece")) (.str (PySem.Str.ofString "range")) Q = Q (.bl false) := dEq_strF (by decide +kernel) (by decide +kernel) (by decide +kernel)
theorem q_piece_clocked {Q : D → Prop} : dEq (.str (PySem.Str.ofString "piece")) (.str (PySem.Str.ofString "clocked")) Q = Q (.bl false) := dEq_strF (by decide +kernel) (by decide +kernel) (by decide +kernel)
theorem q_piece_differ {Q : D → Prop} : dEq (.str (PySem.Str.ofString "piece")) (.str (PySem.Str.ofString "differ")) Q = Q (.bl false) := dEq_strF (by decide +kernel) (by decide +kernel) (by decide +kernel)
theorem q_piece_side {Q : D → Prop} : dEq (.str (PySem.Str.ofString "piece")) (.str (PySem.Str.ofString "side")) Q = Q (.bl false) := dEq_strF (by decide +kernel) (by decide +kernel) (by decide +kernel)
theorem q_piece_boxes {Q : D → Prop} : dEq (.str (PySem.Str.ofString "piece")) (.str (PySem.Str.ofString "boxes")) Q = Q (.bl false) := dEq_strF (by decide +kernel) (by decide +kernel) (by decide +kernel)
theorem q_side_range {Q : D → Prop} : dEq (.str (PySem.Str.ofString "side")) (.str (PySem.Str.ofString "range")) Q = Q (.bl false) := dEq_strF (by decide +kernel) (by decide +kernel) (by decide +kernel)
theorem q_side_clocked {Q : D → Prop} : dEq (.str (PySem.Str.ofString "side")) (.str (PySem.Str.ofString "clocked")) Q = Q (.bl false) := dEq_strF (by decide +kernel) (by decide +kernel) (by decide +kernel)
theorem q_side_differ {Q : D → Prop} : dEq (.str (PySem.Str.ofString "side")) (.str (PySem.Str.ofString "differ")) Q = Q (.bl false) := dEq_strF (by decide +kernel) (by decide +kernel) (by decide +kernel)
theorem q_side_piece {Q : D → Prop} : dEq (.str (PySem.Str.ofString "side")) (.str (PySem.Str.ofString "piece")) Q = Q (.bl false) := dEq_strF (by decide +kernel) (by decide +kernel) (by decide +kernel)
theorem q_side_boxes {Q : D → Prop} : dEq (.str (PySem.Str.ofString "side")) (.str (PySem.Str.ofString "boxes")) Q = Q (.bl false) := dEq_strF (by decide +kernel) (by decide +kernel) (by decide +kernel)
theorem q_boxes_range {Q : D → Prop} : dEq (.str (PySem.Str.ofString "boxes")) (.str (PySem.Str.ofString "range")) Q = Q (.bl false) := dEq_strF (by decide +kernel) (by decide +kernel) (by decide +kernel)
theorem q_boxes_clocked {Q : D → Prop} : dEq (.str (PySem.Str.ofString "boxes")) (.str (PySem.Str.ofString "clocked")) Q = Q (.bl false) := dEq_strF (by decide +kernel) (by decide +kernel) (by decide +kernel)
theorem q_boxes_differ {Q : D → Prop} : dEq (.str (PySem.Str.ofString "boxes")) (.str (PySem.Str.ofString "differ")) Q = Q (.bl false) := dEq_strF (by decide +kernel) (by decide +kernel) (by decide +kernel)
theorem q_boxes_piece {Q : D → Prop} : dEq (.str (PySem.Str.ofString "boxes")) (.str (PySem.Str.ofString "piece")) Q = Q (.bl false) := dEq_strF (by decide +kernel) (by decide +kernel) (by decide +kernel)
theorem q_boxes_side {Q : D → Prop} : dEq (.str (PySem.Str.ofString "boxes")) (.str (PySem.Str.ofString "side")) Q = Q (.bl false) := dEq_strF (by decide +kernel) (by decide +kernel) (by decide +kernel)
theorem q_range {Q : D → Prop} : dEq (.str (PySem.Str.ofString "range")) (.str (PySem.Str.ofString "range")) Q = Q (.bl true) := dEq_strT (by decide +kernel)
theorem q_clocked {Q : D → Prop} : dEq (.str (PySem.Str.ofString "clocked")) (.str (PySem.Str.ofString "clocked")) Q = Q (.bl true) := dEq_strT (by decide +kernel)
theorem q_differ {Q : D → Prop} : dEq (.str (PySem.Str.ofString "differ")) (.str (PySem.Str.ofString "differ")) Q = Q (.bl true) := dEq_strT (by decide +kernel)
theorem q_piece {Q : D → Prop} : dEq (.str (PySem.Str.ofString "piece")) (.str (PySem.Str.ofString "piece")) Q = Q (.bl true) := dEq_strT (by decide +kernel)
theorem q_side {Q : D → Prop} : dEq (.str (PySem.Str.ofString "side")) (.str (PySem.Str.ofString "side")) Q = Q (.bl true) := dEq_strT (by decide +kernel)
theorem q_boxes {Q : D → Prop} : dEq (.str (PySem.Str.ofString "boxes")) (.str (PySem.Str.ofString "boxes")) Q = Q (.bl true) := dEq_strT (by decide +kernel)
local macro_rules | `(tactic| walk_at "xk") => `(tactic| simp (config := { failIfUnchanged := false }) only [q_range, q_clocked, q_differ, q_piece, q_side, q_boxes, q_range_clocked, q_range_differ, q_range_piece, q_range_side, q_range_boxes, q_clocked_range, q_clocked_differ, q_clocked_piece, q_clocked_side, q_clocked_boxes, q_differ_range, q_differ_clocked, q_differ_piece, q_differ_side, q_differ_boxes, q_piece_range, q_piece_clocked, q_piece_differ, q_piece_side, q_piece_boxes, q_side_range, q_side_clocked, q_side_differ, q_side_piece, q_side_boxes, q_boxes_range, q_boxes_clocked, q_boxes_differ, q_boxes_piece, q_boxes_side])
/-- points and boxes within reach -/
def Pt12 (f : Nat → Int) (n : Nat) : Prop := ∀ j, j < n → -1000000000000 ≤ f j ∧ f j ≤ 1000000000000
inductive RKind (n : Nat) : D → Prop
  | range {f : Nat → Int} : Pt12 f n → RKind n (.tup [.str (PySem.Str.ofString "range"), ptD f n])
  | clocked {f : Nat → Int} : Pt12 f n → RKind n (.tup [.str (PySem.Str.ofString "clocked"), ptD f n])
  | differ {f g : Nat → Int} : Pt12 f n → Pt12 g n → RKind n (.tup [.str (PySem.Str.ofString "differ"), ptD f n, ptD g n])
  | piece {f g : Nat → Int} : Pt12 f n → Pt12 g n → RKind n (.tup [.str (PySem.Str.ofString "piece"), ptD f n, ptD g n])
  | side {f : Nat → Int} : 1 ≤ f 0 → (∀ j, j < n → -1000 ≤ f j ∧ f j ≤ 1000) → RKind n (.tup [.str (PySem.Str.ofString "side"), ptD f n])
  | boxes1 {lo hi : Nat → Int} : Bd12 lo hi n → RKind n (.tup [.str (PySem.Str.ofString "boxes"), .tup [bxD lo hi n]])
  | boxes2 {lo hi lo' hi' : Nat → Int} : Bd12 lo hi n → Bd12 lo' hi' n → RKind n (.tup [.str (PySem.Str.ofString "boxes"), .tup [bxD lo hi n, bxD lo' hi' n]])
theorem pt_near (ns : List Int) (k : Int) (n : Nat) : Pt12 (fun j => nearF (lawNum ns (k + j))) n := fun j _ => by
  have := nearF_b (lawNum ns (k + j))
  show -1000000000000 ≤ nearF (lawNum ns (k + j)) ∧ nearF (lawNum ns (k + j)) ≤ 1000000000000
  omega
def slopeF (c : Int) (j : Nat) : Int := if j = 0 then 1 + c % 4 else if c / 4 % 5 = 0 then c / 20 / ((j : Int) * 7) % 2001 - 1000 else c / 20 / ((j : Int) * 7) % 9 - 4
theorem slope_b (c : Int) (j : Nat) : -1000 ≤ slopeF c j ∧ slopeF c j ≤ 1000 := by
  unfold slopeF
  split
  · omega
  · split <;> omega
def plLo (ns : List Int) (k : Int) (j : Nat) : Int := mxI (nearF (lawNum ns (k + j) / 14) - lenF (lawNum ns (k + j))) (-1000000000000)
def plHi (ns : List Int) (k : Int) (j : Nat) : Int := nearF (lawNum ns (k + j) / 14)
theorem pl_b (ns : List Int) (k : Int) (n : Nat) : Bd12 (plLo ns k) (plHi ns k) n := fun j _ => by
  have h1 := nearF_b (lawNum ns (k + j) / 14)
  have h2 := lenF_b (lawNum ns (k + j))
  unfold plLo plHi mxI
  split <;> omega
/-! ### names -/
def goodS : Str := PySem.Str.ofString "abcdefghijklmnopqrstuvwxyz0123456789_-"
theorem goodS_len : goodS.length = 38 := by decide +kernel
theorem dIn_sign {neg : Bool} {c : Nat} {z : Str} {Q : D → Prop} : dIn neg (.str ⟨#[c]⟩) (.str z) Q = Q (.bl (if neg then !decide (c ∈ z.cps.toList) else decide (c ∈ z.cps.toList))) := by
  refine propext ⟨fun ⟨c', h1, q⟩ => ?_, fun q => ⟨c, rfl, q⟩⟩
  have : c = c' := by cases h1; rfl
  subst this; exact q
def nameB (t : Str) : Bool := decide (1 ≤ (t.length : Int)) && decide ((t.length : Int) ≤ 64) && t.cps.toList.all fun c => decide (c ∈ goodS.cps.toList)
theorem x_is_name {t : Str} {Q : D → Prop} (ht : t.length ≤ 10000) (h : Q (.bl (nameB t))) : runD 2 m_is_name [.str t] Q := by
  unfold runD startD m_is_name
  unfold nameB at h
  have sz : t.length ≤ sizeLine := by show _ ≤ 16777216; omega
  walk_at "xd"
  split
  · rename_i c1
    rw [decide_eq_true c1] at h
    refine ⟨sz, ?_⟩
    walk_at "xd"
    by_cases c2 : (t.length : Int) ≤ 64
    · rw [decide_eq_true c2] at h
      rw [if_pos c2]
      walk_at "xd"
      refine lcL_of (fun c : Nat => D.str ⟨#[c]⟩) (fun c : Nat => D.bl (decide (c ∈ goodS.cps.toList))) _ _ ?_ (fun x hx P hP => ?_) ?_
      · simp; exact sz
      · walk_at "xd"
        rw [dIn_sign]
        exact hP _ rfl
      · rw [List.nil_append]
        refine nAll_of ?_
        simpa using h
    · rw [decide_eq_false c2] at h
      rw [if_neg c2]
      simpa using h
  · rename_i c1
    rw [decide_eq_false c1] at h
    refine ⟨sz, ?_⟩
    walk_at "xd"
    simpa using h

/-! ### data that == looks at, whatever it is -/
def pyE (d e : D) : Bool := match toPy d, toPy e with
  | some p, some q => PyData.eqv p q
  | _, _ => false
structure PyOk (d : D) (k : Nat) : Prop where
  ex : ∃ p, toPy d = some p ∧ p.canLay0 = true ∧ p.depth ≤ k ∧ PyData.eqv p p = true
theorem PyOk.le {d : D} {k l : Nat} (h : PyOk d k) (hl : k ≤ l) : PyOk d l := let ⟨p, a, b, c, e⟩ := h.ex; ⟨p, a, b, Nat.le_trans c hl, e⟩
theorem PyOk.int {i : Int} {k : Nat} : PyOk (.int i) k := ⟨.int i, rfl, rfl, Nat.zero_le _, by rw [PyData.eqv]; exact beq_self_eq_true i⟩
theorem PyOk.str {x : Str} {k : Nat} (h : (PyData.str x).canLay0 = true) : PyOk (.str x) k := ⟨.str x, rfl, h, Nat.zero_le _, by rw [PyData.eqv]; exact beq_self_eq_true x⟩
theorem PyOk.all {k : Nat} : ∀ {ds : List D}, (∀ d ∈ ds, PyOk d k) → ∃ ps, toPys ds = some ps ∧ PyData.canLayAll0 ps = true ∧ PyData.depthAll ps ≤ k ∧ PyData.eqvAll ps ps = true
  | [], _ => ⟨[], rfl, rfl, Nat.zero_le _, by simp only [PyData.eqvAll]⟩
  | d :: ds, h => by
    obtain ⟨p, a, b, c, e⟩ := (h d (List.mem_cons_self ..)).ex
    obtain ⟨ps, a', b', c', e'⟩ := PyOk.all (ds := ds) fun x hx => h x (List.mem_cons_of_mem _ hx)
    refine ⟨p :: ps, by simp only [toPys, a, a', Option.bind_some, Option.map_some], by simp only [PyData.canLayAll0, b, b', Bool.and_self], ?_, by simp only [PyData.eqvAll, e, e', Bool.and_self]⟩
    simp only [PyData.depthAll]; omega
theorem PyOk.tup {ds : List D} {k : Nat} (h : ∀ d ∈ ds, PyOk d k) : PyOk (.tup ds) (k + 1) := by
  obtain ⟨ps, a, b, c, e⟩ := PyOk.all h
  exact ⟨.tuple ps, by simp only [toPy, a, Option.map_some], by simp only [PyData.canLay0, b], by simp only [PyData.depth]; omega, by simp only [PyData.eqv, e]⟩
theorem PyOk.lst {ds : List D} {k : Nat} (h : ∀ d ∈ ds, PyOk d k) : PyOk (.lst ds) (k + 1) := by
  obtain ⟨ps, a, b, c, e⟩ := PyOk.all h
  exact ⟨.list ps, by simp only [toPy, a, Option.map_some], by simp only [PyData.canLay0, b], by simp only [PyData.depth]; omega, by simp only [PyData.eqv, e]⟩
theorem dEq_py {d e : D} {k : Nat} (hk : k ≤ 64) (h1 : PyOk d k) (h2 : PyOk e k) {Q : D → Prop} : dEq d e Q = Q (.bl (pyE d e)) := by
  obtain ⟨p, a1, a2, a3, _⟩ := h1.ex
  obtain ⟨q, b1, b2, b3, _⟩ := h2.ex
  have e0 : pyE d e = PyData.eqv p q := by unfold pyE; rw [a1, b1]
  rw [e0]
  refine propext ⟨fun ⟨x, y, h1, h2, _, _, h⟩ => ?_, fun h => ⟨p, q, a1, b1, shaped_of a2 a3 hk, shaped_of b2 b3 hk, h⟩⟩
  rw [a1] at h1; rw [b1] at h2; cases h1; cases h2; exact h
theorem dNe_py {d e : D} {k : Nat} (hk : k ≤ 64) (h1 : PyOk d k) (h2 : PyOk e k) {Q : D → Prop} : dNe d e Q = Q (.bl (!pyE d e)) := by
  obtain ⟨p, a1, a2, a3, _⟩ := h1.ex
  obtain ⟨q, b1, b2, b3, _⟩ := h2.ex
  have e0 : pyE d e = PyData.eqv p q := by unfold pyE; rw [a1, b1]
  rw [e0]
  refine propext ⟨fun ⟨x, y, h1, h2, _, _, h⟩ => ?_, fun h => ⟨p, q, a1, b1, shaped_of a2 a3 hk, shaped_of b2 b3 hk, h⟩⟩
  rw [a1] at h1; rw [b1] at h2; cases h1; cases h2; exact h
theorem pyE_lt (xs ys : List D) : pyE (.lst xs) (.lst ys) = pyE (.tup xs) (.tup ys) := by
  unfold pyE
  simp only [toPy]
  cases toPys xs <;> cases toPys ys <;> simp only [Option.map_none, Option.map_some]
  simp only [PyData.eqv]
theorem pyE_self {d : D} {k : Nat} (h : PyOk d k) : pyE d d = true := by
  obtain ⟨p, a, b, c, e⟩ := h.ex
  unfold pyE; rw [a]; exact e

structure IsDn (n r : Int) : Prop where
  nn : 0 ≤ r
  lo : r * r ≤ n
  up : n < (r + 1) * (r + 1)
theorem isDn_unique {n r s : Int} (h : IsDn n r) (g : IsDn n s) : r = s := by
  have key : ∀ {r s : Int}, IsDn n r → IsDn n s → s ≤ r := fun {r s} h g => Int.not_lt.mp fun c => by
    have h0 := h.nn; have h1 := h.up; have h2 := g.lo
    have h3 := sq_mono (show 0 ≤ r + 1 by omega) (show r + 1 ≤ s by omega)
    omega
  have h1 := key h g
  have h2 := key g h
  omega

def outF (x c d : Int) : Int := mxI (mxI (c - x) (x - d)) 0
def absI (x : Int) : Int := if x < 0 then -x else x
def fdF (x c d : Int) : Int := mxI (absI (c - x)) (absI (d - x))
def clF (x c d : Int) : Int := if d < (if c > x then c else x) then d else (if c > x then c else x)
def Pb (p : Nat → Int) (n : Nat) : Prop := ∀ j, j < n → -22000000000000 ≤ p j ∧ p j ≤ 22000000000000
theorem fd_b {x c d : Int} (h1 : -22000000000000 ≤ x ∧ x ≤ 22000000000000) (h2 : c ≤ d ∧ -22000000000000 ≤ c ∧ d ≤ 22000000000000) : 0 ≤ fdF x c d ∧ fdF x c d ≤ 200000000000000 := by
  unfold fdF absI mxI; (repeat' split) <;> omega
theorem S_step (w l : Nat → Int) (p q : Int) (n : Nat) : S (fun j => (l j * q - w j * p) * (l j * q - w j * p)) n = S (fun j => w j * w j) n * p * p - 2 * S (fun j => w j * l j) n * p * q + S (fun j => l j * l j) n * q * q := by
  induction n with
  | zero => simp [S]
  | succ n ih => rw [S_succ, S_succ, S_succ, S_succ, ih]; grind
/-- what both make of a piece: the square of the distance is a / b -/
structure Sq (w l : Nat → Int) (n : Nat) (a b : Int) : Prop where
  pos : 0 < b
  b_le : b ≤ 400000000000000000000000000000000
  a_nn : 0 ≤ a
  a_le : a ≤ 160000000000000000000000000000000000000000000000000000000000000000
  lo : ∀ (s p q : Int), 0 ≤ p → 0 ≤ q → q ≤ p → s * b ≤ a → s * p * p ≤ S (fun j => (l j * q - w j * p) * (l j * q - w j * p)) n
theorem S_sq_b {f : Nat → Int} {n : Nat} (hn : n ≤ 3) (hf : ∀ j, j < n → -200000000000000 ≤ f j ∧ f j ≤ 200000000000000) : 0 ≤ S (fun j => f j * f j) n ∧ S (fun j => f j * f j) n ≤ 400000000000000000000000000000000 := by
  have h1 := S_nn (f := fun j => f j * f j) (n := n) fun j _ => sqn0 _
  have h2 := (S_b (f := fun j => f j * f j) (b := 40000000000000000000000000000) (n := n) fun j hj => by
    have := sqn0 (f j)
    have := ab_sq (hf j hj).1 (hf j hj).2
    omega).2
  omega
/-- both work out the same: a pair of what is a / b rounded down and up -/
structure Pc (pt at_ to_ : Nat → Int) (n : Nat) (a b : Int) : Prop where
  sq : Sq (fun j => pt j - at_ j) (fun j => to_ j - at_ j) n a b

def gapF (a b c d : Int) : Int := mxI (mxI (c - b) (a - d)) 0
theorem gap_b {a b c d : Int} (h : a ≤ b ∧ -22000000000000 ≤ a ∧ b ≤ 22000000000000) (g : c ≤ d ∧ -22000000000000 ≤ c ∧ d ≤ 22000000000000) : 0 ≤ gapF a b c d ∧ gapF a b c d ≤ 200000000000000 := by
  unfold gapF mxI; omega
theorem gap_comm (a b c d : Int) : gapF a b c d = gapF c d a b := by unfold gapF mxI; (repeat' split) <;> omega
def farF (a b c d : Int) : Int := mxI (mxI (mxI (mxI (c - a) (a - d)) (c - b)) (b - d)) 0
theorem far_b {a b c d : Int} (h : a ≤ b ∧ -22000000000000 ≤ a ∧ b ≤ 22000000000000) (g : c ≤ d ∧ -22000000000000 ≤ c ∧ d ≤ 22000000000000) : 0 ≤ farF a b c d ∧ farF a b c d ≤ 200000000000000 := by
  unfold farF mxI; omega
theorem cut_last {xs : List D} {y : D} : cutD (xs ++ [y]) none (some (-1)) = xs := by
  unfold cutD
  have e : HT.sIx (xs ++ [y]).length (xs ++ [y]).length (some (-1)) = xs.length := by
    show (if (-1 : Int) < 0 then ((-1 : Int) + ((xs ++ [y]).length : Int)).toNat else min (-1 : Int).toNat (xs ++ [y]).length) = _
    rw [if_pos (by decide), List.length_append]
    simp only [List.length_cons, List.length_nil]
    omega
  rw [e, HT.sIx_none, List.drop_zero, Nat.sub_zero, List.take_left]
theorem ix_last {xs : List D} {y : D} {Q : D → Prop} : dIx (.tup (xs ++ [y])) (.int (-1)) Q = Q y := by
  refine ix_tup_at ?_
  unfold atI ixN
  simp
  rw [if_pos (by omega), Option.bind_some, show (-1 + ((xs.length : Int) + 1)).toNat = xs.length by omega]
  simp
theorem ix_lastl {xs : List D} {y : D} {Q : D → Prop} : dIx (.lst (xs ++ [y])) (.int (-1)) Q = Q y := by
  refine ix_lst_at ?_
  unfold atI ixN
  simp
  rw [if_pos (by omega), Option.bind_some, show (-1 + ((xs.length : Int) + 1)).toNat = xs.length by omega]
  simp

theorem bxD_snoc (lo hi : Nat → Int) (n : Nat) : bxD lo hi (n + 1) = .tup ((List.range n).map (fun j => D.tup [.int (lo j), .int (hi j)]) ++ [.tup [.int (lo n), .int (hi n)]]) := by
  unfold bxD; rw [List.range_succ, List.map_append]; rfl
def NR (lo hi : Nat → Int) (n : Nat) (p : Nat → Int) : Int := S (fun j => outF (p j) (lo j) (hi j) * outF (p j) (lo j) (hi j)) n
def FR (lo hi : Nat → Int) (n : Nat) (p : Nat → Int) : Int := S (fun j => fdF (p j) (lo j) (hi j) * fdF (p j) (lo j) (hi j)) n
def BT (lo hi : Nat → Int) (n : Nat) (b : (Nat → Int) × (Nat → Int)) : Int := S (fun j => gapF (lo j) (hi j) (b.1 j) (b.2 j) * gapF (lo j) (hi j) (b.1 j) (b.2 j)) n
def GF (lo hi : Nat → Int) (n : Nat) (b : (Nat → Int) × (Nat → Int)) : Int := S (fun j => farF (lo j) (hi j) (b.1 j) (b.2 j) * farF (lo j) (hi j) (b.1 j) (b.2 j)) n
theorem S2_b {f : Nat → Int} {n : Nat} (hn : n ≤ 3) (h : ∀ j, j < n → 0 ≤ f j ∧ f j ≤ 200000000000000) : 0 ≤ S (fun j => f j * f j) n ∧ S (fun j => f j * f j) n ≤ 400000000000000000000000000000 := by
  refine ⟨S_nn fun j _ => sqn0 _, ?_⟩
  have := (S_b (f := fun j => f j * f j) (b := 40000000000000000000000000000) (n := n) fun j hj => by
    have g := h j hj
    have := sq_mono g.1 g.2
    have := sqn0 (f j)
    omega).2
  omega
theorem lg_ok (x : Int) (h1 : 0 ≤ x) (h2 : x ≤ 400000000000000000000000000000001) : x.toNat.log2 < 13000 := log_ok (k := 110) (by
  have : (2 : Int) ^ 110 = 1298074214633706907132624082305024 := by decide
  omega) h1 (by decide)
section
variable {lo hi : Nat → Int} {n : Nat}
theorem NR_b {p : Nat → Int} (hn : n ≤ 3) (b : Bd lo hi n) (bp : Pb p n) : 0 ≤ NR lo hi n p ∧ NR lo hi n p ≤ 400000000000000000000000000000 := S2_b hn fun j hj => by
  have := b j hj
  have := bp j hj
  unfold outF mxI; omega
theorem FR_b {p : Nat → Int} (hn : n ≤ 3) (b : Bd lo hi n) (bp : Pb p n) : 0 ≤ FR lo hi n p ∧ FR lo hi n p ≤ 400000000000000000000000000000 := S2_b hn fun j hj => fd_b (bp j hj) (b j hj)
theorem BT_b {c : (Nat → Int) × (Nat → Int)} (hn : n ≤ 3) (b : Bd lo hi n) (b' : Bd c.1 c.2 n) : 0 ≤ BT lo hi n c ∧ BT lo hi n c ≤ 400000000000000000000000000000 := S2_b hn fun j hj => gap_b (b j hj) (b' j hj)
theorem GF_b {c : (Nat → Int) × (Nat → Int)} (hn : n ≤ 3) (b : Bd lo hi n) (b' : Bd c.1 c.2 n) : 0 ≤ GF lo hi n c ∧ GF lo hi n c ≤ 400000000000000000000000000000 := S2_b hn fun j hj => far_b (b j hj) (b' j hj)
def mnP (a b : Int) : Int := if b < a then b else a
def sdL (lo hi f : Nat → Int) (n : Nat) : Int := S (fun j => mnP (f j * lo j) (f j * hi j)) n
def sdH (lo hi f : Nat → Int) (n : Nat) : Int := S (fun j => mxI (f j * lo j) (f j * hi j)) n
/-! from a piece -/
def plR (c f g : Nat → Int) (n : Nat) : Int := S (fun j => (c j - f j) * (g j - f j)) n
def plW (f g : Nat → Int) (n : Nat) : Int := S (fun j => (g j - f j) * (g j - f j)) n
def plA (c f : Nat → Int) (n : Nat) : Int := S (fun j => (c j - f j) * (c j - f j)) n
def pN (c f g : Nat → Int) (n : Nat) : Int := if plR c f g n ≤ 0 then plA c f n else if plR c f g n ≥ plW f g n then plA c g n else plA c f n * plW f g n - plR c f g n * plR c f g n
def pW (c f g : Nat → Int) (n : Nat) : Int := if plR c f g n ≤ 0 then 1 else if plR c f g n ≥ plW f g n then 1 else plW f g n
structure PcOk (c f g : Nat → Int) (n : Nat) : Prop where
  a : 0 ≤ plA c f n ∧ plA c f n ≤ 400000000000000000000000000000000
  b : 0 ≤ plA c g n ∧ plA c g n ≤ 400000000000000000000000000000000
  w : 0 ≤ plW f g n ∧ plW f g n ≤ 400000000000000000000000000000000
  r : -400000000000000000000000000000000 ≤ plR c f g n ∧ plR c f g n ≤ 400000000000000000000000000000000
  n0 : 0 ≤ pN c f g n
  w0 : 1 ≤ pW c f g n ∧ pW c f g n ≤ 400000000000000000000000000000000
  q : 0 ≤ pN c f g n / pW c f g n ∧ pN c f g n / pW c f g n ≤ 400000000000000000000000000000000
theorem pc_ok {c f g : Nat → Int} (hn : n ≤ 3) (hc : Pb c n) (hf : Pb f n) (hg : Pb g n) : PcOk c f g n := by
  have d : ∀ (x y : Nat → Int), Pb x n → Pb y n → ∀ j, j < n → -200000000000000 ≤ x j - y j ∧ x j - y j ≤ 200000000000000 := fun x y hx hy j hj => by
    have := hx j hj; have := hy j hj; omega
  have a : 0 ≤ plA c f n ∧ plA c f n ≤ 400000000000000000000000000000000 := S_sq_b hn (d c f hc hf)
  have b : 0 ≤ plA c g n ∧ plA c g n ≤ 400000000000000000000000000000000 := S_sq_b hn (d c g hc hg)
  have w : 0 ≤ plW f g n ∧ plW f g n ≤ 400000000000000000000000000000000 := S_sq_b hn (d g f hg hf)
  have r := S_b (f := fun j => (c j - f j) * (g j - f j)) (b := 40000000000000000000000000000) (n := n) fun j hj => by
    have := ab_mul (b := 200000000000000) (d c f hc hf j hj) (d g f hg hf j hj)
    omega
  have r' : -400000000000000000000000000000000 ≤ plR c f g n ∧ plR c f g n ≤ 400000000000000000000000000000000 := by unfold plR; omega
  have cs : 0 < plW f g n → 0 ≤ plA c f n * plW f g n - plR c f g n * plR c f g n := fun hw => by
    have st := S_step (fun j => c j - f j) (fun j => g j - f j) (plW f g n) (plR c f g n) n
    have nn : 0 ≤ S (fun j => ((g j - f j) * plR c f g n - (c j - f j) * plW f g n) * ((g j - f j) * plR c f g n - (c j - f j) * plW f g n)) n := S_nn fun j _ => sqn0 _
    rw [st] at nn
    have e1 : S (fun j => (c j - f j) * (c j - f j)) n = plA c f n := rfl
    have e2 : S (fun j => (c j - f j) * (g j - f j)) n = plR c f g n := rfl
    have e3 : S (fun j => (g j - f j) * (g j - f j)) n = plW f g n := rfl
    rw [e1, e2, e3] at nn
    have e4 : plA c f n * plW f g n * plW f g n - 2 * plR c f g n * plW f g n * plR c f g n + plW f g n * plR c f g n * plR c f g n = plW f g n * (plA c f n * plW f g n - plR c f g n * plR c f g n) := by grind
    rw [e4] at nn
    exact Int.not_lt.mp fun z => by
      have := Int.mul_neg_of_pos_of_neg hw z
      omega
  refine ⟨a, b, w, r', ?_, ?_, ?_⟩
  · unfold pN
    split
    · exact a.1
    · split
      · exact b.1
      · exact cs (by omega)
  · unfold pW
    split
    · omega
    · split <;> omega
  · unfold pN pW
    split
    · rw [Int.ediv_one]; exact a
    · split
      · rw [Int.ediv_one]; exact b
      · have hw : 0 < plW f g n := by omega
        have c0 := cs hw
        refine ⟨Int.ediv_nonneg c0 (by omega), Int.le_trans (Int.ediv_le_of_le_mul hw ?_) a.2⟩
        have := sqn0 (plR c f g n)
        omega
/-! ### the kinds, and what their spans are -/
inductive SK where
  | range (f : Nat → Int) | clocked (f : Nat → Int) | differ (f g : Nat → Int) | piece (f g : Nat → Int) | side (f : Nat → Int) | boxes (bs : List ((Nat → Int) × (Nat → Int)))
def skD (n : Nat) : SK → D
  | .range f => .tup [.str (PySem.Str.ofString "range"), ptD f n]
  | .clocked f => .tup [.str (PySem.Str.ofString "clocked"), ptD f n]
  | .differ f g => .tup [.str (PySem.Str.ofString "differ"), ptD f n, ptD g n]
  | .piece f g => .tup [.str (PySem.Str.ofString "piece"), ptD f n, ptD g n]
  | .side f => .tup [.str (PySem.Str.ofString "side"), ptD f n]
  | .boxes bs => .tup [.str (PySem.Str.ofString "boxes"), .tup (bs.map fun b => bxD b.1 b.2 n)]
def SkOk (n : Nat) : SK → Prop
  | .range f => Pb f n
  | .clocked f => Pb f n
  | .differ f g => Pb f n ∧ Pb g n
  | .piece f g => Pb f n ∧ Pb g n
  | .side f => ∀ j, j < n → -1001 ≤ f j ∧ f j ≤ 1001
  | .boxes bs => 1 ≤ bs.length ∧ bs.length ≤ 16 ∧ ∀ b ∈ bs, Bd b.1 b.2 n
theorem sk_of {k : D} (h : RKind n k) : ∃ s, SkOk n s ∧ k = skD n s := by
  have wk : ∀ f : Nat → Int, Pt12 f n → Pb f n := fun f hf j hj => by have := hf j hj; omega
  have wb : ∀ lo hi : Nat → Int, Bd12 lo hi n → Bd lo hi n := fun lo hi hb j hj => by have := hb j hj; omega
  cases h with
  | @range f hf => exact ⟨.range f, wk f hf, rfl⟩
  | @clocked f hf => exact ⟨.clocked f, wk f hf, rfl⟩
  | @differ f g hf hg => exact ⟨.differ f g, ⟨wk f hf, wk g hg⟩, rfl⟩
  | @piece f g hf hg => exact ⟨.piece f g, ⟨wk f hf, wk g hg⟩, rfl⟩
  | @side f h0 hf => exact ⟨.side f, fun j hj => by have := hf j hj; omega, rfl⟩
  | @boxes1 lo hi b => exact ⟨.boxes [(lo, hi)], ⟨by simp, by simp, by simpa using wb _ _ b⟩, rfl⟩
  | @boxes2 lo hi lo' hi' b b' => exact ⟨.boxes [(lo, hi), (lo', hi')], ⟨by simp, by simp, by simpa using ⟨wb _ _ b, wb _ _ b'⟩⟩, rfl⟩
def hfS (lo hi : Nat → Int) (n : Nat) : Int := S (fun j => (hi j - lo j + 1) / 2 * ((hi j - lo j + 1) / 2)) n
def mdF (lo hi : Nat → Int) (j : Nat) : Int := (lo j + hi j) / 2
structure IsMin (xs : List Int) (m : Int) : Prop where
  mem : m ∈ xs
  le : ∀ x ∈ xs, m ≤ x
theorem isMin_unique {xs : List Int} {a b : Int} (h : IsMin xs a) (g : IsMin xs b) : a = b := Int.le_antisymm (h.le b g.mem) (g.le a h.mem)
/-- the span of a kind over the box lo, hi of n + 1 sides -/
def SR (lo hi : Nat → Int) (n : Nat) : SK → Int → Int → Prop
  | .range f, a, b => IsDn (NR lo hi n f) a ∧ IsUp (FR lo hi n f) b
  | .clocked f, a, b => IsDn (NR lo hi n f) (a - lo n) ∧ IsUp (FR lo hi n f) (b - hi n)
  | .differ f g, a, b => ∃ a1 b1 a2 b2, IsDn (NR lo hi n f) a1 ∧ IsUp (FR lo hi n f) b1 ∧ IsDn (NR lo hi n g) a2 ∧ IsUp (FR lo hi n g) b2 ∧ a = a1 - b2 ∧ b = b1 - a2
  | .side f, a, b => a = sdL lo hi f n ∧ b = sdH lo hi f n
  | .piece f g, a, b => ∃ r u v, IsUp (hfS lo hi n) r ∧ IsDn (pN (mdF lo hi) f g n / pW (mdF lo hi) f g n) u ∧ IsUp (-(-pN (mdF lo hi) f g n / pW (mdF lo hi) f g n)) v ∧ a = u - r ∧ b = v + r
  | .boxes bs, a, b => ∃ x y, IsMin (bs.map (BT lo hi n)) x ∧ IsMin (bs.map (GF lo hi n)) y ∧ IsDn x a ∧ IsUp y b
theorem sr_unique : ∀ {k : SK} {a b a' b' : Int}, SR lo hi n k a b → SR lo hi n k a' b' → a = a' ∧ b = b'
  | .range f, _, _, _, _, h, g => ⟨isDn_unique h.1 g.1, isUp_unique h.2 g.2⟩
  | .clocked f, _, _, _, _, h, g => ⟨by have := isDn_unique h.1 g.1; omega, by have := isUp_unique h.2 g.2; omega⟩
  | .differ f k, _, _, _, _, ⟨a1, b1, a2, b2, h1, h2, h3, h4, h5, h6⟩, ⟨c1, d1, c2, d2, g1, g2, g3, g4, g5, g6⟩ => by
    have e1 := isDn_unique h1 g1; have e2 := isUp_unique h2 g2; have e3 := isDn_unique h3 g3; have e4 := isUp_unique h4 g4
    omega
  | .side f, _, _, _, _, h, g => ⟨h.1.trans g.1.symm, h.2.trans g.2.symm⟩
  | .piece f k, _, _, _, _, ⟨r, u, v, h1, h2, h3, h4, h5⟩, ⟨r', u', v', g1, g2, g3, g4, g5⟩ => by
    have e1 := isUp_unique h1 g1; have e2 := isDn_unique h2 g2; have e3 := isUp_unique h3 g3
    omega
  | .boxes bs, _, _, _, _, ⟨x, y, h1, h2, h3, h4⟩, ⟨x', y', g1, g2, g3, g4⟩ => by
    have e1 := isMin_unique h1 g1; have e2 := isMin_unique h2 g2
    subst e1 e2
    exact ⟨isDn_unique h3 g3, isUp_unique h4 g4⟩
theorem bxD_boxD (lo hi : Nat → Int) (n : Nat) : bxD lo hi n = boxD ((List.range n).map fun j => (lo j, hi j)) := by
  unfold bxD boxD sideD; rw [List.map_map]; rfl
theorem hfS_b (hn : n ≤ 3) (b : Bd lo hi n) : 0 ≤ hfS lo hi n ∧ hfS lo hi n ≤ 400000000000000000000000000000 := S2_b (f := fun j => (hi j - lo j + 1) / 2) hn fun j hj => by
  have := b j hj
  show 0 ≤ (hi j - lo j + 1) / 2 ∧ (hi j - lo j + 1) / 2 ≤ _
  omega
theorem q_min {α : Type} {p : α → Int} {xs : List α} {Q : D → Prop} (h0 : xs ≠ []) (h : ∀ m, IsMin (xs.map p) m → Q (.int m)) : nMinL [.lst (xs.map fun a => D.int (p a))] Q :=
  ⟨_, asInts_of p xs, by cases xs with
    | nil => exact absurd rfl h0
    | cons => simp, fun m hm hx => h m ⟨hm, hx⟩⟩
end

theorem x_rate0 {n : Nat} {x : D} {r : List D} {Q : D → Prop} (h1 : ∀ Q, dEq x (.str (PySem.Str.ofString "differ")) Q = Q (.bl false)) (h2 : ∀ Q, dEq x (.str (PySem.Str.ofString "side")) Q = Q (.bl false)) (h : Q (.int 1)) : runD 1 m_rate [.tup (x :: r)] Q := by
  unfold runD startD m_rate
  walk_at "xd"
  simp only [h1, h2]
  walk_at "xd"
  exact h
theorem x_rated {r : List D} {Q : D → Prop} (h : Q (.int 2)) : runD 1 m_rate [.tup (.str (PySem.Str.ofString "differ") :: r)] Q := by
  unfold runD startD m_rate
  walk_at "xd"
  walk_at "xk"
  walk_at "xd"
  exact h
theorem x_rates {f : Nat → Int} {n : Nat} {Q : D → Prop} (hn : n ≤ 3) (b : ∀ j, j < n → -1001 ≤ f j ∧ f j ≤ 1001) (h : ∀ r, IsUp (S (fun j => f j * f j) n) r → Q (.int r)) : runD 1 m_rate [.tup [.str (PySem.Str.ofString "side"), ptD f n]] Q := by
  unfold runD startD m_rate
  walk_at "xd"
  walk_at "xk"
  walk_at "xd"
  walk_at "xk"
  walk_at "xd"
  refine x_dot (by omega) (fun j hj => by have := b j hj; omega) ?_
  have h1 := S_nn (f := fun j => f j * f j) (n := n) fun j _ => sqn0 _
  have h2 := (S_b (f := fun j => f j * f j) (b := 1002001) (n := n) fun j hj => by
    have := sqn0 (f j)
    have := ab_sq (b j hj).1 (b j hj).2
    omega).2
  refine x_root_up h1 (log_ok (k := 100) (by omega) h1 (by decide)) h
theorem x_clockF {x : D} {r : List D} {Q : D → Prop} (h1 : ∀ Q, dEq x (.str (PySem.Str.ofString "clocked")) Q = Q (.bl false)) (h : Q (.int 0)) : runD 1 m_clock_rate [.tup (x :: r)] Q := by
  unfold runD startD m_clock_rate
  walk_at "xd"
  simp only [h1]
  walk_at "xd"
  exact h
theorem x_clockT {r : List D} {Q : D → Prop} (h : Q (.int 1)) : runD 1 m_clock_rate [.tup (.str (PySem.Str.ofString "clocked") :: r)] Q := by
  unfold runD startD m_clock_rate
  walk_at "xd"
  walk_at "xk"
  walk_at "xd"
  exact h
theorem x_moved0 {x : D} {r : List D} {Q : D → Prop} (h1 : ∀ Q, dEq x (.str (PySem.Str.ofString "differ")) Q = Q (.bl false)) (h2 : ∀ Q, dEq x (.str (PySem.Str.ofString "side")) Q = Q (.bl false)) (h : Q (.int 1)) : runD 1 m_moved [.tup (x :: r)] Q := by
  unfold runD startD m_moved
  walk_at "xd"
  simp only [h1, h2]
  walk_at "xd"
  exact h
theorem x_movedd {r : List D} {Q : D → Prop} (h : Q (.int 2)) : runD 1 m_moved [.tup (.str (PySem.Str.ofString "differ") :: r)] Q := by
  unfold runD startD m_moved
  walk_at "xd"
  walk_at "xk"
  walk_at "xd"
  exact h
theorem x_moveds {r : List D} {Q : D → Prop} (h : Q (.int 0)) : runD 1 m_moved [.tup (.str (PySem.Str.ofString "side") :: r)] Q := by
  unfold runD startD m_moved
  walk_at "xd"
  walk_at "xk"
  walk_at "xd"
  exact h

/-! ### settings -/
variable {cl : Nat → Addr}
def setD (cl : Nat → Addr) (d s r p : Int) : D := .ins (cl 0) ["dims", "speed", "drift", "per"] [.int d, .int s, .int r, .int p]
theorem notin23 {d : Int} (h : d = 2 ∨ d = 3) {Q : D → Prop} : dIn true (.int d) (.tup [.int 2, .int 3]) Q = Q (.bl false) := by
  refine propext ⟨fun ⟨ns, h1, q⟩ => ?_, fun q => ⟨[2, 3], rfl, ?_⟩⟩
  · cases h1
    rcases h with rfl | rfl <;> exact q
  · rcases h with rfl | rfl <;> exact q
/-- a setting within bounds -/
structure SetOk (d s r p : Int) : Prop where
  d : d = 2 ∨ d = 3
  s0 : 0 ≤ s
  s1 : s ≤ 1000000000000
  r0 : 0 ≤ r
  r1 : r ≤ 1000000000000
  p0 : 1 ≤ p
  p1 : p ≤ 1000000000000
theorem x_mkset {d s r p : Int} {Q : D → Prop} (k : SetOk d s r p) (h : Q (setD cl d s r p)) : mkD (cl 0) ["dims", "speed", "drift", "per"] 5 (m_K_Setting_init cl) [.int d, .int s, .int r, .int p] Q := by
  intro p'
  unfold m_K_Setting_init
  have e1 := eq_true k.s0; have e2 := eq_true k.s1; have e3 := eq_true k.r0; have e4 := eq_true k.r1; have e5 := eq_true k.p0; have e6 := eq_true k.p1
  walk_at "xd"
  simp only [notin23 k.d, e1, e2, e3, e4, e5, e6, decide_true, if_true, Bool.not_true, Bool.false_eq_true, if_false]
  walk_at "xd"
  (try simp only [e1, e2, e3, e4, e5, e6, decide_true, if_true, Bool.not_true, Bool.false_eq_true, if_false])
  walk_at "xd"
  exact h
/-! ### how far one can go -/
/-- s ticks by p, rounded up -/
def upI (s t p : Int) : Int := -(-s * t / p)
theorem up_spec {s t p : Int} (hp : 1 ≤ p) : ¬ p * upI s t p < s * t ∧ ¬ p * (upI s t p - 1) ≥ s * t := by
  unfold upI
  have h1 := Int.mul_ediv_add_emod (-s * t) p
  have h2 := Int.emod_nonneg (-s * t) (show p ≠ 0 by omega)
  have h3 := Int.emod_lt_of_pos (-s * t) (show 0 < p by omega)
  generalize -s * t / p = q at *
  generalize -s * t % p = m at *
  have e1 : -s * t = -(s * t) := Int.neg_mul _ _
  rw [e1] at h1
  have e2 : p * -q = -(p * q) := Int.mul_neg _ _
  have e3 : p * (-q - 1) = -(p * q) - p := by rw [Int.mul_sub, Int.mul_neg, Int.mul_one]
  rw [e2, e3]
  generalize p * q = a at *
  generalize s * t = b at *
  constructor <;> omega
theorem x_reach {d s r p t : Int} {Q : D → Prop} (k : SetOk d s r p) (h : Q (.int (upI s t p))) : runD 2 m_reach [setD cl d s r p, .int t] Q := by
  unfold runD startD m_reach setD
  have := k.s0; have := k.s1; have := k.p0; have := k.p1
  walk_at "xd"
  exact ⟨mulOk_l (by omega) (by omega), cdiv_ok (by omega) (by omega), h⟩
theorem x_slip {d s r p t : Int} {Q : D → Prop} (k : SetOk d s r p) (h : Q (.int (upI r t p))) : runD 2 m_slip [setD cl d s r p, .int t] Q := by
  unfold runD startD m_slip setD
  have := k.r0; have := k.r1; have := k.p0; have := k.p1
  walk_at "xd"
  exact ⟨mulOk_l (by omega) (by omega), cdiv_ok (by omega) (by omega), h⟩

/-! ### readings -/
def readD (cl : Nat → Addr) (s : Str) (m : Int) (k : D) (a b c d : Int) : D := .ins (cl 1) ["source", "moment", "kind", "low", "high", "late", "near"] [.str s, .int m, k, .int a, .int b, .int c, .int d]
theorem all_tt {α : Type} (xs : List α) : (xs.all fun _ => true) = true := by induction xs <;> simp_all
theorem x_in_room {xs : List Int} {Q : D → Prop} (hl : xs.length ≤ 1000) (hb : ∀ x ∈ xs, -1000000000000 ≤ x ∧ x ≤ 1000000000000) (h : Q (.bl true)) : runD 2 m_in_room [.tup (xs.map D.int)] Q := by
  unfold runD startD m_in_room
  walk_at "xd"
  refine lcL_of D.int (fun x : Int => D.bl true) xs [] (by show _ ≤ 16777216; simp; omega) (fun x hx P hP => ?_) ?_
  · have := hb x hx
    walk_at "xd"
    rw [if_pos (by omega), decide_eq_true (by omega)]
    exact hP _ rfl
  · rw [List.nil_append]
    refine nAll_of (p := fun _ => true) ?_
    rw [all_tt]; exact h
theorem x_room1 {m : Int} {Q : D → Prop} (hm : -1000000000000 ≤ m ∧ m ≤ 1000000000000) (h : Q (.bl true)) : runD 2 m_in_room [.tup [.int m]] Q := x_in_room (xs := [m]) (by simp) (by simpa using hm) h
theorem x_room_pt {f : Nat → Int} {n : Nat} {Q : D → Prop} (hn : n ≤ 1000) (hf : Pt12 f n) (h : Q (.bl true)) : runD 2 m_in_room [ptD f n] Q := by
  have e : ptD f n = .tup (((List.range n).map f).map D.int) := by unfold ptD; rw [List.map_map]; rfl
  rw [e]
  refine x_in_room (by simpa using hn) (fun x hx => ?_) h
  obtain ⟨j, hj, rfl⟩ := List.mem_map.mp hx
  exact hf j (List.mem_range.mp hj)
theorem x_box_room {lo hi : Nat → Int} {n : Nat} {Q : D → Prop} (hn : n ≤ 1000) (b : Bd12 lo hi n) (h : Q (.bl true)) : runD 3 m_box_in_room [bxD lo hi n] Q := by
  unfold runD startD m_box_in_room bxD
  walk_at "xd"
  refine lcL_of (fun j : Nat => D.tup [.int (lo j), .int (hi j)]) (fun _ : Nat => D.bl true) _ [] (by show _ ≤ 16777216; simp; omega) (fun x hx P hP => ?_) ?_
  · have := b x (List.mem_range.mp hx)
    walk_at "xd"
    rw [if_pos (by omega), if_pos (by omega), decide_eq_true (by omega)]
    exact hP _ rfl
  · rw [List.nil_append]
    refine nAll_of (p := fun _ => true) ?_
    rw [all_tt]; exact h
theorem x_pts_room {fs : List (Nat → Int)} {n : Nat} {env : En} {Q : List D → Prop} (hn : n ≤ 1000) (hl : fs.length ≤ 1000) (hf : ∀ f ∈ fs, Pt12 f n) (hq : Q (fs.map fun _ => D.bl true)) (e0 : ∃ a b c d, env = [a, b, c, d]) : lcL [3] (gNm 3) rYes (rUser (runD 2 m_in_room) [] 1 (rCons (rVar 3) rNil)) env Q (fs.map fun f => ptD f n) [] := by
  obtain ⟨a, b, c, d, rfl⟩ := e0
  refine lcL_of (fun f : Nat → Int => ptD f n) (fun _ => D.bl true) fs [] (by show _ ≤ 16777216; simp; omega) (fun x hx P hP => ?_) (by simpa using hq)
  walk_at "xd"
  refine x_room_pt hn (hf x hx) ?_
  exact hP _ rfl
def KOk (k : D) : Prop := ∀ Q : D → Prop, Q (.bl true) → runD 4 m_kind_in_bounds [k] Q
structure ReadOk (s : Str) (m : Int) (k : D) (a b c d : Int) : Prop where
  hs : nameB s = true
  ls : s.length ≤ 10000
  hm : -1000000000000 ≤ m ∧ m ≤ 1000000000000
  hk : KOk k
  ha : -1000000000000000 ≤ a
  hab : a ≤ b
  hb : b ≤ 1000000000000000
  c0 : 0 ≤ c
  c1 : c ≤ 1000000000000
  d0 : 0 ≤ d
  d1 : d ≤ 1000000000000
theorem x_mkread {s : Str} {m : Int} {k : D} {a b c d : Int} {Q : D → Prop} (r : ReadOk s m k a b c d) (h : Q (readD cl s m k a b c d)) : mkD (cl 1) ["source", "moment", "kind", "low", "high", "late", "near"] 8 (m_K_Reading_init cl) [.str s, .int m, k, .int a, .int b, .int c, .int d] Q := by
  intro p'
  unfold m_K_Reading_init m_K_Reading_init_1
  walk_at "xd"
  refine x_is_name r.ls ?_
  rw [r.hs]
  walk_at "xd"
  refine x_room1 r.hm ?_
  walk_at "xd"
  refine r.hk _ ?_
  walk_at "xd"
  have e1 := eq_true r.ha; have e2 := eq_true r.hab; have e3 := eq_true r.hb; have e4 := eq_true r.c0; have e5 := eq_true r.c1; have e6 := eq_true r.d0; have e7 := eq_true r.d1
  unfold m_K_Reading_init_2
  walk_at "xd"
  simp only [e1, e2, e3, e4, e5, e6, e7, decide_true, if_true, Bool.not_true, Bool.false_eq_true, if_false]
  walk_at "xd"
  (try simp only [e1, e2, e3, e4, e5, e6, e7, decide_true, if_true, Bool.not_true, Bool.false_eq_true, if_false])
  unfold m_K_Reading_init_3 m_K_Reading_init_4 m_K_Reading_init_5 m_K_Reading_init_6 m_K_Reading_init_7 m_K_Reading_init_8 m_K_Reading_init_9
  walk_at "xd"
  exact h

theorem x_kind_ok {n : Nat} {k : D} {Q : D → Prop} (hn : 1 ≤ n) (hn2 : n ≤ 1000) (hk : RKind n k) (h : Q (.bl true)) : runD 4 m_kind_in_bounds [k] Q := by
  unfold runD startD m_kind_in_bounds
  cases hk with
  | @range f hf =>
    walk_at "xd"; walk_at "xk"; walk_at "xd"; walk_at "xk"; walk_at "xd"
    refine ⟨_, rfl, by decide +kernel, ?_⟩
    walk_at "xd"
    rw [cutD_from (by decide)]
    refine x_pts_room (fs := [f]) hn2 (by simp) (by simpa using hf) ?_ ⟨_, _, _, _, rfl⟩
    exact nAll_of (xs := [f]) (p := fun _ => true) h
  | @clocked f hf =>
    walk_at "xd"; walk_at "xk"; walk_at "xd"; walk_at "xk"; walk_at "xd"
    refine ⟨_, rfl, by decide +kernel, ?_⟩
    walk_at "xd"
    rw [cutD_from (by decide)]
    refine x_pts_room (fs := [f]) hn2 (by simp) (by simpa using hf) ?_ ⟨_, _, _, _, rfl⟩
    exact nAll_of (xs := [f]) (p := fun _ => true) h
  | @differ f g hf hg =>
    walk_at "xd"; walk_at "xk"; walk_at "xd"; walk_at "xk"; walk_at "xd"
    refine ⟨_, rfl, by decide +kernel, ?_⟩
    walk_at "xd"
    rw [cutD_from (by decide)]
    refine x_pts_room (fs := [f, g]) hn2 (by simp) (by simpa using ⟨hf, hg⟩) ?_ ⟨_, _, _, _, rfl⟩
    exact nAll_of (xs := [f, g]) (p := fun _ => true) h
  | @piece f g hf hg =>
    walk_at "xd"; walk_at "xk"; walk_at "xd"; walk_at "xk"; walk_at "xd"
    refine ⟨_, rfl, by decide +kernel, ?_⟩
    walk_at "xd"
    rw [cutD_from (by decide)]
    refine x_pts_room (fs := [f, g]) hn2 (by simp) (by simpa using ⟨hf, hg⟩) ?_ ⟨_, _, _, _, rfl⟩
    exact nAll_of (xs := [f, g]) (p := fun _ => true) h
  | @side f h0 hf =>
    walk_at "xd"; walk_at "xk"; walk_at "xd"
    unfold ptD
    walk_at "xd"
    refine lcL_of (fun j : Nat => D.int (f j)) (fun _ => D.bl true) _ [] (by show _ ≤ 16777216; simp; omega) (fun x hx P hP => ?_) ?_
    · have := hf x (List.mem_range.mp hx)
      walk_at "xd"
      rw [decide_eq_true (by split <;> omega)]
      exact hP _ rfl
    rw [List.nil_append]
    refine nAll_of (p := fun _ => true) ?_
    rw [all_tt]
    walk_at "xd"
    refine lcL_of (fun j : Nat => D.int (f j)) (fun j => D.bl (!decide (f j = 0))) _ [] (by show _ ≤ 16777216; simp; omega) (fun x hx P hP => ?_) ?_
    · walk_at "xd"
      exact hP _ rfl
    rw [List.nil_append]
    refine nAny_of ?_
    rw [show (List.range n).any (fun j => !decide (f j = 0)) = true from List.any_eq_true.mpr ⟨0, List.mem_range.mpr hn, by simp; omega⟩]
    exact h
  | @boxes1 lo hi b =>
    walk_at "xd"; walk_at "xk"; walk_at "xd"; walk_at "xk"; walk_at "xd"
    refine lcL_of (fun _ : Nat => bxD lo hi n) (fun _ => D.bl true) [0] [] (by show _ ≤ 16777216; simp) (fun x hx P hP => ?_) ?_
    · walk_at "xd"
      refine x_box_room hn2 b ?_
      exact hP _ rfl
    rw [List.nil_append]
    exact nAll_of (p := fun _ => true) h
  | @boxes2 lo hi lo' hi' b b' =>
    walk_at "xd"; walk_at "xk"; walk_at "xd"; walk_at "xk"; walk_at "xd"
    refine lcL_of (fun p : (Nat → Int) × (Nat → Int) => bxD p.1 p.2 n) (fun _ => D.bl true) [(lo, hi), (lo', hi')] [] (by show _ ≤ 16777216; simp) (fun x hx P hP => ?_) ?_
    · have hx' : Bd12 x.1 x.2 n := by
        simp only [List.mem_cons, List.not_mem_nil, or_false] at hx
        rcases hx with rfl | rfl
        · exact b
        · exact b'
      walk_at "xd"
      refine x_box_room hn2 hx' ?_
      exact hP _ rfl
    rw [List.nil_append]
    exact nAll_of (p := fun _ => true) h

/-! ### excludes: what a reading excludes -/
def ckF : SK → Int
  | .clocked _ => 1
  | _ => 0
def mvF : SK → Int
  | .side _ => 0
  | .differ _ _ => 2
  | _ => 1
def RtR (n : Nat) : SK → Int → Prop
  | .differ _ _, r => r = 2
  | .side f, r => IsUp (S (fun j => f j * f j) n) r
  | _, r => r = 1
def CarR (n : Nat) (k : SK) (s d p near T M : Int) : Prop := ∃ r, RtR n k r ∧ M = mvF k * near + (r * upI s T p + ckF k * upI d T p)
theorem rt_unique {n : Nat} : ∀ {k : SK} {r r' : Int}, RtR n k r → RtR n k r' → r = r'
  | .range _, _, _, h, g => h.trans g.symm
  | .clocked _, _, _, h, g => h.trans g.symm
  | .differ _ _, _, _, h, g => h.trans g.symm
  | .piece _ _, _, _, h, g => h.trans g.symm
  | .boxes _, _, _, h, g => h.trans g.symm
  | .side _, _, _, h, g => isUp_unique h g
theorem car_unique {n : Nat} {k : SK} {s d p near T M M' : Int} (h : CarR n k s d p near T M) (g : CarR n k s d p near T M') : M = M' := by
  obtain ⟨r, h1, h2⟩ := h
  obtain ⟨r', g1, g2⟩ := g
  have := rt_unique h1 g1
  subst this
  exact h2.trans g2.symm
theorem up_small {f : Nat → Int} {n : Nat} {r : Int} (hn : n ≤ 3) (hf : ∀ j, j < n → -1001 ≤ f j ∧ f j ≤ 1001) (h : IsUp (S (fun j => f j * f j) n) r) : 0 ≤ r ∧ r < 1800 ∧ S (fun j => f j * f j) n ≤ 3006003 := by
  have s := (S_b (f := fun j => f j * f j) (b := 1002001) (n := n) fun j hj => by
    have := ab_sq (hf j hj).1 (hf j hj).2
    have := sqn0 (f j)
    omega).2
  have s2 : S (fun j => f j * f j) n ≤ 3006003 := by omega
  refine ⟨h.nn, Int.not_le.mp fun c => ?_, s2⟩
  have h1 := h.lo (by omega)
  have h2 := sq_mono (show (0 : Int) ≤ 1799 by decide) (show (1799 : Int) ≤ r - 1 by omega)
  omega
theorem x_rateN {n : Nat} {k : SK} {Q : D → Prop} (hn : n ≤ 3) (hk : SkOk n k) (h : ∀ r, RtR n k r → 0 ≤ r → r < 1800 → Q (.int r)) : runD 1 m_rate [skD n k] Q := by
  cases k with
  | range f => exact x_rate0 (n := n) (fun Q => q_range_differ) (fun Q => q_range_side) (h 1 rfl (by decide) (by decide))
  | clocked f => exact x_rate0 (n := n) (fun Q => q_clocked_differ) (fun Q => q_clocked_side) (h 1 rfl (by decide) (by decide))
  | differ f g => exact x_rated (h 2 rfl (by decide) (by decide))
  | piece f g => exact x_rate0 (n := n) (fun Q => q_piece_differ) (fun Q => q_piece_side) (h 1 rfl (by decide) (by decide))
  | side f => exact x_rates hn hk fun r hr => h r hr (up_small hn hk hr).1 (up_small hn hk hr).2.1
  | boxes bs => exact x_rate0 (n := n) (fun Q => q_boxes_differ) (fun Q => q_boxes_side) (h 1 rfl (by decide) (by decide))
theorem x_clockN {n : Nat} {k : SK} {Q : D → Prop} (h : Q (.int (ckF k))) : runD 1 m_clock_rate [skD n k] Q := by
  cases k with
  | range f => exact x_clockF (fun Q => q_range_clocked) h
  | clocked f => exact x_clockT h
  | differ f g => exact x_clockF (fun Q => q_differ_clocked) h
  | piece f g => exact x_clockF (fun Q => q_piece_clocked) h
  | side f => exact x_clockF (fun Q => q_side_clocked) h
  | boxes bs => exact x_clockF (fun Q => q_boxes_clocked) h
theorem x_movedN {n : Nat} {k : SK} {Q : D → Prop} (h : Q (.int (mvF k))) : runD 1 m_moved [skD n k] Q := by
  cases k with
  | range f => exact x_moved0 (fun Q => q_range_differ) (fun Q => q_range_side) h
  | clocked f => exact x_moved0 (fun Q => q_clocked_differ) (fun Q => q_clocked_side) h
  | differ f g => exact x_movedd h
  | piece f g => exact x_moved0 (fun Q => q_piece_differ) (fun Q => q_piece_side) h
  | side f => exact x_moveds h
  | boxes bs => exact x_moved0 (fun Q => q_boxes_differ) (fun Q => q_boxes_side) h
theorem mv_b (k : SK) : 0 ≤ mvF k ∧ mvF k ≤ 2 := by cases k <;> simp [mvF]
theorem ck_b (k : SK) : 0 ≤ ckF k ∧ ckF k ≤ 1 := by cases k <;> simp [ckF]
theorem kind_py {n : Nat} {k : D} (h : RKind n k) : PyOk k 4 := by
  have pt : ∀ f : Nat → Int, PyOk (ptD f n) 3 := fun f => (PyOk.tup (k := 0) fun d hd => by obtain ⟨j, _, rfl⟩ := List.mem_map.mp hd; exact .int).le (by decide)
  have bx : ∀ lo hi : Nat → Int, PyOk (bxD lo hi n) 2 := fun lo hi => PyOk.tup (k := 1) fun d hd => by
    obtain ⟨j, _, rfl⟩ := List.mem_map.mp hd
    exact PyOk.tup (k := 0) fun d hd => by
      simp only [List.mem_cons, List.not_mem_nil, or_false] at hd
      rcases hd with rfl | rfl <;> exact .int
  have st : ∀ x : Str, (PyData.str x).canLay0 = true → PyOk (.str x) 3 := fun x h => .str h
  have two : ∀ x y : D, PyOk x 3 → PyOk y 3 → PyOk (.tup [x, y]) 4 := fun x y h1 h2 => PyOk.tup fun d hd => by
    simp only [List.mem_cons, List.not_mem_nil, or_false] at hd
    rcases hd with rfl | rfl
    · exact h1
    · exact h2
  have three : ∀ x y z : D, PyOk x 3 → PyOk y 3 → PyOk z 3 → PyOk (.tup [x, y, z]) 4 := fun x y z h1 h2 h3 => PyOk.tup fun d hd => by
    simp only [List.mem_cons, List.not_mem_nil, or_false] at hd
    rcases hd with rfl | rfl | rfl
    · exact h1
    · exact h2
    · exact h3
  cases h with
  | range _ => exact two _ _ (st _ (by decide +kernel)) (pt _)
  | clocked _ => exact two _ _ (st _ (by decide +kernel)) (pt _)
  | differ _ _ => exact three _ _ _ (st _ (by decide +kernel)) (pt _) (pt _)
  | piece _ _ => exact three _ _ _ (st _ (by decide +kernel)) (pt _) (pt _)
  | side _ _ => exact two _ _ (st _ (by decide +kernel)) (pt _)
  | boxes1 _ => exact two _ _ (st _ (by decide +kernel)) (PyOk.tup fun d hd => by
      simp only [List.mem_cons, List.not_mem_nil, or_false] at hd
      rw [hd]; exact bx _ _)
  | boxes2 _ _ => exact two _ _ (st _ (by decide +kernel)) (PyOk.tup fun d hd => by
      simp only [List.mem_cons, List.not_mem_nil, or_false] at hd
      rcases hd with rfl | rfl <;> exact bx _ _)

theorem boxF_at {ns : List Int} {k : Int} {n j : Nat} (h : j < n) : (boxF ns k n)[j]? = some (sideF ns k j) := by
  unfold boxF; rw [List.getElem?_map, List.getElem?_range h]; rfl
theorem at_map {α β : Type} {f : α → β} {xs : List α} {j : Nat} {x : α} (h : xs[j]? = some x) : (xs.map f)[j]? = some (f x) := by
  rw [List.getElem?_map, h]; rfl

/-- a comprehension with a test -/
theorem lcL_filt {α : Type} {vs : List Nat} {g : RG} {tt : RT} {me : RE} {env : En} {Q : List D → Prop} (emb : α → D) (f : α → Option D) : ∀ (xs : List α) (acc : List D), acc.length + xs.length < sizeLine →
    (∀ x ∈ xs, ∀ R : Option D → Prop, R (f x) → g (emb x) (wipeE env vs) fun e2 => wipeE e2 vs = wipeE env vs ∧ tt e2 fun b e3 => if b = true then me e3 fun d e4 => wipeE e4 vs = wipeE env vs ∧ R (some d) else wipeE e3 vs = wipeE env vs ∧ R none) →
    Q (acc ++ xs.filterMap f) → lcL vs g tt me env Q (xs.map emb) acc
  | [], acc, _, _, q => by
    have q' : Q acc := by simpa using q
    exact q'
  | x :: xs, acc, hl, hs, q => by
    simp only [List.length_cons] at hl
    have h := hs x (List.mem_cons_self ..) (fun o => match o with
      | some d => acc.length < sizeLine ∧ lcL vs g tt me env Q (xs.map emb) (acc ++ [d])
      | none => lcL vs g tt me env Q (xs.map emb) acc) (by
        cases e : f x with
        | none => exact lcL_filt emb f xs acc (by omega) (fun y hy => hs y (List.mem_cons_of_mem _ hy)) (by rw [List.filterMap_cons_none e] at q; exact q)
        | some d => exact ⟨by omega, lcL_filt emb f xs (acc ++ [d]) (by simp; omega) (fun y hy => hs y (List.mem_cons_of_mem _ hy)) (by rw [List.filterMap_cons_some e] at q; simpa using q)⟩)
    exact h

/-! ### readings as rows, questions -/
abbrev Bx := List (Int × Int)
def loF (b : Bx) (j : Nat) : Int := (b.getD j (0, 0)).1
def hiF (b : Bx) (j : Nat) : Int := (b.getD j (0, 0)).2
theorem box_fn {b : Bx} {n : Nat} (h : b.length = n) : boxD b = bxD (loF b) (hiF b) n := by
  subst h
  unfold boxD bxD loF hiF sideD
  congr 1
  refine List.ext_getElem (by simp) fun i h1 h2 => ?_
  have hi : i < b.length := by simpa using h1
  simp [List.getD, hi]
def GoodB (n : Nat) (b : Bx) : Prop := b.length = n + 1 ∧ ∀ p ∈ b, -22000000000000 ≤ p.1 ∧ p.1 ≤ p.2 ∧ p.2 ≤ 22000000000000
theorem good_bd {n : Nat} {b : Bx} (h : GoodB n b) : Bd (loF b) (hiF b) (n + 1) := fun j hj => by
  have hj' : j < b.length := by rw [h.1]; exact hj
  have e : b.getD j (0, 0) = b[j] := by simp [List.getD, hj']
  have := h.2 (b[j]) (List.getElem_mem hj')
  unfold loF hiF
  rw [e]; omega
structure R26 where
  num : Int
  s : Str
  m : Int
  k : SK
  a : Int
  b : Int
  la : Int
  ne : Int
def rdD (cl : Nat → Addr) (n : Nat) (r : R26) : D := readD cl r.s r.m (skD n r.k) r.a r.b r.la r.ne
def rowD (cl : Nat → Addr) (n : Nat) (r : R26) : D := .tup [.int r.num, rdD cl n r]
/-! ### the question, and those that are asked of -/
structure Qu where
  m : Int
  root : Bx
  li : Int
  sh : Int
  ea : Int
  la : Int
def quD (cl : Nat → Addr) (q : Qu) : D := .ins (cl 2) ["moment", "root", "liars", "share", "earliest", "latest"] [.int q.m, boxD q.root, .int q.li, .int q.sh, .int q.ea, .int q.la]
def keepR (q : Qu) (rs : List R26) : List R26 := rs.filter fun r => decide (q.ea ≤ r.m ∧ r.m ≤ q.la)
theorem keep_eq {q : Qu} {n : Nat} : ∀ {rs : List R26}, (rs.filterMap fun r => if q.ea ≤ r.m ∧ r.m ≤ q.la then some (rowD cl n r) else none) = (keepR q rs).map (rowD cl n)
  | [] => rfl
  | r :: rs => by
    unfold keepR
    have ih := keep_eq (q := q) (n := n) (rs := rs)
    rw [List.filterMap_cons, List.filter_cons]
    by_cases c : q.ea ≤ r.m ∧ r.m ≤ q.la
    · simp only [c, decide_true, if_true, and_self]
      rw [List.map_cons, ih]; rfl
    · simp only [c, decide_false, if_false]
      exact ih
theorem x_asked {q : Qu} {n : Nat} {rs : List R26} {Q : D → Prop} (hl : rs.length ≤ 1000) (h : Q (.lst ((keepR q rs).map (rowD cl n)))) : runD 4 m_asked [quD cl q, .lst (rs.map (rowD cl n))] Q := by
  unfold runD startD m_asked
  walk_at "xd"
  refine lcL_filt (rowD cl n) (fun r => if q.ea ≤ r.m ∧ r.m ≤ q.la then some (rowD cl n r) else none) rs [] (by show _ < 16777216; simp; omega) (fun r hr R hR => ?_) ?_
  · have f0 : ∀ R : D → Prop, qFld (quD cl q) "earliest" R = R (.int q.ea) := fun R => f_Question_earliest
    have f1 : ∀ R : D → Prop, qFld (quD cl q) "latest" R = R (.int q.la) := fun R => f_Question_latest
    have f2 : ∀ R : D → Prop, qFld (rdD cl n r) "moment" R = R (.int r.m) := fun R => f_Reading_moment
    unfold rowD at *
    walk_at "xd"
    rw [f0, f2]
    walk_at "xd"
    by_cases c1 : q.ea ≤ r.m
    rotate_left
    · rw [if_neg (fun z => c1 z.1)] at hR
      rw [if_neg c1]
      exact hR
    rw [if_pos c1, f1]
    walk_at "xd"
    by_cases c2 : r.m ≤ q.la
    · rw [if_pos ⟨c1, c2⟩] at hR
      (first | rw [if_pos c2] | (rw [decide_eq_true c2]; walk_at "xd"))
      exact hR
    · rw [if_neg (fun z => c2 z.2)] at hR
      (first | rw [if_neg c2] | (rw [decide_eq_false c2]; walk_at "xd"))
      exact hR
  rw [List.nil_append, keep_eq]
  (try walk_at "xd")
  exact h
theorem boxD_snoc (is : List (Int × Int)) (l : Int × Int) : boxD (is ++ [l]) = .tup (is.map sideD ++ [.tup [.int l.1, .int l.2]]) := by
  unfold boxD; rw [List.map_append]; rfl
def wid (a b : Int) (is : List (Int × Int)) (l : Int × Int) : List (Int × Int) := is.map (fun q => (q.1 - a, q.2 + a)) ++ [(l.1 - b, l.2 + b)]
theorem snoc_of {α : Type} {xs : List α} (h : xs ≠ []) : ∃ is l, xs = is ++ [l] := ⟨xs.dropLast, xs.getLast h, (List.dropLast_concat_getLast h).symm⟩


/-! ### a piece's distances obey the triangle's rule -/
theorem S_add {f g : Nat → Int} : ∀ n : Nat, S (fun j => f j + g j) n = S f n + S g n
  | 0 => by simp [S]
  | n + 1 => by rw [S_succ, S_succ, S_succ, S_add n]; omega
theorem S_mulc {f : Nat → Int} (c : Int) : ∀ n : Nat, S (fun j => c * f j) n = c * S f n
  | 0 => by simp [S]
  | n + 1 => by rw [S_succ, S_succ, S_mulc c n, Int.mul_add]
theorem le_of_mul_posl {a b c : Int} (hc : 0 < c) (h : c * a ≤ c * b) : a ≤ b := Int.le_of_mul_le_mul_left h hc
theorem lt_of_mul_posl {a b c : Int} (hc : 0 < c) (h : c * a < c * b) : a < b := Int.lt_of_mul_lt_mul_left h (by omega)
/-- X . Y is at most the product of bounds of the lengths -/
theorem cs_le {x y : Nat → Int} {n : Nat} {a b : Int} (ha : 0 ≤ a) (hb : 0 ≤ b) (hx : S (fun j => x j * x j) n ≤ a * a) (hy : S (fun j => y j * y j) n ≤ b * b) : S (fun j => x j * y j) n ≤ a * b := by
  have st : ∀ p q : Int, 0 ≤ S (fun j => x j * x j) n * p * p - 2 * S (fun j => x j * y j) n * p * q + S (fun j => y j * y j) n * q * q := fun p q => by
    rw [← S_step x y p q n]; exact S_nn fun j _ => sqn0 _
  have nx : 0 ≤ S (fun j => x j * x j) n := S_nn fun j _ => sqn0 _
  have ny : 0 ≤ S (fun j => y j * y j) n := S_nn fun j _ => sqn0 _
  generalize S (fun j => x j * x j) n = A at *
  generalize S (fun j => y j * y j) n = B at *
  generalize S (fun j => x j * y j) n = d at *
  by_cases a0 : a = 0
  · subst a0
    have A0 : A = 0 := by omega
    subst A0
    have := st (B + 1) 1
    refine Int.not_lt.mp fun z => ?_
    rw [Int.zero_mul] at z
    have h1 : (B + 1) * 1 ≤ (B + 1) * d := Int.mul_le_mul_of_nonneg_left (by omega) (by omega)
    have e : 0 * (B + 1) * (B + 1) - 2 * d * (B + 1) * 1 + B * 1 * 1 = B - 2 * ((B + 1) * d) := by grind
    rw [e] at this
    omega
  · by_cases b0 : b = 0
    · subst b0
      have B0 : B = 0 := by omega
      subst B0
      have := st 1 (A + 1)
      refine Int.not_lt.mp fun z => ?_
      rw [Int.mul_zero] at z
      have h1 : (A + 1) * 1 ≤ (A + 1) * d := Int.mul_le_mul_of_nonneg_left (by omega) (by omega)
      have e : A * 1 * 1 - 2 * d * 1 * (A + 1) + 0 * (A + 1) * (A + 1) = A - 2 * ((A + 1) * d) := by grind
      rw [e] at this
      omega
    · have hab : 0 < a * b := Int.mul_pos (by omega) (by omega)
      have := st b a
      have h1 : b * b * A ≤ b * b * (a * a) := Int.mul_le_mul_of_nonneg_left hx (sqn0 b)
      have h2 : a * a * B ≤ a * a * (b * b) := Int.mul_le_mul_of_nonneg_left hy (sqn0 a)
      refine le_of_mul_posl hab ?_
      have e1 : A * b * b - 2 * d * b * a + B * a * a = b * b * A + a * a * B - 2 * (a * b * d) := by grind
      have e2 : b * b * (a * a) = a * b * (a * b) := by grind
      have e3 : a * a * (b * b) = a * b * (a * b) := by grind
      rw [e1] at this
      rw [e2] at h1; rw [e3] at h2
      omega
theorem tri_le {x y : Nat → Int} {n : Nat} {a b : Int} (ha : 0 ≤ a) (hb : 0 ≤ b) (hx : S (fun j => x j * x j) n ≤ a * a) (hy : S (fun j => y j * y j) n ≤ b * b) : S (fun j => (x j + y j) * (x j + y j)) n ≤ (a + b) * (a + b) := by
  have c := cs_le ha hb hx hy
  have e : S (fun j => (x j + y j) * (x j + y j)) n = S (fun j => x j * x j) n + 2 * S (fun j => x j * y j) n + S (fun j => y j * y j) n := by
    rw [← S_mulc, ← S_add, ← S_add]
    exact S_cong fun j _ => by grind
  have e2 : (a + b) * (a + b) = a * a + 2 * (a * b) + b * b := by grind
  rw [e, e2]; omega
theorem tri_lt {x y : Nat → Int} {n : Nat} {a b : Int} (ha : 0 ≤ a) (hb : 0 ≤ b) (hx : S (fun j => x j * x j) n < a * a) (hy : S (fun j => y j * y j) n ≤ b * b) : S (fun j => (x j + y j) * (x j + y j)) n < (a + b) * (a + b) := by
  have c := cs_le ha hb (Int.le_of_lt hx) hy
  have e : S (fun j => (x j + y j) * (x j + y j)) n = S (fun j => x j * x j) n + 2 * S (fun j => x j * y j) n + S (fun j => y j * y j) n := by
    rw [← S_mulc, ← S_add, ← S_add]
    exact S_cong fun j _ => by grind
  have e2 : (a + b) * (a + b) = a * a + 2 * (a * b) + b * b := by grind
  rw [e, e2]; omega
/-- at the fraction s of w of the piece -/
def plD (c f g : Nat → Int) (n : Nat) (s w : Int) : Int := S (fun j => (w * (c j - f j) - s * (g j - f j)) * (w * (c j - f j) - s * (g j - f j))) n
theorem plD_eq (c f g : Nat → Int) (n : Nat) (s w : Int) : plD c f g n s w = plA c f n * w * w - 2 * plR c f g n * w * s + plW f g n * s * s := by
  have st := S_step (fun j => g j - f j) (fun j => c j - f j) s w n
  have e : plD c f g n s w = S (fun j => ((c j - f j) * w - (g j - f j) * s) * ((c j - f j) * w - (g j - f j) * s)) n := S_cong fun j _ => by grind
  have e2 : S (fun j => (g j - f j) * (c j - f j)) n = plR c f g n := S_cong fun j _ => Int.mul_comm ..
  rw [e, st, e2]
  show plW f g n * s * s - 2 * plR c f g n * s * w + plA c f n * w * w = _
  grind
theorem plB_eq (c f g : Nat → Int) (n : Nat) : plA c g n = plA c f n - 2 * plR c f g n + plW f g n := by
  have h := plD_eq c f g n 1 1
  have e : plD c f g n 1 1 = plA c g n := S_cong fun j _ => by grind
  rw [e] at h
  rw [h]; grind
theorem pl_min {c f g : Nat → Int} {n : Nat} {s w : Int} (h0 : 0 ≤ s) (h1 : s ≤ w) : pN c f g n * (w * w) ≤ plD c f g n s w * pW c f g n := by
  have nw : 0 ≤ plW f g n := S_nn fun j _ => sqn0 _
  have eb := plB_eq c f g n
  rw [plD_eq]
  unfold pN pW
  generalize plA c f n = A at *
  generalize plR c f g n = R at *
  generalize plW f g n = W at *
  by_cases c1 : R ≤ 0
  · rw [if_pos c1, if_pos c1]
    have p1 : 0 ≤ w * s := Int.mul_nonneg (by omega) h0
    have p2 : 0 ≤ (-R) * (w * s) := Int.mul_nonneg (by omega) p1
    have p3 : 0 ≤ W * (s * s) := Int.mul_nonneg nw (sqn0 s)
    have e : (A * w * w - 2 * R * w * s + W * s * s) * 1 = A * (w * w) + 2 * ((-R) * (w * s)) + W * (s * s) := by grind
    rw [e]; omega
  · rw [if_neg c1, if_neg c1]
    by_cases c2 : R ≥ W
    · rw [if_pos c2, if_pos c2, eb]
      have p1 : 0 ≤ (w - s) * w := Int.mul_nonneg (by omega) (by omega)
      have p2 : 0 ≤ (R - W) * ((w - s) * w) := Int.mul_nonneg (by omega) p1
      have p3 : 0 ≤ W * ((w - s) * (w - s)) := Int.mul_nonneg nw (sqn0 _)
      have e : (A * w * w - 2 * R * w * s + W * s * s) * 1 - (A - 2 * R + W) * (w * w) = 2 * ((R - W) * ((w - s) * w)) + W * ((w - s) * (w - s)) := by grind
      omega
    · rw [if_neg c2, if_neg c2]
      have p := sqn0 (R * w - W * s)
      have e : (A * w * w - 2 * R * w * s + W * s * s) * W - (A * W - R * R) * (w * w) = (R * w - W * s) * (R * w - W * s) := by grind
      omega
theorem pl_at (c f g : Nat → Int) (n : Nat) : ∃ s w : Int, 0 ≤ s ∧ s ≤ w ∧ 1 ≤ w ∧ plD c f g n s w * pW c f g n = pN c f g n * (w * w) := by
  have eb := plB_eq c f g n
  by_cases c1 : plR c f g n ≤ 0
  · refine ⟨0, 1, by decide, by decide, by decide, ?_⟩
    rw [plD_eq]; unfold pN pW
    rw [if_pos c1, if_pos c1]; grind
  · by_cases c2 : plR c f g n ≥ plW f g n
    · refine ⟨1, 1, by decide, by decide, by decide, ?_⟩
      rw [plD_eq]; unfold pN pW
      rw [if_neg c1, if_neg c1, if_pos c2, if_pos c2, eb]; grind
    · refine ⟨plR c f g n, plW f g n, by omega, by omega, by omega, ?_⟩
      rw [plD_eq]; unfold pN pW
      rw [if_neg c1, if_neg c1, if_neg c2, if_neg c2]; grind
theorem pW_pos (c f g : Nat → Int) (n : Nat) : 1 ≤ pW c f g n := by
  unfold pW
  split
  · decide
  · split
    · decide
    · omega
theorem plD_moved (c q f g : Nat → Int) (n : Nat) (s w : Int) : plD q f g n s w = S (fun j => ((w * (c j - f j) - s * (g j - f j)) + w * (q j - c j)) * ((w * (c j - f j) - s * (g j - f j)) + w * (q j - c j))) n := S_cong fun j _ => by
  have e : w * (q j - f j) - s * (g j - f j) = (w * (c j - f j) - s * (g j - f j)) + w * (q j - c j) := by grind
  rw [e]
theorem S_wsq (w : Int) (y : Nat → Int) (n : Nat) : S (fun j => (w * y j) * (w * y j)) n = w * w * S (fun j => y j * y j) n := by
  rw [← S_mulc]; exact S_cong fun j _ => by grind
/-- where the distance is at most u, it is at most u + r as far as r away -/
theorem pc_le {c q f g : Nat → Int} {n : Nat} {u r : Int} (hu : 0 ≤ u) (hr : 0 ≤ r) (h : pN c f g n ≤ u * u * pW c f g n) (hd : S (fun j => (q j - c j) * (q j - c j)) n ≤ r * r) : pN q f g n ≤ (u + r) * (u + r) * pW q f g n := by
  obtain ⟨s, w, h0, h1, hw, ea⟩ := pl_at c f g n
  have hp := pW_pos c f g n
  have hq := pW_pos q f g n
  have w2 : 0 < w * w := Int.mul_pos (by omega) (by omega)
  have k1 : plD c f g n s w ≤ (u * w) * (u * w) := by
    refine le_of_mul_posl (c := pW c f g n) (by omega) ?_
    have e1 : pW c f g n * plD c f g n s w = pN c f g n * (w * w) := by rw [Int.mul_comm]; exact ea
    have e2 : pW c f g n * (u * w * (u * w)) = u * u * pW c f g n * (w * w) := by grind
    rw [e1, e2]
    exact Int.mul_le_mul_of_nonneg_right h (by omega)
  have k2 : S (fun j => (w * (q j - c j)) * (w * (q j - c j))) n ≤ (r * w) * (r * w) := by
    rw [S_wsq w (fun j => q j - c j)]
    have e : r * w * (r * w) = w * w * (r * r) := by grind
    rw [e]
    exact Int.mul_le_mul_of_nonneg_left hd (by omega)
  have k3 := tri_le (Int.mul_nonneg hu (by omega)) (Int.mul_nonneg hr (by omega)) k1 k2
  rw [← plD_moved c q f g n s w] at k3
  have k4 := pl_min (c := q) (f := f) (g := g) (n := n) h0 h1
  refine le_of_mul_posl w2 ?_
  have k5 : plD q f g n s w * pW q f g n ≤ (u * w + r * w) * (u * w + r * w) * pW q f g n := Int.mul_le_mul_of_nonneg_right k3 (by omega)
  have e1 : w * w * pN q f g n = pN q f g n * (w * w) := Int.mul_comm ..
  have e2 : w * w * ((u + r) * (u + r) * pW q f g n) = (u * w + r * w) * (u * w + r * w) * pW q f g n := by grind
  rw [e1, e2]; omega
theorem pc_lt {c q f g : Nat → Int} {n : Nat} {u r : Int} (hu : 0 ≤ u) (hr : 0 ≤ r) (h : pN c f g n < u * u * pW c f g n) (hd : S (fun j => (q j - c j) * (q j - c j)) n ≤ r * r) : pN q f g n < (u + r) * (u + r) * pW q f g n := by
  obtain ⟨s, w, h0, h1, hw, ea⟩ := pl_at c f g n
  have hp := pW_pos c f g n
  have hq := pW_pos q f g n
  have w2 : 0 < w * w := Int.mul_pos (by omega) (by omega)
  have k1 : plD c f g n s w < (u * w) * (u * w) := by
    refine lt_of_mul_posl (c := pW c f g n) (by omega) ?_
    have e1 : pW c f g n * plD c f g n s w = pN c f g n * (w * w) := by rw [Int.mul_comm]; exact ea
    have e2 : pW c f g n * (u * w * (u * w)) = u * u * pW c f g n * (w * w) := by grind
    rw [e1, e2]
    exact Int.mul_lt_mul_of_pos_right h w2
  have k2 : S (fun j => (w * (q j - c j)) * (w * (q j - c j))) n ≤ (r * w) * (r * w) := by
    rw [S_wsq w (fun j => q j - c j)]
    have e : r * w * (r * w) = w * w * (r * r) := by grind
    rw [e]
    exact Int.mul_le_mul_of_nonneg_left hd (by omega)
  have k3 := tri_lt (Int.mul_nonneg hu (by omega)) (Int.mul_nonneg hr (by omega)) k1 k2
  rw [← plD_moved c q f g n s w] at k3
  have k4 := pl_min (c := q) (f := f) (g := g) (n := n) h0 h1
  refine lt_of_mul_posl w2 ?_
  have k5 : plD q f g n s w * pW q f g n < (u * w + r * w) * (u * w + r * w) * pW q f g n := Int.mul_lt_mul_of_pos_right k3 (by omega)
  have e1 : w * w * pN q f g n = pN q f g n * (w * w) := Int.mul_comm ..
  have e2 : w * w * ((u + r) * (u + r) * pW q f g n) = (u * w + r * w) * (u * w + r * w) * pW q f g n := by grind
  rw [e1, e2]; omega
/-- rounded quotients and squares -/
theorem fl_le {N W u : Int} (hw : 1 ≤ W) : u ≤ N / W ↔ u * W ≤ N := Int.le_ediv_iff_mul_le (by omega)
theorem cl_le {N W u : Int} (hw : 1 ≤ W) : -(-N / W) ≤ u ↔ N ≤ u * W := by
  have h := fl_le (N := -N) (W := W) (u := -u) hw
  have e : -u * W = -(u * W) := Int.neg_mul ..
  rw [e] at h
  constructor
  · intro z; have := h.mp (by omega); omega
  · intro z; have := h.mpr (by omega); omega
theorem up_le {x v m : Int} (h : IsUp x v) (hm : 0 ≤ m) (hx : x ≤ m * m) : v ≤ m := Int.not_lt.mp fun z => by
  have := h.lo (by omega)
  have := sq_mono hm (show m ≤ v - 1 by omega)
  omega
theorem dn_ge {x u m : Int} (h : IsDn x u) (hm : m * m ≤ x) : m ≤ u := Int.not_lt.mp fun z => by
  have := h.nn
  have := h.up
  have := sq_mono (show 0 ≤ u + 1 by omega) (show u + 1 ≤ m by omega)
  omega

/-! ### the span of a part of a box -/
structure Sub' (lo hi lo' hi' : Nat → Int) (n : Nat) : Prop where
  l : ∀ j, j < n → lo j ≤ lo' j
  m : ∀ j, j < n → lo' j ≤ hi' j
  h : ∀ j, j < n → hi' j ≤ hi j
section
variable {lo hi lo' hi' : Nat → Int} {n : Nat}
theorem dn_mono {x y a b : Int} (hx : IsDn x a) (hy : IsDn y b) (h : x ≤ y) : a ≤ b := dn_ge hy (by have := hx.lo; omega)
theorem up_mono {x y a b : Int} (hx : IsUp x a) (hy : IsUp y b) (h : x ≤ y) : a ≤ b := up_le hx hy.nn (by have := hy.up; omega)
theorem sq_le' {x y : Int} (h0 : 0 ≤ x) (h : x ≤ y) : x * x ≤ y * y := sq_mono h0 h
theorem NR_mono (s : Sub' lo hi lo' hi' n) (p : Nat → Int) : NR lo hi n p ≤ NR lo' hi' n p := S_le fun j hj => by
  have := s.l j hj; have := s.m j hj; have := s.h j hj
  refine sq_le' ?_ ?_
  · unfold outF mxI; omega
  · unfold outF mxI; omega
theorem FR_mono (s : Sub' lo hi lo' hi' n) (p : Nat → Int) : FR lo' hi' n p ≤ FR lo hi n p := S_le fun j hj => by
  have := s.l j hj; have := s.m j hj; have := s.h j hj
  refine sq_le' ?_ ?_
  · unfold fdF mxI absI; (repeat' split) <;> omega
  · unfold fdF mxI absI; (repeat' split) <;> omega
theorem BT_mono (s : Sub' lo hi lo' hi' n) (c : (Nat → Int) × (Nat → Int)) : BT lo hi n c ≤ BT lo' hi' n c := S_le fun j hj => by
  have := s.l j hj; have := s.m j hj; have := s.h j hj
  refine sq_le' ?_ ?_
  · unfold gapF mxI; omega
  · unfold gapF mxI; omega
theorem GF_mono (s : Sub' lo hi lo' hi' n) (c : (Nat → Int) × (Nat → Int)) : GF lo' hi' n c ≤ GF lo hi n c := S_le fun j hj => by
  have := s.l j hj; have := s.m j hj; have := s.h j hj
  refine sq_le' ?_ ?_
  · unfold farF mxI; omega
  · unfold farF mxI; omega
theorem mnP_le {a b c d : Int} (h1 : mnP a b ≤ c) (h2 : mnP a b ≤ d) : mnP a b ≤ mnP c d := by
  have e : mnP c d = c ∨ mnP c d = d := by unfold mnP; split <;> simp
  rcases e with e | e <;> rw [e] <;> assumption
theorem mid_prod {f a b x : Int} (h1 : a ≤ x) (h2 : x ≤ b) : mnP (f * a) (f * b) ≤ f * x ∧ f * x ≤ mxI (f * a) (f * b) := by
  by_cases c : 0 ≤ f
  · have p := Int.mul_le_mul_of_nonneg_left h1 c
    have q := Int.mul_le_mul_of_nonneg_left h2 c
    unfold mnP mxI
    constructor <;> split <;> omega
  · have p := Int.mul_le_mul_of_nonneg_left h1 (show 0 ≤ -f by omega)
    have q := Int.mul_le_mul_of_nonneg_left h2 (show 0 ≤ -f by omega)
    rw [Int.neg_mul, Int.neg_mul] at p q
    unfold mnP mxI
    constructor <;> split <;> omega
theorem sdL_mono (s : Sub' lo hi lo' hi' n) (f : Nat → Int) : sdL lo hi f n ≤ sdL lo' hi' f n := S_le fun j hj => by
  have h1 := s.l j hj; have h2 := s.m j hj; have h3 := s.h j hj
  exact mnP_le (mid_prod h1 (by omega)).1 (mid_prod (by omega) h3).1
theorem sdH_mono (s : Sub' lo hi lo' hi' n) (f : Nat → Int) : sdH lo' hi' f n ≤ sdH lo hi f n := S_le fun j hj => by
  have h1 := s.l j hj; have h2 := s.m j hj; have h3 := s.h j hj
  have p := (mid_prod (f := f j) h1 (show lo' j ≤ hi j by omega)).2
  have q := (mid_prod (f := f j) (show lo j ≤ hi' j by omega) h3).2
  have e : mxI (f j * lo' j) (f j * hi' j) = f j * lo' j ∨ mxI (f j * lo' j) (f j * hi' j) = f j * hi' j := by unfold mxI; split <;> simp
  rcases e with e | e <;> rw [e] <;> assumption
theorem min_mono {α : Type} {p q : α → Int} {xs : List α} {x y : Int} (h : ∀ a ∈ xs, p a ≤ q a) (hx : IsMin (xs.map p) x) (hy : IsMin (xs.map q) y) : x ≤ y := by
  obtain ⟨a, ha, rfl⟩ := List.mem_map.mp hy.mem
  have := hx.le (p a) (List.mem_map.mpr ⟨a, ha, rfl⟩)
  have := h a ha
  omega
/-- a place of a box is as near to its middle as the halves tell -/
theorem mid_far (b : ∀ j, j < n → lo j ≤ hi j) {q : Nat → Int} (hq : ∀ j, j < n → lo j ≤ q j ∧ q j ≤ hi j) : S (fun j => (q j - mdF lo hi j) * (q j - mdF lo hi j)) n ≤ hfS lo hi n := S_le fun j hj => by
  have := b j hj; have := hq j hj
  refine ab_sq ?_ ?_
  · unfold mdF; omega
  · unfold mdF; omega
theorem mid_far' (b : ∀ j, j < n → lo j ≤ hi j) {q : Nat → Int} (hq : ∀ j, j < n → lo j ≤ q j ∧ q j ≤ hi j) : S (fun j => (mdF lo hi j - q j) * (mdF lo hi j - q j)) n ≤ hfS lo hi n := S_le fun j hj => by
  have := b j hj; have := hq j hj
  refine ab_sq ?_ ?_
  · unfold mdF; omega
  · unfold mdF; omega
/-- the piece's distance at a place of the box, and the span -/
theorem piece_in {q f g : Nat → Int} {a b : Int} (bl : ∀ j, j < n → lo j ≤ hi j) (hq : ∀ j, j < n → lo j ≤ q j ∧ q j ≤ hi j) (h : SR lo hi n (.piece f g) a b) : (∀ u, IsDn (pN q f g n / pW q f g n) u → a ≤ u) ∧ (0 ≤ b ∧ pN q f g n ≤ b * b * pW q f g n) := by
  obtain ⟨r, u, v, hr, hu, hv, rfl, rfl⟩ := h
  have r0 := hr.nn; have u0 := hu.nn; have v0 := hv.nn
  have hp := pW_pos (mdF lo hi) f g n
  have hw := pW_pos q f g n
  have d1 : S (fun j => (q j - mdF lo hi j) * (q j - mdF lo hi j)) n ≤ r * r := Int.le_trans (mid_far bl hq) hr.up
  have d2 : S (fun j => (mdF lo hi j - q j) * (mdF lo hi j - q j)) n ≤ r * r := Int.le_trans (mid_far' bl hq) hr.up
  constructor
  · intro u' hu'
    have u0' := hu'.nn
    refine Int.not_lt.mp fun z => ?_
    have k1 : pN q f g n < (u' + 1) * (u' + 1) * pW q f g n := Int.not_le.mp fun y => by
      have := (fl_le (N := pN q f g n) hw).mpr y
      have := hu'.up
      omega
    have k2 := pc_lt (c := q) (q := mdF lo hi) (by omega) r0 k1 d2
    have k3 := (fl_le (N := pN (mdF lo hi) f g n) hp).mp hu.lo
    have k4 : (u' + 1 + r) * (u' + 1 + r) ≤ u * u := sq_mono (by omega) (by omega)
    have k5 := Int.mul_le_mul_of_nonneg_right k4 (show 0 ≤ pW (mdF lo hi) f g n by omega)
    omega
  · refine ⟨by omega, ?_⟩
    have k1 := (cl_le (N := pN (mdF lo hi) f g n) hp).mp hv.up
    exact pc_le (c := mdF lo hi) (q := q) v0 r0 k1 d1
theorem sr_part (s : Sub' lo hi lo' hi' (n + 1)) : ∀ {k : SK} {a b a' b' : Int}, (∀ f g, k = .piece f g → ∀ j, j < n → lo' j = hi' j) → SR lo hi n k a b → SR lo' hi' n k a' b' → a ≤ a' ∧ b' ≤ b := by
  have s' : Sub' lo hi lo' hi' n := ⟨fun j hj => s.l j (by omega), fun j hj => s.m j (by omega), fun j hj => s.h j (by omega)⟩
  intro k a b a' b' hs h g
  cases k with
  | range f => exact ⟨dn_mono h.1 g.1 (NR_mono s' f), up_mono g.2 h.2 (FR_mono s' f)⟩
  | clocked f =>
    have h1 := dn_mono h.1 g.1 (NR_mono s' f)
    have h2 := up_mono g.2 h.2 (FR_mono s' f)
    have h3 := s.l n (by omega); have h4 := s.h n (by omega)
    omega
  | differ f k =>
    obtain ⟨a1, b1, a2, b2, h1, h2, h3, h4, rfl, rfl⟩ := h
    obtain ⟨c1, d1, c2, d2, g1, g2, g3, g4, rfl, rfl⟩ := g
    have e1 := dn_mono h1 g1 (NR_mono s' f)
    have e2 := up_mono g2 h2 (FR_mono s' f)
    have e3 := dn_mono h3 g3 (NR_mono s' k)
    have e4 := up_mono g4 h4 (FR_mono s' k)
    omega
  | side f =>
    have h1 := sdL_mono s' f
    have h2 := sdH_mono s' f
    rw [h.1, h.2, g.1, g.2]
    exact ⟨h1, h2⟩
  | piece f k =>
    have one := hs f k rfl
    have bl : ∀ j, j < n → lo j ≤ hi j := fun j hj => by have := s'.l j hj; have := s'.m j hj; have := s'.h j hj; omega
    obtain ⟨h1, h0, h2⟩ := piece_in (q := lo') bl (fun j hj => by have := s'.l j hj; have := s'.m j hj; have := s'.h j hj; omega) h
    obtain ⟨r, u, v, hr, hu, hv, rfl, rfl⟩ := g
    have r0 : r = 0 := by
      have z : hfS lo' hi' n = 0 := by
        have : hfS lo' hi' n = S (fun _ => 0) n := S_cong fun j hj => by rw [one j hj, Int.sub_self]; rfl
        rw [this]
        have b0 := S_b (f := fun _ => 0) (b := 0) (n := n) fun j _ => by omega
        omega
      rw [z] at hr
      have := up_le hr (m := 0) (by omega) (by omega)
      have := hr.nn
      omega
    have em : ∀ j, j < n → mdF lo' hi' j = lo' j := fun j hj => by unfold mdF; rw [one j hj]; omega
    have eA : ∀ z : Nat → Int, plA (mdF lo' hi') z n = plA lo' z n := fun z => S_cong fun j hj => by rw [em j hj]
    have eR : plR (mdF lo' hi') f k n = plR lo' f k n := S_cong fun j hj => by rw [em j hj]
    have eN : pN (mdF lo' hi') f k n = pN lo' f k n := by unfold pN; rw [eA, eA, eR]
    have eW : pW (mdF lo' hi') f k n = pW lo' f k n := by unfold pW; rw [eR]
    rw [eN, eW] at hu hv
    have k1 := h1 u hu
    have k2 := up_le hv h0 ((cl_le (pW_pos ..)).mpr h2)
    omega
  | boxes bs =>
    obtain ⟨x, y, h1, h2, h3, h4⟩ := h
    obtain ⟨x', y', g1, g2, g3, g4⟩ := g
    exact ⟨dn_mono h3 g3 (min_mono (fun c _ => BT_mono s' c) h1 g1), up_mono g4 h4 (min_mono (fun c _ => GF_mono s' c) g2 h2)⟩
end

/-! ### values at a place of the box: plain -/
section
variable {lo hi q : Nat → Int} {n : Nat}
def InB (lo hi q : Nat → Int) (n : Nat) : Prop := ∀ j, j < n → lo j ≤ q j ∧ q j ≤ hi j
def sqD (q f : Nat → Int) (n : Nat) : Int := S (fun j => (q j - f j) * (q j - f j)) n
theorem NR_at (h : InB lo hi q n) (f : Nat → Int) : NR lo hi n f ≤ sqD q f n := S_le fun j hj => by
  have := h j hj
  have b : 0 ≤ outF (f j) (lo j) (hi j) := by unfold outF mxI; omega
  by_cases c : 0 ≤ q j - f j
  · exact sq_mono b (by unfold outF mxI; omega)
  · have := sq_mono b (show outF (f j) (lo j) (hi j) ≤ -(q j - f j) by unfold outF mxI; omega)
    rw [Int.neg_mul_neg] at this; exact this
theorem FR_at (h : InB lo hi q n) (f : Nat → Int) : sqD q f n ≤ FR lo hi n f := S_le fun j hj => by
  have := h j hj
  refine ab_sq ?_ ?_
  · unfold fdF mxI absI; (repeat' split) <;> omega
  · unfold fdF mxI absI; (repeat' split) <;> omega
theorem BT_at (h : InB lo hi q n) (c : (Nat → Int) × (Nat → Int)) : BT lo hi n c ≤ NR c.1 c.2 n q := S_le fun j hj => by
  have := h j hj
  refine sq_mono ?_ ?_
  · unfold gapF mxI; omega
  · unfold gapF outF mxI; omega
theorem GF_at (h : InB lo hi q n) (c : (Nat → Int) × (Nat → Int)) : NR c.1 c.2 n q ≤ GF lo hi n c := S_le fun j hj => by
  have := h j hj
  refine sq_mono ?_ ?_
  · unfold outF mxI; omega
  · unfold farF outF mxI; omega
theorem sd_at (h : InB lo hi q n) (f : Nat → Int) : sdL lo hi f n ≤ S (fun j => f j * q j) n ∧ S (fun j => f j * q j) n ≤ sdH lo hi f n :=
  ⟨S_le fun j hj => (mid_prod (h j hj).1 (h j hj).2).1, S_le fun j hj => (mid_prod (h j hj).1 (h j hj).2).2⟩
/-- the root of s / w is from a to b -/
def RtIn (s w a b : Int) : Prop := 0 ≤ b ∧ s ≤ b * b * w ∧ (a ≤ 0 ∨ a * a * w ≤ s)
theorem rt_one {s a b u v : Int} (hu : 0 ≤ u) (h1 : u * u ≤ s) (hv : 0 ≤ v) (h2 : s ≤ v * v) (ha : a ≤ u) (hb : v ≤ b) : RtIn s 1 a b := by
  refine ⟨by omega, ?_, ?_⟩
  · have := sq_mono hv hb; omega
  · by_cases c : a ≤ 0
    · exact .inl c
    · refine .inr ?_
      have := sq_mono (show 0 ≤ a by omega) ha
      omega
/-- the root of s less that of t is at least d -/
def DifGe (s t d : Int) : Prop := (d ≤ 0 ∧ t ≤ d * d) ∨ (d = 0 ∧ 0 ≤ s - d * d - t) ∨ (0 < d ∧ 0 ≤ s - d * d - t ∧ (2 * d) * (2 * d) * t ≤ (s - d * d - t) * (s - d * d - t)) ∨ (d < 0 ∧ (0 ≤ s - d * d - t ∨ (s - d * d - t) * (s - d * d - t) ≤ (2 * d) * (2 * d) * t))
theorem dif_ge {s t a b : Int} (ha : 0 ≤ a) (hb : 0 ≤ b) (ht0 : 0 ≤ t) (h1 : a * a ≤ s) (h2 : t ≤ b * b) : DifGe s t (a - b) := by
  obtain ⟨d, hd⟩ : ∃ d, d = a - b := ⟨_, rfl⟩
  rw [← hd]
  have ea : a = b + d := by omega
  subst ea
  have e0 : (b + d) * (b + d) = b * b + 2 * (b * d) + d * d := by grind
  rw [e0] at h1
  rcases Int.lt_trichotomy d 0 with c | c | c
  · by_cases c2 : t ≤ d * d
    · exact .inl ⟨by omega, c2⟩
    · refine .inr (.inr (.inr ⟨c, ?_⟩))
      by_cases c3 : 0 ≤ s - d * d - t
      · exact .inl c3
      · refine .inr ?_
        -- e = -d
        obtain ⟨e, he⟩ : ∃ e, e = -d := ⟨_, rfl⟩
        have ed : d = -e := by omega
        subst ed
        obtain ⟨g, hg⟩ : ∃ g, g = b * b - t := ⟨_, rfl⟩
        have g0 : 0 ≤ g := by omega
        have et : t = b * b - g := by omega
        subst et
        have n1 : -e * -e = e * e := Int.neg_mul_neg ..
        have n2 : b * -e = -(b * e) := Int.mul_neg ..
        rw [n1] at h1 c2 c3 ⊢
        rw [n2] at h1
        have be : e ≤ b := by omega
        have y0 : -(s - e * e - (b * b - g)) ≤ 2 * (b * e) - g := by omega
        have k1 : g ≤ 4 * (e * (b - e)) := by
          by_cases c4 : b ≤ 3 * e
          · have p := Int.mul_nonneg (show 0 ≤ b - e by omega) (show 0 ≤ 3 * e - b by omega)
            have q : (b - e) * (3 * e - b) = 4 * (e * (b - e)) - (b * b - e * e) := by grind
            omega
          · have p := Int.mul_nonneg (show 0 ≤ e by omega) (show 0 ≤ b - 2 * e by omega)
            have q : 4 * (e * (b - e)) - 2 * (b * e) = 2 * (e * (b - 2 * e)) := by grind
            omega
        have k2 : (2 * (b * e) - g) * (2 * (b * e) - g) ≤ 4 * (e * e) * (b * b - g) := by
          have p := Int.mul_nonneg g0 (show 0 ≤ 4 * (e * (b - e)) - g by omega)
          have q : 4 * (e * e) * (b * b - g) - (2 * (b * e) - g) * (2 * (b * e) - g) = g * (4 * (e * (b - e)) - g) := by grind
          omega
        have k3 := sq_mono (show 0 ≤ -(s - e * e - (b * b - g)) by omega) y0
        rw [Int.neg_mul_neg] at k3
        have e5 : 2 * -e * (2 * -e) * (b * b - g) = 4 * (e * e) * (b * b - g) := by grind
        rw [e5]
        omega
  · subst c
    refine .inr (.inl ⟨rfl, ?_⟩)
    rw [Int.mul_zero] at h1
    omega
  · refine .inr (.inr (.inl ⟨c, ?_, ?_⟩))
    · have := Int.mul_nonneg hb (show 0 ≤ d by omega)
      omega
    · have p := Int.mul_nonneg hb (show 0 ≤ d by omega)
      have k1 : 2 * (b * d) ≤ s - d * d - t := by omega
      have k2 := sq_mono (show 0 ≤ 2 * (b * d) by omega) k1
      have k3 : 4 * (d * d) * t ≤ 4 * (d * d) * (b * b) := Int.mul_le_mul_of_nonneg_left h2 (by have := sqn0 d; omega)
      have e5 : 2 * d * (2 * d) * t = 4 * (d * d) * t := by grind
      have e6 : 2 * (b * d) * (2 * (b * d)) = 4 * (d * d) * (b * b) := by grind
      rw [e5]
      omega
end

theorem dn_nat (n : Nat) : ∃ r : Nat, r * r ≤ n ∧ n < (r + 1) * (r + 1) := by
  induction n with
  | zero => exact ⟨0, by decide, by decide⟩
  | succ n ih =>
    obtain ⟨r, h1, h2⟩ := ih
    by_cases c : n + 1 < (r + 1) * (r + 1)
    · exact ⟨r, by omega, c⟩
    · refine ⟨r + 1, by omega, ?_⟩
      have e : (r + 1 + 1) * (r + 1 + 1) = (r + 1) * (r + 1) + 2 * (r + 1) + 1 := by grind
      omega
theorem dn_ex {x : Int} (h : 0 ≤ x) : ∃ u, IsDn x u := by
  obtain ⟨r, h1, h2⟩ := dn_nat x.toNat
  refine ⟨(r : Int), by omega, ?_, ?_⟩
  · have : ((r * r : Nat) : Int) ≤ (x.toNat : Int) := Int.ofNat_le.mpr h1
    rw [Int.natCast_mul, Int.toNat_of_nonneg h] at this; exact this
  · have : (x.toNat : Int) < (((r + 1) * (r + 1) : Nat) : Int) := Int.ofNat_lt.mpr h2
    rw [Int.natCast_mul, Int.natCast_add, Int.toNat_of_nonneg h] at this; exact this

theorem pN_nn (c f g : Nat → Int) (n : Nat) : 0 ≤ pN c f g n := by
  obtain ⟨s, w, h0, h1, hw, e⟩ := pl_at c f g n
  have nD : 0 ≤ plD c f g n s w := S_nn fun j _ => sqn0 _
  have p := Int.mul_nonneg nD (show 0 ≤ pW c f g n by have := pW_pos c f g n; omega)
  rw [e] at p
  have w2 : 0 < w * w := Int.mul_pos (by omega) (by omega)
  exact le_of_mul_posl w2 (by rw [Int.mul_zero, Int.mul_comm]; exact p)
/-- the rate of a kind, and of its clock -/
def RateIs (n : Nat) : SK → Int → Prop
  | .differ _ _, r => r = 2
  | .side f, r => IsUp (S (fun j => f j * f j) n) r
  | _, r => r = 1
def ckR : SK → Int
  | .clocked _ => 1
  | _ => 0
/-! ### a world that keeps a reading: plain -/
section
variable {lo hi q y : Nat → Int} {n : Nat}
theorem le_sq {a b : Int} (hb : 0 ≤ b) (h : a * a ≤ b * b) : a ≤ b := Int.not_lt.mp fun z => by
  have := sq_mono (show 0 ≤ b + 1 by omega) (show b + 1 ≤ a by omega)
  have e : (b + 1) * (b + 1) = b * b + 2 * b + 1 := by grind
  omega
theorem sqD_tri {f : Nat → Int} {u m : Int} (hu : 0 ≤ u) (hm : 0 ≤ m) (h1 : sqD q f n ≤ u * u) (h2 : sqD y q n ≤ m * m) : sqD y f n ≤ (u + m) * (u + m) := by
  have := tri_le hu hm h1 h2
  have e : sqD y f n = S (fun j => ((q j - f j) + (y j - q j)) * ((q j - f j) + (y j - q j))) n := S_cong fun j _ => by
    have : y j - f j = (q j - f j) + (y j - q j) := by omega
    rw [this]
  rw [e]; exact this
theorem sqD_comm : sqD y q n = sqD q y n := S_cong fun j _ => by
  have : y j - q j = -(q j - y j) := by omega
  rw [this, Int.neg_mul_neg]
theorem out_tri {c d : Nat → Int} {u m : Int} (bl : ∀ j, j < n → c j ≤ d j) (hu : 0 ≤ u) (hm : 0 ≤ m) (h1 : NR c d n q ≤ u * u) (h2 : sqD y q n ≤ m * m) : NR c d n y ≤ (u + m) * (u + m) := by
  have e2 : S (fun j => absI (y j - q j) * absI (y j - q j)) n = sqD y q n := S_cong fun j _ => by
    unfold absI; split
    · exact Int.neg_mul_neg ..
    · rfl
  have k := tri_le (x := fun j => outF (q j) (c j) (d j)) (y := fun j => absI (y j - q j)) hu hm h1 (by rw [e2]; exact h2)
  refine Int.le_trans (S_le fun j hj => ?_) k
  have := bl j hj
  refine sq_mono ?_ ?_
  · unfold outF mxI; omega
  · unfold outF mxI absI; (repeat' split) <;> omega
/-- an integer at most the value at y, and one at least it -/
def VR (n : Nat) (y : Nat → Int) (ck : Int) : SK → Int → Int → Prop
  | .range f, a, b => IsDn (sqD y f n) a ∧ IsUp (sqD y f n) b
  | .clocked f, a, b => IsDn (sqD y f n) (a - ck) ∧ IsUp (sqD y f n) (b - ck)
  | .differ f g, a, b => ∃ a1 b1 a2 b2, IsDn (sqD y f n) a1 ∧ IsUp (sqD y f n) b1 ∧ IsDn (sqD y g n) a2 ∧ IsUp (sqD y g n) b2 ∧ a = a1 - b2 ∧ b = b1 - a2
  | .side f, a, b => a = S (fun j => f j * y j) n ∧ b = S (fun j => f j * y j) n
  | .piece f g, a, b => IsDn (pN y f g n / pW y f g n) a ∧ IsUp (-(-pN y f g n / pW y f g n)) b
  | .boxes bs, a, b => ∃ m, IsMin (bs.map fun c => NR c.1 c.2 n y) m ∧ IsDn m a ∧ IsUp m b
theorem dn_up {x a b : Int} (h : IsDn x a) (g : IsUp x b) : a ≤ b := le_sq g.nn (by have := h.lo; have := g.up; omega)
theorem vr_le {ck : Int} : ∀ {k : SK} {a b : Int}, VR n y ck k a b → a ≤ b
  | .range f, a, b, h => dn_up h.1 h.2
  | .clocked f, a, b, h => by have := dn_up h.1 h.2; omega
  | .differ f g, a, b, ⟨a1, b1, a2, b2, h1, h2, h3, h4, e1, e2⟩ => by have := dn_up h1 h2; have := dn_up h3 h4; omega
  | .side f, a, b, h => by rw [h.1, h.2]; exact Int.le_refl _
  | .piece f g, a, b, h => by
    have wp := pW_pos y f g n
    have q1 := (fl_le (N := pN y f g n) wp).mp h.1.lo
    have q2 := (cl_le (N := pN y f g n) wp).mp h.2.up
    refine le_sq h.2.nn (le_of_mul_posl (c := pW y f g n) (by omega) ?_)
    rw [Int.mul_comm, Int.mul_comm (pW y f g n)]
    omega
  | .boxes bs, a, b, ⟨m, _, h2, h3⟩ => dn_up h2 h3
def mvK : SK → Int
  | .side _ => 0
  | .differ _ _ => 2
  | _ => 1
theorem keeps {k : SK} {L G a b ct cu m w r : Int} (hk : SkOk n k) (bl : ∀ j, j < n → lo j ≤ hi j) (hq : InB lo hi q n) (hc : lo n ≤ ct ∧ ct ≤ hi n) (hs : SR lo hi n k L G) (hr : RateIs n k r) (hv : VR n y cu k a b) (hm : 0 ≤ m) (hd : sqD y q n ≤ m * m) (hw : cu - ct ≤ w ∧ ct - cu ≤ w) : a ≤ G + (r * m + ckR k * w) ∧ L ≤ b + (r * m + ckR k * w) := by
  have hd' : sqD q y n ≤ m * m := by rw [sqD_comm]; exact hd
  cases k with
  | range f =>
    have hr' : r = 1 := hr
    subst hr'
    have g0 := hs.2.nn; have b0 := hv.2.nn
    have k1 := sqD_tri (f := f) g0 hm (Int.le_trans (FR_at hq f) hs.2.up) hd
    have k2 := le_sq (by omega) (Int.le_trans hv.1.lo k1)
    have k3 := sqD_tri (f := f) b0 hm hv.2.up hd'
    have k4 := le_sq (by omega) (Int.le_trans hs.1.lo (Int.le_trans (NR_at hq f) k3))
    simp only [ckR, Int.zero_mul, Int.one_mul]
    omega
  | clocked f =>
    have hr' : r = 1 := hr
    subst hr'
    have g0 := hs.2.nn; have b0 := hv.2.nn
    have k1 := sqD_tri (f := f) g0 hm (Int.le_trans (FR_at hq f) hs.2.up) hd
    have k2 := le_sq (by omega) (Int.le_trans hv.1.lo k1)
    have k3 := sqD_tri (f := f) b0 hm hv.2.up hd'
    have k4 := le_sq (by omega) (Int.le_trans hs.1.lo (Int.le_trans (NR_at hq f) k3))
    simp only [ckR, Int.zero_mul, Int.one_mul]
    omega
  | differ f g =>
    have hr' : r = 2 := hr
    subst hr'
    obtain ⟨A1, B1, A2, B2, s1, s2, s3, s4, rfl, rfl⟩ := hs
    obtain ⟨a1, b1, a2, b2, v1, v2, v3, v4, rfl, rfl⟩ := hv
    have n1 := s2.nn; have n2 := s4.nn; have n3 := v2.nn; have n4 := v4.nn
    have k1 := le_sq (by omega) (Int.le_trans v1.lo (sqD_tri (f := f) n1 hm (Int.le_trans (FR_at hq f) s2.up) hd))
    have k2 := le_sq (by omega) (Int.le_trans v3.lo (sqD_tri (f := g) n2 hm (Int.le_trans (FR_at hq g) s4.up) hd))
    have k3 := le_sq (by omega) (Int.le_trans s1.lo (Int.le_trans (NR_at hq f) (sqD_tri (f := f) n3 hm v2.up hd')))
    have k4 := le_sq (by omega) (Int.le_trans s3.lo (Int.le_trans (NR_at hq g) (sqD_tri (f := g) n4 hm v4.up hd')))
    simp only [ckR, Int.zero_mul]
    omega
  | side f =>
    have hr' : IsUp (S (fun j => f j * f j) n) r := hr
    obtain ⟨rfl, rfl⟩ := hs
    obtain ⟨rfl, rfl⟩ := hv
    have sa := sd_at hq f
    have c1 := cs_le (x := f) (y := fun j => y j - q j) hr'.nn hm hr'.up hd
    have c2 := cs_le (x := f) (y := fun j => q j - y j) hr'.nn hm hr'.up hd'
    have e1 : S (fun j => f j * y j) n = S (fun j => f j * q j) n + S (fun j => f j * (y j - q j)) n := by
      rw [← S_add]; exact S_cong fun j _ => by grind
    have e2 : S (fun j => f j * q j) n = S (fun j => f j * y j) n + S (fun j => f j * (q j - y j)) n := by
      rw [← S_add]; exact S_cong fun j _ => by grind
    simp only [ckR, Int.zero_mul]
    omega
  | piece f g =>
    have hr' : r = 1 := hr
    subst hr'
    obtain ⟨h1, h2, h3⟩ := piece_in (q := q) bl hq hs
    have wq := pW_pos q f g n
    have wy := pW_pos y f g n
    have b0 := hv.2.nn
    have k1 := pc_le (c := q) (q := y) h2 hm h3 hd
    have q1 := (fl_le (N := pN y f g n) wy).mp hv.1.lo
    have k2 : a ≤ G + m := le_sq (by omega) (le_of_mul_posl (c := pW y f g n) (by omega) (by
      rw [Int.mul_comm, Int.mul_comm (pW y f g n)]; omega))
    have q2 := (cl_le (N := pN y f g n) wy).mp hv.2.up
    have k3 := pc_le (c := y) (q := q) b0 hm q2 hd'
    have nq : 0 ≤ pN q f g n / pW q f g n := by
      have : 0 ≤ pN q f g n := pN_nn q f g n
      exact Int.ediv_nonneg this (by omega)
    obtain ⟨u, hu⟩ := dn_ex nq
    have q3 := (fl_le (N := pN q f g n) wq).mp hu.lo
    have k4 : u ≤ b + m := le_sq (by omega) (le_of_mul_posl (c := pW q f g n) (by omega) (by
      rw [Int.mul_comm, Int.mul_comm (pW q f g n)]; omega))
    have k5 := h1 u hu
    simp only [ckR, Int.zero_mul, Int.one_mul]
    omega
  | boxes bs =>
    have hr' : r = 1 := hr
    subst hr'
    obtain ⟨x, z, h1, h2, h3, h4⟩ := hs
    obtain ⟨v, v1, v2, v3⟩ := hv
    obtain ⟨_, _, hb⟩ := hk
    have g0 := h4.nn; have b0 := v3.nn
    have k2 : a ≤ G + m := by
      obtain ⟨c, hc', rfl⟩ := List.mem_map.mp h2.mem
      have t := out_tri (fun j hj => (hb c hc' j hj).1) g0 hm (Int.le_trans (GF_at hq c) h4.up) hd
      exact le_sq (by omega) (Int.le_trans v2.lo (Int.le_trans (v1.le _ (List.mem_map.mpr ⟨c, hc', rfl⟩)) t))
    have k4 : L ≤ b + m := by
      obtain ⟨c, hc', rfl⟩ := List.mem_map.mp v1.mem
      have t := out_tri (fun j hj => (hb c hc' j hj).1) b0 hm v3.up hd'
      exact le_sq (by omega) (Int.le_trans h3.lo (Int.le_trans (h1.le _ (List.mem_map.mpr ⟨c, hc', rfl⟩)) (Int.le_trans (BT_at hq c) t)))
    simp only [ckR, Int.zero_mul, Int.one_mul]
    omega
end

section
variable {lo hi : Nat → Int} {n : Nat}
end

def ltD (q : Nat → Int) (n : Nat) : D := .lst ((List.range n).map fun j => .int (q j))
theorem lt_at {f : Nat → Int} {n j : Nat} (h : j < n) : ∀ P : D → Prop, dIx (ltD f n) (.int (j : Int)) P = P (.int (f j)) := fun P => ix_lst_at (atI_nat (by rw [List.getElem?_map, List.getElem?_range h]; rfl))
theorem lt_len (f : Nat → Int) (n : Nat) : nLen [ltD f n] = fun Q => Q (.int n) := by funext Q; show Q (.int _) = _; simp
theorem y_square {q f : Nat → Int} {n : Nat} {Q : D → Prop} (hn : n ≤ 1000) (hq : Pb q n) (hf : Pb f n) (h : Q (.int (sqD q f n))) : runD 3 m__law_square [ltD q n, ptD f n] Q := by
  unfold runD startD m__law_square
  walk_at "xd"
  rw [lt_len]
  walk_at "xd"
  refine ⟨inR_ok (by omega) (by omega), ?_⟩
  rw [Int.toNat_natCast, range0D]
  refine lcL_of _ (fun j : Nat => D.int ((q j - f j) * (q j - f j))) _ _ ?_ (fun x hx P hP => ?_) ?_
  · simp; show n ≤ 16777216; omega
  · have hx := List.mem_range.mp hx
    have := hf x hx
    have := hq x hx
    iterate 5
      walk_at "xd"
      (try simp only [pt_at hx, lt_at hx])
    walk_at "xd"
    exact ⟨mulOk_l (by omega) (by omega), hP _ rfl⟩
  · rw [List.nil_append]; exact nSum_of h
theorem up_eq {a w : Int} (hw : 1 ≤ w) : a / w + (if decide (a % w > 0) = true then 1 else 0) = -(-a / w) := by
  have e := Int.mul_ediv_add_emod (-a) w
  have e1 := Int.emod_nonneg (-a) (show w ≠ 0 by omega)
  have e2 := Int.emod_lt_of_pos (-a) (show 0 < w by omega)
  have f0 := Int.mul_ediv_add_emod a w
  have f1 := Int.emod_nonneg a (show w ≠ 0 by omega)
  have f2 := Int.emod_lt_of_pos a (show 0 < w by omega)
  generalize -a / w = y at *
  generalize a / w = x at *
  generalize a % w = m at *
  generalize -a % w = k at *
  have e3 : w * (x + y) = -(m + k) := by rw [Int.mul_add]; omega
  by_cases c : m > 0
  · rw [if_pos (decide_eq_true c)]
    have : x + y = -1 := by
      have h1 : ¬ x + y ≥ 0 := fun z => by
        have := Int.mul_nonneg (show 0 ≤ w by omega) z
        omega
      have h2 : ¬ x + y ≤ -2 := fun z => by
        have := Int.mul_le_mul_of_nonneg_left z (show 0 ≤ w by omega)
        omega
      omega
    omega
  · rw [if_neg (by simpa using c)]
    have : x + y = 0 := by
      have h1 : ¬ x + y ≥ 1 := fun z => by
        have := Int.mul_le_mul_of_nonneg_left z (show 0 ≤ w by omega)
        omega
      have h2 : ¬ x + y ≤ -1 := fun z => by
        have := Int.mul_le_mul_of_nonneg_left z (show 0 ≤ w by omega)
        omega
      omega
    omega
theorem S2a {f : Nat → Int} {n : Nat} (hn : n ≤ 3) (h : ∀ j, j < n → -200000000000000 ≤ f j ∧ f j ≤ 200000000000000) : 0 ≤ S (fun j => f j * f j) n ∧ S (fun j => f j * f j) n ≤ 400000000000000000000000000000 := by
  refine ⟨S_nn fun j _ => sqn0 _, ?_⟩
  have := (S_b (f := fun j => f j * f j) (b := 40000000000000000000000000000) (n := n) fun j hj => by
    have g := h j hj
    have := ab_sq g.1 g.2
    have := sqn0 (f j)
    omega).2
  omega
/-! ### the law's way -/
theorem st_dims {d s r p : Int} {Q : D → Prop} : qFld (setD cl d s r p) "dims" Q = Q (.int d) := f_Setting_dims
theorem st_speed {d s r p : Int} {Q : D → Prop} : qFld (setD cl d s r p) "speed" Q = Q (.int s) := f_Setting_speed
theorem st_drift {d s r p : Int} {Q : D → Prop} : qFld (setD cl d s r p) "drift" Q = Q (.int r) := f_Setting_drift
theorem st_per {d s r p : Int} {Q : D → Prop} : qFld (setD cl d s r p) "per" Q = Q (.int p) := f_Setting_per
def t9 (i : Nat) : Int := if i = 0 then 1 else if i = 1 then 9 else 81
theorem t9_at {j : Nat} (h : j < 3) {Q : D → Prop} : dIx (.lst [.int 1, .int 9, .int 81]) (.int (j : Int)) Q = Q (.int (t9 j)) := by
  match j, h with
  | 0, _ => exact ix_l0
  | 1, _ => exact ix_l1
  | 2, _ => exact ix_l2
theorem t9_b (j : Nat) : 1 ≤ t9 j ∧ t9 j ≤ 81 := by unfold t9; (repeat' split) <;> omega
def bnd (j : Nat) : Int := if j = 0 then 4 else if j = 1 then 2 else if j = 2 then 1 else 0
def hlf (v : Int) : Int := (if v < 0 then -v else v) / 2 * (1 - 2 * (if v < 0 then 1 else 0))
theorem hlf_b {v : Int} {j : Nat} (h : -bnd j ≤ v ∧ v ≤ bnd j) : -bnd (j + 1) ≤ hlf v ∧ hlf v ≤ bnd (j + 1) := by
  have e : ∀ j, bnd (j + 1) = bnd j / 2 := fun j => by
    unfold bnd
    match j with
    | 0 => rfl
    | 1 => rfl
    | 2 => rfl
    | k + 3 => rfl
  have b0 : 0 ≤ bnd j := by unfold bnd; (repeat' split) <;> omega
  rw [e]
  unfold hlf
  by_cases c : v < 0
  · rw [if_pos c, if_pos c]; omega
  · rw [if_neg c, if_neg c]; omega
/-! ### a kind moved along an axis -/
def shF (a : Nat) (s : Int) (f : Nat → Int) (j : Nat) : Int := if j = a then f j + s else f j
def shK (a : Nat) (s : Int) : SK → SK
  | .range f => .range (shF a s f)
  | .clocked f => .clocked (shF a s f)
  | .differ f g => .differ (shF a s f) (shF a s g)
  | .piece f g => .piece (shF a s f) (shF a s g)
  | .side f => .side f
  | .boxes bs => .boxes (bs.map fun c => (shF a s c.1, shF a s c.2))
theorem splice {n a : Nat} (h2 : n = 2 ∨ n = 3) (ha : a = 0 ∨ a = 1) (g : Nat → D) (y : D) : cutD ((List.range n).map g) none (some (a : Int)) ++ [y] ++ cutD ((List.range n).map g) (some ((a : Int) + 1)) none = (List.range n).map fun j => if j = a then y else g j := by
  rcases h2 with rfl | rfl <;> rcases ha with rfl | rfl <;> rfl
theorem splice_l {n a : Nat} (h2 : n = 2 ∨ n = 3) (ha : a = 0 ∨ a = 1) (g : Nat → D) : (cutD ((List.range n).map g) none (some (a : Int))).length ≤ 3 ∧ (cutD ((List.range n).map g) (some ((a : Int) + 1)) none).length ≤ 3 := by
  rcases h2 with rfl | rfl <;> rcases ha with rfl | rfl <;> exact ⟨Nat.le_of_ble_eq_true rfl, Nat.le_of_ble_eq_true rfl⟩
theorem sh_pt {n a : Nat} {s : Int} {f : Nat → Int} (h2 : n = 2 ∨ n = 3) (ha : a = 0 ∨ a = 1) : (.tup (cutD ((List.range n).map fun j => D.int (f j)) none (some (a : Int)) ++ [.int (f a + s)] ++ cutD ((List.range n).map fun j => D.int (f j)) (some ((a : Int) + 1)) none) : D) = ptD (shF a s f) n := by
  rw [splice h2 ha]
  unfold ptD shF
  congr 2
  funext j
  by_cases c : j = a
  · rw [if_pos c, if_pos c, c]
  · rw [if_neg c, if_neg c]
theorem sh_bx {n a : Nat} {s : Int} {f g : Nat → Int} (h2 : n = 2 ∨ n = 3) (ha : a = 0 ∨ a = 1) : (.tup (cutD ((List.range n).map fun j => D.tup [.int (f j), .int (g j)]) none (some (a : Int)) ++ [.tup [.int (f a + s), .int (g a + s)]] ++ cutD ((List.range n).map fun j => D.tup [.int (f j), .int (g j)]) (some ((a : Int) + 1)) none) : D) = bxD (shF a s f) (shF a s g) n := by
  rw [splice h2 ha]
  unfold bxD shF
  congr 2
  funext j
  by_cases c : j = a
  · rw [if_pos c, if_pos c, if_pos c, c]
  · rw [if_neg c, if_neg c, if_neg c]
/-! ### the box around a place -/
def t25 (i : Nat) : Int := if i = 0 then 1 else if i = 1 then 25 else if i = 2 then 625 else 15625
def t125 (i : Nat) : Int := if i = 0 then 5 else if i = 1 then 125 else if i = 2 then 3125 else 78125
theorem t25_b (j : Nat) : 1 ≤ t25 j ∧ t25 j ≤ 15625 := by unfold t25; (repeat' split) <;> omega
theorem t125_b (j : Nat) : 1 ≤ t125 j ∧ t125 j ≤ 78125 := by unfold t125; (repeat' split) <;> omega
theorem t25_at {j : Nat} (h : j < 4) {Q : D → Prop} : dIx (.lst [.int 1, .int 25, .int 625, .int 15625]) (.int (j : Int)) Q = Q (.int (t25 j)) := by
  match j, h with
  | 0, _ => exact ix_l0
  | 1, _ => exact ix_l1
  | 2, _ => exact ix_l2
  | 3, _ => exact ix_l3
theorem t125_at {j : Nat} (h : j < 4) {Q : D → Prop} : dIx (.lst [.int 5, .int 125, .int 3125, .int 78125]) (.int (j : Int)) Q = Q (.int (t125 j)) := by
  match j, h with
  | 0, _ => exact ix_l0
  | 1, _ => exact ix_l1
  | 2, _ => exact ix_l2
  | 3, _ => exact ix_l3
/-! ### plain: a kind moved, and a thing that moves -/
def eF (a : Nat) (s : Int) (j : Nat) : Int := if j = a then s else 0
theorem sh_e (a : Nat) (s : Int) (f : Nat → Int) (j : Nat) : shF a s f j = f j + eF a s j := by
  unfold shF eF; split <;> omega
section
variable {n a : Nat} {s : Int} {y : Nat → Int}
theorem sh_sq (f : Nat → Int) : sqD y (shF a s f) n = sqD (fun j => y j - eF a s j) f n := S_cong fun j _ => by
  rw [sh_e, show y j - (f j + eF a s j) = y j - eF a s j - f j by omega]
theorem sh_plR (f g : Nat → Int) : plR y (shF a s f) (shF a s g) n = plR (fun j => y j - eF a s j) f g n := S_cong fun j _ => by
  rw [sh_e, sh_e, show y j - (f j + eF a s j) = y j - eF a s j - f j by omega, show g j + eF a s j - (f j + eF a s j) = g j - f j by omega]
theorem sh_plW (f g : Nat → Int) : plW (shF a s f) (shF a s g) n = plW f g n := S_cong fun j _ => by
  rw [sh_e, sh_e, show g j + eF a s j - (f j + eF a s j) = g j - f j by omega]
theorem sh_plA (f : Nat → Int) : plA y (shF a s f) n = plA (fun j => y j - eF a s j) f n := sh_sq f
theorem sh_pN (f g : Nat → Int) : pN y (shF a s f) (shF a s g) n = pN (fun j => y j - eF a s j) f g n := by
  unfold pN; rw [sh_plR, sh_plW, sh_plA, sh_plA]
theorem sh_pW (f g : Nat → Int) : pW y (shF a s f) (shF a s g) n = pW (fun j => y j - eF a s j) f g n := by
  unfold pW; rw [sh_plR, sh_plW]
theorem sh_NR (f g : Nat → Int) : NR (shF a s f) (shF a s g) n y = NR f g n (fun j => y j - eF a s j) := S_cong fun j _ => by
  have : outF (y j) (shF a s f j) (shF a s g j) = outF (y j - eF a s j) (f j) (g j) := by
    rw [sh_e, sh_e]
    unfold outF
    rw [show f j + eF a s j - y j = f j - (y j - eF a s j) by omega, show y j - (g j + eF a s j) = y j - eF a s j - g j by omega]
  rw [this]
theorem sh_vr {c A B : Int} {k : SK} (ns : ∀ f, k ≠ .side f) (h : VR n y c (shK a s k) A B) : VR n (fun j => y j - eF a s j) c k A B := by
  cases k with
  | range f => simp only [shK, VR, sh_sq] at h ⊢; exact h
  | clocked f => simp only [shK, VR, sh_sq] at h ⊢; exact h
  | differ f g => simp only [shK, VR, sh_sq] at h ⊢; exact h
  | piece f g => simp only [shK, VR, sh_pN, sh_pW] at h ⊢; exact h
  | side f => exact absurd rfl (ns f)
  | boxes bs =>
    simp only [shK, VR, List.map_map] at h ⊢
    have e : ((fun c : (Nat → Int) × (Nat → Int) => NR c.1 c.2 n y) ∘ fun c : (Nat → Int) × (Nat → Int) => (shF a s c.1, shF a s c.2)) = fun c : (Nat → Int) × (Nat → Int) => NR c.1 c.2 n (fun j => y j - eF a s j) := funext fun c => sh_NR c.1 c.2
    rw [e] at h
    exact h
theorem S_e (hs : -1 ≤ s ∧ s ≤ 1) : ∀ n : Nat, S (fun j => eF a s j * eF a s j) n ≤ 1 ∧ (n ≤ a → S (fun j => eF a s j * eF a s j) n = 0)
  | 0 => ⟨(by decide : (0 : Int) ≤ 1), fun _ => rfl⟩
  | n + 1 => by
    have ih := S_e hs n
    rw [S_succ]
    by_cases c : n = a
    · have z := ih.2 (by omega)
      have : eF a s n = s := if_pos c
      have := ab_sq (x := s) (b := 1) (by omega) (by omega)
      exact ⟨by rw [z, show eF a s n = s from if_pos c]; omega, fun h => by omega⟩
    · have : eF a s n = 0 := if_neg c
      rw [this, Int.mul_zero, Int.add_zero]
      exact ⟨ih.1, fun h => ih.2 (by omega)⟩
end
theorem mo_reach {v : Nat → Int} {n : Nat} {s p T x : Int} (hp : 1 ≤ p) (hs : 0 ≤ s) (hT : 0 ≤ T) (hx : -T ≤ x ∧ x ≤ T) (hv : p * p * S (fun j => v j * v j) n ≤ s * s) : 0 ≤ upI s T p ∧ S (fun j => (x * v j) * (x * v j)) n ≤ upI s T p * upI s T p := by
  have us := (up_spec (s := s) (t := T) hp).1
  have st := Int.mul_nonneg hs hT
  have u0 : 0 ≤ upI s T p := Int.not_lt.mp fun z => by
    have := Int.mul_le_mul_of_nonneg_left (show upI s T p ≤ -1 by omega) (show 0 ≤ p by omega)
    omega
  refine ⟨u0, ?_⟩
  rw [S_wsq]
  have pp : 0 < p * p := Int.mul_pos (by omega) (by omega)
  refine le_of_mul_posl pp ?_
  have k1 := ab_sq hx.1 hx.2
  have k2 := Int.mul_le_mul_of_nonneg_left hv (sqn0 x)
  have k3 := Int.mul_le_mul_of_nonneg_right k1 (sqn0 s)
  have k4 := sq_mono st (show s * T ≤ p * upI s T p by omega)
  have e1 : p * p * (x * x * S (fun j => v j * v j) n) = x * x * (p * p * S (fun j => v j * v j) n) := by grind
  have e2 : s * T * (s * T) = T * T * (s * s) := by grind
  have e3 : p * upI s T p * (p * upI s T p) = p * p * (upI s T p * upI s T p) := by grind
  omega
theorem mo_slip {r p T x dr : Int} (hp : 1 ≤ p) (hr : 0 ≤ r) (hT : 0 ≤ T) (hx : -T ≤ x ∧ x ≤ T) (hd : -(r / p) ≤ dr ∧ dr ≤ r / p) : -upI r T p ≤ dr * x ∧ dr * x ≤ upI r T p := by
  have us := (up_spec (s := r) (t := T) hp).1
  have f0 := Int.mul_ediv_add_emod r p
  have f1 := Int.emod_nonneg r (show p ≠ 0 by omega)
  have D0 : 0 ≤ r / p := Int.ediv_nonneg hr (by omega)
  have k := ab_mul2 hd hx
  have h : r / p * T ≤ upI r T p := by
    refine le_of_mul_posl (show 0 < p by omega) ?_
    have := Int.mul_le_mul_of_nonneg_right (show p * (r / p) ≤ r by omega) hT
    have e : p * (r / p * T) = p * (r / p) * T := by grind
    omega
  omega
theorem rt_is {n : Nat} : ∀ {k : SK} {r : Int}, RtR n k r → RateIs n k r
  | .range _, _, h => h
  | .clocked _, _, h => h
  | .differ _ _, _, h => h
  | .piece _ _, _, h => h
  | .side _, _, h => h
  | .boxes _, _, h => h
theorem ck_eq : ∀ k : SK, ckR k = ckF k
  | .range _ => rfl
  | .clocked _ => rfl
  | .differ _ _ => rfl
  | .piece _ _ => rfl
  | .side _ => rfl
  | .boxes _ => rfl
theorem mv_eq {n : Nat} : ∀ {k : SK} {r : Int}, (∀ f, k ≠ .side f) → RtR n k r → mvF k = r
  | .range _, _, _, h => (show _ = (1 : Int) from h).symm
  | .clocked _, _, _, h => (show _ = (1 : Int) from h).symm
  | .differ _ _, _, _, h => (show _ = (2 : Int) from h).symm
  | .piece _ _, _, _, h => (show _ = (1 : Int) from h).symm
  | .side f, _, n, _ => absurd rfl (n f)
  | .boxes _, _, _, h => (show _ = (1 : Int) from h).symm
/-- the value is told at y and at the clock cu; the thing is at q and at the clock ct -/
theorem stays {n : Nat} {k K : SK} {lo hi q y : Nat → Int} {s r p near T M L G A B cu ct a' s' : Int} {a : Nat} (hk : SkOk n k) (bl : ∀ j, j < n → lo j ≤ hi j) (hq : InB lo hi q n) (hc : lo n ≤ ct ∧ ct ≤ hi n) (hS : SR lo hi n k L G) (hM : CarR n k s r p near T M)
    (hv : VR n y cu K A B) (hK : K = k ∧ 0 ≤ near ∨ K = shK a s' k ∧ near = 1 ∧ -1 ≤ s' ∧ s' ≤ 1)
    (hu : 0 ≤ upI s T p ∧ sqD y q n ≤ upI s T p * upI s T p) (hw : -upI r T p ≤ cu - ct ∧ cu - ct ≤ upI r T p) : A ≤ G + M ∧ L ≤ B + M := by
  obtain ⟨rt, h1, h2⟩ := hM
  have hr := rt_is h1
  by_cases sd : ∃ f, k = .side f
  · obtain ⟨f, rfl⟩ := sd
    have hv' : VR n y cu (.side f) A B := by
      rcases hK with ⟨rfl, _⟩ | ⟨rfl, _⟩
      · exact hv
      · exact hv
    have := keeps (w := upI r T p) hk bl hq hc hS hr hv' hu.1 hu.2 ⟨by omega, by omega⟩
    rw [ck_eq] at this
    have e : mvF (.side f) = 0 := rfl
    rw [e, Int.zero_mul] at h2
    omega
  · have ns : ∀ f, k ≠ .side f := fun f e => sd ⟨f, e⟩
    obtain ⟨y', hv', hy, hn⟩ : ∃ y' : Nat → Int, VR n y' cu k A B ∧ sqD y' y n ≤ near * near ∧ 0 ≤ near := by
      rcases hK with ⟨rfl, h0⟩ | ⟨rfl, rfl, hs⟩
      · refine ⟨y, hv, ?_, h0⟩
        have : sqD y y n = S (fun _ => 0) n := S_cong fun j _ => by rw [Int.sub_self]; rfl
        rw [this]
        have b0 := S_b (f := fun _ => 0) (b := 0) (n := n) fun j _ => by omega
        have := sqn0 near
        omega
      · refine ⟨_, sh_vr ns hv, ?_, by decide⟩
        have : sqD (fun j => y j - eF a s' j) y n = S (fun j => eF a s' j * eF a s' j) n := S_cong fun j _ => by
          rw [show y j - eF a s' j - y j = -eF a s' j by omega, Int.neg_mul_neg]
        rw [this]
        exact (S_e hs n).1
    have := keeps (w := upI r T p) (m := upI s T p + near) hk bl hq hc hS hr hv' (by omega) (sqD_tri hu.1 hn hu.2 hy) ⟨by omega, by omega⟩
    rw [ck_eq] at this
    rw [mv_eq ns h1] at h2
    rw [Int.mul_add] at this
    omega
theorem sk_of12 {n : Nat} {d : D} (h : RKind n d) : ∃ k, SkOk n k ∧ d = skD n k ∧ ∀ a s, -1 ≤ s → s ≤ 1 → SkOk n (shK a s k) := by
  have wk : ∀ f : Nat → Int, Pt12 f n → Pb f n := fun f hf j hj => by have := hf j hj; omega
  have wb : ∀ lo hi : Nat → Int, Bd12 lo hi n → Bd lo hi n := fun lo hi hb j hj => by have := hb j hj; omega
  have wk2 : ∀ (a : Nat) (s : Int) (f : Nat → Int), -1 ≤ s → s ≤ 1 → Pt12 f n → Pb (shF a s f) n := fun a s f h1 h2 hf j hj => by
    have := hf j hj
    unfold shF; split <;> omega
  have wb2 : ∀ (a : Nat) (s : Int) (lo hi : Nat → Int), -1 ≤ s → s ≤ 1 → Bd12 lo hi n → Bd (shF a s lo) (shF a s hi) n := fun a s lo hi h1 h2 hb j hj => by
    have := hb j hj
    unfold shF; split <;> omega
  cases h with
  | @range f hf => exact ⟨.range f, wk f hf, rfl, fun a s h1 h2 => wk2 a s f h1 h2 hf⟩
  | @clocked f hf => exact ⟨.clocked f, wk f hf, rfl, fun a s h1 h2 => wk2 a s f h1 h2 hf⟩
  | @differ f g hf hg => exact ⟨.differ f g, ⟨wk f hf, wk g hg⟩, rfl, fun a s h1 h2 => ⟨wk2 a s f h1 h2 hf, wk2 a s g h1 h2 hg⟩⟩
  | @piece f g hf hg => exact ⟨.piece f g, ⟨wk f hf, wk g hg⟩, rfl, fun a s h1 h2 => ⟨wk2 a s f h1 h2 hf, wk2 a s g h1 h2 hg⟩⟩
  | @side f h0 hf => exact ⟨.side f, fun j hj => by have := hf j hj; omega, rfl, fun a s h1 h2 j hj => by have := hf j hj; omega⟩
  | @boxes1 lo hi b => exact ⟨.boxes [(lo, hi)], ⟨by simp, by simp, by simpa using wb _ _ b⟩, rfl, fun a s h1 h2 => ⟨by simp, by simp, by simpa using wb2 a s _ _ h1 h2 b⟩⟩
  | @boxes2 lo hi lo' hi' b b' => exact ⟨.boxes [(lo, hi), (lo', hi')], ⟨by simp, by simp, by simpa using ⟨wb _ _ b, wb _ _ b'⟩⟩, rfl, fun a s h1 h2 => ⟨by simp, by simp, by simpa using ⟨wb2 a s _ _ h1 h2 b, wb2 a s _ _ h1 h2 b'⟩⟩⟩

/-! ### rows and digits -/
theorem x_rows {ns : List Int} {n : Nat} {Q : D → Prop} (hn : n ≤ 1000) (hl : ns.length ≤ 1000) (h : ∀ f : Nat → Int, (∀ j, 0 ≤ f j) → Q (.lst ((List.range n).map fun j => .int (f j)))) : runD 5 m__law_rows [.scr ns, .int n] Q := by
  unfold runD startD m__law_rows m__law_rows_1 m__law_rows_2
  walk_at "xd"
  refine ⟨inR_ok (by omega) (by omega), ?_⟩
  rw [Int.toNat_natCast]
  refine forL_range (fun j e => ∃ (f : Nat → Int) (v3 v4 : Sl), (∀ j, 0 ≤ f j) ∧ e = [.v (.scr ns), .v (.int n), .own ((List.range j).map fun j => D.int (f j)), v3, v4]) ⟨fun _ => 0, _, _, fun _ => Int.le_refl _, rfl⟩ ?_ ?_
  · rintro j e Z' hj ⟨f, v3, v4, hf, rfl⟩ hnx _ _ _
    have fin : ∀ x : Int, 0 ≤ x → m__law_rows_2b_5 Z' [.v (.scr ns), .v (.int n), .own ((List.range j).map fun j => D.int (f j)), .v (.int (0 + (j : Int))), .v (.int x)] := fun x hx => by
      unfold m__law_rows_2b_5
      walk_at "xd"
      refine ⟨by simp; show j < 16777216; omega, ?_⟩
      have e1 : ((List.range j).map fun j => D.int (f j)) ++ [D.int x] = (List.range (j + 1)).map fun i => D.int (if i = j then x else f i) := by
        rw [List.range_succ, List.map_append]
        congr 1
        · refine List.map_congr_left fun i hi => ?_
          have := List.mem_range.mp hi
          rw [if_neg (by omega)]
        · simp
      rw [e1]
      exact hnx _ ⟨_, _, _, fun i => by (try dsimp only); split <;> first | exact hx | exact hf i, rfl⟩
    have four : ∀ x : Int, 0 ≤ x → m__law_rows_2b_4 { Z' with nx := fun e => m__law_rows_2b_5 Z' e } [.v (.scr ns), .v (.int n), .own ((List.range j).map fun j => D.int (f j)), .v (.int (0 + (j : Int))), .v (.int x)] := fun x hx => by
      unfold m__law_rows_2b_4
      walk_at "xd"
      have mm : MulOk (0 + (j : Int)) (0 + (j : Int)) := mulOk_l (by omega) (by omega)
      have mj : MulOk (0 + (j : Int)) 69621 := mulOk_r (by decide) (by decide)
      have r1 : ∀ y : Int, 0 ≤ (y % 1000000007 + 17 * (0 + (j : Int)) + 3) * 2862933555777941757 % 18446744073709551557 := fun y => Int.emod_nonneg _ (by decide)
      repeat' (first | exact fin _ (r1 _) | exact fin _ hx | exact mm | refine ⟨mm, ?_⟩ | split)
    have three : ∀ x : Int, m__law_rows_2b_3 { Z' with nx := fun e => m__law_rows_2b_4 { Z' with nx := fun e => m__law_rows_2b_5 Z' e } e } [.v (.scr ns), .v (.int n), .own ((List.range j).map fun j => D.int (f j)), .v (.int (0 + (j : Int))), .v (.int x)] := fun x => by
      unfold m__law_rows_2b_3
      walk_at "xd"
      split
      · exact four _ (by omega)
      · exact four _ (by omega)
    unfold m__law_rows_2b m__law_rows_2b_1 m__law_rows_2b_2
    walk_at "xd"
    split
    · rename_i c0
      refine ⟨by omega, ?_⟩
      have h1 := Int.emod_nonneg (0 + (j : Int)) (show (ns.length : Int) ≠ 0 by omega)
      have h2 := Int.emod_lt_of_pos (0 + (j : Int)) (show (0 : Int) < ns.length by omega)
      have hk : ((0 + (j : Int)) % (ns.length : Int)).toNat < ns.length := by omega
      rw [ix_scr_at (atI_ofNat (j := ((0 + (j : Int)) % (ns.length : Int)).toNat) (by omega) (List.getElem?_eq_getElem hk))]
      walk_at "xd"
      exact three _
    · exact three _
  · rintro e ⟨f, v3, v4, hf, rfl⟩
    unfold m__law_rows_3
    walk_at "xd"
    exact h f hf
theorem x_digits {row base : Int} {n : Nat} {Q : D → Prop} (hb : 0 < base) (hb2 : base < 1000000) (hn : n ≤ 1000) (h : ∀ d : Nat → Int, (∀ j, 0 ≤ d j ∧ d j < base) → Q (.lst ((List.range n).map fun j => .int (d j)))) : runD 5 m__law_digits [.int row, .int base, .int n] Q := by
  unfold runD startD m__law_digits
  walk_at "xd"
  refine ⟨inR_ok (by omega) (by omega), ?_⟩
  rw [Int.toNat_natCast]
  refine forL_range (fun j e => ∃ (row : Int) (d : Nat → Int) (v4 : Sl), (∀ j, 0 ≤ d j ∧ d j < base) ∧ e = [.v (.int row), .v (.int base), .v (.int n), .own ((List.range j).map fun j => D.int (d j)), v4]) ⟨row, fun _ => 0, _, fun _ => ⟨Int.le_refl _, hb⟩, rfl⟩ ?_ ?_
  · rintro j e Z' hj ⟨row, d, v4, hd, rfl⟩ hnx _ _ _
    walk_at "xd"
    refine ⟨hb, by simp; show j < 16777216; omega, cdiv_ok hb (by omega), ?_⟩
    have e1 : ((List.range j).map fun j => D.int (d j)) ++ [D.int (row % base)] = (List.range (j + 1)).map fun i => D.int (if i = j then row % base else d i) := by
      rw [List.range_succ, List.map_append]
      congr 1
      · refine List.map_congr_left fun i hi => ?_
        have := List.mem_range.mp hi
        rw [if_neg (by omega)]
      · simp
    rw [e1]
    have h1 := Int.emod_nonneg row (show base ≠ 0 by omega)
    have h2 := Int.emod_lt_of_pos row hb
    exact hnx _ ⟨_, _, _, fun i => by (try dsimp only); split <;> first | exact ⟨h1, h2⟩ | exact hd i, rfl⟩
  · rintro e ⟨row, d, v4, hd, rfl⟩
    walk_at "xd"
    exact h d hd

/-! ### what is built: any, of a shape -/
theorem lcL_ex {β : Type} {vs : List Nat} {g : RG} {me : RE} {env : En} {Q : List D → Prop} (emb : β → D) (P : β → Prop) : ∀ (xs : List D) (acc : List β), acc.length + xs.length ≤ sizeLine → (∀ a ∈ acc, P a) →
    (∀ x ∈ xs, ∀ R : D → En → Prop, (∀ b e4, P b → wipeE e4 vs = wipeE env vs → R (emb b) e4) → g x (wipeE env vs) fun e2 => wipeE e2 vs = wipeE env vs ∧ me e2 R) →
    (∀ ys : List β, ys.length = acc.length + xs.length → (∀ y ∈ ys, P y) → Q (ys.map emb)) → lcL vs g rYes me env Q xs (acc.map emb)
  | [], acc, _, ha, _, q => q acc (by simp) ha
  | x :: xs, acc, hl, ha, hs, q => by
    simp only [List.length_cons] at hl
    have h := hs x (List.mem_cons_self ..) (fun d e4 => wipeE e4 vs = wipeE env vs ∧ (acc.map emb).length < sizeLine ∧ lcL vs g rYes me env Q xs (acc.map emb ++ [d])) fun b e4 hb w => ⟨w, by rw [List.length_map]; omega, by
      have := lcL_ex emb P xs (acc ++ [b]) (by simp; omega) (fun a h => by
        rcases List.mem_append.mp h with h | h
        · exact ha a h
        · rw [List.mem_singleton.mp h]; exact hb) (fun y hy => hs y (List.mem_cons_of_mem _ hy)) (fun ys hy hp => q ys (by rw [hy]; simp; omega) hp)
      rw [List.map_append] at this
      exact this⟩
    exact h
theorem lcL_ex0 {β : Type} {vs : List Nat} {g : RG} {me : RE} {env : En} {Q : List D → Prop} (emb : β → D) (P : β → Prop) (xs : List D) (hl : xs.length ≤ 1000000)
    (hs : ∀ x ∈ xs, ∀ R : D → En → Prop, (∀ b e4, P b → wipeE e4 vs = wipeE env vs → R (emb b) e4) → g x (wipeE env vs) fun e2 => wipeE e2 vs = wipeE env vs ∧ me e2 R)
    (h : ∀ ys : List β, ys.length = xs.length → (∀ y ∈ ys, P y) → Q (ys.map emb)) : lcL vs g rYes me env Q xs [] :=
  lcL_ex emb P xs [] (by show 0 + _ ≤ 16777216; omega) (fun a h => nomatch h) hs (fun ys hy hp => h ys (by rw [hy]; simp) hp)
theorem rangeD_mem {lo : Int} {n : Nat} {x : D} (h : x ∈ rangeD lo n) : ∃ j : Nat, j < n ∧ x = .int (lo + j) := by
  obtain ⟨i, hi⟩ := List.getElem?_of_mem h
  rw [rangeD_get] at hi
  split at hi
  · rename_i c; cases hi; exact ⟨i, c, rfl⟩
  · cases hi
theorem mod_pos {c m : Int} (h : 0 < m) : 0 ≤ c % m ∧ c % m < m := ⟨Int.emod_nonneg _ (by omega), Int.emod_lt_of_pos _ h⟩

/-- kinds of small numbers -/
def SkSm (n : Nat) : SK → Prop
  | .range f => ∀ j, j < n → -30 ≤ f j ∧ f j ≤ 30
  | .clocked f => ∀ j, j < n → -30 ≤ f j ∧ f j ≤ 30
  | .differ f g => (∀ j, j < n → -30 ≤ f j ∧ f j ≤ 30) ∧ ∀ j, j < n → -30 ≤ g j ∧ g j ≤ 30
  | .piece f g => (∀ j, j < n → -30 ≤ f j ∧ f j ≤ 30) ∧ ∀ j, j < n → -30 ≤ g j ∧ g j ≤ 30
  | .side f => ∀ j, j < n → -30 ≤ f j ∧ f j ≤ 30
  | .boxes bs => (1 ≤ bs.length ∧ bs.length ≤ 16) ∧ ∀ b ∈ bs, ∀ j, j < n → -30 ≤ b.1 j ∧ b.1 j ≤ b.2 j ∧ b.2 j ≤ 30
/-! ### values of small kinds are small -/
theorem dn_b {x a N : Int} (h : IsDn x a) (hN : 0 ≤ N) (hx : x ≤ N * N) : 0 ≤ a ∧ a ≤ N := ⟨h.nn, le_sq hN (Int.le_trans h.lo hx)⟩
theorem up_b2 {x a N : Int} (h : IsUp x a) (hN : 0 ≤ N) (hx : x ≤ N * N) : 0 ≤ a ∧ a ≤ N := ⟨h.nn, Int.not_lt.mp fun z => by
  have := h.lo (by omega)
  have := sq_mono hN (show N ≤ a - 1 by omega)
  omega⟩
theorem vr_b {n : Nat} {y : Nat → Int} {c A B : Int} {K : SK} (hn : n ≤ 3) (hy : ∀ j, j < n → -100 ≤ y j ∧ y j ≤ 100) (hc : -100 ≤ c ∧ c ≤ 100) (hK : SkSm n K ∨ ∃ a s K', K = shK a s K' ∧ SkSm n K' ∧ -1 ≤ s ∧ s ≤ 1) (h : VR n y c K A B) : -1000000 ≤ A ∧ A ≤ 1000000 ∧ -1000000 ≤ B ∧ B ≤ 1000000 := by
  have sm : ∀ f : Nat → Int, (∀ j, j < n → -31 ≤ f j ∧ f j ≤ 31) → sqD y f n ≤ 1000 * 1000 := fun f hf => by
    have := (S_b (f := fun j => (y j - f j) * (y j - f j)) (b := 17161) (n := n) fun j hj => by
      have h1 := hy j hj; have h2 := hf j hj
      have := ab_sq (x := y j - f j) (b := 131) (by omega) (by omega)
      have := sqn0 (y j - f j)
      omega).2
    have e : sqD y f n = S (fun j => (y j - f j) * (y j - f j)) n := rfl
    rw [e]; omega
  -- with numbers within 31
  have key : ∀ K : SK, (match K with
      | .range f => ∀ j, j < n → -31 ≤ f j ∧ f j ≤ 31
      | .clocked f => ∀ j, j < n → -31 ≤ f j ∧ f j ≤ 31
      | .differ f g => (∀ j, j < n → -31 ≤ f j ∧ f j ≤ 31) ∧ ∀ j, j < n → -31 ≤ g j ∧ g j ≤ 31
      | .piece f g => (∀ j, j < n → -31 ≤ f j ∧ f j ≤ 31) ∧ ∀ j, j < n → -31 ≤ g j ∧ g j ≤ 31
      | .side f => ∀ j, j < n → -31 ≤ f j ∧ f j ≤ 31
      | .boxes bs => ∀ b ∈ bs, ∀ j, j < n → -31 ≤ b.1 j ∧ b.1 j ≤ 31 ∧ -31 ≤ b.2 j ∧ b.2 j ≤ 31) → VR n y c K A B → -1000000 ≤ A ∧ A ≤ 1000000 ∧ -1000000 ≤ B ∧ B ≤ 1000000 := by
    intro K hK h
    cases K with
    | range f => have a := dn_b h.1 (by decide) (sm f hK); have b := up_b2 h.2 (by decide) (sm f hK); omega
    | clocked f => have a := dn_b h.1 (by decide) (sm f hK); have b := up_b2 h.2 (by decide) (sm f hK); omega
    | differ f g =>
      obtain ⟨a1, b1, a2, b2, v1, v2, v3, v4, rfl, rfl⟩ := h
      have := dn_b v1 (by decide) (sm f hK.1); have := up_b2 v2 (by decide) (sm f hK.1)
      have := dn_b v3 (by decide) (sm g hK.2); have := up_b2 v4 (by decide) (sm g hK.2)
      omega
    | side f =>
      obtain ⟨rfl, rfl⟩ := h
      have := S_b (f := fun j => f j * y j) (b := 3100) (n := n) fun j hj => by
        have h1 := hy j hj; have h2 := hK j hj
        have := ab_mul2 (x := f j) (y := y j) (b := 31) (c := 100) h2 h1
        omega
      omega
    | piece f g =>
      have wp := pW_pos y f g n
      have m := pl_min (c := y) (f := f) (g := g) (n := n) (s := 0) (w := 1) (by decide) (by decide)
      have e1 : plD y f g n 0 1 = sqD y f n := S_cong fun j _ => by grind
      rw [e1] at m
      have s1 := sm f hK.1
      have q1 : pN y f g n ≤ sqD y f n * pW y f g n := by omega
      have q2 : pN y f g n / pW y f g n ≤ sqD y f n := Int.ediv_le_of_le_mul (by omega) q1
      have q3 : -(-pN y f g n / pW y f g n) ≤ sqD y f n := (cl_le (by omega)).mpr q1
      have a := dn_b h.1 (by decide) (Int.le_trans q2 s1); have b := up_b2 h.2 (by decide) (Int.le_trans q3 s1)
      omega
    | boxes bs =>
      obtain ⟨m, hm, v2, v3⟩ := h
      obtain ⟨b, hb, rfl⟩ := List.mem_map.mp hm.mem
      have s1 : NR b.1 b.2 n y ≤ 1000 * 1000 := by
        have := (S_b (f := fun j => outF (y j) (b.1 j) (b.2 j) * outF (y j) (b.1 j) (b.2 j)) (b := 17161) (n := n) fun j hj => by
          have h1 := hy j hj; have h2 := hK b hb j hj
          have o : 0 ≤ outF (y j) (b.1 j) (b.2 j) ∧ outF (y j) (b.1 j) (b.2 j) ≤ 131 := by unfold outF mxI; (repeat' split) <;> omega
          have := ab_sq (x := outF (y j) (b.1 j) (b.2 j)) (b := 131) (by omega) (by omega)
          have := sqn0 (outF (y j) (b.1 j) (b.2 j))
          omega).2
        have e : NR b.1 b.2 n y = S (fun j => outF (y j) (b.1 j) (b.2 j) * outF (y j) (b.1 j) (b.2 j)) n := rfl
        rw [e]; omega
      have a := dn_b v2 (by decide) s1; have b := up_b2 v3 (by decide) s1
      omega
  refine key K ?_ h
  have sh : ∀ (a : Nat) (s : Int) (f : Nat → Int), -1 ≤ s → s ≤ 1 → (∀ j, j < n → -30 ≤ f j ∧ f j ≤ 30) → ∀ j, j < n → -31 ≤ shF a s f j ∧ shF a s f j ≤ 31 := fun a s f h1 h2 hf j hj => by
    have := hf j hj
    unfold shF; split <;> omega
  rcases hK with hK | ⟨a, s, K', rfl, hK, s0, s1⟩
  · cases K with
    | range f => exact fun j hj => by have := hK j hj; omega
    | clocked f => exact fun j hj => by have := hK j hj; omega
    | differ f g => exact ⟨fun j hj => by have := hK.1 j hj; omega, fun j hj => by have := hK.2 j hj; omega⟩
    | piece f g => exact ⟨fun j hj => by have := hK.1 j hj; omega, fun j hj => by have := hK.2 j hj; omega⟩
    | side f => exact fun j hj => by have := hK j hj; omega
    | boxes bs => exact fun b hb j hj => by have := hK.2 b hb j hj; omega
  · cases K' with
    | range f => exact sh a s f s0 s1 hK
    | clocked f => exact sh a s f s0 s1 hK
    | differ f g => exact ⟨sh a s f s0 s1 hK.1, sh a s g s0 s1 hK.2⟩
    | piece f g => exact ⟨sh a s f s0 s1 hK.1, sh a s g s0 s1 hK.2⟩
    | side f => exact fun j hj => by have := hK j hj; omega
    | boxes bs =>
      intro b hb j hj
      obtain ⟨b', hb', rfl⟩ := List.mem_map.mp hb
      have := hK.2 b' hb' j hj
      show -31 ≤ shF a s b'.1 j ∧ shF a s b'.1 j ≤ 31 ∧ -31 ≤ shF a s b'.2 j ∧ shF a s b'.2 j ≤ 31
      unfold shF; split <;> omega

/-! cut -/
/-! ### the root of the laws of drawn ways -/
def p2 (j : Nat) : Int := ((2 ^ j : Nat) : Int)
theorem p2_0 : p2 0 = 1 := rfl
theorem p2_succ (j : Nat) : p2 (j + 1) = p2 j * 2 := by unfold p2; rw [Nat.pow_succ, Int.natCast_mul]; rfl
theorem p2_pos (j : Nat) : 1 ≤ p2 j := by unfold p2; have := Nat.one_le_two_pow (n := j); omega
theorem p2_mono {i j : Nat} (h : i ≤ j) : p2 i ≤ p2 j := by unfold p2; have := Nat.pow_le_pow_right (n := 2) (by decide) h; omega
theorem p2_100 : p2 100 = 1267650600228229401496703205376 := by decide
theorem x_lroot {n : Int} {Q : D → Prop} (h0 : 0 ≤ n) (hn : n < 1606938044258990275541962092341162602522202993782792835301376) (h : ∀ r, IsDn n r → Q (.int r)) : runD 5 m__law_root [.int n] Q := by
  unfold runD startD m__law_root m__law_root_1 m__law_root_2
  walk_at "xd"
  have two : ∀ (hi : Int) (v3 : Sl), 1 ≤ hi → hi ≤ p2 100 → n < hi * hi → m__law_root_4 { nx := fun e => m__law_root_5 { nx := fun _ => Q .non, rt := Q } e, rt := Q } [.v (.int n), .v (.int 0), .v (.int hi), v3, .un] := by
    intro hi v3 h1 h2 h3
    have P := p2_100
    have out : ∀ (lo hi : Int) (v3 v4 : Sl), 0 ≤ lo → lo * lo ≤ n → n < hi * hi → lo < hi → hi - lo ≤ 1 → m__law_root_5 { nx := fun _ => Q .non, rt := Q } [.v (.int n), .v (.int lo), .v (.int hi), v3, v4] := fun lo hi v3 v4 a b c d e => by
      unfold m__law_root_5
      walk_at "xd"
      have : hi = lo + 1 := by omega
      subst this
      exact h lo ⟨a, b, c⟩
    unfold m__law_root_4
    walk_at "xd"
    refine forL_range (fun j e => ∃ (lo hi : Int) (v3 v4 : Sl), 0 ≤ lo ∧ lo * lo ≤ n ∧ n < hi * hi ∧ lo < hi ∧ hi ≤ p2 100 ∧ hi - lo ≤ p2 (100 - j) ∧ e = [.v (.int n), .v (.int lo), .v (.int hi), v3, v4]) ⟨0, hi, _, _, by omega, by omega, h3, by omega, h2, by show hi - 0 ≤ p2 100; omega, rfl⟩ ?_ ?_
    · rintro j e Z' hj ⟨lo, hi, v3, v4, a, b, c, d, g, k, rfl⟩ hnx _ _ hbk
      unfold m__law_root_4b m__law_root_4b_1 m__law_root_4b_2 m__law_root_4b_3
      walk_at "xd"
      by_cases z : hi - lo ≤ 1
      · rw [if_pos z]
        (try walk_at "xd")
        rw [hbk]
        (try dsimp only)
        exact out lo hi _ _ a b c d z
      · rw [if_neg z]
        walk_at "xd"
        obtain ⟨m, hm⟩ : ∃ m, m = (lo + hi) / 2 := ⟨_, rfl⟩
        rw [← hm]
        have m1 : lo < m := by omega
        have m2 : m < hi := by omega
        refine ⟨mul_big (by omega) (by omega) (by omega) (by omega), ?_⟩
        have half : ∀ x : Int, 2 * x ≤ hi - lo + 1 → x ≤ p2 (100 - (j + 1)) := fun x hx => by
          by_cases j1 : j < 100
          · have : 100 - j = 100 - (j + 1) + 1 := by omega
            rw [this, p2_succ] at k
            omega
          · have e0 : 100 - j = 0 := by omega
            rw [e0, p2_0] at k
            omega
        by_cases y : m * m ≤ n
        · rw [if_pos y]
          exact hnx _ ⟨m, hi, _, _, by omega, y, c, m2, g, half _ (by omega), rfl⟩
        · rw [if_neg y]
          exact hnx _ ⟨lo, m, _, _, a, b, by omega, m1, by omega, half _ (by omega), rfl⟩
    · rintro e ⟨lo, hi, v3, v4, a, b, c, d, g, k, rfl⟩
      exact out lo hi v3 v4 a b c d k
  unfold m__law_root_3
  walk_at "xd"
  have P := p2_100
  refine forL_range (fun j e => ∃ v3 : Sl, j ≤ 100 ∧ e = [.v (.int n), .v (.int 0), .v (.int (p2 j)), v3, .un]) ⟨_, Nat.zero_le _, rfl⟩ ?_ ?_
  · rintro j e Z' hj ⟨v3, hj1, rfl⟩ hnx _ _ hbk
    have q1 := p2_pos j
    have q2 := p2_mono hj1
    unfold m__law_root_3b m__law_root_3b_1 m__law_root_3b_2
    walk_at "xd"
    refine ⟨mul_big (by omega) (by omega) (by omega) (by omega), ?_⟩
    by_cases z : p2 j * p2 j > n
    · rw [if_pos z]
      (try walk_at "xd")
      rw [hbk]
      (try dsimp only)
      exact two _ _ q1 q2 z
    · rw [if_neg z]
      walk_at "xd"
      have j9 : j < 100 := by
        refine Nat.lt_of_le_of_ne hj1 fun e => ?_
        subst e
        rw [P] at z
        omega
      rw [← p2_succ] at *
      refine hnx _ ⟨_, by omega, rfl⟩
  · rintro e ⟨v3, hj1, rfl⟩
    omega
theorem x_lup {n : Int} {Q : D → Prop} (h0 : 0 ≤ n) (hn : n < 1606938044258990275541962092341162602522202993782792835301376) (h : ∀ r, IsUp n r → Q (.int r)) : runD 2 m__law_up [.int n] Q := by
  unfold runD startD m__law_up
  walk_at "xd"
  refine x_lroot h0 hn fun r hr => ?_
  have r1 := hr.nn; have r2 := hr.lo; have r3 := hr.up
  have P := p2_100
  have rb : r < 1267650600228229401496703205376 := Int.not_le.mp fun c => by
    have := sq_mono (show (0 : Int) ≤ 1267650600228229401496703205376 by decide) c
    omega
  walk_at "xd"
  refine ⟨mul_big (by omega) (by omega) (by omega) (by omega), ?_⟩
  by_cases z : r * r < n
  · simp only [z, decide_true, if_true]
    refine h _ ⟨by omega, by omega, fun _ => by rw [Int.add_sub_cancel]; exact z⟩
  · simp only [z, decide_false]
    refine h _ ⟨by simp; omega, by simp; omega, fun c => ?_⟩
    simp only [Bool.false_eq_true, if_false, Int.add_zero] at c ⊢
    have := sq_mono (show 0 ≤ r - 1 by omega) (show r - 1 ≤ r - 1 by omega)
    have e : r * r = (r - 1) * (r - 1) + 2 * (r - 1) + 1 := by grind
    omega

/-! cut -/
/-! ### values of kinds at a place, as the laws of drawn ways tell them -/
theorem x_lsq {q f : Nat → Int} {d : D} {n : Nat} {Q : D → Prop} (hn : n ≤ 3) (hd : d = ltD f n ∨ d = ptD f n) (hq : Pb q n) (hf : Pb f n) (h : Q (.int (sqD q f n))) : runD 3 m__law_square [ltD q n, d] Q := by
  have at_ : ∀ j, j < n → ∀ P : D → Prop, dIx d (.int (j : Int)) P = P (.int (f j)) := fun j hj P => by
    rcases hd with rfl | rfl
    · exact lt_at hj P
    · exact pt_at hj P
  unfold runD startD m__law_square
  walk_at "xd"
  rw [lt_len]
  walk_at "xd"
  refine ⟨inR_ok (by omega) (by omega), ?_⟩
  rw [Int.toNat_natCast, range0D]
  refine lcL_of _ (fun j : Nat => D.int ((q j - f j) * (q j - f j))) _ _ ?_ (fun x hx P hP => ?_) ?_
  · simp; show n ≤ 16777216; omega
  · have hx := List.mem_range.mp hx
    have := hf x hx
    have := hq x hx
    have ax := at_ x hx
    iterate 5
      walk_at "xd"
      (try simp only [ax, lt_at hx])
    walk_at "xd"
    exact ⟨mulOk_l (by omega) (by omega), hP _ rfl⟩
  · rw [List.nil_append]; exact nSum_of h
theorem x_lpc {c f g : Nat → Int} {n : Nat} {Q : D → Prop} (hn : n ≤ 3) (hc : Pb c n) (hf : Pb f n) (hg : Pb g n) (h : Q (.tup [.int (pN c f g n / pW c f g n), .int (-(-pN c f g n / pW c f g n))])) : runD 10 m__law_piece [ltD c n, ptD f n, ptD g n] Q := by
  have K := pc_ok hn hc hf hg
  have ka := K.a; have kb := K.b; have kw := K.w; have kr := K.r
  have el : ∀ (p : Nat → Int), nLen [ptD p n] = fun Q => Q (.int n) := fun p => by funext Q; show Q (.int _) = _; simp
  unfold runD startD m__law_piece m__law_piece_1 m__law_piece_2 m__law_piece_3 m__law_piece_4
  walk_at "xd"
  rw [el]
  walk_at "xd"
  refine ⟨inR_ok (by omega) (by omega), ?_⟩
  rw [Int.toNat_natCast, range0D]
  refine lcL_of _ (fun j : Nat => D.int (g j - f j)) _ _ ?_ (fun x hx P hP => ?_) ?_
  · simp; show n ≤ 16777216; omega
  · have hx := List.mem_range.mp hx
    iterate 3
      walk_at "xd"
      (try simp only [pt_at hx])
    walk_at "xd"
    exact hP _ rfl
  rw [List.nil_append]
  walk_at "xd"
  (try rw [el]); (try walk_at "xd")
  refine ⟨inR_ok (by omega) (by omega), ?_⟩
  (try rw [Int.toNat_natCast]); (try rw [range0D])
  refine lcL_of _ (fun j : Nat => D.int (c j - f j)) _ _ ?_ (fun x hx P hP => ?_) ?_
  · simp; show n ≤ 16777216; omega
  · have hx := List.mem_range.mp hx
    iterate 3
      walk_at "xd"
      (try simp only [pt_at hx, lt_at hx])
    walk_at "xd"
    exact hP _ rfl
  rw [List.nil_append]
  walk_at "xd"
  refine lcL_of (fun j : Nat => D.int (g j - f j)) (fun j : Nat => D.int ((g j - f j) * (g j - f j))) _ _ ?_ (fun x hx P hP => ?_) ?_
  · simp; show n ≤ 16777216; omega
  · have hx := List.mem_range.mp hx
    have := hf x hx; have := hg x hx
    walk_at "xd"
    exact ⟨mulOk_l (by omega) (by omega), hP _ rfl⟩
  rw [List.nil_append]
  refine nSum_of ?_
  have e1 : ((List.range n).map fun j => (g j - f j) * (g j - f j)).sum = plW f g n := rfl
  rw [e1]
  walk_at "xd"
  (try rw [el]); (try walk_at "xd")
  refine ⟨inR_ok (by omega) (by omega), ?_⟩
  (try rw [Int.toNat_natCast]); (try rw [range0D])
  have fl1 : (D.lst ((List.range n).map fun j => D.int (c j - f j)) : D) = ltD (fun j => c j - f j) n := rfl
  have fl2 : (D.lst ((List.range n).map fun j => D.int (g j - f j)) : D) = ltD (fun j => g j - f j) n := rfl
  (try rw [fl1]); (try rw [fl2])
  refine lcL_of _ (fun j : Nat => D.int ((c j - f j) * (g j - f j))) _ _ ?_ (fun x hx P hP => ?_) ?_
  · simp; show n ≤ 16777216; omega
  · have hx := List.mem_range.mp hx
    have := hf x hx; have := hg x hx; have := hc x hx
    iterate 3
      walk_at "xd"
      (try simp only [lt_at hx])
    walk_at "xd"
    exact ⟨mulOk_l (by omega) (by omega), hP _ rfl⟩
  rw [List.nil_append]
  refine nSum_of ?_
  have e2 : ((List.range n).map fun j => (c j - f j) * (g j - f j)).sum = plR c f g n := rfl
  rw [e2]
  unfold m__law_piece_5
  walk_at "xd"
  unfold pN pW at h
  by_cases c1 : plR c f g n ≤ 0
  · rw [if_pos c1]
    rw [if_pos c1, if_pos c1, Int.ediv_one, Int.ediv_one, Int.neg_neg] at h
    walk_at "xd"
    refine x_lsq hn (.inr rfl) hc hf ?_
    walk_at "xd"
    refine x_lsq hn (.inr rfl) hc hf ?_
    walk_at "xd"
    exact h
  rw [if_neg c1]
  rw [if_neg c1, if_neg c1] at h
  unfold m__law_piece_6
  walk_at "xd"
  by_cases c2 : plR c f g n ≥ plW f g n
  · rw [if_pos c2]
    rw [if_pos c2, if_pos c2, Int.ediv_one, Int.ediv_one, Int.neg_neg] at h
    walk_at "xd"
    refine x_lsq hn (.inr rfl) hc hg ?_
    walk_at "xd"
    refine x_lsq hn (.inr rfl) hc hg ?_
    walk_at "xd"
    exact h
  rw [if_neg c2]
  rw [if_neg c2, if_neg c2] at h
  unfold m__law_piece_7
  walk_at "xd"
  (try rw [fl1])
  refine lcL_of (fun j : Nat => D.int (c j - f j)) (fun j : Nat => D.int ((c j - f j) * (c j - f j))) _ _ ?_ (fun x hx P hP => ?_) ?_
  · simp; show n ≤ 16777216; omega
  · have hx := List.mem_range.mp hx
    have := hf x hx; have := hc x hx
    walk_at "xd"
    exact ⟨mulOk_l (by omega) (by omega), hP _ rfl⟩
  rw [List.nil_append]
  refine nSum_of ?_
  have e3 : ((List.range n).map fun j => (c j - f j) * (c j - f j)).sum = plA c f n := rfl
  rw [e3]
  unfold m__law_piece_8
  walk_at "xd"
  (try rw [e1])
  refine ⟨mul_big (by omega) (by omega) (by omega) (by omega), ?_⟩
  simp only [Int.zero_sub]
  repeat' (first | exact h | exact div_big (by omega) (by omega) | exact mul_big (by omega) (by omega) (by omega) (by omega) | refine And.intro ?_ ?_ | omega)

/-! cut -/
def minF (a : Option Int) (x : Int) : Option Int := match a with
  | none => some x
  | some b => if x < b then some x else some b
def bestL (xs : List Int) : Option Int := xs.foldl minF none
theorem best_snoc (xs : List Int) (x : Int) : bestL (xs ++ [x]) = minF (bestL xs) x := by unfold bestL; rw [List.foldl_append]; rfl
theorem best_is : ∀ (n : Nat) (xs : List Int), xs.length = n → match bestL xs with
    | none => xs = []
    | some b => IsMin xs b
  | 0, xs, h => by
    have : xs = [] := List.length_eq_zero_iff.mp h
    subst this; rfl
  | n + 1, xs, h => by
    obtain ⟨ys, y, rfl⟩ : ∃ ys y, xs = ys ++ [y] := ⟨xs.dropLast, xs.getLast (by intro z; rw [z] at h; cases h), (List.dropLast_concat_getLast _).symm⟩
    have ih := best_is n ys (by simpa using h)
    rw [best_snoc]
    cases e : bestL ys with
    | none =>
      rw [e] at ih
      have ih : ys = [] := ih
      subst ih
      exact ⟨by simp, fun x hx => by simp at hx; rw [hx]; exact Int.le_refl _⟩
    | some b =>
      rw [e] at ih
      have ih : IsMin ys b := ih
      unfold minF
      by_cases c : y < b
      · simp only [c, if_true]
        refine ⟨by simp, fun x hx => ?_⟩
        rcases List.mem_append.mp hx with z | z
        · have := ih.le x z; omega
        · rw [List.mem_singleton.mp z]; exact Int.le_refl _
      · simp only [c, if_false]
        refine ⟨List.mem_append.mpr (.inl ih.mem), fun x hx => ?_⟩
        rcases List.mem_append.mp hx with z | z
        · exact ih.le x z
        · rw [List.mem_singleton.mp z]; omega
def bestI (o : Option Int) : Int := match o with
  | none => -1
  | some b => b
theorem x_lbx {q : Nat → Int} {n : Nat} {bs : List ((Nat → Int) × (Nat → Int))} {Q : D → Prop} (hn : n ≤ 3) (hq : Pb q n) (hk : SkOk n (.boxes bs)) (h : ∀ m, IsMin (bs.map fun c => NR c.1 c.2 n q) m → Q (.int m)) : runD 7 m__law_boxes [ltD q n, .tup (bs.map fun b => bxD b.1 b.2 n)] Q := by
  obtain ⟨l1, l2, hb⟩ := hk
  unfold runD startD m__law_boxes m__law_boxes_1 m__law_boxes_2
  walk_at "xd"
  refine forL_inv (fun i e => ∃ v3 v4 v5 v6 : Sl, e = [.v (ltD q n), .v (.tup (bs.map fun b => bxD b.1 b.2 n)), .v (.int (bestI (bestL ((bs.take i).map fun c => NR c.1 c.2 n q)))), v3, v4, v5, v6]) _ _ 0 _ ⟨_, _, _, _, rfl⟩ ?_ ?_
  · rintro i x e Z' hi ⟨v3, v4, v5, v6, rfl⟩ hnx _ _ _
    have hil : i < bs.length := by have := (List.getElem?_eq_some_iff.mp hi).1; simpa using this
    obtain ⟨c, hc⟩ : ∃ c, c = bs[i] := ⟨_, rfl⟩
    have hcb : Bd c.1 c.2 n := hb c (by rw [hc]; exact List.getElem_mem hil)
    have hx : x = bxD c.1 c.2 n := by
      rw [List.getElem?_map, List.getElem?_eq_getElem hil, ← hc] at hi
      exact (Option.some.inj hi).symm
    subst hx
    have tk : bs.take (i + 1) = bs.take i ++ [c] := by rw [List.take_add_one, List.getElem?_eq_getElem hil, ← hc]; rfl
    simp only [Nat.zero_add] at hnx ⊢
    rw [tk, List.map_append, List.map_cons, List.map_nil, best_snoc] at hnx
    have nn : ∀ b, bestL ((bs.take i).map fun c => NR c.1 c.2 n q) = some b → 0 ≤ b := fun b e => by
      have := best_is _ _ (rfl : ((bs.take i).map fun c => NR c.1 c.2 n q).length = _)
      rw [e] at this
      have this : IsMin _ b := this
      obtain ⟨z, _, rfl⟩ := List.mem_map.mp this.mem
      exact S_nn fun j _ => sqn0 _
    unfold m__law_boxes_2b m__law_boxes_2b_1 m__law_boxes_2b_2
    walk_at "xd"
    rw [lt_len]
    walk_at "xd"
    refine ⟨inR_ok (by omega) (by omega), ?_⟩
    rw [Int.toNat_natCast]
    refine forL_range (fun j e => ∃ v5 v6 : Sl, e = [.v (ltD q n), .v (.tup (bs.map fun b => bxD b.1 b.2 n)), .v (.int (bestI (bestL ((bs.take i).map fun c => NR c.1 c.2 n q)))), .v (bxD c.1 c.2 n), .v (.int (NR c.1 c.2 j q)), v5, v6]) ⟨_, _, rfl⟩ ?_ ?_
    · rintro j e Z2 hj ⟨v5, v6, rfl⟩ hnx2 _ _ _
      have := hcb j hj
      have := hq j hj
      have g : 0 ≤ outF (q j) (c.1 j) (c.2 j) ∧ outF (q j) (c.1 j) (c.2 j) ≤ 100000000000000 := by unfold outF mxI; omega
      unfold m__law_boxes_2b_2b m__law_boxes_2b_2b_1 m__law_boxes_2b_2b_2
      walk_at "xd"
      rw [Int.zero_add]
      iterate 6
        (try simp only [bx_at hj, lt_at hj])
        walk_at "xd"
      refine ⟨mulOk_l (by show _ < outF (q j) (c.1 j) (c.2 j); omega) (by show outF (q j) (c.1 j) (c.2 j) < _; omega), ?_⟩
      have e3 : NR c.1 c.2 (j + 1) q = NR c.1 c.2 j q + outF (q j) (c.1 j) (c.2 j) * outF (q j) (c.1 j) (c.2 j) := S_succ _ _
      rw [e3] at hnx2
      exact hnx2 _ ⟨_, _, rfl⟩
    · rintro e ⟨v5, v6, rfl⟩
      unfold m__law_boxes_2b_3
      walk_at "xd"
      have n0 : 0 ≤ NR c.1 c.2 n q := S_nn fun j _ => sqn0 _
      cases eb : bestL ((bs.take i).map fun c => NR c.1 c.2 n q) with
      | none =>
        rw [eb] at hnx
        unfold bestI minF at *
        walk_at "xd"
        exact hnx _ ⟨_, _, _, _, rfl⟩
      | some b =>
        have b0 := nn b eb
        rw [eb] at hnx
        unfold bestI minF at *
        dsimp only at *
        rw [if_neg (by omega)]
        walk_at "xd"
        by_cases z : NR c.1 c.2 n q < b
        · rw [if_pos z] at hnx ⊢
          walk_at "xd"
          exact hnx _ ⟨_, _, _, _, rfl⟩
        · rw [if_neg z] at hnx ⊢
          walk_at "xd"
          exact hnx _ ⟨_, _, _, _, rfl⟩
  · rintro e ⟨v3, v4, v5, v6, rfl⟩
    unfold m__law_boxes_3
    walk_at "xd"
    (try rw [Nat.zero_add]); (try rw [List.length_map]); rw [List.take_length]
    have := best_is _ _ (rfl : (bs.map fun c => NR c.1 c.2 n q).length = _)
    cases eb : bestL (bs.map fun c => NR c.1 c.2 n q) with
    | none =>
      rw [eb] at this
      have this : (bs.map fun c => NR c.1 c.2 n q) = [] := this
      have : bs = [] := List.map_eq_nil_iff.mp this
      subst this
      simp at l1
    | some b =>
      rw [eb] at this
      exact h b this
theorem x_lval {y : Nat → Int} {n : Nat} {k : SK} {c : Int} {Q : D → Prop} (hn1 : 1 ≤ n) (hn : n ≤ 3) (hk : SkOk n k) (hy : Pb y n) (h : ∀ a b, VR n y c k a b → Q (.tup [.int a, .int b])) : runD 10 m__law_value [skD n k, ltD y n, .int c] Q := by
  have sqb : ∀ f : Nat → Int, Pb f n → 0 ≤ sqD y f n ∧ sqD y f n ≤ 100000000000000000000000000000000000 := fun f hf => by
    refine ⟨S_nn fun j _ => sqn0 _, ?_⟩
    have := (S_b (f := fun j => (y j - f j) * (y j - f j)) (b := 10000000000000000000000000000) (n := n) fun j hj => by
      have := hy j hj; have := hf j hj
      have := ab_sq (x := y j - f j) (b := 100000000000000) (by omega) (by omega)
      have := sqn0 (y j - f j)
      omega).2
    have e : sqD y f n = S (fun j => (y j - f j) * (y j - f j)) n := rfl
    rw [e]; omega
  unfold runD startD m__law_value m__law_value_1
  cases k with
  | side f =>
    have hf : ∀ j, j < n → -1001 ≤ f j ∧ f j ≤ 1001 := hk
    unfold skD
    walk_at "xd"; walk_at "xk"; walk_at "xd"
    rw [lt_len]
    walk_at "xd"
    refine ⟨inR_ok (by omega) (by omega), ?_⟩
    rw [Int.toNat_natCast, range0D]
    refine lcL_of _ (fun j : Nat => D.int (f j * y j)) _ _ ?_ (fun x hx P hP => ?_) ?_
    · simp; show n ≤ 16777216; omega
    · have hx := List.mem_range.mp hx
      have := hf x hx; have := hy x hx
      iterate 4
        walk_at "xd"
        (try simp only [pt_at hx, lt_at hx])
      walk_at "xd"
      exact ⟨mulOk_l (by omega) (by omega), hP _ rfl⟩
    rw [List.nil_append]
    refine nSum_of ?_
    walk_at "xd"
    exact h _ _ ⟨rfl, rfl⟩
  | piece f g =>
    have K := pc_ok hn hy hk.1 hk.2
    have kq := K.q; have kw := K.w0; have kn := K.n0
    unfold skD m__law_value_2
    walk_at "xd"; walk_at "xk"; walk_at "xd"; walk_at "xk"; walk_at "xd"
    refine x_lpc hn hy hk.1 hk.2 ?_
    walk_at "xd"
    refine x_lroot kq.1 (by omega) fun r hr => ?_
    have ub := (cl_le (N := pN y f g n) (W := pW y f g n) (u := pN y f g n / pW y f g n + 1) kw.1).mpr (by
      have f0 := Int.mul_ediv_add_emod (pN y f g n) (pW y f g n)
      have f2 := Int.emod_lt_of_pos (pN y f g n) (show 0 < pW y f g n by omega)
      have e : (pN y f g n / pW y f g n + 1) * pW y f g n = pW y f g n * (pN y f g n / pW y f g n) + pW y f g n := by grind
      rw [e]; omega)
    have u0 : 0 ≤ -(-pN y f g n / pW y f g n) := by
      refine Int.not_lt.mp fun z => ?_
      have := (cl_le (N := pN y f g n) (W := pW y f g n) (u := -1) kw.1).mp (by omega)
      omega
    refine x_lup u0 (by omega) fun s hs => ?_
    walk_at "xd"
    exact h _ _ ⟨hr, hs⟩
  | boxes bs =>
    obtain ⟨l1, l2, hb⟩ := id hk
    unfold skD m__law_value_2 m__law_value_3
    walk_at "xd"; walk_at "xk"; walk_at "xd"; walk_at "xk"; walk_at "xd"; walk_at "xk"; walk_at "xd"
    refine x_lbx hn hy hk fun m hm => ?_
    have mb : 0 ≤ m ∧ m ≤ 100000000000000000000000000000000000 := by
      obtain ⟨c, hc, rfl⟩ := List.mem_map.mp hm.mem
      refine ⟨S_nn fun j _ => sqn0 _, ?_⟩
      have hcb := hb c hc
      have := (S_b (f := fun j => outF (y j) (c.1 j) (c.2 j) * outF (y j) (c.1 j) (c.2 j)) (b := 10000000000000000000000000000) (n := n) fun j hj => by
        have h1 := hy j hj; have h2 := hcb j hj
        have o : 0 ≤ outF (y j) (c.1 j) (c.2 j) ∧ outF (y j) (c.1 j) (c.2 j) ≤ 100000000000000 := by unfold outF mxI; (repeat' split) <;> omega
        have := ab_sq (x := outF (y j) (c.1 j) (c.2 j)) (b := 100000000000000) (by omega) (by omega)
        have := sqn0 (outF (y j) (c.1 j) (c.2 j))
        omega).2
      have e : NR c.1 c.2 n y = S (fun j => outF (y j) (c.1 j) (c.2 j) * outF (y j) (c.1 j) (c.2 j)) n := rfl
      rw [e]; omega
    walk_at "xd"
    refine x_lroot mb.1 (by omega) fun r hr => ?_
    refine x_lup mb.1 (by omega) fun s hs => ?_
    walk_at "xd"
    exact h _ _ ⟨m, hm, hr, hs⟩
  | differ f g =>
    have s1 := sqb f hk.1; have s2 := sqb g hk.2
    unfold skD m__law_value_2 m__law_value_3 m__law_value_4
    walk_at "xd"; walk_at "xk"; walk_at "xd"; walk_at "xk"; walk_at "xd"; walk_at "xk"; walk_at "xd"
    refine x_lsq hn (.inr rfl) hy hk.1 ?_
    unfold m__law_value_5
    walk_at "xd"; walk_at "xk"; walk_at "xd"
    refine x_lsq hn (.inr rfl) hy hk.2 ?_
    walk_at "xd"
    refine x_lroot s1.1 (by omega) fun r hr => ?_
    refine x_lup s2.1 (by omega) fun s hs => ?_
    refine x_lup s1.1 (by omega) fun r' hr' => ?_
    refine x_lroot s2.1 (by omega) fun s' hs' => ?_
    walk_at "xd"
    exact h _ _ ⟨r, r', s', s, hr, hr', hs', hs, rfl, rfl⟩
  | clocked f =>
    have hf : Pb f n := hk
    have s1 := sqb f hf
    unfold skD m__law_value_2 m__law_value_3 m__law_value_4
    walk_at "xd"; walk_at "xk"; walk_at "xd"; walk_at "xk"; walk_at "xd"; walk_at "xk"; walk_at "xd"
    refine x_lsq hn (.inr rfl) hy hf ?_
    unfold m__law_value_5 m__law_value_6 m__law_value_7
    walk_at "xd"; walk_at "xk"; walk_at "xd"; walk_at "xk"; walk_at "xd"
    refine x_lroot s1.1 (by omega) fun r hr => ?_
    refine x_lup s1.1 (by omega) fun s hs => ?_
    walk_at "xd"
    rw [Int.mul_one]
    exact h _ _ ⟨by rw [Int.add_sub_cancel]; exact hr, by rw [Int.add_sub_cancel]; exact hs⟩
  | range f =>
    have hf : Pb f n := hk
    have s1 := sqb f hf
    unfold skD m__law_value_2 m__law_value_3 m__law_value_4
    walk_at "xd"; walk_at "xk"; walk_at "xd"; walk_at "xk"; walk_at "xd"; walk_at "xk"; walk_at "xd"
    refine x_lsq hn (.inr rfl) hy hf ?_
    unfold m__law_value_5 m__law_value_6 m__law_value_7
    walk_at "xd"; walk_at "xk"; walk_at "xd"; walk_at "xk"; walk_at "xd"
    refine x_lroot s1.1 (by omega) fun r hr => ?_
    refine x_lup s1.1 (by omega) fun s hs => ?_
    walk_at "xd"
    rw [Int.mul_zero, Int.add_zero, Int.add_zero]
    exact h _ _ ⟨hr, hs⟩

/-! cut -/
/-! ### the drawn ways of the laws -/
structure Wy where
  pl : Nat → Int
  ck : Int
  tn : Int
  v1 : Nat → Int
  v2 : Nat → Int
  d1 : Int
  d2 : Int
def wyD (n : Nat) (w : Wy) : D := .tup [ltD w.pl n, .int w.ck, .int w.tn, ltD w.v1 n, ltD w.v2 n, .int w.d1, .int w.d2]
structure Wy.Ok (w : Wy) (n : Nat) (s r p : Int) : Prop where
  pb : ∀ j, -15 ≤ w.pl j ∧ w.pl j ≤ 15
  cb : -4 ≤ w.ck ∧ w.ck ≤ 4
  tb : -4 ≤ w.tn ∧ w.tn ≤ 4
  b1 : ∀ j, -3 ≤ w.v1 j ∧ w.v1 j ≤ 3
  b2 : ∀ j, -3 ≤ w.v2 j ∧ w.v2 j ≤ 3
  s1 : p * p * S (fun j => w.v1 j * w.v1 j) n ≤ s * s
  s2 : p * p * S (fun j => w.v2 j * w.v2 j) n ≤ s * s
  c1 : -(r / p) ≤ w.d1 ∧ w.d1 ≤ r / p
  c2 : -(r / p) ≤ w.d2 ∧ w.d2 ≤ r / p
  e1 : -2 ≤ w.d1 ∧ w.d1 ≤ 2
  e2 : -2 ≤ w.d2 ∧ w.d2 ≤ 2
def Wy.vt (w : Wy) (t : Int) : Nat → Int := if t - w.tn < 0 then w.v1 else w.v2
def Wy.dt (w : Wy) (t : Int) : Int := if t - w.tn < 0 then w.d1 else w.d2
def Wy.at (w : Wy) (t : Int) (j : Nat) : Int := w.pl j + w.vt t j * (t - w.tn)
def Wy.clk (w : Wy) (t : Int) : Int := w.ck + w.dt t * (t - w.tn)
def Wy.all (w : Wy) (n : Nat) (t : Int) (j : Nat) : Int := if j < n then w.at t j else w.clk t
theorem Wy.Ok.bd {w : Wy} {n : Nat} {s r p t : Int} (k : w.Ok n s r p) (ht : -24 ≤ t ∧ t ≤ 24) : (∀ j, -100 ≤ w.at t j ∧ w.at t j ≤ 100) ∧ (-100 ≤ w.clk t ∧ w.clk t ≤ 100) := by
  have tb := k.tb
  constructor
  · intro j
    have pb := k.pb j
    have vb : -3 ≤ w.vt t j ∧ w.vt t j ≤ 3 := by unfold Wy.vt; split <;> first | exact k.b1 j | exact k.b2 j
    have := ab_mul2 (x := w.vt t j) (y := t - w.tn) (b := 3) (c := 28) (by omega) (by omega)
    unfold Wy.at; omega
  · have cb := k.cb
    have vb : -2 ≤ w.dt t ∧ w.dt t ≤ 2 := by unfold Wy.dt; split <;> first | exact k.e1 | exact k.e2
    have := ab_mul2 (x := w.dt t) (y := t - w.tn) (b := 2) (c := 28) (by omega) (by omega)
    unfold Wy.clk; omega
theorem x_lset {z : Int} {Q : D → Prop} (h : ∀ (n : Nat) s r p, (n = 2 ∨ n = 3) → SetOk (n : Int) s r p → s ≤ 8 → r ≤ 2 → p ≤ 3 → Q (setD cl (n : Int) s r p)) : runD 2 (m__law_setting cl) [.int z] Q := by
  unfold runD startD m__law_setting
  walk_at "xd"
  obtain ⟨n, hn, h2⟩ : ∃ n : Nat, 2 + z % 2 = (n : Int) ∧ (n = 2 ∨ n = 3) := ⟨(2 + z % 2).toNat, by omega, by omega⟩
  rw [hn]
  have k' : SetOk (n : Int) (z / 2 % 9) (z / 18 % 3) (1 + z / 54 % 3) := ⟨by omega, by omega, by omega, by omega, by omega, by omega, by omega⟩
  exact x_mkset k' (h n _ _ _ h2 k' (by omega) (by omega) (by omega))
theorem lw_dims {d s r p : Int} {Q : D → Prop} : qFld (setD cl d s r p) "dims" Q = Q (.int d) := f_Setting_dims
theorem lw_speed {d s r p : Int} {Q : D → Prop} : qFld (setD cl d s r p) "speed" Q = Q (.int s) := f_Setting_speed
theorem lw_drift {d s r p : Int} {Q : D → Prop} : qFld (setD cl d s r p) "drift" Q = Q (.int r) := f_Setting_drift
theorem lw_per {d s r p : Int} {Q : D → Prop} : qFld (setD cl d s r p) "per" Q = Q (.int p) := f_Setting_per
def bn7 (j : Nat) : Int := if j = 0 then 3 else if j = 1 then 1 else 0
def hl7 (v : Int) : Int := (if v < 0 then -v else v) / 2 * (1 - 2 * (if v < 0 then 1 else 0))
theorem hl7_b {v : Int} {j : Nat} (h : -bn7 j ≤ v ∧ v ≤ bn7 j) : -bn7 (j + 1) ≤ hl7 v ∧ hl7 v ≤ bn7 (j + 1) := by
  have e : ∀ j, bn7 (j + 1) = bn7 j / 2 := fun j => by
    unfold bn7
    match j with
    | 0 => rfl
    | 1 => rfl
    | k + 2 => rfl
  have b0 : 0 ≤ bn7 j := by unfold bn7; (repeat' split) <;> omega
  rw [e]
  unfold hl7
  by_cases c : v < 0
  · rw [if_pos c, if_pos c]; omega
  · rw [if_neg c, if_neg c]; omega
theorem x_lvel {s r p z : Int} {n : Nat} {Q : D → Prop} (hn : n ≤ 3) (so : SetOk (n : Int) s r p) (h : ∀ v : Nat → Int, (∀ j, -3 ≤ v j ∧ v j ≤ 3) → p * p * S (fun j => v j * v j) n ≤ s * s → Q (ltD v n)) : runD 7 m__law_velocity [setD cl (n : Int) s r p, .int z] Q := by
  have k1 := so.s0; have k2 := so.s1; have k5 := so.p0; have k6 := so.p1
  unfold runD startD m__law_velocity
  iterate 2
    walk_at "xd"
    (try simp only [lw_dims])
  walk_at "xd"
  refine x_digits (by decide) (by decide) (by omega) fun d hd => ?_
  walk_at "xd"
  refine lcL_of (fun (j : Nat) => D.int (d j)) (fun (j : Nat) => D.int (d j - 3)) _ _ ?_ (fun j hj P hP => ?_) ?_
  · simp; show n ≤ 16777216; omega
  · walk_at "xd"
    exact hP _ rfl
  rw [List.nil_append]
  walk_at "xd"
  refine forL_range (fun j e => ∃ (v : Nat → Int) (v4 v5 : Sl), (∀ i, -bn7 j ≤ v i ∧ v i ≤ bn7 j) ∧ j ≤ 2 ∧ e = [.v (setD cl (n : Int) s r p), .v (.int z), .v (ltD v n), .un, v4, v5, .un]) ⟨fun j => d j - 3, _, _, fun i => by have := hd i; show -3 ≤ d i - 3 ∧ d i - 3 ≤ 3; omega, by omega, rfl⟩ ?_ ?_
  · rintro j e Z' hj ⟨v, v4, v5, hv, hj3, rfl⟩ hnx _ _ hbk
    have b4 : bn7 j ≤ 3 := by unfold bn7; (repeat' split) <;> omega
    have sq : ∀ Q : List D → Prop, dSeq (ltD v n) Q = Q ((List.range n).map fun j => D.int (v j)) := fun Q => rfl
    walk_at "xd"
    (try simp only [sq])
    refine lcL_of (fun (j : Nat) => D.int (v j)) (fun (j : Nat) => D.int (v j * v j)) _ _ ?_ (fun i hi P hP => ?_) ?_
    · simp; show n ≤ 16777216; omega
    · have := hv i
      walk_at "xd"
      exact ⟨mulOk_l (by omega) (by omega), hP _ rfl⟩
    rw [List.nil_append]
    refine nSum_of ?_
    have e1 : ((List.range n).map fun j => v j * v j).sum = S (fun j => v j * v j) n := rfl
    rw [e1]
    have s0 : 0 ≤ S (fun j => v j * v j) n := S_nn fun j _ => sqn0 _
    have s1 := (S_b (f := fun j => v j * v j) (b := 16) (n := n) fun i _ => by
      have := hv i
      have := ab_sq (x := v i) (b := 4) (by omega) (by omega)
      have := sqn0 (v i)
      omega).2
    have pp := ab_mul2 (x := p) (y := p) (b := 1000000000000) (c := 1000000000000) (by omega) (by omega)
    iterate 3
      walk_at "xd"
      (try simp only [lw_per, lw_speed])
    walk_at "xd"
    refine ⟨mulOk_l (by omega) (by omega), mul_big (by omega) (by omega) (by omega) (by omega), mulOk_l (by omega) (by omega), ?_⟩
    by_cases c : p * p * S (fun j => v j * v j) n ≤ s * s
    · rw [if_pos c]
      walk_at "xd"
      rw [hbk]
      walk_at "xd"
      exact h v (fun i => by have := hv i; omega) c
    · rw [if_neg c]
      by_cases j3 : j = 2
      · exfalso
        subst j3
        have z0 : S (fun j => v j * v j) n = 0 := by
          have : S (fun j => v j * v j) n = S (fun _ => 0) n := S_cong fun i _ => by
            have := hv i
            have e0 : v i = 0 := by have : bn7 2 = 0 := rfl; omega
            rw [e0]; rfl
          rw [this]
          have b0 := S_b (f := fun _ => 0) (b := 0) (n := n) fun j _ => by omega
          omega
        rw [z0, Int.mul_zero] at c
        have := sqn0 s
        omega
      · walk_at "xd"
        (try simp only [sq])
        refine lcL_of (fun (j : Nat) => D.int (v j)) (fun (j : Nat) => D.int (hl7 (v j))) _ _ ?_ (fun i hi P hP => ?_) ?_
        · simp; show n ≤ 16777216; omega
        · have := hv i
          walk_at "xd"
          (try simp only [decide_eq_true_eq])
          refine ⟨mulOk_l (by split <;> omega) (by split <;> omega), ?_⟩
          exact hP _ rfl
        rw [List.nil_append]
        exact hnx _ ⟨fun i => hl7 (v i), _, _, fun i => hl7_b (hv i), by omega, rfl⟩
  · rintro e ⟨v, v4, v5, hv, hj3, rfl⟩
    exfalso
    have hj3 : 8 ≤ 2 := hj3
    omega
theorem x_lway {s r p a b c : Int} {n : Nat} {Q : D → Prop} (h2 : n = 2 ∨ n = 3) (so : SetOk (n : Int) s r p) (r2 : r ≤ 2) (h : ∀ w : Wy, w.Ok n s r p → Q (wyD n w)) : runD 9 m__law_way [setD cl (n : Int) s r p, .lst [.int a, .int b, .int c]] Q := by
  have k1 := so.r0; have k5 := so.p0; have k6 := so.p1
  unfold runD startD m__law_way
  iterate 2
    walk_at "xd"
    (try simp only [lw_dims])
  refine x_digits (by decide) (by decide) (by omega) fun d hd => ?_
  walk_at "xd"
  refine lcL_of (fun (j : Nat) => D.int (d j)) (fun (j : Nat) => D.int (d j - 15)) _ _ ?_ (fun j hj P hP => ?_) ?_
  · simp; show n ≤ 16777216; omega
  · walk_at "xd"
    exact hP _ rfl
  rw [List.nil_append]
  iterate 3
    walk_at "xd"
    (try simp only [lw_drift, lw_per])
  walk_at "xd"
  have D0 : 0 ≤ r / p := Int.ediv_nonneg k1 (by omega)
  have D1 : r / p ≤ r := Int.ediv_le_self _ k1
  refine ⟨cdiv_ok (by omega) (by omega), by omega, by omega, ?_⟩
  refine x_lvel (by omega) so fun v1 a1 a2 => ?_
  refine x_lvel (by omega) so fun v2 b1 b2 => ?_
  have m1 := mod_pos (c := b) (m := 2 * (r / p) + 1) (by omega)
  have m2 := mod_pos (c := b / 16) (m := 2 * (r / p) + 1) (by omega)
  exact h ⟨fun j => d j - 15, b / 256 % 9 - 4, b / 4096 % 9 - 4, v1, v2, b % (2 * (r / p) + 1) - r / p, b / 16 % (2 * (r / p) + 1) - r / p⟩ ⟨fun j => by have := hd j; show -15 ≤ d j - 15 ∧ d j - 15 ≤ 15; omega, by show -4 ≤ b / 256 % 9 - 4 ∧ b / 256 % 9 - 4 ≤ 4; omega, by show -4 ≤ b / 4096 % 9 - 4 ∧ b / 4096 % 9 - 4 ≤ 4; omega, a1, b1, a2, b2, by show -(r / p) ≤ b % (2 * (r / p) + 1) - r / p ∧ b % (2 * (r / p) + 1) - r / p ≤ r / p; omega, by show -(r / p) ≤ b / 16 % (2 * (r / p) + 1) - r / p ∧ b / 16 % (2 * (r / p) + 1) - r / p ≤ r / p; omega, by show -2 ≤ b % (2 * (r / p) + 1) - r / p ∧ b % (2 * (r / p) + 1) - r / p ≤ 2; omega, by show -2 ≤ b / 16 % (2 * (r / p) + 1) - r / p ∧ b / 16 % (2 * (r / p) + 1) - r / p ≤ 2; omega⟩
theorem x_lat {t s r p : Int} {n : Nat} {w : Wy} {Q : D → Prop} (hn : n ≤ 3) (k : w.Ok n s r p) (h : Q (ltD (w.all n t) (n + 1))) : runD 14 m__law_at [wyD n w, .int t] Q := by
  unfold runD startD m__law_at m__law_at_1 m__law_at_2 m__law_at_3 m__law_at_4 m__law_at_5 wyD
  have fin : ∀ (v : Nat → Int) (d : Int), v = w.vt t → d = w.dt t → m__law_at_6 { nx := fun e => m__law_at_7 { nx := fun _ => Q .non, rt := Q } e, rt := Q } [.v (wyD n w), .v (.int t), .v (ltD w.pl n), .v (.int w.ck), .v (.int w.tn), .v (ltD w.v1 n), .v (ltD w.v2 n), .v (.int w.d1), .v (.int w.d2), .v (.int (t - w.tn)), .v (ltD v n), .v (.int d), .un, .un] := by
    intro v d hv hd
    have vb : ∀ j, -3 ≤ v j ∧ v j ≤ 3 := fun j => by rw [hv]; unfold Wy.vt; split <;> first | exact k.b1 j | exact k.b2 j
    have db : -2 ≤ d ∧ d ≤ 2 := by rw [hd]; unfold Wy.dt; split <;> first | exact k.e1 | exact k.e2
    unfold m__law_at_6
    walk_at "xd"
    (try rw [lt_len])
    walk_at "xd"
    refine ⟨inR_ok (by omega) (by omega), ?_⟩
    rw [Int.toNat_natCast, range0D n]
    refine lcL_of (fun (j : Nat) => D.int (j : Int)) (fun (j : Nat) => D.int (w.pl j + v j * (t - w.tn))) _ _ ?_ (fun j hj P hP => ?_) ?_
    · simp; show n ≤ 16777216; omega
    · have hj' := List.mem_range.mp hj
      have := vb j
      iterate 4
        walk_at "xd"
        (try simp only [lt_at hj'])
      walk_at "xd"
      exact ⟨mulOk_l (by omega) (by omega), hP _ rfl⟩
    rw [List.nil_append]
    unfold m__law_at_7
    walk_at "xd"
    refine ⟨mulOk_l (by omega) (by omega), ?_⟩
    have e : (List.range n).map (fun (j : Nat) => D.int (w.pl j + v j * (t - w.tn))) ++ [D.int (w.ck + d * (t - w.tn))] = (List.range (n + 1)).map fun j => D.int (w.all n t j) := by
      rw [List.range_succ, List.map_append]
      congr 1
      · refine List.map_congr_left fun i hi => ?_
        have := List.mem_range.mp hi
        unfold Wy.all Wy.at
        rw [if_pos this, hv]
      · unfold Wy.all Wy.clk
        simp [hd]
    refine ⟨by simp; show n + 1 ≤ 16777216; omega, ?_⟩
    rw [e]
    exact h
  walk_at "xd"
  by_cases c : t - w.tn < 0
  · rw [if_pos c]
    walk_at "xd"
    exact fin _ _ (by unfold Wy.vt; rw [if_pos c]) (by unfold Wy.dt; rw [if_pos c])
  · rw [if_neg c]
    walk_at "xd"
    exact fin _ _ (by unfold Wy.vt; rw [if_neg c]) (by unfold Wy.dt; rw [if_neg c])

/-! cut -/
/-! ### drawn kinds -/
def SkNz (n : Nat) : SK → Prop
  | .side f => ∃ j, j < n ∧ f j ≠ 0
  | .boxes bs => bs.length ≤ 2
  | _ => True
theorem x_lpt {z : Int} {n : Nat} {Q : D → Prop} (hn : n ≤ 3) (h : ∀ f : Nat → Int, (∀ j, -20 ≤ f j ∧ f j ≤ 20) → Q (ptD f n)) : runD 3 m__law_point [.int n, .int z] Q := by
  unfold runD startD m__law_point
  walk_at "xd"
  refine x_digits (by decide) (by decide) (by omega) fun d hd => ?_
  walk_at "xd"
  refine lcL_of (fun (j : Nat) => D.int (d j)) (fun (j : Nat) => D.int (d j - 20)) _ _ ?_ (fun j hj P hP => ?_) ?_
  · simp; show n ≤ 16777216; omega
  · walk_at "xd"
    exact hP _ rfl
  · rw [List.nil_append]
    walk_at "xd"
    exact h (fun j => d j - 20) fun j => by have := hd j; show -20 ≤ d j - 20 ∧ d j - 20 ≤ 20; omega
theorem x_lkind {z : Int} {n : Nat} {Q : D → Prop} (hz : 0 ≤ z) (hn1 : 2 ≤ n) (hn : n ≤ 3) (h : ∀ s, SkSm n s → SkNz n s → Q (skD n s)) : runD 11 m__law_kind [.int n, .int z] Q := by
  have pb : ∀ f : Nat → Int, (∀ j, -20 ≤ f j ∧ f j ≤ 20) → ∀ j, j < n → -30 ≤ f j ∧ f j ≤ 30 := fun f hf j _ => by have := hf j; omega
  unfold runD startD m__law_kind m__law_kind_1 m__law_kind_2 m__law_kind_3
  walk_at "xd"
  refine ix_lst_any (by omega) (by simp; omega) fun x hx => ?_
  simp only [List.mem_cons, List.not_mem_nil, or_false] at hx
  unfold m__law_kind_4
  rcases hx with rfl | rfl | rfl | rfl | rfl | rfl
  · unfold m__law_kind_5 m__law_kind_6 m__law_kind_7
    walk_at "xd"; walk_at "xk"; walk_at "xd"; walk_at "xk"; walk_at "xd"; walk_at "xk"; walk_at "xd"; walk_at "xk"; walk_at "xd"
    exact x_lpt hn fun f hf => h (.range f) (pb f hf) trivial
  · unfold m__law_kind_5 m__law_kind_6 m__law_kind_7
    walk_at "xd"; walk_at "xk"; walk_at "xd"; walk_at "xk"; walk_at "xd"; walk_at "xk"; walk_at "xd"; walk_at "xk"; walk_at "xd"
    exact x_lpt hn fun f hf => h (.clocked f) (pb f hf) trivial
  · unfold m__law_kind_5 m__law_kind_6
    walk_at "xd"; walk_at "xk"; walk_at "xd"; walk_at "xk"; walk_at "xd"; walk_at "xk"; walk_at "xd"
    refine x_lpt hn fun f hf => ?_
    walk_at "xd"
    refine x_lpt hn fun g hg => ?_
    walk_at "xd"
    exact h (.differ f g) ⟨pb f hf, pb g hg⟩ trivial
  · walk_at "xd"; walk_at "xk"; walk_at "xd"
    refine x_digits (by decide) (by decide) (by omega) fun d hd => ?_
    walk_at "xd"
    refine lcL_of (fun (j : Nat) => D.int (d j)) (fun (j : Nat) => D.int (d j - 4)) _ _ ?_ (fun j hj P hP => ?_) ?_
    · simp; show n ≤ 16777216; omega
    · walk_at "xd"
      exact hP _ rfl
    rw [List.nil_append]
    walk_at "xd"
    refine lcL_of (fun (j : Nat) => D.int (d j - 4)) (fun (j : Nat) => D.int (if d j - 4 < 0 then -(d j - 4) else d j - 4)) _ _ ?_ (fun j hj P hP => ?_) ?_
    · simp; show n ≤ 16777216; omega
    · walk_at "xd"
      exact hP _ rfl
    rw [List.nil_append]
    refine nSum_of ?_
    walk_at "xd"
    split
    · refine ⟨0, by unfold ixN; simp; omega, ?_⟩
      have e : ((List.range n).map fun (j : Nat) => D.int (d j - 4)).set 0 (.int 1) = (List.range n).map fun (j : Nat) => D.int (if j = 0 then 1 else d j - 4) := by
        refine List.ext_getElem? fun i => ?_
        rw [List.getElem?_set]
        by_cases hi : i < n
        · rw [List.getElem?_map, List.getElem?_map, List.getElem?_range hi]
          by_cases c : 0 = i
          · subst c; simp [hi]
          · rw [if_neg c]; show some (D.int (d i - 4)) = some (D.int (if i = 0 then 1 else d i - 4)); rw [if_neg (by omega)]
        · rw [List.getElem?_eq_none (l := (List.range n).map fun (j : Nat) => D.int (if j = 0 then 1 else d j - 4)) (by simpa using hi)]
          by_cases c : 0 = i
          · subst c; simp [hi]
          · rw [if_neg c, List.getElem?_eq_none (by simpa using hi)]
      rw [e]
      refine h (.side fun j => if j = 0 then 1 else d j - 4) (fun j hj => ?_) ⟨0, by omega, by show (if (0 : Nat) = 0 then (1 : Int) else d 0 - 4) ≠ 0; rw [if_pos rfl]; decide⟩
      have := hd j
      show -30 ≤ (if j = 0 then 1 else d j - 4) ∧ (if j = 0 then 1 else d j - 4) ≤ 30
      split <;> omega
    · rename_i cz
      refine h (.side fun j => d j - 4) (fun j hj => ?_) ?_
      · have := hd j
        show -30 ≤ d j - 4 ∧ d j - 4 ≤ 30
        omega
      · refine Classical.byContradiction fun z => cz ?_
        have z0 : ∀ j, j < n → d j - 4 = 0 := fun j hj => Classical.byContradiction fun w => z ⟨j, hj, w⟩
        have e0 : S (fun j => if d j - 4 < 0 then -(d j - 4) else d j - 4) n = S (fun _ => 0) n := S_cong fun j hj => by
          have := z0 j hj
          show (if d j - 4 < 0 then -(d j - 4) else d j - 4) = 0
          rw [if_neg (by omega)]; exact this
        have b0 := S_b (f := fun _ => 0) (b := 0) (n := n) fun j _ => by omega
        show S (fun j => if d j - 4 < 0 then -(d j - 4) else d j - 4) n = 0
        rw [e0]; omega
  · unfold m__law_kind_5 m__law_kind_6
    walk_at "xd"; walk_at "xk"; walk_at "xd"; walk_at "xk"; walk_at "xd"; walk_at "xk"; walk_at "xd"; walk_at "xk"; walk_at "xd"
    refine x_lpt hn fun f hf => ?_
    walk_at "xd"
    refine x_lpt hn fun g hg => ?_
    walk_at "xd"
    exact h (.piece f g) ⟨pb f hf, pb g hg⟩ trivial
  · unfold m__law_kind_5
    walk_at "xd"; walk_at "xk"; walk_at "xd"; walk_at "xk"; walk_at "xd"
    obtain ⟨c, hc, hc2⟩ : ∃ c : Nat, 1 + z / 6 % 2 = (c : Int) ∧ 1 ≤ c ∧ c ≤ 2 := ⟨(1 + z / 6 % 2).toNat, by omega, by omega, by omega⟩
    rw [hc]
    refine ⟨inR_ok (by omega) (by omega), ?_⟩
    rw [Int.toNat_natCast]
    refine forL_range (fun j e => ∃ (bs : List ((Nat → Int) × (Nat → Int))) (v9 v10 : Sl), bs.length = j ∧ (∀ b ∈ bs, ∀ j, j < n → -30 ≤ b.1 j ∧ b.1 j ≤ b.2 j ∧ b.2 j ≤ 30) ∧ e = [.v (.int n), .v (.int z), .v (.lst [.str (PySem.Str.ofString "range"), .str (PySem.Str.ofString "clocked"), .str (PySem.Str.ofString "differ"), .str (PySem.Str.ofString "side"), .str (PySem.Str.ofString "piece"), .str (PySem.Str.ofString "boxes")]), .v (.str (PySem.Str.ofString "boxes")), .v (.int (z / 6)), .un, .un, .un, .own (bs.map fun b => bxD b.1 b.2 n), v9, v10]) ⟨[], _, _, rfl, fun b hb => (nomatch hb), rfl⟩ ?_ ?_
    · rintro j e Z' hj ⟨bs, v9, v10, hl, hb, rfl⟩ hnx _ _ _
      walk_at "xd"
      rw [Int.zero_add]
      refine x_lpt hn fun f hf => ?_
      unfold ptD
      walk_at "xd"
      refine lcL_of (fun (j : Nat) => D.int (f j)) (fun (j : Nat) => D.tup [.int (f j), .int (f j + z / 6 / 5 % 7)]) _ _ ?_ (fun j hj P hP => ?_) ?_
      · simp; show n ≤ 16777216; omega
      · walk_at "xd"
        exact hP _ rfl
      rw [List.nil_append]
      walk_at "xd"
      refine ⟨by show bs.length < 16777216; omega, ?_⟩
      have e2 : (bs.map fun b => bxD b.1 b.2 n) ++ [D.tup ((List.range n).map fun (j : Nat) => D.tup [.int (f j), .int (f j + z / 6 / 5 % 7)])] = (bs ++ [(f, fun j => f j + z / 6 / 5 % 7)]).map fun b => bxD b.1 b.2 n := by rw [List.map_append]; rfl
      rw [e2]
      refine hnx _ ⟨_, _, _, by simp [hl], fun b hbm => ?_, rfl⟩
      rcases List.mem_append.mp hbm with hbm | hbm
      · exact hb b hbm
      · rw [List.mem_singleton.mp hbm]
        intro i hi
        have := hf i
        show -30 ≤ f i ∧ f i ≤ f i + z / 6 / 5 % 7 ∧ f i + z / 6 / 5 % 7 ≤ 30
        omega
    · rintro e ⟨bs, v9, v10, hl, hb, rfl⟩
      walk_at "xd"
      exact h (.boxes bs) ⟨⟨by omega, by omega⟩, hb⟩ (by show bs.length ≤ 2; omega)
theorem sm_ok {n : Nat} : ∀ {k : SK}, SkSm n k → SkOk n k
  | .range f, h => fun j hj => by have := h j hj; omega
  | .clocked f, h => fun j hj => by have := h j hj; omega
  | .differ f g, h => ⟨fun j hj => by have := h.1 j hj; omega, fun j hj => by have := h.2 j hj; omega⟩
  | .piece f g, h => ⟨fun j hj => by have := h.1 j hj; omega, fun j hj => by have := h.2 j hj; omega⟩
  | .side f, h => fun j hj => by have := h j hj; omega
  | .boxes bs, h => ⟨h.1.1, h.1.2, fun b hb j hj => by have := h.2 b hb j hj; omega⟩
theorem sh_small {n a : Nat} {s : Int} {f : Nat → Int} (h1 : -1 ≤ s) (h2 : s ≤ 1) (hf : ∀ j, j < n → -30 ≤ f j ∧ f j ≤ 30) : Pb (shF a s f) n := fun j hj => by
  have := hf j hj
  unfold shF; split <;> omega
theorem sm_sh {n a : Nat} {s : Int} (h1 : -1 ≤ s) (h2 : s ≤ 1) : ∀ {k : SK}, SkSm n k → SkOk n (shK a s k)
  | .range f, h => sh_small h1 h2 h
  | .clocked f, h => sh_small h1 h2 h
  | .differ f g, h => ⟨sh_small h1 h2 h.1, sh_small h1 h2 h.2⟩
  | .piece f g, h => ⟨sh_small h1 h2 h.1, sh_small h1 h2 h.2⟩
  | .side f, h => fun j hj => by have := h j hj; omega
  | .boxes bs, h => ⟨by simpa using h.1.1, by simpa using h.1.2, fun b hb j hj => by
      obtain ⟨c, hc, rfl⟩ := List.mem_map.mp hb
      have := h.2 c hc j hj
      show shF a s c.1 j ≤ shF a s c.2 j ∧ _ ≤ shF a s c.1 j ∧ shF a s c.2 j ≤ _
      unfold shF; split <;> omega⟩
theorem sm_kok {n : Nat} (hn : 1 ≤ n) (hn3 : n ≤ 3) : ∀ {k : SK}, SkSm n k → SkNz n k → KOk (skD n k)
  | .range f, h, _ => fun Q q => x_kind_ok hn (by omega) (.range fun j hj => by have := h j hj; omega) q
  | .clocked f, h, _ => fun Q q => x_kind_ok hn (by omega) (.clocked fun j hj => by have := h j hj; omega) q
  | .differ f g, h, _ => fun Q q => x_kind_ok hn (by omega) (.differ (fun j hj => by have := h.1 j hj; omega) fun j hj => by have := h.2 j hj; omega) q
  | .piece f g, h, _ => fun Q q => x_kind_ok hn (by omega) (.piece (fun j hj => by have := h.1 j hj; omega) fun j hj => by have := h.2 j hj; omega) q
  | .side f, hf, hz => fun Q h => by
    obtain ⟨i, hi, hz⟩ := hz
    unfold runD startD m_kind_in_bounds skD
    walk_at "xd"; walk_at "xk"; walk_at "xd"
    unfold ptD
    walk_at "xd"
    refine lcL_of (fun j : Nat => D.int (f j)) (fun _ => D.bl true) _ [] (by show _ ≤ 16777216; simp; omega) (fun x hx P hP => ?_) ?_
    · have : -30 ≤ f x ∧ f x ≤ 30 := hf x (List.mem_range.mp hx)
      walk_at "xd"
      rw [decide_eq_true (by split <;> omega)]
      exact hP _ rfl
    rw [List.nil_append]
    refine nAll_of (p := fun _ => true) ?_
    rw [all_tt]
    walk_at "xd"
    refine lcL_of (fun j : Nat => D.int (f j)) (fun j => D.bl (!decide (f j = 0))) _ [] (by show _ ≤ 16777216; simp; omega) (fun x hx P hP => ?_) ?_
    · walk_at "xd"
      exact hP _ rfl
    rw [List.nil_append]
    refine nAny_of ?_
    rw [show (List.range n).any (fun j => !decide (f j = 0)) = true from List.any_eq_true.mpr ⟨i, List.mem_range.mpr hi, by simp; exact hz⟩]
    exact h
  | .boxes [], h, _ => absurd h.1.1 (by simp)
  | .boxes [b], h, _ => fun Q q => x_kind_ok hn (by omega) (.boxes1 (lo := b.1) (hi := b.2) fun j hj => by have := h.2 b (by simp) j hj; omega) q
  | .boxes [b, c], h, _ => fun Q q => x_kind_ok hn (by omega) (.boxes2 (lo := b.1) (hi := b.2) (lo' := c.1) (hi' := c.2) (fun j hj => by have := h.2 b (by simp) j hj; omega) fun j hj => by have := h.2 c (by simp) j hj; omega) q
  | .boxes (_ :: _ :: _ :: bs), _, hz => absurd (show (_ :: _ :: _ :: bs).length ≤ 2 from hz) (by simp)
theorem x_lmoved {n a : Nat} {s : Int} {k : SK} {Q : D → Prop} (hn : n ≤ 3) (hk : SkOk n k) (h : Q (skD n (shK a s k))) : runD 7 m__law_moved [skD n k, ltD (eF a s) n] Q := by
  have el : ∀ (p : Nat → Int), nLen [ptD p n] = fun Q => Q (.int n) := fun p => by funext Q; show Q (.int _) = _; simp
  have eb : ∀ (p q : Nat → Int), nLen [bxD p q n] = fun Q => Q (.int n) := fun p q => by funext Q; show Q (.int _) = _; simp
  unfold runD startD m__law_moved m__law_moved_1
  have pts : ∀ (x : Str) (fs : List (Nat → Int)), fs.length ≤ 3 → Q (.tup (.str x :: fs.map fun f => ptD (shF a s f) n)) →
      m__law_moved_3 { nx := fun e => m__law_moved_4 { nx := fun _ => Q .non, rt := Q } e, rt := Q } [.v (.tup (.str x :: fs.map fun f => ptD f n)), .v (ltD (eF a s) n), .un, .un, .un, .un, .un] := by
    intro x fs hl hq
    unfold m__law_moved_3
    walk_at "xd"
    rw [cutD_from (by decide)]
    have ed : ((.str x :: fs.map fun f => ptD f n : List D)).drop (1 : Int).toNat = fs.map fun f => ptD f n := rfl
    (try rw [ed])
    refine lcL_of (fun f : Nat → Int => ptD f n) (fun f => ptD (shF a s f) n) fs [] (by show _ ≤ 16777216; simp; omega) (fun f hf P hP => ?_) ?_
    · walk_at "xd"
      (try rw [el]); (try walk_at "xd")
      refine ⟨inR_ok (by omega) (by omega), ?_⟩
      (try rw [Int.toNat_natCast]); (try rw [range0D])
      refine lcL_of _ (fun j : Nat => D.int (shF a s f j)) _ _ ?_ (fun i hi R hR => ?_) ?_
      · simp; show n ≤ 16777216; omega
      · have hi := List.mem_range.mp hi
        iterate 3
          walk_at "xd"
          (try simp only [pt_at hi, lt_at hi])
        walk_at "xd"
        rw [← sh_e]
        exact hR _ rfl
      rw [List.nil_append]
      walk_at "xd"
      exact hP _ rfl
    rw [List.nil_append]
    unfold m__law_moved_4
    walk_at "xd"
    (try rw [ix_t0])
    exact ⟨by show _ ≤ 16777216; omega, hq⟩
  cases k with
  | side f =>
    unfold skD
    walk_at "xd"; walk_at "xk"; walk_at "xd"
    exact h
  | range f =>
    unfold skD m__law_moved_2
    walk_at "xd"; walk_at "xk"; walk_at "xd"; walk_at "xk"; walk_at "xd"
    exact pts _ [f] (by simp) h
  | clocked f =>
    unfold skD m__law_moved_2
    walk_at "xd"; walk_at "xk"; walk_at "xd"; walk_at "xk"; walk_at "xd"
    exact pts _ [f] (by simp) h
  | differ f g =>
    unfold skD m__law_moved_2
    walk_at "xd"; walk_at "xk"; walk_at "xd"; walk_at "xk"; walk_at "xd"
    exact pts _ [f, g] (by simp) h
  | piece f g =>
    unfold skD m__law_moved_2
    walk_at "xd"; walk_at "xk"; walk_at "xd"; walk_at "xk"; walk_at "xd"
    exact pts _ [f, g] (by simp) h
  | boxes bs =>
    obtain ⟨l1, l2, hb⟩ := id hk
    unfold skD m__law_moved_2
    walk_at "xd"; walk_at "xk"; walk_at "xd"; walk_at "xk"; walk_at "xd"
    have hq2 : Q (.tup [.str (PySem.Str.ofString "boxes"), .tup (bs.map fun c => bxD (shF a s c.1) (shF a s c.2) n)]) := by
      have : skD n (shK a s (.boxes bs)) = .tup [.str (PySem.Str.ofString "boxes"), .tup (bs.map fun c => bxD (shF a s c.1) (shF a s c.2) n)] := by
        show (D.tup [.str (PySem.Str.ofString "boxes"), .tup ((bs.map fun c => (shF a s c.1, shF a s c.2)).map fun b => bxD b.1 b.2 n)] : D) = _
        rw [List.map_map]; rfl
      rw [← this]; exact h
    refine forL_inv (fun i e => ∃ v3 : Sl, e = [.v (.tup [.str (PySem.Str.ofString "boxes"), .tup (bs.map fun b => bxD b.1 b.2 n)]), .v (ltD (eF a s) n), .own ((bs.take i).map fun c => bxD (shF a s c.1) (shF a s c.2) n), v3, .un, .un, .un]) _ _ 0 _ ⟨_, rfl⟩ ?_ ?_
    · rintro i x e Z' hi ⟨v3, rfl⟩ hnx _ _ _
      have hil : i < bs.length := by have := (List.getElem?_eq_some_iff.mp hi).1; simpa using this
      obtain ⟨c, hc⟩ : ∃ c, c = bs[i] := ⟨_, rfl⟩
      have hx : x = bxD c.1 c.2 n := by
        rw [List.getElem?_map, List.getElem?_eq_getElem hil, ← hc] at hi
        exact (Option.some.inj hi).symm
      subst hx
      have tk : bs.take (i + 1) = bs.take i ++ [c] := by rw [List.take_add_one, List.getElem?_eq_getElem hil, ← hc]; rfl
      simp only [Nat.zero_add] at hnx ⊢
      rw [tk, List.map_append] at hnx
      walk_at "xd"
      (try rw [eb]); (try walk_at "xd")
      refine ⟨inR_ok (by omega) (by omega), ?_⟩
      (try rw [Int.toNat_natCast]); (try rw [range0D])
      refine lcL_of _ (fun j : Nat => D.tup [.int (shF a s c.1 j), .int (shF a s c.2 j)]) _ _ ?_ (fun i hi R hR => ?_) ?_
      · simp; show n ≤ 16777216; omega
      · have hi := List.mem_range.mp hi
        iterate 5
          walk_at "xd"
          (try simp only [bx_at hi, lt_at hi])
        walk_at "xd"
        rw [← sh_e, ← sh_e]
        exact hR _ rfl
      rw [List.nil_append]
      walk_at "xd"
      refine ⟨by show _ < 16777216; simp; omega, ?_⟩
      exact hnx _ ⟨_, rfl⟩
    · rintro e ⟨v3, rfl⟩
      (try rw [Nat.zero_add]); (try rw [List.length_map]); rw [List.take_length]
      walk_at "xd"
      exact hq2

/-! cut -/
/-! ### questions -/
def questD (cl : Nat → Addr) (m : Int) (root : D) (li sh ea la : Int) : D := .ins (cl 2) ["moment", "root", "liars", "share", "earliest", "latest"] [.int m, root, .int li, .int sh, .int ea, .int la]
structure QuestOk (m : Int) (lo hi : Nat → Int) (n : Nat) (li sh ea la : Int) : Prop where
  hm : -1000000000000 ≤ m ∧ m ≤ 1000000000000
  hea : -1000000000000 ≤ ea
  hel : ea ≤ la
  hla : la ≤ 1000000000000
  hn : n ≤ 1000
  hr : Bd12 lo hi n
  li0 : 0 ≤ li
  li1 : li ≤ 3
  sh0 : 1 ≤ sh
  sh1 : sh ≤ 1000000000000
theorem x_mkquest {m : Int} {lo hi : Nat → Int} {n : Nat} {li sh ea la : Int} {Q : D → Prop} (k : QuestOk m lo hi n li sh ea la) (h : Q (questD cl m (bxD lo hi n) li sh ea la)) : mkD (cl 2) ["moment", "root", "liars", "share", "earliest", "latest"] 7 (m_K_Question_init cl) [.int m, bxD lo hi n, .int li, .int sh, .int ea, .int la] Q := by
  intro p'
  unfold m_K_Question_init m_K_Question_init_1
  walk_at "xd"
  have h1 := k.hm; have h2 := k.hea; have h3 := k.hel; have h4 := k.hla
  refine x_in_room (xs := [m, ea, la]) (by simp) (fun x hx => by
    simp only [List.mem_cons, List.not_mem_nil, or_false] at hx
    rcases hx with rfl | rfl | rfl <;> omega) ?_
  walk_at "xd"
  rw [if_neg (by omega)]
  refine x_box_room k.hn k.hr ?_
  have e1 := eq_true k.li0; have e2 := eq_true k.li1; have e3 := eq_true k.sh0; have e4 := eq_true k.sh1
  unfold m_K_Question_init_2
  walk_at "xd"
  simp only [e1, e2, e3, e4, decide_true, if_true, Bool.not_true, Bool.false_eq_true, if_false]
  walk_at "xd"
  (try simp only [e1, e2, e3, e4, decide_true, if_true, Bool.not_true, Bool.false_eq_true, if_false])
  unfold m_K_Question_init_3 m_K_Question_init_4 m_K_Question_init_5 m_K_Question_init_6 m_K_Question_init_7 m_K_Question_init_8
  walk_at "xd"
  exact h

/-! ### drawn readings and questions -/
/-- what the way says of a reading -/
structure Wy.Tells (w : Wy) (n : Nat) (R : R26) : Prop where
  vr : ∃ (a : Nat) (s A B t : Int), a < n ∧ -R.ne ≤ s ∧ s ≤ R.ne ∧ R.m - R.la ≤ t ∧ t ≤ R.m + R.la ∧ VR n (w.at t) (w.clk t) (shK a s R.k) A B ∧ R.a ≤ A ∧ B ≤ R.b
/-- a drawn reading -/
structure RdOk (n : Nat) (R : R26) : Prop where
  k : SkSm n R.k
  z : SkNz n R.k
  m : -12 ≤ R.m ∧ R.m ≤ 12
  la : 0 ≤ R.la ∧ R.la ≤ 2
  ne : 0 ≤ R.ne ∧ R.ne ≤ 1
  ab : R.a ≤ R.b
  a0 : -1000100 ≤ R.a
  b1 : R.b ≤ 1000100
theorem all_cut {w : Wy} {n : Nat} {t : Int} : cutD ((List.range (n + 1)).map fun j => D.int (w.all n t j)) none (some (n : Int)) = (List.range n).map fun j => D.int (w.at t j) := by
  rw [cutD_to (by omega)]
  rw [Int.toNat_natCast, ← List.map_take, List.take_range, Nat.min_eq_left (by omega)]
  refine List.map_congr_left fun i hi => ?_
  unfold Wy.all
  rw [if_pos (List.mem_range.mp hi)]
theorem x_lread {w : Wy} {n : Nat} {s r p row num : Int} {nm : Str} {lies : Bool} {Q : D → Prop} (h2 : n = 2 ∨ n = 3) (wk : w.Ok n s r p) (hr : 0 ≤ row) (hnm : nameB nm = true ∧ nm.length ≤ 10000)
    (h : ∀ R : R26, R.num = num → R.s = nm → RdOk n R → (lies = false → w.Tells n R) → Q (rdD cl n R)) : runD 14 (m__law_reading cl) [wyD n w, .int (n : Int), .str nm, .int row, .bl lies] Q := by
  unfold runD startD m__law_reading m__law_reading_1
  walk_at "xd"
  refine x_lkind (by omega) (by omega) (by omega) fun k ks kz => ?_
  have kok := sm_kok (by omega) (by omega) ks kz
  unfold m__law_reading_2 m__law_reading_3 m__law_reading_4 m__law_reading_5 m__law_reading_6
  walk_at "xd"
  obtain ⟨la, hla, la0, la2⟩ : ∃ la, la = row / 25 % 5 / 2 ∧ 0 ≤ la ∧ la ≤ 2 := ⟨_, rfl, by omega, by omega⟩
  obtain ⟨u, hu, u0, u1⟩ : ∃ u, u = row / 125 % 3 - 1 ∧ -1 ≤ u ∧ u ≤ 1 := ⟨_, rfl, by omega, by omega⟩
  obtain ⟨m, hm, m0, m1⟩ : ∃ m, m = row % 25 - 12 ∧ -12 ≤ m ∧ m ≤ 12 := ⟨_, rfl, by omega, by omega⟩
  obtain ⟨ne, hne, ne0, ne1⟩ : ∃ ne, ne = row / 375 % 4 / 2 ∧ 0 ≤ ne ∧ ne ≤ 1 := ⟨_, rfl, by omega, by omega⟩
  obtain ⟨z, hz, z0, z1⟩ : ∃ z, z = row / 625 % 3 - 1 ∧ -1 ≤ z ∧ z ≤ 1 := ⟨_, rfl, by omega, by omega⟩
  (try rw [← hla]); (try rw [← hu]); (try rw [← hm]); (try rw [← hne])
  have lu := ab_mul2 (x := la) (y := u) (b := 2) (c := 1) (by omega) (by omega)
  have nz := ab_mul2 (x := ne) (y := z) (b := 1) (c := 1) (by omega) (by omega)
  refine ⟨mulOk_l (by omega) (by omega), by omega, by omega, by show _ ≤ 16777216; omega, ?_⟩
  unfold m__law_reading_7
  walk_at "xd"
  (try rw [← hz])
  obtain ⟨a, ha, han⟩ : ∃ a : Nat, row / 1500 % (n : Int) = (a : Int) ∧ a < n := by
    have := mod_pos (c := row / 1500) (m := (n : Int)) (by omega)
    exact ⟨(row / 1500 % (n : Int)).toNat, by omega, by omega⟩
  rw [ha]
  obtain ⟨sh, hsh, s0, s1, s2, s3⟩ : ∃ sh, sh = ne * z ∧ -1 ≤ sh ∧ sh ≤ 1 ∧ -ne ≤ sh ∧ sh ≤ ne := ⟨_, rfl, by omega, by omega, by rcases (show ne = 0 ∨ ne = 1 by omega) with e | e <;> subst e <;> omega, by rcases (show ne = 0 ∨ ne = 1 by omega) with e | e <;> subst e <;> omega⟩
  rw [← hsh]
  have el : (repD ((n : Int)).toNat [D.int 0]).length = n := by rcases h2 with rfl | rfl <;> rfl
  refine ⟨mulOk_l (by omega) (by omega), by omega, a, by rw [el]; unfold ixN; simp; omega, ?_⟩
  have es : (repD ((n : Int)).toNat [D.int 0]).set a (D.int sh) = (List.range n).map fun j => D.int (eF a sh j) := by
    rcases h2 with rfl | rfl
    · match a, han with
      | 0, _ => rfl
      | 1, _ => rfl
    · match a, han with
      | 0, _ => rfl
      | 1, _ => rfl
      | 2, _ => rfl
  rw [es]
  obtain ⟨t, ht, t0, t1⟩ : ∃ t, t = m + la * u ∧ m - la ≤ t ∧ t ≤ m + la := ⟨_, rfl, by rcases (show u = -1 ∨ u = 0 ∨ u = 1 by omega) with e | e | e <;> subst e <;> omega, by rcases (show u = -1 ∨ u = 0 ∨ u = 1 by omega) with e | e | e <;> subst e <;> omega⟩
  rw [← ht]
  have bd := wk.bd (t := t) (by omega)
  unfold m__law_reading_8
  walk_at "xd"
  refine x_lat (by omega) wk ?_
  unfold m__law_reading_9
  walk_at "xd"
  have fl : (D.lst ((List.range n).map fun j => D.int (eF a sh j)) : D) = ltD (eF a sh) n := rfl
  rw [fl]
  refine x_lmoved (by omega) (sm_ok ks) ?_
  have cu : ∀ (x y : Option Int) (P : D → Prop), dSl (ltD (w.all n t) (n + 1)) x y P = P (.lst (cutD ((List.range (n + 1)).map fun j => D.int (w.all n t j)) x y)) := fun x y P => rfl
  have ck : ∀ P : D → Prop, dIx (ltD (w.all n t) (n + 1)) (.int (n : Int)) P = P (.int (w.clk t)) := fun P => by
    rw [lt_at (by omega)]
    unfold Wy.all
    rw [if_neg (by omega)]
  iterate 3
    walk_at "xd"
    (try simp only [cu, ck, all_cut])
  walk_at "xd"
  have fl2 : (D.lst ((List.range n).map fun j => D.int (w.at t j)) : D) = ltD (w.at t) n := rfl
  rw [fl2]
  refine x_lval (by omega) (by omega) (sm_sh s0 s1 ks) (fun j hj => by have := bd.1 j; omega) fun A B hAB => ?_
  have vb := vr_b (by omega) (fun j _ => bd.1 j) bd.2 (.inr ⟨a, sh, k, rfl, ks, s0, s1⟩) hAB
  have vl := vr_le hAB
  have fin : ∀ x y : Int, x ≤ y → -1000090 ≤ x → y ≤ 1000090 → (lies = false → x ≤ A ∧ B ≤ y) → m__law_reading_11 cl { nx := fun e => m__law_reading_12 cl { nx := fun e => m__law_reading_13 cl { nx := fun _ => Q .non, rt := Q } e, rt := Q } e, rt := Q } [.v (wyD n w), .v (.int (n : Int)), .v (.str nm), .v (.int row), .v (.bl lies), .v (skD n k), .v (.int m), .v (.int la), .v (.int t), .v (.int ne), .v (ltD (eF a sh) n), .v (ltD (w.all n t) (n + 1)), .v (.int x), .v (.int y)] := by
    intro x y hxy hx hy ht
    unfold m__law_reading_11 m__law_reading_12
    walk_at "xd"
    have m4 := mod_pos (c := row / 5) (m := 4) (by decide)
    have n4 := mod_pos (c := row / 9) (m := 4) (by decide)
    obtain ⟨x', hx', x1, x2⟩ : ∃ x', x' = x - row / 5 % 4 ∧ x' ≤ x ∧ x - 3 ≤ x' := ⟨_, rfl, by omega, by omega⟩
    obtain ⟨y', hy', y1, y2⟩ : ∃ y', y' = y + row / 9 % 4 ∧ y ≤ y' ∧ y' ≤ y + 3 := ⟨_, rfl, by omega, by omega⟩
    rw [← hx', ← hy']
    unfold m__law_reading_13
    walk_at "xd"
    have x1' := @x_mkread cl nm m (skD n k) x' y' la ne
    refine x1' ⟨hnm.1, hnm.2, by omega, kok, by omega, by omega, by omega, by omega, by omega, by omega, by omega⟩ ?_
    exact h ⟨num, nm, m, k, x', y', la, ne⟩ rfl rfl ⟨ks, kz, ⟨m0, m1⟩, ⟨la0, la2⟩, ⟨ne0, ne1⟩, by show x' ≤ y'; omega, by show _ ≤ x'; omega, by show y' ≤ _; omega⟩ fun e => by
      have := ht e
      exact ⟨a, sh, A, B, t, han, s2, s3, t0, t1, hAB, by show x' ≤ A; omega, by show B ≤ y'; omega⟩
  unfold m__law_reading_10
  walk_at "xd"
  cases lies with
  | true =>
    have m4 := mod_pos (c := row / 7) (m := 61) (by decide)
    have n4 := mod_pos (c := row / 11) (m := 5) (by decide)
    walk_at "xd"
    exact fin _ _ (by omega) (by omega) (by omega) (fun z => nomatch z)
  | false =>
    walk_at "xd"
    exact fin A B vl (by omega) (by omega) (fun _ => ⟨Int.le_refl _, Int.le_refl _⟩)
theorem in_strs {x : Str} {u : List Str} {R : D → Prop} : dIn false (.str x) (.lst (u.map D.str)) R = R (.bl (u.contains x)) := by
  refine propext ⟨fun ⟨ns, h, q⟩ => ?_, fun q => ⟨u, asStrs_map u, q⟩⟩
  rw [asStrs_map] at h
  cases h; exact q
theorem x_lreads {w : Wy} {n : Nat} {s r p cnt : Int} {rows : List Int} {nms ls : List Str} {Q : D → Prop} (h2 : n = 2 ∨ n = 3) (wk : w.Ok n s r p) (hr : ∀ x ∈ rows, 0 ≤ x) (hc0 : 0 ≤ cnt) (hc : cnt ≤ rows.length) (rl : rows.length ≤ 100) (nl : 1 ≤ nms.length) (nl2 : nms.length ≤ 100) (hn : ∀ x ∈ nms, nameB x = true ∧ x.length ≤ 10000 ∧ (PyData.str x).canLay0 = true) (hls : ∀ x ∈ ls, (PyData.str x).canLay0 = true) (ll : ls.length ≤ 100)
    (h : ∀ rs : List R26, (rs.length : Int) = cnt → (∀ R ∈ rs, R.s ∈ nms ∧ RdOk n R ∧ (R.s ∉ ls → w.Tells n R)) → (∀ (j : Nat) (R : R26), rs[j]? = some R → R.num = 3 * (j : Int) + 2) → Q (.lst (rs.map (rowD cl n)))) :
    runD 9 (m__law_readings cl) [wyD n w, .int (n : Int), .lst (rows.map D.int), .int cnt, .lst (nms.map D.str), .lst (ls.map D.str)] Q := by
  unfold runD startD m__law_readings
  obtain ⟨m, rfl⟩ : ∃ m : Nat, cnt = (m : Int) := ⟨cnt.toNat, by omega⟩
  walk_at "xd"
  refine ⟨inR_ok (by omega) (by omega), ?_⟩
  rw [Int.toNat_natCast]
  refine forL_range (fun j e => ∃ (rs : List R26) (v7 v8 : Sl), rs.length = j ∧ (∀ R ∈ rs, R.s ∈ nms ∧ RdOk n R ∧ (R.s ∉ ls → w.Tells n R)) ∧ (∀ (j : Nat) (R : R26), rs[j]? = some R → R.num = 3 * (j : Int) + 2) ∧ e = [.v (wyD n w), .v (.int (n : Int)), .v (.lst (rows.map D.int)), .v (.int (m : Int)), .v (.lst (nms.map D.str)), .v (.lst (ls.map D.str)), .own (.l (rs.map (rowD cl n))), v7, v8]) ⟨[], _, _, rfl, (fun R hR => nomatch hR), (fun j R hR => by simp at hR), rfl⟩ ?_ ?_
  · rintro j e Z' hj ⟨rs, v7, v8, hl, hrs, hnum, rfl⟩ hnx _ _ _
    have hj' : j < m := hj
    have hjr : j < rows.length := by omega
    obtain ⟨row, hrow⟩ : ∃ row, rows[j]? = some row := ⟨_, List.getElem?_eq_getElem hjr⟩
    have row0 := hr row (List.mem_of_getElem? hrow)
    have ir : ∀ P : D → Prop, dIx (.lst (rows.map D.int)) (.int (j : Int)) P = P (.int row) := fun P => ix_lst_at (atI_nat (by rw [List.getElem?_map, hrow]; rfl))
    walk_at "xd"
    (try simp only [Int.zero_add])
    (try simp only [ir])
    walk_at "xd"
    obtain ⟨i, hi, hin⟩ : ∃ i : Nat, row / 13 % (nms.length : Int) = (i : Int) ∧ i < nms.length := by
      have := mod_pos (c := row / 13) (m := (nms.length : Int)) (by omega)
      exact ⟨(row / 13 % (nms.length : Int)).toNat, by omega, by omega⟩
    rw [hi]
    obtain ⟨nm, hnm⟩ : ∃ nm, nms[i]? = some nm := ⟨_, List.getElem?_eq_getElem hin⟩
    have im : ∀ P : D → Prop, dIx (.lst (nms.map D.str)) (.int (i : Int)) P = P (.str nm) := fun P => ix_lst_at (atI_nat (by rw [List.getElem?_map, hnm]; rfl))
    have hno := hn nm (List.mem_of_getElem? hnm)
    refine ⟨by omega, ?_⟩
    rw [im, in_strs]
    have go := @x_lread cl w n s r p row ((j : Int) * 3 + 2) nm (ls.contains nm)
    refine go h2 wk row0 ⟨hno.1, hno.2.1⟩ fun R hR1 hR2 hR3 hR4 => ?_
    refine ⟨by show _ < 16777216; omega, ?_⟩
    rw [← hR1]
    refine hnx _ ⟨rs ++ [R], _, _, by simp [hl], fun S hS => ?_, fun k S hS => ?_, by rw [List.map_append]; rfl⟩
    · rcases List.mem_append.mp hS with z | z
      · exact hrs S z
      · rw [List.mem_singleton.mp z]
        refine ⟨by rw [hR2]; exact List.mem_of_getElem? hnm, hR3, fun hns => hR4 ?_⟩
        rw [hR2] at hns
        simpa using hns
    · rw [List.getElem?_append] at hS
      split at hS
      · exact hnum k S hS
      · have : k - rs.length = 0 := by
          rcases Nat.eq_zero_or_pos (k - rs.length) with z | z
          · exact z
          · rw [List.getElem?_eq_none (by simp; omega)] at hS; cases hS
        rw [this] at hS
        simp only [List.getElem?_cons_zero, Option.some.injEq] at hS
        rw [← hS, hR1]
        omega
  · rintro e ⟨rs, v7, v8, hl, hrs, hnum, rfl⟩
    walk_at "xd"
    exact h rs (by rw [hl]) hrs hnum
/-- a drawn question -/
structure QuL (w : Wy) (n : Nat) (q : Qu) : Prop where
  m : -10 ≤ q.m ∧ q.m ≤ 10
  root : ∃ lo hi : Nat → Int, q.root = (List.range (n + 1)).map (fun j => (lo j, hi j)) ∧ ∀ j, lo j ≤ w.all n q.m j ∧ w.all n q.m j ≤ hi j ∧ w.all n q.m j - 12 ≤ lo j ∧ hi j ≤ w.all n q.m j + 10
  ea : -15 ≤ q.ea ∧ q.ea ≤ 0
  la : q.ea ≤ q.la ∧ q.la ≤ q.ea + 27
  sh : 1 ≤ q.sh ∧ q.sh ≤ 1000000
theorem box_rg {lo hi : Nat → Int} {m : Nat} : boxD ((List.range m).map fun j => (lo j, hi j)) = bxD lo hi m := by
  unfold boxD bxD
  rw [List.map_map]; rfl
theorem all_b {w : Wy} {n : Nat} {s r p t : Int} (k : w.Ok n s r p) (ht : -24 ≤ t ∧ t ≤ 24) (j : Nat) : -100 ≤ w.all n t j ∧ w.all n t j ≤ 100 := by
  have := k.bd ht
  unfold Wy.all
  split
  · exact this.1 j
  · exact this.2
theorem x_mkQu {w : Wy} {n : Nat} {s r p : Int} {q : Qu} {Q : D → Prop} (h2 : n = 2 ∨ n = 3) (wk : w.Ok n s r p) (ok : QuL w n q) (l0 : 0 ≤ q.li) (l3 : q.li ≤ 3) (h : Q (quD cl q)) : mkD (cl 2) ["moment", "root", "liars", "share", "earliest", "latest"] 7 (m_K_Question_init cl) [.int q.m, boxD q.root, .int q.li, .int q.sh, .int q.ea, .int q.la] Q := by
  obtain ⟨lo, hi, e, hb⟩ := ok.root
  have m := ok.m; have ea := ok.ea; have la := ok.la; have sh := ok.sh
  have go := @x_mkquest cl q.m lo hi (n + 1) q.li q.sh q.ea q.la Q ⟨by omega, by omega, by omega, by omega, by omega, fun j hj => by have := hb j; have := all_b wk (t := q.m) (by omega) j; omega, l0, l3, by omega, by omega⟩
  unfold quD at h
  unfold questD at go
  rw [e, box_rg] at h ⊢
  exact go h
theorem x_lquest {w : Wy} {n : Nat} {s r p row li : Int} {Q : D → Prop} (h2 : n = 2 ∨ n = 3) (wk : w.Ok n s r p) (l0 : 0 ≤ li) (l3 : li ≤ 3) (h : ∀ q : Qu, QuL w n q → q.li = li → Q (quD cl q)) : runD 13 (m__law_question cl) [wyD n w, .int (n : Int), .int row, .int li] Q := by
  unfold runD startD m__law_question m__law_question_1 m__law_question_2
  walk_at "xd"
  obtain ⟨m, hm, m0, m1⟩ : ∃ m, m = row % 21 - 10 ∧ -10 ≤ m ∧ m ≤ 10 := ⟨_, rfl, by omega, by omega⟩
  rw [← hm]
  refine x_lat (by omega) wk ?_
  unfold m__law_question_3
  walk_at "xd"
  have en : ((n : Int) + 1) = ((n + 1 : Nat) : Int) := by omega
  (try rw [en])
  refine x_digits (by decide) (by decide) (by omega) fun d hd => ?_
  unfold m__law_question_4
  walk_at "xd"
  (try rw [en])
  refine x_digits (by decide) (by decide) (by omega) fun d' hd' => ?_
  unfold m__law_question_5
  walk_at "xd"
  (try rw [en])
  have fd : (D.lst ((List.range (n + 1)).map fun j => D.int (d j)) : D) = ltD d (n + 1) := rfl
  have fd' : (D.lst ((List.range (n + 1)).map fun j => D.int (d' j)) : D) = ltD d' (n + 1) := rfl
  (try rw [fd]); (try rw [fd'])
  refine ⟨inR_ok (by omega) (by omega), ?_⟩
  rw [Int.toNat_natCast, range0D]
  refine lcL_of (fun (j : Nat) => D.int (j : Int)) (fun j : Nat => D.tup [.int (w.all n m j - d j), .int (w.all n m j + d' j)]) _ _ ?_ (fun i hi R hR => ?_) ?_
  · simp; show n + 1 ≤ 16777216; omega
  · have hi := List.mem_range.mp hi
    iterate 4
      walk_at "xd"
      (try simp only [lt_at hi])
    walk_at "xd"
    exact hR _ rfl
  rw [List.nil_append]
  unfold m__law_question_6 m__law_question_7 m__law_question_8 m__law_question_9
  walk_at "xd"
  have a6 := mod_pos (c := row / 7) (m := 6) (by decide)
  have a16 := mod_pos (c := row / 3) (m := 16) (by decide)
  have a28 := mod_pos (c := row / 5) (m := 28) (by decide)
  (try simp only [Int.zero_sub])
  have go := @x_mkQu cl w n s r p ⟨m, (List.range (n + 1)).map fun j => (w.all n m j - d j, w.all n m j + d' j), li, 1 + row / 7 % 6, -(row / 3 % 16), -(row / 3 % 16) + row / 5 % 28⟩ Q h2 wk
  have ok : QuL w n ⟨m, (List.range (n + 1)).map fun j => (w.all n m j - d j, w.all n m j + d' j), li, 1 + row / 7 % 6, -(row / 3 % 16), -(row / 3 % 16) + row / 5 % 28⟩ := ⟨⟨m0, m1⟩, ⟨fun j => w.all n m j - d j, fun j => w.all n m j + d' j, rfl, fun j => by
    have := hd j; have := hd' j
    show w.all n m j - d j ≤ w.all n m j ∧ w.all n m j ≤ w.all n m j + d' j ∧ w.all n m j - 12 ≤ w.all n m j - d j ∧ w.all n m j + d' j ≤ w.all n m j + 10
    omega⟩, by show -15 ≤ -(row / 3 % 16) ∧ -(row / 3 % 16) ≤ 0; omega, by show -(row / 3 % 16) ≤ -(row / 3 % 16) + row / 5 % 28 ∧ -(row / 3 % 16) + row / 5 % 28 ≤ -(row / 3 % 16) + 27; omega, by show 1 ≤ 1 + row / 7 % 6 ∧ 1 + row / 7 % 6 ≤ 1000000; omega⟩
  have eb : (D.tup ((List.range (n + 1)).map fun j => D.tup [.int (w.all n m j - d j), .int (w.all n m j + d' j)]) : D) = boxD ((List.range (n + 1)).map fun j => (w.all n m j - d j, w.all n m j + d' j)) := (box_rg (lo := fun j => w.all n m j - d j) (hi := fun j => w.all n m j + d' j)).symm
  rw [eb]
  have hq := h _ ok rfl
  generalize boxD ((List.range (n + 1)).map fun j => (w.all n m j - d j, w.all n m j + d' j)) = bb at *
  exact go ok l0 l3 hq

/-! cut -/
/-! ### how bounds are widened for witnesses -/
def hfC (sh : Int) : Int := (sh + 1) / 2
def CrR (n : Nat) (sh r : Int) : Prop := IsUp ((n : Int) * hfC sh * hfC sh) r
theorem hfc_b {sh : Int} (h0 : 1 ≤ sh) (h1 : sh ≤ 1000000) : 1 ≤ hfC sh ∧ hfC sh ≤ 500001 := by unfold hfC; omega
theorem cr_sq {n : Nat} {sh : Int} (hn : n ≤ 3) (h0 : 1 ≤ sh) (h1 : sh ≤ 1000000) : 0 ≤ (n : Int) * hfC sh * hfC sh ∧ (n : Int) * hfC sh * hfC sh ≤ 10000000000000 ∧ -10000000000000 ≤ (n : Int) * hfC sh ∧ (n : Int) * hfC sh ≤ 10000000000000 := by
  have h := hfc_b h0 h1
  have a := ab_mul2 (x := (n : Int)) (y := hfC sh) (b := 3) (c := 500001) (by omega) (by omega)
  have a0 := Int.mul_nonneg (show (0 : Int) ≤ n by omega) (show 0 ≤ hfC sh by omega)
  have b := ab_mul2 (x := (n : Int) * hfC sh) (y := hfC sh) (b := 1500003) (c := 500001) (by omega) (by omega)
  have b0 := Int.mul_nonneg a0 (show 0 ≤ hfC sh by omega)
  omega
theorem cr_b {n : Nat} {sh r : Int} (hn : n ≤ 3) (h0 : 1 ≤ sh) (h1 : sh ≤ 1000000) (h : CrR n sh r) : 0 ≤ r ∧ r ≤ 10000000 := by
  have := cr_sq hn h0 h1
  exact up_b2 h (by decide) (by omega)
theorem x_crad {d : Int} {n : Nat} {s r p sh : Int} {Q : D → Prop} (hd : d = (n : Int)) (hn : n ≤ 3) (h0 : 1 ≤ sh) (h1 : sh ≤ 1000000) (h : ∀ c, CrR n sh c → Q (.int c)) : runD 3 m_cell_radius [setD cl d s r p, .int sh] Q := by
  subst hd
  have b := cr_sq hn h0 h1
  have hb := hfc_b h0 h1
  have eh : (sh + 1) / 2 = hfC sh := rfl
  have f0 : ∀ X : D → Prop, qFld (setD cl (n : Int) s r p) "dims" X = X (.int (n : Int)) := fun X => f_Setting_dims
  unfold runD startD m_cell_radius
  iterate 2
    walk_at "xd"
    (try simp only [f0])
  walk_at "xd"
  (try rw [eh])
  refine ⟨mulOk_l (by omega) (by omega), mulOk_l (by omega) (by omega), ?_⟩
  refine x_root_up b.1 (log_ok (k := 64) (by omega) b.1 (by decide)) fun c hc => ?_
  exact h c hc
/-- the margin of a reading -/
def MgR (n : Nat) (s r p sh : Int) (R : R26) (m : Int) : Prop := ∃ rt c, RtR n R.k rt ∧ CrR n sh c ∧ m = mvF R.k * R.ne + (rt * upI s R.la p + ckF R.k * upI r R.la p) + (rt * (2 * c + 2) + ckF R.k * sh)
theorem mg_unique {n : Nat} {s r p sh m m' : Int} {R : R26} (h : MgR n s r p sh R m) (g : MgR n s r p sh R m') : m = m' := by
  obtain ⟨rt, c, h1, h2, rfl⟩ := h
  obtain ⟨rt', c', g1, g2, rfl⟩ := g
  have e1 := rt_unique h1 g1
  have e2 : c = c' := isUp_unique h2 g2
  subst e1 e2; rfl
theorem x_margin {n : Nat} {s r p : Int} {q : Qu} {R : R26} {Q : D → Prop} (hn : n ≤ 3) (so : SetOk (n : Int) s r p) (hk : SkOk n R.k) (h0 : 1 ≤ q.sh) (h1 : q.sh ≤ 1000000) (h : ∀ m, MgR n s r p q.sh R m → Q (.int m)) : runD 6 m_margin [setD cl (n : Int) s r p, quD cl q, rdD cl n R] Q := by
  have f1 : ∀ X : D → Prop, qFld (rdD cl n R) "kind" X = X (skD n R.k) := fun X => f_Reading_kind
  have f2 : ∀ X : D → Prop, qFld (rdD cl n R) "late" X = X (.int R.la) := fun X => f_Reading_late
  have f3 : ∀ X : D → Prop, qFld (rdD cl n R) "near" X = X (.int R.ne) := fun X => f_Reading_near
  have f4 : ∀ X : D → Prop, qFld (quD cl q) "share" X = X (.int q.sh) := fun X => f_Question_share
  have ckb := ck_b R.k
  have mvb := mv_b R.k
  unfold runD startD m_margin
  iterate 2
    walk_at "xd"
    (try simp only [f1, f2])
  refine x_rateN hn hk fun rt hrt rt0 rt1 => ?_
  walk_at "xd"
  (try simp only [f2])
  refine x_reach so ?_
  walk_at "xd"
  refine ⟨mulOk_l (by omega) (by omega), ?_⟩
  refine x_clockN ?_
  walk_at "xd"
  (try simp only [f2])
  refine x_slip so ?_
  walk_at "xd"
  refine ⟨mulOk_l (by omega) (by omega), ?_⟩
  refine x_rateN hn hk fun rt' hrt' rt0' rt1' => ?_
  have := rt_unique hrt hrt'
  subst this
  walk_at "xd"
  (try simp only [f4])
  refine x_crad rfl hn h0 h1 fun c hc => ?_
  have cb := cr_b hn h0 h1 hc
  walk_at "xd"
  refine ⟨mulOk_l (by omega) (by omega), ?_⟩
  refine x_clockN ?_
  iterate 2
    walk_at "xd"
    (try simp only [f4])
  walk_at "xd"
  refine ⟨mulOk_l (by omega) (by omega), ?_⟩
  refine x_movedN ?_
  iterate 2
    walk_at "xd"
    (try simp only [f3])
  walk_at "xd"
  refine ⟨mulOk_l (by omega) (by omega), ?_⟩
  exact h _ ⟨rt, c, hrt, hc, rfl⟩
/-- the moments that count -/
def momL (q : Qu) (rs : List R26) : List Int := (keepR q rs).map (·.m) ++ [q.m]
def StR (n : Nat) (q : Qu) (rs : List R26) (x : Int) : Prop := ∃ c, CrR n q.sh c ∧ x = 2 * ((nubI (momL q rs)).length : Int) * c
theorem nub_le (ns : List Int) : (nubI ns).length ≤ ns.length := PyProof.Rows.firstMet_length_le _ _
theorem x_stretch {n : Nat} {s r p : Int} {q : Qu} {rs : List R26} {Q : D → Prop} (hn : n ≤ 3) (hl : rs.length ≤ 100) (h0 : 1 ≤ q.sh) (h1 : q.sh ≤ 1000000) (h : ∀ x, StR n q rs x → Q (.int x)) : runD 6 m_stretch [setD cl (n : Int) s r p, quD cl q, .lst (rs.map (rowD cl n))] Q := by
  have f4 : ∀ X : D → Prop, qFld (quD cl q) "share" X = X (.int q.sh) := fun X => f_Question_share
  have f5 : ∀ X : D → Prop, qFld (quD cl q) "moment" X = X (.int q.m) := fun X => f_Question_moment
  have kl : (keepR q rs).length ≤ rs.length := List.length_filter_le ..
  unfold runD startD m_stretch
  walk_at "xd"
  refine x_asked (by omega) ?_
  walk_at "xd"
  refine lcL_of (rowD cl n) (fun R => D.int R.m) (keepR q rs) [] (by show _ ≤ 16777216; simp; omega) (fun R hR P hP => ?_) ?_
  · have f6 : ∀ X : D → Prop, qFld (rdD cl n R) "moment" X = X (.int R.m) := fun X => f_Reading_moment
    unfold rowD
    walk_at "xd"
    (try simp only [f6])
    walk_at "xd"
    exact hP _ rfl
  rw [List.nil_append]
  walk_at "xd"
  (try simp only [f5])
  walk_at "xd"
  have nl := nub_le (momL q rs)
  have ml : (momL q rs).length ≤ 101 := by unfold momL; simp; omega
  refine ⟨by show _ ≤ 16777216; omega, momL q rs, by unfold momL; simp [List.map_map], by omega, by omega, ?_⟩
  iterate 2
    walk_at "xd"
    (try simp only [f4])
  refine x_crad rfl hn h0 h1 fun c hc => ?_
  have cb := cr_b hn h0 h1 hc
  walk_at "xd"
  refine ⟨mulOk_l (by omega) (by omega), ?_⟩
  exact h _ ⟨c, hc, rfl⟩
theorem fold_dd : ∀ (ns acc : List Int), acc.Nodup → (ns.foldl PyProof.Rows.step_dedup acc).Nodup ∧ ∀ x, x ∈ ns.foldl PyProof.Rows.step_dedup acc ↔ x ∈ acc ∨ x ∈ ns
  | [], acc, h => ⟨h, fun x => by simp⟩
  | y :: ns, acc, h => by
    rw [List.foldl_cons]
    have es : PyProof.Rows.step_dedup acc y = if acc.any (· == y) = true then acc else acc ++ [y] := rfl
    rw [es]
    by_cases c : acc.any (· == y) = true
    · rw [if_pos c]
      have hy : y ∈ acc := by
        obtain ⟨z, hz, e⟩ := List.any_eq_true.mp c
        have : z = y := by simpa using e
        rw [← this]; exact hz
      have ih := fold_dd ns acc h
      refine ⟨ih.1, fun x => ?_⟩
      rw [ih.2 x, List.mem_cons]
      constructor
      · rintro (z | z)
        · exact .inl z
        · exact .inr (.inr z)
      · rintro (z | z | z)
        · exact .inl z
        · rw [z]; exact .inl hy
        · exact .inr z
    · rw [if_neg c]
      have hy : y ∉ acc := fun hy => c (List.any_eq_true.mpr ⟨y, hy, by simp⟩)
      have ih := fold_dd ns (acc ++ [y]) (by
        rw [List.nodup_append]
        refine ⟨h, by simp, fun a ha b hb => ?_⟩
        rw [List.mem_singleton.mp hb]
        intro e; subst e; exact hy ha)
      refine ⟨ih.1, fun x => ?_⟩
      rw [ih.2 x, List.mem_append, List.mem_singleton, List.mem_cons, or_assoc]
theorem nub_is (ns : List Int) : (nubI ns).Nodup ∧ ∀ x, x ∈ nubI ns ↔ x ∈ ns := by
  have e : (List.range ns.length).map (fun i => ns.getD i 0) = ns := by
    refine List.ext_getElem (by simp) fun i h1 h2 => ?_
    simp [List.getD, h2]
  unfold nubI PyProof.Rows.firstMet
  rw [e]
  have := fold_dd ns [] (by simp)
  exact ⟨this.1, fun x => by rw [this.2 x]; simp⟩
theorem nodup_subI : ∀ (xs ys : List Int), xs.Nodup → (∀ x ∈ xs, x ∈ ys) → xs.length ≤ ys.length
  | [], ys, _, _ => Nat.zero_le _
  | x :: xs, ys, h, hs => by
    have hx := hs x (List.mem_cons_self ..)
    have hn := List.nodup_cons.mp h
    have ih := nodup_subI xs (ys.erase x) hn.2 fun y hy => (List.mem_erase_of_ne (fun e => by subst e; exact hn.1 hy)).mpr (hs y (List.mem_cons_of_mem _ hy))
    rw [List.length_erase_of_mem hx] at ih
    have : 1 ≤ ys.length := List.length_pos_of_mem hx
    rw [List.length_cons]; omega
theorem same_len {xs ys : List Int} (h1 : xs.Nodup) (h2 : ys.Nodup) (h : ∀ x, x ∈ xs ↔ x ∈ ys) : xs.length = ys.length :=
  Nat.le_antisymm (nodup_subI xs ys h1 fun x hx => (h x).mp hx) (nodup_subI ys xs h2 fun x hx => (h x).mpr hx)

/-! cut -/
/-! ### readings are themselves -/
theorem sm_py {n : Nat} {k : SK} : PyOk (skD n k) 4 := by
  have pt : ∀ f : Nat → Int, PyOk (ptD f n) 3 := fun f => (PyOk.tup (k := 0) fun d hd => by obtain ⟨j, _, rfl⟩ := List.mem_map.mp hd; exact .int).le (by decide)
  have bx : ∀ lo hi : Nat → Int, PyOk (bxD lo hi n) 2 := fun lo hi => PyOk.tup (k := 1) fun d hd => by
    obtain ⟨j, _, rfl⟩ := List.mem_map.mp hd
    exact PyOk.tup (k := 0) fun d hd => by
      simp only [List.mem_cons, List.not_mem_nil, or_false] at hd
      rcases hd with rfl | rfl <;> exact .int
  have st : ∀ x : Str, (PyData.str x).canLay0 = true → PyOk (.str x) 3 := fun x h => .str h
  have two : ∀ x y : D, PyOk x 3 → PyOk y 3 → PyOk (.tup [x, y]) 4 := fun x y h1 h2 => PyOk.tup fun d hd => by
    simp only [List.mem_cons, List.not_mem_nil, or_false] at hd
    rcases hd with rfl | rfl
    · exact h1
    · exact h2
  have three : ∀ x y z : D, PyOk x 3 → PyOk y 3 → PyOk z 3 → PyOk (.tup [x, y, z]) 4 := fun x y z h1 h2 h3 => PyOk.tup fun d hd => by
    simp only [List.mem_cons, List.not_mem_nil, or_false] at hd
    rcases hd with rfl | rfl | rfl
    · exact h1
    · exact h2
    · exact h3
  cases k with
  | range _ => exact two _ _ (st _ (by decide +kernel)) (pt _)
  | clocked _ => exact two _ _ (st _ (by decide +kernel)) (pt _)
  | differ _ _ => exact three _ _ _ (st _ (by decide +kernel)) (pt _) (pt _)
  | piece _ _ => exact three _ _ _ (st _ (by decide +kernel)) (pt _) (pt _)
  | side _ => exact two _ _ (st _ (by decide +kernel)) (pt _)
  | boxes bs => exact two _ _ (st _ (by decide +kernel)) (PyOk.tup fun d hd => by
      obtain ⟨b, _, rfl⟩ := List.mem_map.mp hd
      exact bx _ _)
theorem py_rdS {n : Nat} {r : R26} (h : (PyData.str r.s).canLay0 = true) : PyOk (.tup [.str r.s, .int r.m, skD n r.k, .int r.a, .int r.b, .int r.la, .int r.ne]) 5 := by
  refine PyOk.tup (k := 4) fun d hd => ?_
  simp only [List.mem_cons, List.not_mem_nil, or_false] at hd
  rcases hd with rfl | rfl | rfl | rfl | rfl | rfl | rfl
  · exact .str h
  · exact .int
  · exact sm_py
  all_goals exact .int
theorem x_eqR {n : Nat} {r : R26} {Q : D → Prop} (hr : (PyData.str r.s).canLay0 = true) (h : Q (.bl true)) : runD 3 (m_K_Reading_eq cl) [rdD cl n r, rdD cl n r] Q := by
  unfold runD startD m_K_Reading_eq rdD readD
  walk_at "xd"
  refine ⟨rfl, by simp, ?_⟩
  walk_at "xd"
  rw [dEq_py (by decide) (py_rdS hr) (py_rdS hr), pyE_self (py_rdS hr)]
  exact h
theorem eq_rows {tbl : List (Addr × SpecD)} {n : Nat} {rs : List R26} {Q : D → Prop} (ht : ((cl 1), runD 3 (m_K_Reading_eq cl)) ∈ tbl) (hr : ∀ r ∈ rs, (PyData.str r.s).canLay0 = true) (h : Q (.bl true)) : dEqS tbl (.lst (rs.map (rowD cl n))) (.lst (rs.map (rowD cl n))) Q :=
  .inr ⟨rfl, ⟨_, .inl rfl, fun d hd => by
    obtain ⟨r, hm, rfl⟩ := List.mem_map.mp hd
    exact .tup fun d hd => by
      simp only [List.mem_cons, List.not_mem_nil, or_false] at hd
      rcases hd with rfl | rfl
      · exact .int
      · exact .ins ht fun R hR => x_eqR (hr r hm) hR⟩, h⟩
theorem notin_ints {i : Int} {row : List Int} {Q : D → Prop} : dIn true (.int i) (.lst (row.map D.int)) Q = Q (.bl (!row.contains i)) := by
  refine propext ⟨fun ⟨ns, h1, h2⟩ => ?_, fun q => ⟨row, asInts_map row, q⟩⟩
  rw [asInts_map] at h1; cases h1; exact h2
/-! ### the law -/
/-- behind the question -/
theorem law_rest {ns : List Int} {f : Nat → Int} {w : Wy} {n : Nat} {s r p : Int} {q : Qu} {Q : D → Prop} (hf : ∀ j, 0 ≤ f j) (h2 : n = 2 ∨ n = 3) (so : SetOk (n : Int) s r p) (wk : w.Ok n s r p) (ok : QuL w n q) (h : Q (.bl true)) :
    m_law_7 cl { nx := fun e => m_law_8 cl { nx := fun e => m_law_9 cl { nx := fun e => m_law_10 cl { nx := fun e => m_law_11 cl { nx := fun e => m_law_12 cl { nx := fun e => m_law_13 cl { nx := fun e => m_law_14 cl { nx := fun _ => Q .non, rt := Q } e, rt := Q } e, rt := Q } e, rt := Q } e, rt := Q } e, rt := Q } e, rt := Q } e, rt := Q }
      [.v (.scr ns), .v (ltD f 12), .v (setD cl (n : Int) s r p), .v (wyD n w), .v (.int (n : Int)), .v (quD cl q), .un, .un, .un, .un, .un, .un, .un, .un, .un, .un] := by
  have g4 : ∀ X : D → Prop, qFld (quD cl q) "share" X = X (.int q.sh) := fun X => f_Question_share
  have g5 : ∀ X : D → Prop, qFld (quD cl q) "moment" X = X (.int q.m) := fun X => f_Question_moment
  have g6 : ∀ X : D → Prop, qFld (quD cl q) "earliest" X = X (.int q.ea) := fun X => f_Question_earliest
  have g7 : ∀ X : D → Prop, qFld (quD cl q) "latest" X = X (.int q.la) := fun X => f_Question_latest
  have i5 : ∀ X : D → Prop, dIx (ltD f 12) (.int 5) X = X (.int (f 5)) := fun X => lt_at (j := 5) (by decide) X
  have sl : ∀ X : D → Prop, dSl (ltD f 12) (some 6) (some 12) X = X (.lst ([f 6, f 7, f 8, f 9, f 10, f 11].map D.int)) := fun X => rfl
  unfold m_law_7
  iterate 3
    walk_at "xd"
    (try simp only [i5, sl])
  walk_at "xd"
  have cnt := mod_pos (c := f 5 / 3) (m := 7) (by decide)
  have nmL : (D.lst [.str (PySem.Str.ofString "a"), .str (PySem.Str.ofString "b"), .str (PySem.Str.ofString "c-1")] : D) = .lst ([PySem.Str.ofString "a", PySem.Str.ofString "b", PySem.Str.ofString "c-1"].map D.str) := rfl
  have lsL : (D.lst [.str (PySem.Str.ofString "b")] : D) = .lst ([PySem.Str.ofString "b"].map D.str) := rfl
  rw [nmL, lsL]
  have xr := @x_lreads cl w n s r p (f 5 / 3 % 7) [f 6, f 7, f 8, f 9, f 10, f 11] [PySem.Str.ofString "a", PySem.Str.ofString "b", PySem.Str.ofString "c-1"] [PySem.Str.ofString "b"]
  refine xr h2 wk (fun x hx => ?_) cnt.1 (by simp; omega) (by simp) (by simp) (by simp) (fun x hx => ?_) (fun x hx => ?_) (by simp) fun rs rl hrs _ => ?_
  · simp only [List.mem_cons, List.not_mem_nil, or_false] at hx
    rcases hx with z | z | z | z | z | z <;> rw [z] <;> exact hf _
  · simp only [List.mem_cons, List.not_mem_nil, or_false] at hx
    rcases hx with z | z | z <;> rw [z] <;> decide +kernel
  · simp only [List.mem_cons, List.not_mem_nil, or_false] at hx
    rw [hx]; decide +kernel
  have rl' : rs.length ≤ 6 := by omega
  have sh := ok.sh
  have hb := hfc_b sh.1 sh.2
  have csq := cr_sq (n := n) (by omega) sh.1 sh.2
  have eh : (q.sh + 1) / 2 = hfC q.sh := rfl
  unfold m_law_8
  iterate 2
    walk_at "xd"
    (try simp only [g4])
  walk_at "xd"
  (try rw [eh])
  unfold m_law_9
  walk_at "xd"
  refine ⟨mulOk_l (by omega) (by omega), mulOk_l (by omega) (by omega), ?_⟩
  refine x_lup csq.1 (by omega) fun rad hrad => ?_
  have hrad : CrR n q.sh rad := hrad
  have rb := cr_b (by omega) sh.1 sh.2 hrad
  unfold m_law_10
  iterate 2
    walk_at "xd"
    (try simp only [g4])
  refine x_crad rfl (by omega) sh.1 sh.2 fun c hc => ?_
  have : c = rad := isUp_unique hc hrad
  subst this
  walk_at "xd"
  unfold m_law_11
  iterate 2
    walk_at "xd"
    (try simp only [g5])
  unfold m_law_12
  walk_at "xd"
  refine forL_inv (fun i e => ∃ (ms : List Int) (v10 v11 v12 v13 v14 : Sl), ms.Nodup ∧ (∀ x, x ∈ ms ↔ x = q.m ∨ x ∈ (keepR q (rs.take i)).map (·.m)) ∧ ms.length ≤ i + 1 ∧ e = [.v (.scr ns), .v (ltD f 12), .v (setD cl (n : Int) s r p), .v (wyD n w), .v (.int (n : Int)), .v (quD cl q), .v (.lst (rs.map (rowD cl n))), .v (.int (hfC q.sh)), .v (.int c), .own (.l (ms.map D.int)), v10, v11, v12, v13, v14, .un]) _ _ 0 _ ⟨[q.m], _, _, _, _, _, by simp, (fun x => by simp [keepR]), by simp, rfl⟩ ?_ ?_
  · rintro i x e Z' hi ⟨ms, v10, v11, v12, v13, v14, hnd, hmem, hml, rfl⟩ hnx _ _ _
    rw [List.getElem?_map, Option.map_eq_some_iff] at hi
    obtain ⟨R, hR, rfl⟩ := hi
    have hlt := (List.getElem?_eq_some_iff.mp hR).1
    obtain ⟨hR1, hR2, _⟩ := hrs R (List.mem_of_getElem? hR)
    have skok := sm_ok hR2.k
    have ckb := ck_b R.k
    have mvb := mv_b R.k
    have f1 : ∀ X : D → Prop, qFld (rdD cl n R) "kind" X = X (skD n R.k) := fun X => f_Reading_kind
    have f2 : ∀ X : D → Prop, qFld (rdD cl n R) "late" X = X (.int R.la) := fun X => f_Reading_late
    have f3 : ∀ X : D → Prop, qFld (rdD cl n R) "near" X = X (.int R.ne) := fun X => f_Reading_near
    have f4 : ∀ X : D → Prop, qFld (rdD cl n R) "moment" X = X (.int R.m) := fun X => f_Reading_moment
    unfold rowD m_law_12b m_law_12b_1 m_law_12b_2
    iterate 2
      walk_at "xd"
      (try simp only [f1, f3])
    refine x_movedN ?_
    iterate 2
      walk_at "xd"
      (try simp only [f3])
    walk_at "xd"
    refine ⟨mulOk_l (by omega) (by omega), ?_⟩
    refine x_rateN (by omega) skok fun rt hrt rt0 rt1 => ?_
    iterate 2
      walk_at "xd"
      (try simp only [f2])
    refine x_reach so ?_
    walk_at "xd"
    refine ⟨mulOk_l (by omega) (by omega), ?_⟩
    unfold m_law_12b_3
    walk_at "xd"
    refine x_clockN ?_
    iterate 2
      walk_at "xd"
      (try simp only [f2])
    refine x_slip so ?_
    walk_at "xd"
    refine ⟨mulOk_l (by omega) (by omega), ?_⟩
    refine x_rateN (by omega) skok fun rt' hrt' rt0' rt1' => ?_
    have := rt_unique hrt hrt'
    subst this
    walk_at "xd"
    refine ⟨mulOk_l (by omega) (by omega), ?_⟩
    unfold m_law_12b_4
    walk_at "xd"
    have xm := @x_margin cl n s r p q R
    refine xm (by omega) so skok sh.1 sh.2 fun m hm => ?_
    walk_at "xd"
    refine x_clockN ?_
    iterate 2
      walk_at "xd"
      (try simp only [g4])
    walk_at "xd"
    refine ⟨mulOk_l (by omega) (by omega), ?_⟩
    have em : m = mvF R.k * R.ne + rt * upI s R.la p + ckF R.k * upI r R.la p + rt * (2 * c + 2) + ckF R.k * q.sh := by
      have := mg_unique hm ⟨rt, c, hrt, hrad, rfl⟩
      rw [this]
      simp only [Int.add_assoc]
    rw [if_neg (by rw [decide_eq_true em]; decide)]
    have tk : keepR q (rs.take (i + 1)) = keepR q (rs.take i) ++ (if q.ea ≤ R.m ∧ R.m ≤ q.la then [R] else []) := by
      rw [List.take_add_one, hR]
      unfold keepR
      rw [List.filter_append]
      congr 1
      by_cases c1 : q.ea ≤ R.m ∧ R.m ≤ q.la
      · simp [c1]
      · simp [c1]
    rw [Nat.zero_add] at hnx hmem hml
    have stay : (∀ x, x ∈ ms ↔ x = q.m ∨ x ∈ (keepR q (rs.take (i + 1))).map (·.m)) → ∀ v10 v11 v12 v13 v14, Z'.nx [.v (.scr ns), .v (ltD f 12), .v (setD cl (n : Int) s r p), .v (wyD n w), .v (.int (n : Int)), .v (quD cl q), .v (.lst (rs.map (rowD cl n))), .v (.int (hfC q.sh)), .v (.int c), .own (.l (ms.map D.int)), v10, v11, v12, v13, v14, .un] := fun h v10 v11 v12 v13 v14 => hnx _ ⟨ms, _, _, _, _, _, hnd, h, by omega, rfl⟩
    unfold m_law_12b_5
    iterate 3
      walk_at "xd"
      (try simp only [g6, g7, f4])
    walk_at "xd"
    have no : ¬ (q.ea ≤ R.m ∧ R.m ≤ q.la) → ∀ v10 v11 v12 v13, m_law_12b_6 cl Z' [.v (.scr ns), .v (ltD f 12), .v (setD cl (n : Int) s r p), .v (wyD n w), .v (.int (n : Int)), .v (quD cl q), .v (.lst (rs.map (rowD cl n))), .v (.int (hfC q.sh)), .v (.int c), .own (.l (ms.map D.int)), v10, v11, v12, v13, .v (.bl false), .un] := fun hno v10 v11 v12 v13 => by
      unfold m_law_12b_6
      walk_at "xd"
      refine stay (fun x => ?_) _ _ _ _ _
      rw [hmem x, tk, if_neg hno, List.append_nil]
    by_cases c1 : q.ea ≤ R.m
    · rw [if_pos c1]
      by_cases c2 : R.m ≤ q.la
      · rw [decide_eq_true c2]
        unfold m_law_12b_6
        iterate 3
          walk_at "xd"
          (try simp only [f4, notin_ints])
        walk_at "xd"
        by_cases c3 : ms.contains R.m = true
        · rw [c3]
          walk_at "xd"
          refine stay (fun x => ?_) _ _ _ _ _
          have hin : R.m ∈ ms := by simpa using c3
          rw [tk, if_pos ⟨c1, c2⟩, List.map_append, List.mem_append, hmem x]
          constructor
          · rintro (z | z)
            · exact .inl z
            · exact .inr (.inl z)
          · rintro (z | z | z)
            · exact .inl z
            · exact .inr z
            · have : x = R.m := by simpa using z
              rw [this]; exact (hmem R.m).mp hin
        · have c3' : ms.contains R.m = false := by simpa using c3
          rw [c3']
          iterate 2
            walk_at "xd"
            (try simp only [f4])
          walk_at "xd"
          refine ⟨by show _ < 16777216; (try rw [List.length_map]); omega, ?_⟩
          refine hnx _ ⟨ms ++ [R.m], _, _, _, _, _, ?_, fun x => ?_, by simp; omega, by rw [List.map_append]; rfl⟩
          · rw [List.nodup_append]
            refine ⟨hnd, by simp, fun a ha b hb => ?_⟩
            rw [List.mem_singleton.mp hb]
            intro e; subst e
            exact c3 (by simpa using ha)
          · rw [tk, if_pos ⟨c1, c2⟩, List.map_append, List.mem_append, List.mem_append, hmem x, or_assoc]
            rfl
      · rw [decide_eq_false c2]
        exact no (fun z => c2 z.2) _ _ _ _
    · rw [if_neg c1]
      exact no (fun z => c1 z.1) _ _ _ _
  · rintro e ⟨ms, v10, v11, v12, v13, v14, hnd, hmem, hml, rfl⟩
    (try dsimp only)
    rw [Nat.zero_add, List.length_map, List.take_length] at hmem
    rw [Nat.zero_add, List.length_map] at hml
    have ln : ms.length = (nubI (momL q rs)).length := same_len hnd (nub_is _).1 fun x => by
      rw [hmem x, (nub_is _).2 x]
      unfold momL
      rw [List.mem_append, List.mem_singleton, or_comm]
    unfold m_law_13
    walk_at "xd"
    unfold m_law_14
    walk_at "xd"
    have xs := @x_stretch cl n s r p q rs
    refine xs (by omega) (by omega) sh.1 sh.2 fun x hx => ?_
    obtain ⟨c', hc', rfl⟩ := hx
    have : c' = c := isUp_unique hc' hrad
    subst this
    walk_at "xd"
    refine ⟨mulOk_l (by omega) (by omega), ?_⟩
    rw [if_pos (by rw [ln])]
    refine eq_rows (by simp) (fun R hR => ?_) h
    have := (hrs R hR).1
    simp only [List.mem_cons, List.not_mem_nil, or_false] at this
    rcases this with z | z | z <;> rw [z] <;> decide +kernel
theorem law_D : ∀ ns : List Int, ns.length ≤ 63 → (∀ z ∈ ns, Builtin.Int.intBits z ≤ 1048576) → ∀ Q : D → Prop, Q (.bl true) → ∀ cl, GoodC 3 cl → runD 16 (m_law cl) [.scr ns] Q := by
  intro ns hl _ Q h cl _
  unfold runD startD m_law m_law_1
  walk_at "xd"
  have xr := @x_rows ns 12
  refine xr (by decide) (by omega) fun f hf => ?_
  have fl : (D.lst ((List.range 12).map fun j => D.int (f j)) : D) = ltD f 12 := rfl
  rw [fl]
  have i0 : ∀ X : D → Prop, dIx (ltD f 12) (.int 0) X = X (.int (f 0)) := fun X => lt_at (j := 0) (by decide) X
  have i4 : ∀ X : D → Prop, dIx (ltD f 12) (.int 4) X = X (.int (f 4)) := fun X => lt_at (j := 4) (by decide) X
  have i5 : ∀ X : D → Prop, dIx (ltD f 12) (.int 5) X = X (.int (f 5)) := fun X => lt_at (j := 5) (by decide) X
  have sl : ∀ X : D → Prop, dSl (ltD f 12) (some 1) (some 4) X = X (.lst [.int (f 1), .int (f 2), .int (f 3)]) := fun X => rfl
  unfold m_law_2
  walk_at "xd"
  rw [i0]
  refine x_lset fun n s r p h2 so s8 r2 p3 => ?_
  unfold m_law_3
  iterate 2
    walk_at "xd"
    (try simp only [sl])
  refine x_lway h2 so r2 fun w wk => ?_
  unfold m_law_4
  iterate 2
    walk_at "xd"
    (try simp only [lw_dims])
  unfold m_law_5
  iterate 2
    walk_at "xd"
    (try simp only [i0, i4])
  walk_at "xd"
  have m3 := mod_pos (c := f 0 / 200) (m := 3) (by decide)
  refine x_lquest h2 wk (by omega) (by omega) fun q ok hli => ?_
  have g1 : ∀ X : D → Prop, qFld (quD cl q) "moment" X = X (.int q.m) := fun X => f_Question_moment
  have g2 : ∀ X : D → Prop, qFld (quD cl q) "root" X = X (boxD q.root) := fun X => f_Question_root
  have g3 : ∀ X : D → Prop, qFld (quD cl q) "earliest" X = X (.int q.ea) := fun X => f_Question_earliest
  have g4 : ∀ X : D → Prop, qFld (quD cl q) "latest" X = X (.int q.la) := fun X => f_Question_latest
  unfold m_law_6
  iterate 2
    walk_at "xd"
    (try simp only [i0])
  walk_at "xd"
  by_cases c1 : f 0 / 7 % 3 = 1
  · rw [if_pos c1]
    iterate 5
      walk_at "xd"
      (try simp only [g1, g2, g3, g4, i5])
    walk_at "xd"
    obtain ⟨sh, hsh, s0, s1⟩ : ∃ sh, sh = 1 + f 5 % 1000000 ∧ 1 ≤ sh ∧ sh ≤ 1000000 := ⟨_, rfl, by omega, by omega⟩
    rw [← hsh]
    have ok' : QuL w n ⟨q.m, q.root, 1, sh, q.ea, q.la⟩ := ⟨ok.m, ok.root, ok.ea, ok.la, ⟨s0, s1⟩⟩
    have go := @x_mkQu cl w n s r p ⟨q.m, q.root, 1, sh, q.ea, q.la⟩
    refine go h2 wk ok' (by show (0 : Int) ≤ 1; decide) (by show (1 : Int) ≤ 3; decide) ?_
    (try dsimp only)
    exact law_rest hf h2 so wk ok' h
  · rw [if_neg c1]
    (try walk_at "xd")
    exact law_rest hf h2 so wk ok h


end DL

/-! derivations of sureplace_k51_how_bounds_are_widened, written by gen.py -/
namespace DL
open PySem PySem.Spec PyProof.Rows L2
def topS (i : Nat) : Stmt := PySem.Challenge.pw_sureplace_k51_how_bounds_are_widened.main.body.getD i (.Pass ⟨0, 0, 0, 0⟩)
structure Tx (mg : Str → Option Value) : Prop where
  z_abs : mg "abs" = none
  z_all : mg "all" = none
  z_any : mg "any" = none
  z_int : mg "int" = none
  z_isinstance : mg "isinstance" = none
  z_len : mg "len" = none
  z_list : mg "list" = none
  z_max : mg "max" = none
  z_range : mg "range" = none
  z_set : mg "set" = none
  z_sum : mg "sum" = none
  z_tuple : mg "tuple" = none
  z_zip : mg "zip" = none
  g_MOST : ∃ t, mg "MOST" = some (.int 1000000000000 t)
  g_MOST_BOXES : ∃ t, mg "MOST_BOXES" = some (.int 16 t)
  g_MOST_DIRECTION : ∃ t, mg "MOST_DIRECTION" = some (.int 1000 t)
  g_MOST_LIARS : ∃ t, mg "MOST_LIARS" = some (.int 3 t)
  g_MOST_SIGNS : ∃ t, mg "MOST_SIGNS" = some (.int 64 t)
  g_MOST_VALUE : ∃ t, mg "MOST_VALUE" = some (.int 1000000000000000 t)
  g_SIGNS : ∃ t, mg "SIGNS" = some (.str (PySem.Str.ofString "abcdefghijklmnopqrstuvwxyz0123456789_-") t)
  g_isqrt : mg "isqrt" = some (.builtin "math.isqrt")
abbrev s_is_name : Stmt := topS 9
abbrev N_is_name : List Str := ["text", "sign"]
theorem sc_is_name : FnScope N_is_name ["text"] (defScope s_is_name) := ⟨rfl, rfl, rfl, by decide +kernel, rfl, by decide +kernel, by decide +kernel⟩
abbrev s_K_Setting_init : Stmt := inClass (topS 12) 0
abbrev N_K_Setting_init : List Str := ["self", "dims", "speed", "drift", "per"]
theorem sc_K_Setting_init : FnScope N_K_Setting_init ["self", "dims", "speed", "drift", "per"] (defScope s_K_Setting_init) := ⟨rfl, rfl, rfl, by decide +kernel, rfl, by decide +kernel, by decide +kernel⟩
abbrev s_K_Setting_eq : Stmt := inClass (topS 12) 1
abbrev N_K_Setting_eq : List Str := ["self", "other", "mine"]
theorem sc_K_Setting_eq : FnScope N_K_Setting_eq ["self", "other"] (defScope s_K_Setting_eq) := ⟨rfl, rfl, rfl, by decide +kernel, rfl, by decide +kernel, by decide +kernel⟩
abbrev s_in_room : Stmt := topS 18
abbrev N_in_room : List Str := ["numbers", "number"]
theorem sc_in_room : FnScope N_in_room ["numbers"] (defScope s_in_room) := ⟨rfl, rfl, rfl, by decide +kernel, rfl, by decide +kernel, by decide +kernel⟩
abbrev s_box_in_room : Stmt := topS 19
abbrev N_box_in_room : List Str := ["box", "low", "high"]
theorem sc_box_in_room : FnScope N_box_in_room ["box"] (defScope s_box_in_room) := ⟨rfl, rfl, rfl, by decide +kernel, rfl, by decide +kernel, by decide +kernel⟩
abbrev s_kind_in_bounds : Stmt := topS 20
abbrev N_kind_in_bounds : List Str := ["kind", "number", "box", "point"]
theorem sc_kind_in_bounds : FnScope N_kind_in_bounds ["kind"] (defScope s_kind_in_bounds) := ⟨rfl, rfl, rfl, by decide +kernel, rfl, by decide +kernel, by decide +kernel⟩
abbrev s_K_Reading_init : Stmt := inClass (topS 21) 0
abbrev N_K_Reading_init : List Str := ["self", "source", "moment", "kind", "low", "high", "late", "near"]
theorem sc_K_Reading_init : FnScope N_K_Reading_init ["self", "source", "moment", "kind", "low", "high", "late", "near"] (defScope s_K_Reading_init) := ⟨rfl, rfl, rfl, by decide +kernel, rfl, by decide +kernel, by decide +kernel⟩
abbrev s_K_Reading_eq : Stmt := inClass (topS 21) 1
abbrev N_K_Reading_eq : List Str := ["self", "other", "mine"]
theorem sc_K_Reading_eq : FnScope N_K_Reading_eq ["self", "other"] (defScope s_K_Reading_eq) := ⟨rfl, rfl, rfl, by decide +kernel, rfl, by decide +kernel, by decide +kernel⟩
abbrev s_K_Question_init : Stmt := inClass (topS 24) 0
abbrev N_K_Question_init : List Str := ["self", "moment", "root", "liars", "share", "earliest", "latest"]
theorem sc_K_Question_init : FnScope N_K_Question_init ["self", "moment", "root", "liars", "share", "earliest", "latest"] (defScope s_K_Question_init) := ⟨rfl, rfl, rfl, by decide +kernel, rfl, by decide +kernel, by decide +kernel⟩
abbrev s_K_Question_eq : Stmt := inClass (topS 24) 1
abbrev N_K_Question_eq : List Str := ["self", "other", "mine"]
theorem sc_K_Question_eq : FnScope N_K_Question_eq ["self", "other"] (defScope s_K_Question_eq) := ⟨rfl, rfl, rfl, by decide +kernel, rfl, by decide +kernel, by decide +kernel⟩
abbrev s_asked : Stmt := topS 25
abbrev N_asked : List Str := ["question", "readings", "number", "reading"]
theorem sc_asked : FnScope N_asked ["question", "readings"] (defScope s_asked) := ⟨rfl, rfl, rfl, by decide +kernel, rfl, by decide +kernel, by decide +kernel⟩
abbrev s_root_up : Stmt := topS 27
abbrev N_root_up : List Str := ["number", "root"]
theorem sc_root_up : FnScope N_root_up ["number"] (defScope s_root_up) := ⟨rfl, rfl, rfl, by decide +kernel, rfl, by decide +kernel, by decide +kernel⟩
abbrev s_dot : Stmt := topS 29
abbrev N_dot : List Str := ["one", "two", "a", "b"]
theorem sc_dot : FnScope N_dot ["one", "two"] (defScope s_dot) := ⟨rfl, rfl, rfl, by decide +kernel, rfl, by decide +kernel, by decide +kernel⟩
abbrev s_reach : Stmt := topS 31
abbrev N_reach : List Str := ["setting", "ticks"]
theorem sc_reach : FnScope N_reach ["setting", "ticks"] (defScope s_reach) := ⟨rfl, rfl, rfl, by decide +kernel, rfl, by decide +kernel, by decide +kernel⟩
abbrev s_slip : Stmt := topS 32
abbrev N_slip : List Str := ["setting", "ticks"]
theorem sc_slip : FnScope N_slip ["setting", "ticks"] (defScope s_slip) := ⟨rfl, rfl, rfl, by decide +kernel, rfl, by decide +kernel, by decide +kernel⟩
abbrev s_rate : Stmt := topS 34
abbrev N_rate : List Str := ["kind"]
theorem sc_rate : FnScope N_rate ["kind"] (defScope s_rate) := ⟨rfl, rfl, rfl, by decide +kernel, rfl, by decide +kernel, by decide +kernel⟩
abbrev s_clock_rate : Stmt := topS 35
abbrev N_clock_rate : List Str := ["kind"]
theorem sc_clock_rate : FnScope N_clock_rate ["kind"] (defScope s_clock_rate) := ⟨rfl, rfl, rfl, by decide +kernel, rfl, by decide +kernel, by decide +kernel⟩
abbrev s_moved : Stmt := topS 36
abbrev N_moved : List Str := ["kind"]
theorem sc_moved : FnScope N_moved ["kind"] (defScope s_moved) := ⟨rfl, rfl, rfl, by decide +kernel, rfl, by decide +kernel, by decide +kernel⟩
abbrev s_cell_radius : Stmt := topS 38
abbrev N_cell_radius : List Str := ["setting", "share", "half"]
theorem sc_cell_radius : FnScope N_cell_radius ["setting", "share"] (defScope s_cell_radius) := ⟨rfl, rfl, rfl, by decide +kernel, rfl, by decide +kernel, by decide +kernel⟩
abbrev s_stretch : Stmt := topS 39
abbrev N_stretch : List Str := ["setting", "question", "readings", "moments", "number", "reading"]
theorem sc_stretch : FnScope N_stretch ["setting", "question", "readings"] (defScope s_stretch) := ⟨rfl, rfl, rfl, by decide +kernel, rfl, by decide +kernel, by decide +kernel⟩
abbrev s_margin : Stmt := topS 40
abbrev N_margin : List Str := ["setting", "question", "reading", "kind", "late", "cell"]
theorem sc_margin : FnScope N_margin ["setting", "question", "reading"] (defScope s_margin) := ⟨rfl, rfl, rfl, by decide +kernel, rfl, by decide +kernel, by decide +kernel⟩
abbrev s__law_rows : Stmt := topS 42
abbrev N__law_rows : List Str := ["_law_script", "_law_count", "_law_rows_here", "_law_k", "_law_cell"]
theorem sc__law_rows : FnScope N__law_rows ["_law_script", "_law_count"] (defScope s__law_rows) := ⟨rfl, rfl, rfl, by decide +kernel, rfl, by decide +kernel, by decide +kernel⟩
abbrev s__law_root : Stmt := topS 43
abbrev N__law_root : List Str := ["_law_number", "_law_low", "_law_high", "_law_turn", "_law_half"]
theorem sc__law_root : FnScope N__law_root ["_law_number"] (defScope s__law_root) := ⟨rfl, rfl, rfl, by decide +kernel, rfl, by decide +kernel, by decide +kernel⟩
abbrev s__law_up : Stmt := topS 44
abbrev N__law_up : List Str := ["_law_number", "_law_root_here"]
theorem sc__law_up : FnScope N__law_up ["_law_number"] (defScope s__law_up) := ⟨rfl, rfl, rfl, by decide +kernel, rfl, by decide +kernel, by decide +kernel⟩
abbrev s__law_digits : Stmt := topS 45
abbrev N__law_digits : List Str := ["_law_row", "_law_base", "_law_count", "_law_digits_here", "_law_turn"]
theorem sc__law_digits : FnScope N__law_digits ["_law_row", "_law_base", "_law_count"] (defScope s__law_digits) := ⟨rfl, rfl, rfl, by decide +kernel, rfl, by decide +kernel, by decide +kernel⟩
abbrev s__law_setting : Stmt := topS 46
abbrev N__law_setting : List Str := ["_law_row", "_law_dims"]
theorem sc__law_setting : FnScope N__law_setting ["_law_row"] (defScope s__law_setting) := ⟨rfl, rfl, rfl, by decide +kernel, rfl, by decide +kernel, by decide +kernel⟩
abbrev s__law_velocity : Stmt := topS 47
abbrev N__law_velocity : List Str := ["_law_setting_here", "_law_row", "_law_velocity_here", "_law_digit", "_law_turn", "_law_square_here", "_law_number"]
theorem sc__law_velocity : FnScope N__law_velocity ["_law_setting_here", "_law_row"] (defScope s__law_velocity) := ⟨rfl, rfl, rfl, by decide +kernel, rfl, by decide +kernel, by decide +kernel⟩
abbrev s__law_at : Stmt := topS 48
abbrev N__law_at : List Str := ["_law_way_here", "_law_moment", "_law_place", "_law_clock", "_law_turn_here", "_law_first", "_law_second", "_law_early", "_law_late", "_law_ticks", "_law_going", "_law_drifting", "_law_there", "_law_k"]
theorem sc__law_at : FnScope N__law_at ["_law_way_here", "_law_moment"] (defScope s__law_at) := ⟨rfl, rfl, rfl, by decide +kernel, rfl, by decide +kernel, by decide +kernel⟩
abbrev s__law_way : Stmt := topS 49
abbrev N__law_way : List Str := ["_law_setting_here", "_law_rows_here", "_law_place", "_law_digit", "_law_slow", "_law_early", "_law_late", "_law_first", "_law_second"]
theorem sc__law_way : FnScope N__law_way ["_law_setting_here", "_law_rows_here"] (defScope s__law_way) := ⟨rfl, rfl, rfl, by decide +kernel, rfl, by decide +kernel, by decide +kernel⟩
abbrev s__law_square : Stmt := topS 50
abbrev N__law_square : List Str := ["_law_one", "_law_two", "_law_k"]
theorem sc__law_square : FnScope N__law_square ["_law_one", "_law_two"] (defScope s__law_square) := ⟨rfl, rfl, rfl, by decide +kernel, rfl, by decide +kernel, by decide +kernel⟩
abbrev s__law_piece : Stmt := topS 51
abbrev N__law_piece : List Str := ["_law_place", "_law_at_here", "_law_to", "_law_along", "_law_k", "_law_way_here", "_law_whole", "_law_number", "_law_reached", "_law_square_here"]
theorem sc__law_piece : FnScope N__law_piece ["_law_place", "_law_at_here", "_law_to"] (defScope s__law_piece) := ⟨rfl, rfl, rfl, by decide +kernel, rfl, by decide +kernel, by decide +kernel⟩
abbrev s__law_boxes : Stmt := topS 52
abbrev N__law_boxes : List Str := ["_law_place", "_law_boxes_here", "_law_best", "_law_box", "_law_square_here", "_law_k", "_law_gap"]
theorem sc__law_boxes : FnScope N__law_boxes ["_law_place", "_law_boxes_here"] (defScope s__law_boxes) := ⟨rfl, rfl, rfl, by decide +kernel, rfl, by decide +kernel, by decide +kernel⟩
abbrev s__law_value : Stmt := topS 53
abbrev N__law_value : List Str := ["_law_kind_here", "_law_place", "_law_clock", "_law_value_here", "_law_k", "_law_low", "_law_high", "_law_square_here", "_law_other", "_law_more"]
theorem sc__law_value : FnScope N__law_value ["_law_kind_here", "_law_place", "_law_clock"] (defScope s__law_value) := ⟨rfl, rfl, rfl, by decide +kernel, rfl, by decide +kernel, by decide +kernel⟩
abbrev s__law_point : Stmt := topS 54
abbrev N__law_point : List Str := ["_law_dims", "_law_row", "_law_digit"]
theorem sc__law_point : FnScope N__law_point ["_law_dims", "_law_row"] (defScope s__law_point) := ⟨rfl, rfl, rfl, by decide +kernel, rfl, by decide +kernel, by decide +kernel⟩
abbrev s__law_kind : Stmt := topS 55
abbrev N__law_kind : List Str := ["_law_dims", "_law_row", "_law_names", "_law_name", "_law_rest", "_law_direction", "_law_digit", "_law_number", "_law_boxes_here", "_law_j", "_law_corner"]
theorem sc__law_kind : FnScope N__law_kind ["_law_dims", "_law_row"] (defScope s__law_kind) := ⟨rfl, rfl, rfl, by decide +kernel, rfl, by decide +kernel, by decide +kernel⟩
abbrev s__law_moved : Stmt := topS 56
abbrev N__law_moved : List Str := ["_law_kind_here", "_law_shift", "_law_boxes_here", "_law_box", "_law_k", "_law_points", "_law_point_here"]
theorem sc__law_moved : FnScope N__law_moved ["_law_kind_here", "_law_shift"] (defScope s__law_moved) := ⟨rfl, rfl, rfl, by decide +kernel, rfl, by decide +kernel, by decide +kernel⟩
abbrev s__law_reading : Stmt := topS 57
abbrev N__law_reading : List Str := ["_law_way_here", "_law_dims", "_law_name", "_law_row", "_law_lies", "_law_kind_here", "_law_moment", "_law_late", "_law_taken", "_law_near", "_law_shift", "_law_there", "_law_low", "_law_high"]
theorem sc__law_reading : FnScope N__law_reading ["_law_way_here", "_law_dims", "_law_name", "_law_row", "_law_lies"] (defScope s__law_reading) := ⟨rfl, rfl, rfl, by decide +kernel, rfl, by decide +kernel, by decide +kernel⟩
abbrev s__law_readings : Stmt := topS 58
abbrev N__law_readings : List Str := ["_law_way_here", "_law_dims", "_law_rows_here", "_law_many", "_law_names", "_law_liars", "_law_found", "_law_k", "_law_name"]
theorem sc__law_readings : FnScope N__law_readings ["_law_way_here", "_law_dims", "_law_rows_here", "_law_many", "_law_names", "_law_liars"] (defScope s__law_readings) := ⟨rfl, rfl, rfl, by decide +kernel, rfl, by decide +kernel, by decide +kernel⟩
abbrev s__law_question : Stmt := topS 59
abbrev N__law_question : List Str := ["_law_way_here", "_law_dims", "_law_row", "_law_liars", "_law_moment", "_law_there", "_law_below", "_law_above", "_law_root_here", "_law_k", "_law_share", "_law_earliest", "_law_latest"]
theorem sc__law_question : FnScope N__law_question ["_law_way_here", "_law_dims", "_law_row", "_law_liars"] (defScope s__law_question) := ⟨rfl, rfl, rfl, by decide +kernel, rfl, by decide +kernel, by decide +kernel⟩
abbrev s_law : Stmt := topS 60
abbrev N_law : List Str := ["_law_script", "_law_rows_here", "_law_setting_here", "_law_way_here", "_law_dims", "_law_question_here", "_law_readings_here", "_law_half", "_law_radius", "_law_moments", "_law_number", "_law_reading_here", "_law_kind_here", "_law_due", "_law_inside", "_law_kept"]
theorem sc_law : FnScope N_law ["_law_script"] (defScope s_law) := ⟨rfl, rfl, rfl, by decide +kernel, rfl, by decide +kernel, by decide +kernel⟩
section
variable {P : Program} {w : World} {K : PySem.W.Frag} {mg : Str → Option Value} {base : Heap} {fa : Addr} {cdv : Value} {A : Around} {outer : List PySem.Env} {s : Shared} {H : Hp} {E : XK}
theorem d_is_name (T : Tx mg) (hr : Room 0 (A.deeper (envOfC "is_name" (defScope s_is_name) s.heap.objs.size fa cdv))) :
    SSs (cxOf CX0 P w K mg base N_is_name "is_name" (defScope s_is_name) fa cdv A outer s H E).nox (defBody s_is_name) m_is_name := by
  refine sss_one ?_
  · exact (ss_ret (ee_and (ee_chain or_le or_le dRel_mono dRel_mono ee_int.b (ee_callB (cn_len) nLen_mono (by rfl) T.z_len (by decide +kernel) (eab_cons (eb_var (pv 0)) eab_nil)).b (let ⟨_, h⟩ := T.g_MOST_SIGNS; ee_glob (v := V.int (64)) (d := D.int (64)) (by rfl) h ⟨_, rfl⟩ fun _ => .int _).b) (ee_one (ee_callB (cn_all rfl) nAll_mono (by rfl) T.z_all (by decide +kernel) (eab_cons (en_lc (own := [("sign", 1)]) [] rfl sc_is_name.nd (ei_seq (ee_var (pv 0))) (blkOk_by (N := N_is_name) (sc := defScope s_is_name) (by decide +kernel)) (fun _ _ _ _ _ => (eg_name (i := 1) sc_is_name.nd rfl (by first | exact .inl rfl | exact .inr rfl))) (fun _ _ _ _ _ => ets_nil) (fun _ _ _ _ _ => (ee_cmp or_in dIn_mono (eb_var (pv 1)) (EE.b (let ⟨_, h⟩ := T.g_SIGNS; ee_glob (v := V.str (PySem.Str.ofString "abcdefghijklmnopqrstuvwxyz0123456789_-")) (d := D.str (PySem.Str.ofString "abcdefghijklmnopqrstuvwxyz0123456789_-")) (by rfl) h ⟨_, rfl⟩ fun _ => .str _)) (by rfl)))).b eab_nil)))))
theorem d_K_Setting_init {cl : Nat → Addr} (T : Tx mg) (i_Setting : InsK K (cl 0) ["dims", "speed", "drift", "per"]) (hr : Room 0 (A.deeper (envOfC "Setting.__init__" (defScope s_K_Setting_init) s.heap.objs.size fa cdv))) :
    SSs (cxOf CX0 P w K mg base N_K_Setting_init "Setting.__init__" (defScope s_K_Setting_init) fa cdv A outer s H E).nox (defBody s_K_Setting_init) (m_K_Setting_init cl) := by
  refine sss_cons ?_ ?_
  · refine ss_if (ew_or (et_cmp or_notin dIn_mono (eb_var (pv 1)) (ee_tup (ea_cons ee_int (ea_cons ee_int ea_nil))).b (by rfl)) (ew_or (et_not (et_chain or_le or_le dRel_mono dRel_mono ee_int.b (eb_var (pv 2)) (let ⟨_, h⟩ := T.g_MOST; ee_glob (v := V.int (1000000000000)) (d := D.int (1000000000000)) (by rfl) h ⟨_, rfl⟩ fun _ => .int _).b)) (ew_or (et_not (et_chain or_le or_le dRel_mono dRel_mono ee_int.b (eb_var (pv 3)) (let ⟨_, h⟩ := T.g_MOST; ee_glob (v := V.int (1000000000000)) (d := D.int (1000000000000)) (by rfl) h ⟨_, rfl⟩ fun _ => .int _).b)) (ew_or1 (et_not (et_chain or_le or_le dRel_mono dRel_mono ee_int.b (eb_var (pv 4)) (let ⟨_, h⟩ := T.g_MOST; ee_glob (v := V.int (1000000000000)) (d := D.int (1000000000000)) (by rfl) h ⟨_, rfl⟩ fun _ => .int _).b)))))).t ?_ ?_
    · refine sss_one ?_
      · exact ss_no
    · exact sss_nil
  refine sss_cons ?_ ?_
  · exact (ss_fld i_Setting (by decide +kernel) (pv 0) (ee_var (pv 1)))
  refine sss_cons ?_ ?_
  · exact (ss_fld i_Setting (by decide +kernel) (pv 0) (ee_var (pv 2)))
  refine sss_cons ?_ ?_
  · exact (ss_fld i_Setting (by decide +kernel) (pv 0) (ee_var (pv 3)))
  refine sss_one ?_
  · exact (ss_fld i_Setting (by decide +kernel) (pv 0) (ee_var (pv 4)))
theorem d_K_Setting_eq {cl : Nat → Addr} (T : Tx mg) (g_Setting : mg "Setting" = some (.ref (cl 0))) (x_Setting : (∀ C ∈ [cl 0, cl 1, cl 2], PySem.W.kitOne K (.ref C) (.ref (cl 0)) = some (decide (C = cl 0))) ∧ ∀ n ∈ tysD, PySem.W.kitOne K (.type n) (.ref (cl 0)) = some false) (hr : Room 0 (A.deeper (envOfC "Setting.__eq__" (defScope s_K_Setting_eq) s.heap.objs.size fa cdv))) :
    SSs (cxOf CX0 P w K mg base N_K_Setting_eq "Setting.__eq__" (defScope s_K_Setting_eq) fa cdv A outer s H E).nox (defBody s_K_Setting_eq) (m_K_Setting_eq cl) := by
  refine sss_cons ?_ ?_
  · refine ss_if (et_not (et_tru (ee_callB (cn_isiO x_Setting.1 x_Setting.2) nIsiO_mono (by rfl) T.z_isinstance (by decide +kernel) (eab_cons (eb_var (pv 1)) (eab_cons (ee_cls (by rfl) g_Setting).b eab_nil))).b (fun _ => rfl))) ?_ ?_
    · refine sss_one ?_
      · exact (ss_ret ee_bl)
    · exact sss_nil
  refine sss_cons ?_ ?_
  · exact (ss_set (i := 2) sc_K_Setting_eq.nd rfl (by first | exact .inl rfl | exact .inr rfl) (ee_tup (ea_cons (ee_fld (eb_var (pv 0))) (ea_cons (ee_fld (eb_var (pv 0))) (ea_cons (ee_fld (eb_var (pv 0))) (ea_cons (ee_fld (eb_var (pv 0))) ea_nil))))))
  refine sss_one ?_
  · exact (ss_ret (ee_cmp (or_eq hr.units) dEq_mono (eb_var (pv 2)) (ee_tup (ea_cons (ee_fld (eb_var (pv 1))) (ea_cons (ee_fld (eb_var (pv 1))) (ea_cons (ee_fld (eb_var (pv 1))) (ea_cons (ee_fld (eb_var (pv 1))) ea_nil))))).b (nomark _)))
theorem d_in_room (T : Tx mg) (hr : Room 0 (A.deeper (envOfC "in_room" (defScope s_in_room) s.heap.objs.size fa cdv))) :
    SSs (cxOf CX0 P w K mg base N_in_room "in_room" (defScope s_in_room) fa cdv A outer s H E).nox (defBody s_in_room) m_in_room := by
  refine sss_one ?_
  · exact (ss_ret (ee_callB (cn_all rfl) nAll_mono (by rfl) T.z_all (by decide +kernel) (eab_cons (en_lc (own := [("number", 1)]) [] rfl sc_in_room.nd (ei_seq (ee_var (pv 0))) (blkOk_by (N := N_in_room) (sc := defScope s_in_room) (by decide +kernel)) (fun _ _ _ _ _ => (eg_name (i := 1) sc_in_room.nd rfl (by first | exact .inl rfl | exact .inr rfl))) (fun _ _ _ _ _ => ets_nil) (fun _ _ _ _ _ => (ee_chain or_le or_le dRel_mono dRel_mono (EE.b (ee_neg (let ⟨_, h⟩ := T.g_MOST; ee_glob (v := V.int (1000000000000)) (d := D.int (1000000000000)) (by rfl) h ⟨_, rfl⟩ fun _ => .int _))) (eb_var (pv 1)) (EE.b (let ⟨_, h⟩ := T.g_MOST; ee_glob (v := V.int (1000000000000)) (d := D.int (1000000000000)) (by rfl) h ⟨_, rfl⟩ fun _ => .int _))))).b eab_nil)))
theorem d_box_in_room (T : Tx mg) (hr : Room 0 (A.deeper (envOfC "box_in_room" (defScope s_box_in_room) s.heap.objs.size fa cdv))) :
    SSs (cxOf CX0 P w K mg base N_box_in_room "box_in_room" (defScope s_box_in_room) fa cdv A outer s H E).nox (defBody s_box_in_room) m_box_in_room := by
  refine sss_one ?_
  · exact (ss_ret (ee_callB (cn_all rfl) nAll_mono (by rfl) T.z_all (by decide +kernel) (eab_cons (en_lc (own := [("low", 1), ("high", 2)]) [] rfl sc_box_in_room.nd (ei_seq (ee_var (pv 0))) (blkOk_by (N := N_box_in_room) (sc := defScope s_box_in_room) (by decide +kernel)) (fun _ _ _ _ _ => (eg_tup rfl (egs_cons (eg_name (i := 1) sc_box_in_room.nd rfl (by first | exact .inl rfl | exact .inr rfl)) (egs_cons (eg_name (i := 2) sc_box_in_room.nd rfl (by first | exact .inl rfl | exact .inr rfl)) egs_nil)))) (fun _ _ _ _ _ => ets_nil) (fun _ _ _ _ _ => (ee_chain3 or_le or_le or_le dRel_mono dRel_mono dRel_mono (EE.b (ee_neg (let ⟨_, h⟩ := T.g_MOST; ee_glob (v := V.int (1000000000000)) (d := D.int (1000000000000)) (by rfl) h ⟨_, rfl⟩ fun _ => .int _))) (eb_var (pv 1)) (eb_var (pv 2)) (EE.b (let ⟨_, h⟩ := T.g_MOST; ee_glob (v := V.int (1000000000000)) (d := D.int (1000000000000)) (by rfl) h ⟨_, rfl⟩ fun _ => .int _))))).b eab_nil)))
theorem d_kind_in_bounds (T : Tx mg) (c_box_in_room : Cal P w K mg base "box_in_room" 1 ["box"] [] (runD 3 m_box_in_room)) (c_in_room : Cal P w K mg base "in_room" 1 ["numbers"] [] (runD 2 m_in_room)) (p_POINTS : DictK K w mg "POINTS" ["range", "clocked", "differ", "piece"]) (hr : Room 1 (A.deeper (envOfC "kind_in_bounds" (defScope s_kind_in_bounds) s.heap.objs.size fa cdv))) :
    SSs (cxOf CX0 P w K mg base N_kind_in_bounds "kind_in_bounds" (defScope s_kind_in_bounds) fa cdv A outer s H E).nox (defBody s_kind_in_bounds) m_kind_in_bounds := by
  refine sss_cons ?_ ?_
  · refine ss_if (et_cmp (or_eq hr.units) dEq_mono (ee_ix (eb_var (pv 0)) ee_int.b (fun _ _ => rfl)).b ee_str.b (nomark _)) ?_ ?_
    · refine sss_one ?_
      · exact (ss_ret (ee_and (ee_callB (cn_all rfl) nAll_mono (by rfl) T.z_all (by decide +kernel) (eab_cons (en_lc (own := [("number", 1)]) [] rfl sc_kind_in_bounds.nd (ei_seq (ee_ix (eb_var (pv 0)) ee_int.b (fun _ _ => rfl))) (blkOk_by (N := N_kind_in_bounds) (sc := defScope s_kind_in_bounds) (by decide +kernel)) (fun _ _ _ _ _ => (eg_name (i := 1) sc_kind_in_bounds.nd rfl (by first | exact .inl rfl | exact .inr rfl))) (fun _ _ _ _ _ => ets_nil) (fun _ _ _ _ _ => (ee_cmp or_le dRel_mono (EE.b (ee_callB (cn_abs) nAbs_mono (by rfl) T.z_abs (by decide +kernel) (eab_cons (eb_var (pv 1)) eab_nil))) (EE.b (let ⟨_, h⟩ := T.g_MOST_DIRECTION; ee_glob (v := V.int (1000)) (d := D.int (1000)) (by rfl) h ⟨_, rfl⟩ fun _ => .int _)) (nomark _)))).b eab_nil)) (ee_one (ee_callB (cn_any rfl) nAny_mono (by rfl) T.z_any (by decide +kernel) (eab_cons (en_lc (own := [("number", 1)]) [] rfl sc_kind_in_bounds.nd (ei_seq (ee_ix (eb_var (pv 0)) ee_int.b (fun _ _ => rfl))) (blkOk_by (N := N_kind_in_bounds) (sc := defScope s_kind_in_bounds) (by decide +kernel)) (fun _ _ _ _ _ => (eg_name (i := 1) sc_kind_in_bounds.nd rfl (by first | exact .inl rfl | exact .inr rfl))) (fun _ _ _ _ _ => ets_nil) (fun _ _ _ _ _ => (ee_cmp (or_ne hr.units) dNe_mono (eb_var (pv 1)) (EE.b ee_int) (nomark _)))).b eab_nil)))))
    · exact sss_nil
  refine sss_cons ?_ ?_
  · refine ss_if (et_cmp (or_eq hr.units) dEq_mono (ee_ix (eb_var (pv 0)) ee_int.b (fun _ _ => rfl)).b ee_str.b (nomark _)) ?_ ?_
    · refine sss_one ?_
      · exact (ss_ret (ee_and (ee_chain or_le or_le dRel_mono dRel_mono ee_int.b (ee_callB (cn_len) nLen_mono (by rfl) T.z_len (by decide +kernel) (eab_cons (ee_ix (eb_var (pv 0)) ee_int.b (fun _ _ => rfl)).b eab_nil)).b (let ⟨_, h⟩ := T.g_MOST_BOXES; ee_glob (v := V.int (16)) (d := D.int (16)) (by rfl) h ⟨_, rfl⟩ fun _ => .int _).b) (ee_one (ee_callB (cn_all rfl) nAll_mono (by rfl) T.z_all (by decide +kernel) (eab_cons (en_lc (own := [("box", 2)]) [] rfl sc_kind_in_bounds.nd (ei_seq (ee_ix (eb_var (pv 0)) ee_int.b (fun _ _ => rfl))) (blkOk_by (N := N_kind_in_bounds) (sc := defScope s_kind_in_bounds) (by decide +kernel)) (fun _ _ _ _ _ => (eg_name (i := 2) sc_kind_in_bounds.nd rfl (by first | exact .inl rfl | exact .inr rfl))) (fun _ _ _ _ _ => ets_nil) (fun _ _ _ _ _ => (ee_call c_box_in_room (hr.mono (by decide)) (by rfl) (ea_cons (ee_var (pv 2)) ea_nil)))).b eab_nil)))))
    · exact sss_nil
  refine sss_one ?_
  · exact (ss_ret (ee_and (ee_inK p_POINTS (by rfl) (ee_ix (eb_var (pv 0)) ee_int.b (fun _ _ => rfl)).b) (ee_one (ee_callB (cn_all rfl) nAll_mono (by rfl) T.z_all (by decide +kernel) (eab_cons (en_lc (own := [("point", 3)]) [] rfl sc_kind_in_bounds.nd (ei_seq (ee_slice (eb_var (pv 0)) (eo_some ee_int) eo_none)) (blkOk_by (N := N_kind_in_bounds) (sc := defScope s_kind_in_bounds) (by decide +kernel)) (fun _ _ _ _ _ => (eg_name (i := 3) sc_kind_in_bounds.nd rfl (by first | exact .inl rfl | exact .inr rfl))) (fun _ _ _ _ _ => ets_nil) (fun _ _ _ _ _ => (ee_call c_in_room (hr.mono (by decide)) (by rfl) (ea_cons (ee_var (pv 3)) ea_nil)))).b eab_nil)))))
theorem d_K_Reading_init {cl : Nat → Addr} (T : Tx mg) (c_is_name : Cal P w K mg base "is_name" 1 ["text"] [] (runD 2 m_is_name)) (c_in_room : Cal P w K mg base "in_room" 1 ["numbers"] [] (runD 2 m_in_room)) (c_kind_in_bounds : Cal P w K mg base "kind_in_bounds" 2 ["kind"] [] (runD 4 m_kind_in_bounds)) (i_Reading : InsK K (cl 1) ["source", "moment", "kind", "low", "high", "late", "near"]) (hr : Room 2 (A.deeper (envOfC "Reading.__init__" (defScope s_K_Reading_init) s.heap.objs.size fa cdv))) :
    SSs (cxOf CX0 P w K mg base N_K_Reading_init "Reading.__init__" (defScope s_K_Reading_init) fa cdv A outer s H E).nox (defBody s_K_Reading_init) (m_K_Reading_init cl) := by
  refine sss_cons ?_ ?_
  · refine ss_if (ew_or (et_not (et_tru (ee_call c_is_name (hr.mono (by decide)) (by rfl) (ea_cons (ee_var (pv 1)) ea_nil)).b (fun _ => rfl))) (ew_or (et_not (et_tru (ee_call c_in_room (hr.mono (by decide)) (by rfl) (ea_cons (ee_tup (ea_cons (ee_var (pv 2)) ea_nil)) ea_nil)).b (fun _ => rfl))) (ew_or1 (et_not (et_tru (ee_call c_kind_in_bounds (hr.mono (by decide)) (by rfl) (ea_cons (ee_var (pv 3)) ea_nil)).b (fun _ => rfl)))))).t ?_ ?_
    · refine sss_one ?_
      · exact ss_no
    · exact sss_nil
  refine sss_cons ?_ ?_
  · refine ss_if (ew_or (et_not (et_chain3 or_le or_le or_le dRel_mono dRel_mono dRel_mono (ee_neg (let ⟨_, h⟩ := T.g_MOST_VALUE; ee_glob (v := V.int (1000000000000000)) (d := D.int (1000000000000000)) (by rfl) h ⟨_, rfl⟩ fun _ => .int _)).b (eb_var (pv 4)) (eb_var (pv 5)) (let ⟨_, h⟩ := T.g_MOST_VALUE; ee_glob (v := V.int (1000000000000000)) (d := D.int (1000000000000000)) (by rfl) h ⟨_, rfl⟩ fun _ => .int _).b)) (ew_or (et_not (et_chain or_le or_le dRel_mono dRel_mono ee_int.b (eb_var (pv 6)) (let ⟨_, h⟩ := T.g_MOST; ee_glob (v := V.int (1000000000000)) (d := D.int (1000000000000)) (by rfl) h ⟨_, rfl⟩ fun _ => .int _).b)) (ew_or1 (et_not (et_chain or_le or_le dRel_mono dRel_mono ee_int.b (eb_var (pv 7)) (let ⟨_, h⟩ := T.g_MOST; ee_glob (v := V.int (1000000000000)) (d := D.int (1000000000000)) (by rfl) h ⟨_, rfl⟩ fun _ => .int _).b))))).t ?_ ?_
    · refine sss_one ?_
      · exact ss_no
    · exact sss_nil
  refine sss_cons ?_ ?_
  · exact (ss_fld i_Reading (by decide +kernel) (pv 0) (ee_var (pv 1)))
  refine sss_cons ?_ ?_
  · exact (ss_fld i_Reading (by decide +kernel) (pv 0) (ee_var (pv 2)))
  refine sss_cons ?_ ?_
  · exact (ss_fld i_Reading (by decide +kernel) (pv 0) (ee_var (pv 3)))
  refine sss_cons ?_ ?_
  · exact (ss_fld i_Reading (by decide +kernel) (pv 0) (ee_var (pv 4)))
  refine sss_cons ?_ ?_
  · exact (ss_fld i_Reading (by decide +kernel) (pv 0) (ee_var (pv 5)))
  refine sss_cons ?_ ?_
  · exact (ss_fld i_Reading (by decide +kernel) (pv 0) (ee_var (pv 6)))
  refine sss_one ?_
  · exact (ss_fld i_Reading (by decide +kernel) (pv 0) (ee_var (pv 7)))
theorem d_K_Reading_eq {cl : Nat → Addr} (T : Tx mg) (g_Reading : mg "Reading" = some (.ref (cl 1))) (x_Reading : (∀ C ∈ [cl 0, cl 1, cl 2], PySem.W.kitOne K (.ref C) (.ref (cl 1)) = some (decide (C = cl 1))) ∧ ∀ n ∈ tysD, PySem.W.kitOne K (.type n) (.ref (cl 1)) = some false) (hr : Room 0 (A.deeper (envOfC "Reading.__eq__" (defScope s_K_Reading_eq) s.heap.objs.size fa cdv))) :
    SSs (cxOf CX0 P w K mg base N_K_Reading_eq "Reading.__eq__" (defScope s_K_Reading_eq) fa cdv A outer s H E).nox (defBody s_K_Reading_eq) (m_K_Reading_eq cl) := by
  refine sss_cons ?_ ?_
  · refine ss_if (et_not (et_tru (ee_callB (cn_isiO x_Reading.1 x_Reading.2) nIsiO_mono (by rfl) T.z_isinstance (by decide +kernel) (eab_cons (eb_var (pv 1)) (eab_cons (ee_cls (by rfl) g_Reading).b eab_nil))).b (fun _ => rfl))) ?_ ?_
    · refine sss_one ?_
      · exact (ss_ret ee_bl)
    · exact sss_nil
  refine sss_cons ?_ ?_
  · exact (ss_set (i := 2) sc_K_Reading_eq.nd rfl (by first | exact .inl rfl | exact .inr rfl) (ee_tup (ea_cons (ee_fld (eb_var (pv 0))) (ea_cons (ee_fld (eb_var (pv 0))) (ea_cons (ee_fld (eb_var (pv 0))) (ea_cons (ee_fld (eb_var (pv 0))) (ea_cons (ee_fld (eb_var (pv 0))) (ea_cons (ee_fld (eb_var (pv 0))) (ea_cons (ee_fld (eb_var (pv 0))) ea_nil)))))))))
  refine sss_one ?_
  · exact (ss_ret (ee_cmp (or_eq hr.units) dEq_mono (eb_var (pv 2)) (ee_tup (ea_cons (ee_fld (eb_var (pv 1))) (ea_cons (ee_fld (eb_var (pv 1))) (ea_cons (ee_fld (eb_var (pv 1))) (ea_cons (ee_fld (eb_var (pv 1))) (ea_cons (ee_fld (eb_var (pv 1))) (ea_cons (ee_fld (eb_var (pv 1))) (ea_cons (ee_fld (eb_var (pv 1))) ea_nil)))))))).b (nomark _)))
theorem d_K_Question_init {cl : Nat → Addr} (T : Tx mg) (c_in_room : Cal P w K mg base "in_room" 1 ["numbers"] [] (runD 2 m_in_room)) (c_box_in_room : Cal P w K mg base "box_in_room" 1 ["box"] [] (runD 3 m_box_in_room)) (i_Question : InsK K (cl 2) ["moment", "root", "liars", "share", "earliest", "latest"]) (hr : Room 1 (A.deeper (envOfC "Question.__init__" (defScope s_K_Question_init) s.heap.objs.size fa cdv))) :
    SSs (cxOf CX0 P w K mg base N_K_Question_init "Question.__init__" (defScope s_K_Question_init) fa cdv A outer s H E).nox (defBody s_K_Question_init) (m_K_Question_init cl) := by
  refine sss_cons ?_ ?_
  · refine ss_if (ew_or (et_not (et_tru (ee_call c_in_room (hr.mono (by decide)) (by rfl) (ea_cons (ee_tup (ea_cons (ee_var (pv 1)) (ea_cons (ee_var (pv 5)) (ea_cons (ee_var (pv 6)) ea_nil)))) ea_nil)).b (fun _ => rfl))) (ew_or (et_cmp or_gt dRel_mono (eb_var (pv 5)) (eb_var (pv 6)) (nomark _)) (ew_or1 (et_not (et_tru (ee_call c_box_in_room (hr.mono (by decide)) (by rfl) (ea_cons (ee_var (pv 2)) ea_nil)).b (fun _ => rfl)))))).t ?_ ?_
    · refine sss_one ?_
      · exact ss_no
    · exact sss_nil
  refine sss_cons ?_ ?_
  · refine ss_if (ew_or (et_not (et_chain or_le or_le dRel_mono dRel_mono ee_int.b (eb_var (pv 3)) (let ⟨_, h⟩ := T.g_MOST_LIARS; ee_glob (v := V.int (3)) (d := D.int (3)) (by rfl) h ⟨_, rfl⟩ fun _ => .int _).b)) (ew_or1 (et_not (et_chain or_le or_le dRel_mono dRel_mono ee_int.b (eb_var (pv 4)) (let ⟨_, h⟩ := T.g_MOST; ee_glob (v := V.int (1000000000000)) (d := D.int (1000000000000)) (by rfl) h ⟨_, rfl⟩ fun _ => .int _).b)))).t ?_ ?_
    · refine sss_one ?_
      · exact ss_no
    · exact sss_nil
  refine sss_cons ?_ ?_
  · exact (ss_fld i_Question (by decide +kernel) (pv 0) (ee_var (pv 1)))
  refine sss_cons ?_ ?_
  · exact (ss_fld i_Question (by decide +kernel) (pv 0) (ee_var (pv 2)))
  refine sss_cons ?_ ?_
  · exact (ss_fld i_Question (by decide +kernel) (pv 0) (ee_var (pv 3)))
  refine sss_cons ?_ ?_
  · exact (ss_fld i_Question (by decide +kernel) (pv 0) (ee_var (pv 4)))
  refine sss_cons ?_ ?_
  · exact (ss_fld i_Question (by decide +kernel) (pv 0) (ee_var (pv 5)))
  refine sss_one ?_
  · exact (ss_fld i_Question (by decide +kernel) (pv 0) (ee_var (pv 6)))
theorem d_K_Question_eq {cl : Nat → Addr} (T : Tx mg) (g_Question : mg "Question" = some (.ref (cl 2))) (x_Question : (∀ C ∈ [cl 0, cl 1, cl 2], PySem.W.kitOne K (.ref C) (.ref (cl 2)) = some (decide (C = cl 2))) ∧ ∀ n ∈ tysD, PySem.W.kitOne K (.type n) (.ref (cl 2)) = some false) (hr : Room 0 (A.deeper (envOfC "Question.__eq__" (defScope s_K_Question_eq) s.heap.objs.size fa cdv))) :
    SSs (cxOf CX0 P w K mg base N_K_Question_eq "Question.__eq__" (defScope s_K_Question_eq) fa cdv A outer s H E).nox (defBody s_K_Question_eq) (m_K_Question_eq cl) := by
  refine sss_cons ?_ ?_
  · refine ss_if (et_not (et_tru (ee_callB (cn_isiO x_Question.1 x_Question.2) nIsiO_mono (by rfl) T.z_isinstance (by decide +kernel) (eab_cons (eb_var (pv 1)) (eab_cons (ee_cls (by rfl) g_Question).b eab_nil))).b (fun _ => rfl))) ?_ ?_
    · refine sss_one ?_
      · exact (ss_ret ee_bl)
    · exact sss_nil
  refine sss_cons ?_ ?_
  · exact (ss_set (i := 2) sc_K_Question_eq.nd rfl (by first | exact .inl rfl | exact .inr rfl) (ee_tup (ea_cons (ee_fld (eb_var (pv 0))) (ea_cons (ee_fld (eb_var (pv 0))) (ea_cons (ee_fld (eb_var (pv 0))) (ea_cons (ee_fld (eb_var (pv 0))) (ea_cons (ee_fld (eb_var (pv 0))) (ea_cons (ee_fld (eb_var (pv 0))) ea_nil))))))))
  refine sss_one ?_
  · exact (ss_ret (ee_cmp (or_eq hr.units) dEq_mono (eb_var (pv 2)) (ee_tup (ea_cons (ee_fld (eb_var (pv 1))) (ea_cons (ee_fld (eb_var (pv 1))) (ea_cons (ee_fld (eb_var (pv 1))) (ea_cons (ee_fld (eb_var (pv 1))) (ea_cons (ee_fld (eb_var (pv 1))) (ea_cons (ee_fld (eb_var (pv 1))) ea_nil))))))).b (nomark _)))
theorem d_asked (T : Tx mg) (hr : Room 0 (A.deeper (envOfC "asked" (defScope s_asked) s.heap.objs.size fa cdv))) :
    SSs (cxOf CX0 P w K mg base N_asked "asked" (defScope s_asked) fa cdv A outer s H E).nox (defBody s_asked) m_asked := by
  refine sss_one ?_
  · exact (ss_ret (en_lc (own := [("number", 2), ("reading", 3)]) [] rfl sc_asked.nd (ei_seq (ee_var (pv 1))) (blkOk_by (N := N_asked) (sc := defScope s_asked) (by decide +kernel)) (fun _ _ _ _ _ => (eg_tup rfl (egs_cons (eg_name (i := 2) sc_asked.nd rfl (by first | exact .inl rfl | exact .inr rfl)) (egs_cons (eg_name (i := 3) sc_asked.nd rfl (by first | exact .inl rfl | exact .inr rfl)) egs_nil)))) (fun _ _ _ _ _ => ets_one (et_chain or_le or_le dRel_mono dRel_mono (EE.b (ee_fld (eb_var (pv 0)))) (EE.b (ee_fld (eb_var (pv 3)))) (EE.b (ee_fld (eb_var (pv 0)))))) (fun _ _ _ _ _ => (ee_tup (ea_cons (ee_var (pv 2)) (ea_cons (ee_var (pv 3)) ea_nil))))).fz)
theorem d_root_up (T : Tx mg) (hr : Room 0 (A.deeper (envOfC "root_up" (defScope s_root_up) s.heap.objs.size fa cdv))) :
    SSs (cxOf CX0 P w K mg base N_root_up "root_up" (defScope s_root_up) fa cdv A outer s H E).nox (defBody s_root_up) m_root_up := by
  refine sss_cons ?_ ?_
  · exact (ss_set (i := 1) sc_root_up.nd rfl (by first | exact .inl rfl | exact .inr rfl) (ee_callG cn_sqrt nSqrt_mono (by rfl) T.g_isqrt (eab_cons (eb_var (pv 0)) eab_nil)))
  refine sss_cons ?_ ?_
  · refine ss_if (et_cmp or_lt dRel_mono (ee_op or_mul dMul_mono (eb_var (pv 1)) (eb_var (pv 1))).b (eb_var (pv 0)) (nomark _)) ?_ ?_
    · refine sss_one ?_
      · exact (ss_ret (ee_op or_add dAdd_mono (eb_var (pv 1)) ee_int.b))
    · exact sss_nil
  refine sss_one ?_
  · exact (ss_ret (ee_var (pv 1)))
theorem d_dot (T : Tx mg) (hr : Room 0 (A.deeper (envOfC "dot" (defScope s_dot) s.heap.objs.size fa cdv))) :
    SSs (cxOf CX0 P w K mg base N_dot "dot" (defScope s_dot) fa cdv A outer s H E).nox (defBody s_dot) m_dot := by
  refine sss_one ?_
  · exact (ss_ret (ee_callB (cn_sum rfl) nSum_mono (by rfl) T.z_sum (by decide +kernel) (eab_cons (en_lc (own := [("a", 2), ("b", 3)]) [] rfl sc_dot.nd (ei_zip (by rfl) T.z_zip (ea_cons (ee_var (pv 0)) (ea_cons (ee_var (pv 1)) ea_nil))) (blkOk_by (N := N_dot) (sc := defScope s_dot) (by decide +kernel)) (fun _ _ _ _ _ => (eg_tup rfl (egs_cons (eg_name (i := 2) sc_dot.nd rfl (by first | exact .inl rfl | exact .inr rfl)) (egs_cons (eg_name (i := 3) sc_dot.nd rfl (by first | exact .inl rfl | exact .inr rfl)) egs_nil)))) (fun _ _ _ _ _ => ets_nil) (fun _ _ _ _ _ => (ee_op or_mul dMul_mono (eb_var (pv 2)) (eb_var (pv 3))))).b eab_nil)))
theorem d_reach (T : Tx mg) (hr : Room 0 (A.deeper (envOfC "reach" (defScope s_reach) s.heap.objs.size fa cdv))) :
    SSs (cxOf CX0 P w K mg base N_reach "reach" (defScope s_reach) fa cdv A outer s H E).nox (defBody s_reach) m_reach := by
  refine sss_one ?_
  · exact (ss_ret (ee_neg (ee_op or_div dDiv_mono (ee_op or_mul dMul_mono (ee_neg (ee_fld (eb_var (pv 0)))).b (eb_var (pv 1))).b (ee_fld (eb_var (pv 0))).b)))
theorem d_slip (T : Tx mg) (hr : Room 0 (A.deeper (envOfC "slip" (defScope s_slip) s.heap.objs.size fa cdv))) :
    SSs (cxOf CX0 P w K mg base N_slip "slip" (defScope s_slip) fa cdv A outer s H E).nox (defBody s_slip) m_slip := by
  refine sss_one ?_
  · exact (ss_ret (ee_neg (ee_op or_div dDiv_mono (ee_op or_mul dMul_mono (ee_neg (ee_fld (eb_var (pv 0)))).b (eb_var (pv 1))).b (ee_fld (eb_var (pv 0))).b)))
theorem d_rate (T : Tx mg) (c_root_up : Cal P w K mg base "root_up" 1 ["number"] [] (runD 2 m_root_up)) (c_dot : Cal P w K mg base "dot" 1 ["one", "two"] [] (runD 4 m_dot)) (hr : Room 1 (A.deeper (envOfC "rate" (defScope s_rate) s.heap.objs.size fa cdv))) :
    SSs (cxOf CX0 P w K mg base N_rate "rate" (defScope s_rate) fa cdv A outer s H E).nox (defBody s_rate) m_rate := by
  refine sss_cons ?_ ?_
  · refine ss_if (et_cmp (or_eq hr.units) dEq_mono (ee_ix (eb_var (pv 0)) ee_int.b (fun _ _ => rfl)).b ee_str.b (nomark _)) ?_ ?_
    · refine sss_one ?_
      · exact (ss_ret ee_int)
    · exact sss_nil
  refine sss_cons ?_ ?_
  · refine ss_if (et_cmp (or_eq hr.units) dEq_mono (ee_ix (eb_var (pv 0)) ee_int.b (fun _ _ => rfl)).b ee_str.b (nomark _)) ?_ ?_
    · refine sss_one ?_
      · exact (ss_ret (ee_call c_root_up (hr.mono (by decide)) (by rfl) (ea_cons (ee_call c_dot (hr.mono (by decide)) (by rfl) (ea_cons (ee_ix (eb_var (pv 0)) ee_int.b (fun _ _ => rfl)) (ea_cons (ee_ix (eb_var (pv 0)) ee_int.b (fun _ _ => rfl)) ea_nil))) ea_nil)))
    · exact sss_nil
  refine sss_one ?_
  · exact (ss_ret ee_int)
theorem d_clock_rate (T : Tx mg) (hr : Room 0 (A.deeper (envOfC "clock_rate" (defScope s_clock_rate) s.heap.objs.size fa cdv))) :
    SSs (cxOf CX0 P w K mg base N_clock_rate "clock_rate" (defScope s_clock_rate) fa cdv A outer s H E).nox (defBody s_clock_rate) m_clock_rate := by
  refine sss_one ?_
  · exact (ss_ret (ee_if (et_cmp (or_eq hr.units) dEq_mono (ee_ix (eb_var (pv 0)) ee_int.b (fun _ _ => rfl)).b ee_str.b (nomark _)) ee_int ee_int))
theorem d_moved (T : Tx mg) (hr : Room 0 (A.deeper (envOfC "moved" (defScope s_moved) s.heap.objs.size fa cdv))) :
    SSs (cxOf CX0 P w K mg base N_moved "moved" (defScope s_moved) fa cdv A outer s H E).nox (defBody s_moved) m_moved := by
  refine sss_cons ?_ ?_
  · refine ss_if (et_cmp (or_eq hr.units) dEq_mono (ee_ix (eb_var (pv 0)) ee_int.b (fun _ _ => rfl)).b ee_str.b (nomark _)) ?_ ?_
    · refine sss_one ?_
      · exact (ss_ret ee_int)
    · exact sss_nil
  refine sss_one ?_
  · exact (ss_ret (ee_if (et_cmp (or_eq hr.units) dEq_mono (ee_ix (eb_var (pv 0)) ee_int.b (fun _ _ => rfl)).b ee_str.b (nomark _)) ee_int ee_int))
theorem d_cell_radius (T : Tx mg) (c_root_up : Cal P w K mg base "root_up" 1 ["number"] [] (runD 2 m_root_up)) (hr : Room 1 (A.deeper (envOfC "cell_radius" (defScope s_cell_radius) s.heap.objs.size fa cdv))) :
    SSs (cxOf CX0 P w K mg base N_cell_radius "cell_radius" (defScope s_cell_radius) fa cdv A outer s H E).nox (defBody s_cell_radius) m_cell_radius := by
  refine sss_cons ?_ ?_
  · exact (ss_set (i := 2) sc_cell_radius.nd rfl (by first | exact .inl rfl | exact .inr rfl) (ee_op or_div dDiv_mono (ee_op or_add dAdd_mono (eb_var (pv 1)) ee_int.b).b ee_int.b))
  refine sss_one ?_
  · exact (ss_ret (ee_call c_root_up (hr.mono (by decide)) (by rfl) (ea_cons (ee_op or_mul dMul_mono (ee_op or_mul dMul_mono (ee_fld (eb_var (pv 0))).b (eb_var (pv 2))).b (eb_var (pv 2))) ea_nil)))
theorem d_stretch (T : Tx mg) (c_asked : Cal P w K mg base "asked" 1 ["question", "readings"] [] (runD 4 m_asked)) (c_cell_radius : Cal P w K mg base "cell_radius" 2 ["setting", "share"] [] (runD 3 m_cell_radius)) (hr : Room 2 (A.deeper (envOfC "stretch" (defScope s_stretch) s.heap.objs.size fa cdv))) :
    SSs (cxOf CX0 P w K mg base N_stretch "stretch" (defScope s_stretch) fa cdv A outer s H E).nox (defBody s_stretch) m_stretch := by
  refine sss_cons ?_ ?_
  · exact (ss_set (i := 3) sc_stretch.nd rfl (by first | exact .inl rfl | exact .inr rfl) (ee_callTy (cn_setI rfl) nSetI_mono (by rfl) T.z_set (by decide +kernel) (eab_cons (ee_op or_add dAdd_mono (en_lc (own := [("number", 4), ("reading", 5)]) [] rfl sc_stretch.nd (ei_seq (ee_call c_asked (hr.mono (by decide)) (by rfl) (ea_cons (ee_var (pv 1)) (ea_cons (ee_var (pv 2)) ea_nil)))) (blkOk_by (N := N_stretch) (sc := defScope s_stretch) (by decide +kernel)) (fun _ _ _ _ _ => (eg_tup rfl (egs_cons (eg_name (i := 4) sc_stretch.nd rfl (by first | exact .inl rfl | exact .inr rfl)) (egs_cons (eg_name (i := 5) sc_stretch.nd rfl (by first | exact .inl rfl | exact .inr rfl)) egs_nil)))) (fun _ _ _ _ _ => ets_nil) (fun _ _ _ _ _ => (ee_fld (eb_var (pv 5))))).b (en_lst (ea_cons (ee_fld (eb_var (pv 1))) ea_nil)).b).b eab_nil)))
  refine sss_one ?_
  · exact (ss_ret (ee_op or_mul dMul_mono (ee_op or_mul dMul_mono ee_int.b (ee_callB (cn_lenS) nLenS_mono (by rfl) T.z_len (by decide +kernel) (eab_cons (eb_var (pv 3)) eab_nil)).b).b (ee_call c_cell_radius (hr.mono (by decide)) (by rfl) (ea_cons (ee_var (pv 0)) (ea_cons (ee_fld (eb_var (pv 1))) ea_nil))).b))
theorem d_margin (T : Tx mg) (c_rate : Cal P w K mg base "rate" 2 ["kind"] [] (runD 1 m_rate)) (c_reach : Cal P w K mg base "reach" 1 ["setting", "ticks"] [] (runD 2 m_reach)) (c_clock_rate : Cal P w K mg base "clock_rate" 1 ["kind"] [] (runD 1 m_clock_rate)) (c_slip : Cal P w K mg base "slip" 1 ["setting", "ticks"] [] (runD 2 m_slip)) (c_cell_radius : Cal P w K mg base "cell_radius" 2 ["setting", "share"] [] (runD 3 m_cell_radius)) (c_moved : Cal P w K mg base "moved" 1 ["kind"] [] (runD 1 m_moved)) (hr : Room 2 (A.deeper (envOfC "margin" (defScope s_margin) s.heap.objs.size fa cdv))) :
    SSs (cxOf CX0 P w K mg base N_margin "margin" (defScope s_margin) fa cdv A outer s H E).nox (defBody s_margin) m_margin := by
  refine sss_cons ?_ ?_
  · exact (ss_set (i := 3) sc_margin.nd rfl (by first | exact .inl rfl | exact .inr rfl) (ee_fld (eb_var (pv 2))))
  refine sss_cons ?_ ?_
  · exact (ss_set (i := 4) sc_margin.nd rfl (by first | exact .inl rfl | exact .inr rfl) (ee_op or_add dAdd_mono (ee_op or_mul dMul_mono (ee_call c_rate (hr.mono (by decide)) (by rfl) (ea_cons (ee_var (pv 3)) ea_nil)).b (ee_call c_reach (hr.mono (by decide)) (by rfl) (ea_cons (ee_var (pv 0)) (ea_cons (ee_fld (eb_var (pv 2))) ea_nil))).b).b (ee_op or_mul dMul_mono (ee_call c_clock_rate (hr.mono (by decide)) (by rfl) (ea_cons (ee_var (pv 3)) ea_nil)).b (ee_call c_slip (hr.mono (by decide)) (by rfl) (ea_cons (ee_var (pv 0)) (ea_cons (ee_fld (eb_var (pv 2))) ea_nil))).b).b))
  refine sss_cons ?_ ?_
  · exact (ss_set (i := 5) sc_margin.nd rfl (by first | exact .inl rfl | exact .inr rfl) (ee_op or_add dAdd_mono (ee_op or_mul dMul_mono (ee_call c_rate (hr.mono (by decide)) (by rfl) (ea_cons (ee_var (pv 3)) ea_nil)).b (ee_op or_add dAdd_mono (ee_op or_mul dMul_mono ee_int.b (ee_call c_cell_radius (hr.mono (by decide)) (by rfl) (ea_cons (ee_var (pv 0)) (ea_cons (ee_fld (eb_var (pv 1))) ea_nil))).b).b ee_int.b).b).b (ee_op or_mul dMul_mono (ee_call c_clock_rate (hr.mono (by decide)) (by rfl) (ea_cons (ee_var (pv 3)) ea_nil)).b (ee_fld (eb_var (pv 1))).b).b))
  refine sss_one ?_
  · exact (ss_ret (ee_op or_add dAdd_mono (ee_op or_add dAdd_mono (ee_op or_mul dMul_mono (ee_call c_moved (hr.mono (by decide)) (by rfl) (ea_cons (ee_var (pv 3)) ea_nil)).b (ee_fld (eb_var (pv 2))).b).b (eb_var (pv 4))).b (eb_var (pv 5))))
theorem d__law_rows (T : Tx mg) (hr : Room 0 (A.deeper (envOfC "_law_rows" (defScope s__law_rows) s.heap.objs.size fa cdv))) :
    SSs (cxOf CX0 P w K mg base N__law_rows "_law_rows" (defScope s__law_rows) fa cdv A outer s H E).nox (defBody s__law_rows) m__law_rows := by
  refine sss_cons ?_ ?_
  · exact (ss_setN (i := 2) sc__law_rows.nd rfl (by first | exact .inl rfl | exact .inr rfl) (en_lst ea_nil))
  refine sss_cons ?_ ?_
  · refine ss_for PassesOwn.never rfl (ei_range1 (by rfl) T.z_range (ea_cons (ee_var (pv 1)) ea_nil)) (eg_name (i := 3) sc__law_rows.nd rfl (by first | exact .inl rfl | exact .inr rfl)) ?_
    refine sss_cons ?_ ?_
    · exact (ss_set (i := 4) sc__law_rows.nd rfl (by first | exact .inl rfl | exact .inr rfl) ee_int)
    refine sss_cons ?_ ?_
    · refine ss_if (et_cmp or_gt dRel_mono (ee_callB (cn_len) nLen_mono (by rfl) T.z_len (by decide +kernel) (eab_cons (eb_var (pv 0)) eab_nil)).b ee_int.b (nomark _)) ?_ ?_
      · refine sss_one ?_
        · exact (ss_set (i := 4) sc__law_rows.nd rfl (by first | exact .inl rfl | exact .inr rfl) (ee_callTy cn_int nInt_mono (by rfl) T.z_int (by decide +kernel) (eab_cons (ee_ix (eb_var (pv 0)) (ee_op or_mod dMod_mono (ee_callTy cn_int nInt_mono (by rfl) T.z_int (by decide +kernel) (eab_cons (eb_var (pv 3)) eab_nil)).b (ee_callB (cn_len) nLen_mono (by rfl) T.z_len (by decide +kernel) (eab_cons (eb_var (pv 0)) eab_nil)).b).b (fun _ _ => rfl)).b eab_nil)))
      · exact sss_nil
    refine sss_cons ?_ ?_
    · refine ss_if (et_cmp or_lt dRel_mono (eb_var (pv 4)) ee_int.b (nomark _)) ?_ ?_
      · refine sss_one ?_
        · exact (ss_set (i := 4) sc__law_rows.nd rfl (by first | exact .inl rfl | exact .inr rfl) (ee_op or_sub dSub_mono ee_int.b (ee_op or_mul dMul_mono ee_int.b (eb_var (pv 4))).b))
      · exact sss_nil
    refine sss_cons ?_ ?_
    · refine ss_if (ew_or (et_cmp or_ge dRel_mono (eb_var (pv 3)) (ee_callB (cn_len) nLen_mono (by rfl) T.z_len (by decide +kernel) (eab_cons (eb_var (pv 0)) eab_nil)).b (nomark _)) (ew_or1 (et_cmp or_lt dRel_mono (eb_var (pv 4)) ee_int.b (nomark _)))).t ?_ ?_
      · refine sss_cons ?_ ?_
        · exact (ss_set (i := 4) sc__law_rows.nd rfl (by first | exact .inl rfl | exact .inr rfl) (ee_op or_mod dMod_mono (ee_callTy cn_int nInt_mono (by rfl) T.z_int (by decide +kernel) (eab_cons (ee_op or_add dAdd_mono (ee_op or_mul dMul_mono (ee_op or_add dAdd_mono (ee_op or_add dAdd_mono (eb_var (pv 4)) (ee_op or_mul dMul_mono ee_int.b (eb_var (pv 3))).b).b ee_int.b).b ee_int.b).b (ee_op or_mul dMul_mono (ee_op or_mul dMul_mono (eb_var (pv 3)) (eb_var (pv 3))).b ee_int.b).b).b eab_nil)).b ee_int.b))
        refine sss_one ?_
        · exact (ss_set (i := 4) sc__law_rows.nd rfl (by first | exact .inl rfl | exact .inr rfl) (ee_op or_mod dMod_mono (ee_callTy cn_int nInt_mono (by rfl) T.z_int (by decide +kernel) (eab_cons (ee_op or_mul dMul_mono (ee_op or_add dAdd_mono (ee_op or_add dAdd_mono (eb_var (pv 4)) (ee_op or_mul dMul_mono ee_int.b (eb_var (pv 3))).b).b ee_int.b).b ee_int.b).b eab_nil)).b ee_int.b))
      · exact sss_nil
    refine sss_one ?_
    · exact (ss_app (pv 2) (ee_var (pv 4)))
  refine sss_one ?_
  · exact (ss_ret (ee_var (pv 2)))
theorem d__law_root (T : Tx mg) (hr : Room 0 (A.deeper (envOfC "_law_root" (defScope s__law_root) s.heap.objs.size fa cdv))) :
    SSs (cxOf CX0 P w K mg base N__law_root "_law_root" (defScope s__law_root) fa cdv A outer s H E).nox (defBody s__law_root) m__law_root := by
  refine sss_cons ?_ ?_
  · exact (ss_set (i := 1) sc__law_root.nd rfl (by first | exact .inl rfl | exact .inr rfl) ee_int)
  refine sss_cons ?_ ?_
  · exact (ss_set (i := 2) sc__law_root.nd rfl (by first | exact .inl rfl | exact .inr rfl) ee_int)
  refine sss_cons ?_ ?_
  · refine ss_for PassesOwn.never rfl (ei_range1 (by rfl) T.z_range (ea_cons ee_int ea_nil)) (eg_name (i := 3) sc__law_root.nd rfl (by first | exact .inl rfl | exact .inr rfl)) ?_
    refine sss_cons ?_ ?_
    · refine ss_if (et_cmp or_gt dRel_mono (ee_op or_mul dMul_mono (eb_var (pv 2)) (eb_var (pv 2))).b (eb_var (pv 0)) (nomark _)) ?_ ?_
      · refine sss_one ?_
        · exact ss_break
      · exact sss_nil
    refine sss_one ?_
    · exact (ss_set (i := 2) sc__law_root.nd rfl (by first | exact .inl rfl | exact .inr rfl) (ee_op or_mul dMul_mono (eb_var (pv 2)) ee_int.b))
  refine sss_cons ?_ ?_
  · refine ss_for PassesOwn.never rfl (ei_range1 (by rfl) T.z_range (ea_cons ee_int ea_nil)) (eg_name (i := 3) sc__law_root.nd rfl (by first | exact .inl rfl | exact .inr rfl)) ?_
    refine sss_cons ?_ ?_
    · refine ss_if (et_cmp or_le dRel_mono (ee_op or_sub dSub_mono (eb_var (pv 2)) (eb_var (pv 1))).b ee_int.b (nomark _)) ?_ ?_
      · refine sss_one ?_
        · exact ss_break
      · exact sss_nil
    refine sss_cons ?_ ?_
    · exact (ss_set (i := 4) sc__law_root.nd rfl (by first | exact .inl rfl | exact .inr rfl) (ee_op or_div dDiv_mono (ee_op or_add dAdd_mono (eb_var (pv 1)) (eb_var (pv 2))).b ee_int.b))
    refine sss_one ?_
    · refine ss_if (et_cmp or_le dRel_mono (ee_op or_mul dMul_mono (eb_var (pv 4)) (eb_var (pv 4))).b (eb_var (pv 0)) (nomark _)) ?_ ?_
      · refine sss_one ?_
        · exact (ss_set (i := 1) sc__law_root.nd rfl (by first | exact .inl rfl | exact .inr rfl) (ee_var (pv 4)))
      · refine sss_one ?_
        · exact (ss_set (i := 2) sc__law_root.nd rfl (by first | exact .inl rfl | exact .inr rfl) (ee_var (pv 4)))
  refine sss_one ?_
  · exact (ss_ret (ee_var (pv 1)))
theorem d__law_up (T : Tx mg) (c__law_root : Cal P w K mg base "_law_root" 1 ["_law_number"] [] (runD 5 m__law_root)) (hr : Room 1 (A.deeper (envOfC "_law_up" (defScope s__law_up) s.heap.objs.size fa cdv))) :
    SSs (cxOf CX0 P w K mg base N__law_up "_law_up" (defScope s__law_up) fa cdv A outer s H E).nox (defBody s__law_up) m__law_up := by
  refine sss_cons ?_ ?_
  · exact (ss_set (i := 1) sc__law_up.nd rfl (by first | exact .inl rfl | exact .inr rfl) (ee_call c__law_root (hr.mono (by decide)) (by rfl) (ea_cons (ee_var (pv 0)) ea_nil)))
  refine sss_one ?_
  · exact (ss_ret (ee_op or_add dAdd_mono (eb_var (pv 1)) (ee_callTy cn_int nInt_mono (by rfl) T.z_int (by decide +kernel) (eab_cons (ee_cmp or_lt dRel_mono (ee_op or_mul dMul_mono (eb_var (pv 1)) (eb_var (pv 1))).b (eb_var (pv 0)) (nomark _)).b eab_nil)).b))
theorem d__law_digits (T : Tx mg) (hr : Room 0 (A.deeper (envOfC "_law_digits" (defScope s__law_digits) s.heap.objs.size fa cdv))) :
    SSs (cxOf CX0 P w K mg base N__law_digits "_law_digits" (defScope s__law_digits) fa cdv A outer s H E).nox (defBody s__law_digits) m__law_digits := by
  refine sss_cons ?_ ?_
  · exact (ss_setN (i := 3) sc__law_digits.nd rfl (by first | exact .inl rfl | exact .inr rfl) (en_lst ea_nil))
  refine sss_cons ?_ ?_
  · refine ss_for PassesOwn.never rfl (ei_range1 (by rfl) T.z_range (ea_cons (ee_var (pv 2)) ea_nil)) (eg_name (i := 4) sc__law_digits.nd rfl (by first | exact .inl rfl | exact .inr rfl)) ?_
    refine sss_cons ?_ ?_
    · exact (ss_app (pv 3) (ee_op or_mod dMod_mono (ee_callTy cn_int nInt_mono (by rfl) T.z_int (by decide +kernel) (eab_cons (eb_var (pv 0)) eab_nil)).b (eb_var (pv 1))))
    refine sss_one ?_
    · exact (ss_set (i := 0) sc__law_digits.nd rfl (by first | exact .inl rfl | exact .inr rfl) (ee_op or_div dDiv_mono (eb_var (pv 0)) (eb_var (pv 1))))
  refine sss_one ?_
  · exact (ss_ret (ee_var (pv 3)))
theorem d__law_setting {cl : Nat → Addr} (T : Tx mg) (k_Setting__3 : CalMK P w K mg base "Setting" 1 (cl 0) ["dims", "speed", "drift", "per"] 1 ["speed", "drift", "per"] (fun ds es => ds ++ es) (mkD (cl 0) ["dims", "speed", "drift", "per"] 5 (m_K_Setting_init cl))) (hr : Room 2 (A.deeper (envOfC "_law_setting" (defScope s__law_setting) s.heap.objs.size fa cdv))) :
    SSs (cxOf CX0 P w K mg base N__law_setting "_law_setting" (defScope s__law_setting) fa cdv A outer s H E).nox (defBody s__law_setting) (m__law_setting cl) := by
  refine sss_cons ?_ ?_
  · exact (ss_set (i := 1) sc__law_setting.nd rfl (by first | exact .inl rfl | exact .inr rfl) (ee_op or_add dAdd_mono ee_int.b (ee_op or_mod dMod_mono (ee_callTy cn_int nInt_mono (by rfl) T.z_int (by decide +kernel) (eab_cons (eb_var (pv 0)) eab_nil)).b ee_int.b).b))
  refine sss_one ?_
  · exact (ss_ret (ee_makeK k_Setting__3 (hr.mono (by decide)) (by rfl) (ea_cons (ee_var (pv 1)) ea_nil) (ek_cons (ee_op or_mod dMod_mono (ee_callTy cn_int nInt_mono (by rfl) T.z_int (by decide +kernel) (eab_cons (ee_op or_div dDiv_mono (eb_var (pv 0)) ee_int.b).b eab_nil)).b ee_int.b) (ek_cons (ee_op or_mod dMod_mono (ee_callTy cn_int nInt_mono (by rfl) T.z_int (by decide +kernel) (eab_cons (ee_op or_div dDiv_mono (eb_var (pv 0)) ee_int.b).b eab_nil)).b ee_int.b) (ek_cons (ee_op or_add dAdd_mono ee_int.b (ee_op or_mod dMod_mono (ee_callTy cn_int nInt_mono (by rfl) T.z_int (by decide +kernel) (eab_cons (ee_op or_div dDiv_mono (eb_var (pv 0)) ee_int.b).b eab_nil)).b ee_int.b).b) ek_nil)))))
theorem d__law_velocity (T : Tx mg) (c__law_digits : Cal P w K mg base "_law_digits" 1 ["_law_row", "_law_base", "_law_count"] [] (runD 5 m__law_digits)) (hr : Room 1 (A.deeper (envOfC "_law_velocity" (defScope s__law_velocity) s.heap.objs.size fa cdv))) :
    SSs (cxOf CX0 P w K mg base N__law_velocity "_law_velocity" (defScope s__law_velocity) fa cdv A outer s H E).nox (defBody s__law_velocity) m__law_velocity := by
  refine sss_cons ?_ ?_
  · exact (ss_setLcF (i := 2) (own := [("_law_digit", 3)]) [] rfl sc__law_velocity.nd rfl rfl (sw_true rfl rfl rfl (by decide +kernel)) (ei_seq (ee_call c__law_digits (hr.mono (by decide)) (by rfl) (ea_cons (ee_var (pv 1)) (ea_cons ee_int (ea_cons (ee_fld (eb_var (pv 0))) ea_nil))))) (blkOk_by (N := N__law_velocity) (sc := defScope s__law_velocity) (by decide +kernel)) (fun _ _ _ _ _ => (eg_name (i := 3) sc__law_velocity.nd rfl (by first | exact .inl rfl | exact .inr rfl))) (fun _ _ _ _ _ => ets_nil) (fun _ _ _ _ _ => (ee_op or_sub dSub_mono (eb_var (pv 3)) (EE.b ee_int))))
  refine sss_cons ?_ ?_
  · refine ss_for PassesOwn.never rfl (ei_range1 (by rfl) T.z_range (ea_cons ee_int ea_nil)) (eg_name (i := 4) sc__law_velocity.nd rfl (by first | exact .inl rfl | exact .inr rfl)) ?_
    refine sss_cons ?_ ?_
    · exact (ss_set (i := 5) sc__law_velocity.nd rfl (by first | exact .inl rfl | exact .inr rfl) (ee_callB (cn_sum rfl) nSum_mono (by rfl) T.z_sum (by decide +kernel) (eab_cons (en_lc (own := [("_law_number", 6)]) [] rfl sc__law_velocity.nd (ei_seq (ee_var (pv 2))) (blkOk_by (N := N__law_velocity) (sc := defScope s__law_velocity) (by decide +kernel)) (fun _ _ _ _ _ => (eg_name (i := 6) sc__law_velocity.nd rfl (by first | exact .inl rfl | exact .inr rfl))) (fun _ _ _ _ _ => ets_nil) (fun _ _ _ _ _ => (ee_op or_mul dMul_mono (eb_var (pv 6)) (eb_var (pv 6))))).b eab_nil)))
    refine sss_cons ?_ ?_
    · refine ss_if (et_cmp or_le dRel_mono (ee_op or_mul dMul_mono (ee_op or_mul dMul_mono (ee_fld (eb_var (pv 0))).b (ee_fld (eb_var (pv 0))).b).b (eb_var (pv 5))).b (ee_op or_mul dMul_mono (ee_fld (eb_var (pv 0))).b (ee_fld (eb_var (pv 0))).b).b (nomark _)) ?_ ?_
      · refine sss_one ?_
        · exact ss_break
      · exact sss_nil
    refine sss_one ?_
    · exact (ss_setLcF (i := 2) (own := [("_law_number", 6)]) [] rfl sc__law_velocity.nd rfl rfl (sw_true rfl rfl rfl (by decide +kernel)) (ei_seq (ee_var (pv 2))) (blkOk_by (N := N__law_velocity) (sc := defScope s__law_velocity) (by decide +kernel)) (fun _ _ _ _ _ => (eg_name (i := 6) sc__law_velocity.nd rfl (by first | exact .inl rfl | exact .inr rfl))) (fun _ _ _ _ _ => ets_nil) (fun _ _ _ _ _ => (ee_op or_mul dMul_mono (EE.b (ee_op or_div dDiv_mono (EE.b (ee_callB (cn_abs) nAbs_mono (by rfl) T.z_abs (by decide +kernel) (eab_cons (eb_var (pv 6)) eab_nil))) (EE.b ee_int))) (EE.b (ee_op or_sub dSub_mono (EE.b ee_int) (EE.b (ee_op or_mul dMul_mono (EE.b ee_int) (EE.b (ee_callTy cn_int nInt_mono (by rfl) T.z_int (by decide +kernel) (eab_cons (EE.b (ee_cmp or_lt dRel_mono (eb_var (pv 6)) (EE.b ee_int) (nomark _))) eab_nil))))))))))
  refine sss_one ?_
  · exact (ss_ret (ee_var (pv 2)))
theorem d__law_at (T : Tx mg) (hr : Room 0 (A.deeper (envOfC "_law_at" (defScope s__law_at) s.heap.objs.size fa cdv))) :
    SSs (cxOf CX0 P w K mg base N__law_at "_law_at" (defScope s__law_at) fa cdv A outer s H E).nox (defBody s__law_at) m__law_at := by
  refine sss_cons ?_ ?_
  · exact (ss_asg (ee_var (pv 0)) (eg_tup rfl (egs_cons (eg_name (i := 2) sc__law_at.nd rfl (by first | exact .inl rfl | exact .inr rfl)) (egs_cons (eg_name (i := 3) sc__law_at.nd rfl (by first | exact .inl rfl | exact .inr rfl)) (egs_cons (eg_name (i := 4) sc__law_at.nd rfl (by first | exact .inl rfl | exact .inr rfl)) (egs_cons (eg_name (i := 5) sc__law_at.nd rfl (by first | exact .inl rfl | exact .inr rfl)) (egs_cons (eg_name (i := 6) sc__law_at.nd rfl (by first | exact .inl rfl | exact .inr rfl)) (egs_cons (eg_name (i := 7) sc__law_at.nd rfl (by first | exact .inl rfl | exact .inr rfl)) (egs_cons (eg_name (i := 8) sc__law_at.nd rfl (by first | exact .inl rfl | exact .inr rfl)) egs_nil)))))))))
  refine sss_cons ?_ ?_
  · exact (ss_set (i := 9) sc__law_at.nd rfl (by first | exact .inl rfl | exact .inr rfl) (ee_op or_sub dSub_mono (eb_var (pv 1)) (eb_var (pv 4))))
  refine sss_cons ?_ ?_
  · exact (ss_set (i := 10) sc__law_at.nd rfl (by first | exact .inl rfl | exact .inr rfl) (ee_var (pv 6)))
  refine sss_cons ?_ ?_
  · exact (ss_set (i := 11) sc__law_at.nd rfl (by first | exact .inl rfl | exact .inr rfl) (ee_var (pv 8)))
  refine sss_cons ?_ ?_
  · refine ss_if (et_cmp or_lt dRel_mono (eb_var (pv 9)) ee_int.b (nomark _)) ?_ ?_
    · refine sss_cons ?_ ?_
      · exact (ss_set (i := 10) sc__law_at.nd rfl (by first | exact .inl rfl | exact .inr rfl) (ee_var (pv 5)))
      refine sss_one ?_
      · exact (ss_set (i := 11) sc__law_at.nd rfl (by first | exact .inl rfl | exact .inr rfl) (ee_var (pv 7)))
    · exact sss_nil
  refine sss_cons ?_ ?_
  · exact (ss_setLcF (i := 12) (own := [("_law_k", 13)]) [] rfl sc__law_at.nd rfl rfl (sw_true rfl rfl rfl (by decide +kernel)) (ei_range1 (by rfl) T.z_range (ea_cons (ee_callB (cn_len) nLen_mono (by rfl) T.z_len (by decide +kernel) (eab_cons (eb_var (pv 2)) eab_nil)) ea_nil)) (blkOk_by (N := N__law_at) (sc := defScope s__law_at) (by decide +kernel)) (fun _ _ _ _ _ => (eg_name (i := 13) sc__law_at.nd rfl (by first | exact .inl rfl | exact .inr rfl))) (fun _ _ _ _ _ => ets_nil) (fun _ _ _ _ _ => (ee_op or_add dAdd_mono (EE.b (ee_ix (eb_var (pv 2)) (eb_var (pv 13)) (fun _ _ => rfl))) (EE.b (ee_op or_mul dMul_mono (EE.b (ee_ix (eb_var (pv 10)) (eb_var (pv 13)) (fun _ _ => rfl))) (eb_var (pv 9)))))))
  refine sss_one ?_
  · exact (ss_ret (ee_op or_add dAdd_mono (eb_var (pv 12)) (en_lst (ea_cons (ee_op or_add dAdd_mono (eb_var (pv 3)) (ee_op or_mul dMul_mono (eb_var (pv 11)) (eb_var (pv 9))).b) ea_nil)).b))
theorem d__law_way (T : Tx mg) (c__law_digits : Cal P w K mg base "_law_digits" 1 ["_law_row", "_law_base", "_law_count"] [] (runD 5 m__law_digits)) (c__law_velocity : Cal P w K mg base "_law_velocity" 2 ["_law_setting_here", "_law_row"] [] (runD 7 m__law_velocity)) (hr : Room 2 (A.deeper (envOfC "_law_way" (defScope s__law_way) s.heap.objs.size fa cdv))) :
    SSs (cxOf CX0 P w K mg base N__law_way "_law_way" (defScope s__law_way) fa cdv A outer s H E).nox (defBody s__law_way) m__law_way := by
  refine sss_cons ?_ ?_
  · exact (ss_setLcF (i := 2) (own := [("_law_digit", 3)]) [] rfl sc__law_way.nd rfl rfl (sw_true rfl rfl rfl (by decide +kernel)) (ei_seq (ee_call c__law_digits (hr.mono (by decide)) (by rfl) (ea_cons (ee_ix (eb_var (pv 1)) ee_int.b (fun _ _ => rfl)) (ea_cons ee_int (ea_cons (ee_fld (eb_var (pv 0))) ea_nil))))) (blkOk_by (N := N__law_way) (sc := defScope s__law_way) (by decide +kernel)) (fun _ _ _ _ _ => (eg_name (i := 3) sc__law_way.nd rfl (by first | exact .inl rfl | exact .inr rfl))) (fun _ _ _ _ _ => ets_nil) (fun _ _ _ _ _ => (ee_op or_sub dSub_mono (eb_var (pv 3)) (EE.b ee_int))))
  refine sss_cons ?_ ?_
  · exact (ss_set (i := 4) sc__law_way.nd rfl (by first | exact .inl rfl | exact .inr rfl) (ee_op or_div dDiv_mono (ee_fld (eb_var (pv 0))).b (ee_fld (eb_var (pv 0))).b))
  refine sss_cons ?_ ?_
  · exact (ss_set (i := 5) sc__law_way.nd rfl (by first | exact .inl rfl | exact .inr rfl) (ee_op or_sub dSub_mono (ee_op or_mod dMod_mono (ee_callTy cn_int nInt_mono (by rfl) T.z_int (by decide +kernel) (eab_cons (ee_ix (eb_var (pv 1)) ee_int.b (fun _ _ => rfl)).b eab_nil)).b (ee_op or_add dAdd_mono (ee_op or_mul dMul_mono ee_int.b (eb_var (pv 4))).b ee_int.b).b).b (eb_var (pv 4))))
  refine sss_cons ?_ ?_
  · exact (ss_set (i := 6) sc__law_way.nd rfl (by first | exact .inl rfl | exact .inr rfl) (ee_op or_sub dSub_mono (ee_op or_mod dMod_mono (ee_callTy cn_int nInt_mono (by rfl) T.z_int (by decide +kernel) (eab_cons (ee_op or_div dDiv_mono (ee_ix (eb_var (pv 1)) ee_int.b (fun _ _ => rfl)).b ee_int.b).b eab_nil)).b (ee_op or_add dAdd_mono (ee_op or_mul dMul_mono ee_int.b (eb_var (pv 4))).b ee_int.b).b).b (eb_var (pv 4))))
  refine sss_cons ?_ ?_
  · exact (ss_set (i := 7) sc__law_way.nd rfl (by first | exact .inl rfl | exact .inr rfl) (ee_call c__law_velocity (hr.mono (by decide)) (by rfl) (ea_cons (ee_var (pv 0)) (ea_cons (ee_ix (eb_var (pv 1)) ee_int.b (fun _ _ => rfl)) ea_nil))))
  refine sss_cons ?_ ?_
  · exact (ss_set (i := 8) sc__law_way.nd rfl (by first | exact .inl rfl | exact .inr rfl) (ee_call c__law_velocity (hr.mono (by decide)) (by rfl) (ea_cons (ee_var (pv 0)) (ea_cons (ee_op or_div dDiv_mono (ee_ix (eb_var (pv 1)) ee_int.b (fun _ _ => rfl)).b ee_int.b) ea_nil))))
  refine sss_one ?_
  · exact (ss_ret (ee_tup (ea_cons (ee_var (pv 2)) (ea_cons (ee_op or_sub dSub_mono (ee_op or_mod dMod_mono (ee_callTy cn_int nInt_mono (by rfl) T.z_int (by decide +kernel) (eab_cons (ee_op or_div dDiv_mono (ee_ix (eb_var (pv 1)) ee_int.b (fun _ _ => rfl)).b ee_int.b).b eab_nil)).b ee_int.b).b ee_int.b) (ea_cons (ee_op or_sub dSub_mono (ee_op or_mod dMod_mono (ee_callTy cn_int nInt_mono (by rfl) T.z_int (by decide +kernel) (eab_cons (ee_op or_div dDiv_mono (ee_ix (eb_var (pv 1)) ee_int.b (fun _ _ => rfl)).b ee_int.b).b eab_nil)).b ee_int.b).b ee_int.b) (ea_cons (ee_var (pv 7)) (ea_cons (ee_var (pv 8)) (ea_cons (ee_var (pv 5)) (ea_cons (ee_var (pv 6)) ea_nil)))))))))
theorem d__law_square (T : Tx mg) (hr : Room 0 (A.deeper (envOfC "_law_square" (defScope s__law_square) s.heap.objs.size fa cdv))) :
    SSs (cxOf CX0 P w K mg base N__law_square "_law_square" (defScope s__law_square) fa cdv A outer s H E).nox (defBody s__law_square) m__law_square := by
  refine sss_one ?_
  · exact (ss_ret (ee_callB (cn_sum rfl) nSum_mono (by rfl) T.z_sum (by decide +kernel) (eab_cons (en_lc (own := [("_law_k", 2)]) [] rfl sc__law_square.nd (ei_range1 (by rfl) T.z_range (ea_cons (ee_callB (cn_len) nLen_mono (by rfl) T.z_len (by decide +kernel) (eab_cons (eb_var (pv 0)) eab_nil)) ea_nil)) (blkOk_by (N := N__law_square) (sc := defScope s__law_square) (by decide +kernel)) (fun _ _ _ _ _ => (eg_name (i := 2) sc__law_square.nd rfl (by first | exact .inl rfl | exact .inr rfl))) (fun _ _ _ _ _ => ets_nil) (fun _ _ _ _ _ => (ee_op or_mul dMul_mono (EE.b (ee_op or_sub dSub_mono (EE.b (ee_ix (eb_var (pv 0)) (eb_var (pv 2)) (fun _ _ => rfl))) (EE.b (ee_ix (eb_var (pv 1)) (eb_var (pv 2)) (fun _ _ => rfl))))) (EE.b (ee_op or_sub dSub_mono (EE.b (ee_ix (eb_var (pv 0)) (eb_var (pv 2)) (fun _ _ => rfl))) (EE.b (ee_ix (eb_var (pv 1)) (eb_var (pv 2)) (fun _ _ => rfl)))))))).b eab_nil)))
theorem d__law_piece (T : Tx mg) (c__law_square : Cal P w K mg base "_law_square" 1 ["_law_one", "_law_two"] [] (runD 3 m__law_square)) (hr : Room 1 (A.deeper (envOfC "_law_piece" (defScope s__law_piece) s.heap.objs.size fa cdv))) :
    SSs (cxOf CX0 P w K mg base N__law_piece "_law_piece" (defScope s__law_piece) fa cdv A outer s H E).nox (defBody s__law_piece) m__law_piece := by
  refine sss_cons ?_ ?_
  · exact (ss_set (i := 3) sc__law_piece.nd rfl (by first | exact .inl rfl | exact .inr rfl) (en_lc (own := [("_law_k", 4)]) [] rfl sc__law_piece.nd (ei_range1 (by rfl) T.z_range (ea_cons (ee_callB (cn_len) nLen_mono (by rfl) T.z_len (by decide +kernel) (eab_cons (eb_var (pv 1)) eab_nil)) ea_nil)) (blkOk_by (N := N__law_piece) (sc := defScope s__law_piece) (by decide +kernel)) (fun _ _ _ _ _ => (eg_name (i := 4) sc__law_piece.nd rfl (by first | exact .inl rfl | exact .inr rfl))) (fun _ _ _ _ _ => ets_nil) (fun _ _ _ _ _ => (ee_op or_sub dSub_mono (EE.b (ee_ix (eb_var (pv 2)) (eb_var (pv 4)) (fun _ _ => rfl))) (EE.b (ee_ix (eb_var (pv 1)) (eb_var (pv 4)) (fun _ _ => rfl)))))).fz)
  refine sss_cons ?_ ?_
  · exact (ss_set (i := 5) sc__law_piece.nd rfl (by first | exact .inl rfl | exact .inr rfl) (en_lc (own := [("_law_k", 4)]) [] rfl sc__law_piece.nd (ei_range1 (by rfl) T.z_range (ea_cons (ee_callB (cn_len) nLen_mono (by rfl) T.z_len (by decide +kernel) (eab_cons (eb_var (pv 1)) eab_nil)) ea_nil)) (blkOk_by (N := N__law_piece) (sc := defScope s__law_piece) (by decide +kernel)) (fun _ _ _ _ _ => (eg_name (i := 4) sc__law_piece.nd rfl (by first | exact .inl rfl | exact .inr rfl))) (fun _ _ _ _ _ => ets_nil) (fun _ _ _ _ _ => (ee_op or_sub dSub_mono (EE.b (ee_ix (eb_var (pv 0)) (eb_var (pv 4)) (fun _ _ => rfl))) (EE.b (ee_ix (eb_var (pv 1)) (eb_var (pv 4)) (fun _ _ => rfl)))))).fz)
  refine sss_cons ?_ ?_
  · exact (ss_set (i := 6) sc__law_piece.nd rfl (by first | exact .inl rfl | exact .inr rfl) (ee_callB (cn_sum rfl) nSum_mono (by rfl) T.z_sum (by decide +kernel) (eab_cons (en_lc (own := [("_law_number", 7)]) [] rfl sc__law_piece.nd (ei_seq (ee_var (pv 3))) (blkOk_by (N := N__law_piece) (sc := defScope s__law_piece) (by decide +kernel)) (fun _ _ _ _ _ => (eg_name (i := 7) sc__law_piece.nd rfl (by first | exact .inl rfl | exact .inr rfl))) (fun _ _ _ _ _ => ets_nil) (fun _ _ _ _ _ => (ee_op or_mul dMul_mono (eb_var (pv 7)) (eb_var (pv 7))))).b eab_nil)))
  refine sss_cons ?_ ?_
  · exact (ss_set (i := 8) sc__law_piece.nd rfl (by first | exact .inl rfl | exact .inr rfl) (ee_callB (cn_sum rfl) nSum_mono (by rfl) T.z_sum (by decide +kernel) (eab_cons (en_lc (own := [("_law_k", 4)]) [] rfl sc__law_piece.nd (ei_range1 (by rfl) T.z_range (ea_cons (ee_callB (cn_len) nLen_mono (by rfl) T.z_len (by decide +kernel) (eab_cons (eb_var (pv 1)) eab_nil)) ea_nil)) (blkOk_by (N := N__law_piece) (sc := defScope s__law_piece) (by decide +kernel)) (fun _ _ _ _ _ => (eg_name (i := 4) sc__law_piece.nd rfl (by first | exact .inl rfl | exact .inr rfl))) (fun _ _ _ _ _ => ets_nil) (fun _ _ _ _ _ => (ee_op or_mul dMul_mono (EE.b (ee_ix (eb_var (pv 5)) (eb_var (pv 4)) (fun _ _ => rfl))) (EE.b (ee_ix (eb_var (pv 3)) (eb_var (pv 4)) (fun _ _ => rfl)))))).b eab_nil)))
  refine sss_cons ?_ ?_
  · refine ss_if (et_cmp or_le dRel_mono (eb_var (pv 8)) ee_int.b (nomark _)) ?_ ?_
    · refine sss_one ?_
      · exact (ss_ret (ee_tup (ea_cons (ee_call c__law_square (hr.mono (by decide)) (by rfl) (ea_cons (ee_var (pv 0)) (ea_cons (ee_var (pv 1)) ea_nil))) (ea_cons (ee_call c__law_square (hr.mono (by decide)) (by rfl) (ea_cons (ee_var (pv 0)) (ea_cons (ee_var (pv 1)) ea_nil))) ea_nil))))
    · exact sss_nil
  refine sss_cons ?_ ?_
  · refine ss_if (et_cmp or_ge dRel_mono (eb_var (pv 8)) (eb_var (pv 6)) (nomark _)) ?_ ?_
    · refine sss_one ?_
      · exact (ss_ret (ee_tup (ea_cons (ee_call c__law_square (hr.mono (by decide)) (by rfl) (ea_cons (ee_var (pv 0)) (ea_cons (ee_var (pv 2)) ea_nil))) (ea_cons (ee_call c__law_square (hr.mono (by decide)) (by rfl) (ea_cons (ee_var (pv 0)) (ea_cons (ee_var (pv 2)) ea_nil))) ea_nil))))
    · exact sss_nil
  refine sss_cons ?_ ?_
  · exact (ss_set (i := 9) sc__law_piece.nd rfl (by first | exact .inl rfl | exact .inr rfl) (ee_op or_sub dSub_mono (ee_op or_mul dMul_mono (ee_callB (cn_sum rfl) nSum_mono (by rfl) T.z_sum (by decide +kernel) (eab_cons (en_lc (own := [("_law_number", 7)]) [] rfl sc__law_piece.nd (ei_seq (ee_var (pv 5))) (blkOk_by (N := N__law_piece) (sc := defScope s__law_piece) (by decide +kernel)) (fun _ _ _ _ _ => (eg_name (i := 7) sc__law_piece.nd rfl (by first | exact .inl rfl | exact .inr rfl))) (fun _ _ _ _ _ => ets_nil) (fun _ _ _ _ _ => (ee_op or_mul dMul_mono (eb_var (pv 7)) (eb_var (pv 7))))).b eab_nil)).b (eb_var (pv 6))).b (ee_op or_mul dMul_mono (eb_var (pv 8)) (eb_var (pv 8))).b))
  refine sss_one ?_
  · exact (ss_ret (ee_tup (ea_cons (ee_op or_div dDiv_mono (eb_var (pv 9)) (eb_var (pv 6))) (ea_cons (ee_op or_sub dSub_mono ee_int.b (ee_op or_div dDiv_mono (ee_op or_sub dSub_mono ee_int.b (eb_var (pv 9))).b (eb_var (pv 6))).b) ea_nil))))
theorem d__law_boxes (T : Tx mg) (hr : Room 0 (A.deeper (envOfC "_law_boxes" (defScope s__law_boxes) s.heap.objs.size fa cdv))) :
    SSs (cxOf CX0 P w K mg base N__law_boxes "_law_boxes" (defScope s__law_boxes) fa cdv A outer s H E).nox (defBody s__law_boxes) m__law_boxes := by
  refine sss_cons ?_ ?_
  · exact (ss_set (i := 2) sc__law_boxes.nd rfl (by first | exact .inl rfl | exact .inr rfl) (ee_neg ee_int))
  refine sss_cons ?_ ?_
  · refine ss_for PassesOwn.never rfl (ei_seq (ee_var (pv 1))) (eg_name (i := 3) sc__law_boxes.nd rfl (by first | exact .inl rfl | exact .inr rfl)) ?_
    refine sss_cons ?_ ?_
    · exact (ss_set (i := 4) sc__law_boxes.nd rfl (by first | exact .inl rfl | exact .inr rfl) ee_int)
    refine sss_cons ?_ ?_
    · refine ss_for PassesOwn.never rfl (ei_range1 (by rfl) T.z_range (ea_cons (ee_callB (cn_len) nLen_mono (by rfl) T.z_len (by decide +kernel) (eab_cons (eb_var (pv 0)) eab_nil)) ea_nil)) (eg_name (i := 5) sc__law_boxes.nd rfl (by first | exact .inl rfl | exact .inr rfl)) ?_
      refine sss_cons ?_ ?_
      · exact (ss_set (i := 6) sc__law_boxes.nd rfl (by first | exact .inl rfl | exact .inr rfl) (ee_callB (cn_max3 rfl) nMax3_mono (by rfl) T.z_max (by decide +kernel) (eab_cons (ee_op or_sub dSub_mono (ee_ix (ee_ix (eb_var (pv 3)) (eb_var (pv 5)) (fun _ _ => rfl)).b ee_int.b (fun _ _ => rfl)).b (ee_ix (eb_var (pv 0)) (eb_var (pv 5)) (fun _ _ => rfl)).b).b (eab_cons (ee_op or_sub dSub_mono (ee_ix (eb_var (pv 0)) (eb_var (pv 5)) (fun _ _ => rfl)).b (ee_ix (ee_ix (eb_var (pv 3)) (eb_var (pv 5)) (fun _ _ => rfl)).b ee_int.b (fun _ _ => rfl)).b).b (eab_cons ee_int.b eab_nil)))))
      refine sss_one ?_
      · exact (ss_set (i := 4) sc__law_boxes.nd rfl (by first | exact .inl rfl | exact .inr rfl) (ee_op or_add dAdd_mono (eb_var (pv 4)) (ee_op or_mul dMul_mono (eb_var (pv 6)) (eb_var (pv 6))).b))
    refine sss_one ?_
    · refine ss_if (ew_or (et_cmp or_lt dRel_mono (eb_var (pv 2)) ee_int.b (nomark _)) (ew_or1 (et_cmp or_lt dRel_mono (eb_var (pv 4)) (eb_var (pv 2)) (nomark _)))).t ?_ ?_
      · refine sss_one ?_
        · exact (ss_set (i := 2) sc__law_boxes.nd rfl (by first | exact .inl rfl | exact .inr rfl) (ee_var (pv 4)))
      · exact sss_nil
  refine sss_one ?_
  · exact (ss_ret (ee_var (pv 2)))
theorem d__law_value (T : Tx mg) (c__law_piece : Cal P w K mg base "_law_piece" 2 ["_law_place", "_law_at_here", "_law_to"] [] (runD 10 m__law_piece)) (c__law_up : Cal P w K mg base "_law_up" 2 ["_law_number"] [] (runD 2 m__law_up)) (c__law_root : Cal P w K mg base "_law_root" 1 ["_law_number"] [] (runD 5 m__law_root)) (c__law_boxes : Cal P w K mg base "_law_boxes" 1 ["_law_place", "_law_boxes_here"] [] (runD 7 m__law_boxes)) (c__law_square : Cal P w K mg base "_law_square" 1 ["_law_one", "_law_two"] [] (runD 3 m__law_square)) (hr : Room 2 (A.deeper (envOfC "_law_value" (defScope s__law_value) s.heap.objs.size fa cdv))) :
    SSs (cxOf CX0 P w K mg base N__law_value "_law_value" (defScope s__law_value) fa cdv A outer s H E).nox (defBody s__law_value) m__law_value := by
  refine sss_cons ?_ ?_
  · refine ss_if (et_cmp (or_eq hr.units) dEq_mono (ee_ix (eb_var (pv 0)) ee_int.b (fun _ _ => rfl)).b ee_str.b (nomark _)) ?_ ?_
    · refine sss_cons ?_ ?_
      · exact (ss_set (i := 3) sc__law_value.nd rfl (by first | exact .inl rfl | exact .inr rfl) (ee_callB (cn_sum rfl) nSum_mono (by rfl) T.z_sum (by decide +kernel) (eab_cons (en_lc (own := [("_law_k", 4)]) [] rfl sc__law_value.nd (ei_range1 (by rfl) T.z_range (ea_cons (ee_callB (cn_len) nLen_mono (by rfl) T.z_len (by decide +kernel) (eab_cons (eb_var (pv 1)) eab_nil)) ea_nil)) (blkOk_by (N := N__law_value) (sc := defScope s__law_value) (by decide +kernel)) (fun _ _ _ _ _ => (eg_name (i := 4) sc__law_value.nd rfl (by first | exact .inl rfl | exact .inr rfl))) (fun _ _ _ _ _ => ets_nil) (fun _ _ _ _ _ => (ee_op or_mul dMul_mono (EE.b (ee_ix (EE.b (ee_ix (eb_var (pv 0)) (EE.b ee_int) (fun _ _ => rfl))) (eb_var (pv 4)) (fun _ _ => rfl))) (EE.b (ee_ix (eb_var (pv 1)) (eb_var (pv 4)) (fun _ _ => rfl)))))).b eab_nil)))
      refine sss_one ?_
      · exact (ss_ret (ee_tup (ea_cons (ee_var (pv 3)) (ea_cons (ee_var (pv 3)) ea_nil))))
    · exact sss_nil
  refine sss_cons ?_ ?_
  · refine ss_if (et_cmp (or_eq hr.units) dEq_mono (ee_ix (eb_var (pv 0)) ee_int.b (fun _ _ => rfl)).b ee_str.b (nomark _)) ?_ ?_
    · refine sss_cons ?_ ?_
      · exact (ss_asg (ee_call c__law_piece (hr.mono (by decide)) (by rfl) (ea_cons (ee_var (pv 1)) (ea_cons (ee_ix (eb_var (pv 0)) ee_int.b (fun _ _ => rfl)) (ea_cons (ee_ix (eb_var (pv 0)) ee_int.b (fun _ _ => rfl)) ea_nil)))) (eg_tup rfl (egs_cons (eg_name (i := 5) sc__law_value.nd rfl (by first | exact .inl rfl | exact .inr rfl)) (egs_cons (eg_name (i := 6) sc__law_value.nd rfl (by first | exact .inl rfl | exact .inr rfl)) egs_nil))))
      refine sss_one ?_
      · exact (ss_ret (ee_tup (ea_cons (ee_call c__law_root (hr.mono (by decide)) (by rfl) (ea_cons (ee_var (pv 5)) ea_nil)) (ea_cons (ee_call c__law_up (hr.mono (by decide)) (by rfl) (ea_cons (ee_var (pv 6)) ea_nil)) ea_nil))))
    · exact sss_nil
  refine sss_cons ?_ ?_
  · refine ss_if (et_cmp (or_eq hr.units) dEq_mono (ee_ix (eb_var (pv 0)) ee_int.b (fun _ _ => rfl)).b ee_str.b (nomark _)) ?_ ?_
    · refine sss_cons ?_ ?_
      · exact (ss_set (i := 7) sc__law_value.nd rfl (by first | exact .inl rfl | exact .inr rfl) (ee_call c__law_boxes (hr.mono (by decide)) (by rfl) (ea_cons (ee_var (pv 1)) (ea_cons (ee_ix (eb_var (pv 0)) ee_int.b (fun _ _ => rfl)) ea_nil))))
      refine sss_one ?_
      · exact (ss_ret (ee_tup (ea_cons (ee_call c__law_root (hr.mono (by decide)) (by rfl) (ea_cons (ee_var (pv 7)) ea_nil)) (ea_cons (ee_call c__law_up (hr.mono (by decide)) (by rfl) (ea_cons (ee_var (pv 7)) ea_nil)) ea_nil))))
    · exact sss_nil
  refine sss_cons ?_ ?_
  · exact (ss_set (i := 7) sc__law_value.nd rfl (by first | exact .inl rfl | exact .inr rfl) (ee_call c__law_square (hr.mono (by decide)) (by rfl) (ea_cons (ee_var (pv 1)) (ea_cons (ee_ix (eb_var (pv 0)) ee_int.b (fun _ _ => rfl)) ea_nil))))
  refine sss_cons ?_ ?_
  · refine ss_if (et_cmp (or_eq hr.units) dEq_mono (ee_ix (eb_var (pv 0)) ee_int.b (fun _ _ => rfl)).b ee_str.b (nomark _)) ?_ ?_
    · refine sss_cons ?_ ?_
      · exact (ss_set (i := 8) sc__law_value.nd rfl (by first | exact .inl rfl | exact .inr rfl) (ee_call c__law_square (hr.mono (by decide)) (by rfl) (ea_cons (ee_var (pv 1)) (ea_cons (ee_ix (eb_var (pv 0)) ee_int.b (fun _ _ => rfl)) ea_nil))))
      refine sss_one ?_
      · exact (ss_ret (ee_tup (ea_cons (ee_op or_sub dSub_mono (ee_call c__law_root (hr.mono (by decide)) (by rfl) (ea_cons (ee_var (pv 7)) ea_nil)).b (ee_call c__law_up (hr.mono (by decide)) (by rfl) (ea_cons (ee_var (pv 8)) ea_nil)).b) (ea_cons (ee_op or_sub dSub_mono (ee_call c__law_up (hr.mono (by decide)) (by rfl) (ea_cons (ee_var (pv 7)) ea_nil)).b (ee_call c__law_root (hr.mono (by decide)) (by rfl) (ea_cons (ee_var (pv 8)) ea_nil)).b) ea_nil))))
    · exact sss_nil
  refine sss_cons ?_ ?_
  · exact (ss_set (i := 9) sc__law_value.nd rfl (by first | exact .inl rfl | exact .inr rfl) (ee_op or_mul dMul_mono (eb_var (pv 2)) (ee_callTy cn_int nInt_mono (by rfl) T.z_int (by decide +kernel) (eab_cons (ee_cmp (or_eq hr.units) dEq_mono (ee_ix (eb_var (pv 0)) ee_int.b (fun _ _ => rfl)).b ee_str.b (nomark _)).b eab_nil)).b))
  refine sss_one ?_
  · exact (ss_ret (ee_tup (ea_cons (ee_op or_add dAdd_mono (ee_call c__law_root (hr.mono (by decide)) (by rfl) (ea_cons (ee_var (pv 7)) ea_nil)).b (eb_var (pv 9))) (ea_cons (ee_op or_add dAdd_mono (ee_call c__law_up (hr.mono (by decide)) (by rfl) (ea_cons (ee_var (pv 7)) ea_nil)).b (eb_var (pv 9))) ea_nil))))
theorem d__law_point (T : Tx mg) (c__law_digits : Cal P w K mg base "_law_digits" 1 ["_law_row", "_law_base", "_law_count"] [] (runD 5 m__law_digits)) (hr : Room 1 (A.deeper (envOfC "_law_point" (defScope s__law_point) s.heap.objs.size fa cdv))) :
    SSs (cxOf CX0 P w K mg base N__law_point "_law_point" (defScope s__law_point) fa cdv A outer s H E).nox (defBody s__law_point) m__law_point := by
  refine sss_one ?_
  · exact (ss_ret (ee_callTy cn_tuple nTuple_mono (by rfl) T.z_tuple (by decide +kernel) (eab_cons (en_lc (own := [("_law_digit", 2)]) [] rfl sc__law_point.nd (ei_seq (ee_call c__law_digits (hr.mono (by decide)) (by rfl) (ea_cons (ee_var (pv 1)) (ea_cons ee_int (ea_cons (ee_var (pv 0)) ea_nil))))) (blkOk_by (N := N__law_point) (sc := defScope s__law_point) (by decide +kernel)) (fun _ _ _ _ _ => (eg_name (i := 2) sc__law_point.nd rfl (by first | exact .inl rfl | exact .inr rfl))) (fun _ _ _ _ _ => ets_nil) (fun _ _ _ _ _ => (ee_op or_sub dSub_mono (eb_var (pv 2)) (EE.b ee_int)))).b eab_nil)))
theorem d__law_kind (T : Tx mg) (c__law_digits : Cal P w K mg base "_law_digits" 1 ["_law_row", "_law_base", "_law_count"] [] (runD 5 m__law_digits)) (c__law_point : Cal P w K mg base "_law_point" 2 ["_law_dims", "_law_row"] [] (runD 3 m__law_point)) (hr : Room 2 (A.deeper (envOfC "_law_kind" (defScope s__law_kind) s.heap.objs.size fa cdv))) :
    SSs (cxOf CX0 P w K mg base N__law_kind "_law_kind" (defScope s__law_kind) fa cdv A outer s H E).nox (defBody s__law_kind) m__law_kind := by
  refine sss_cons ?_ ?_
  · exact (ss_set (i := 2) sc__law_kind.nd rfl (by first | exact .inl rfl | exact .inr rfl) (en_lst (ea_cons ee_str (ea_cons ee_str (ea_cons ee_str (ea_cons ee_str (ea_cons ee_str (ea_cons ee_str ea_nil))))))).fz)
  refine sss_cons ?_ ?_
  · exact (ss_set (i := 3) sc__law_kind.nd rfl (by first | exact .inl rfl | exact .inr rfl) (ee_ix (eb_var (pv 2)) (ee_op or_mod dMod_mono (ee_callTy cn_int nInt_mono (by rfl) T.z_int (by decide +kernel) (eab_cons (eb_var (pv 1)) eab_nil)).b ee_int.b).b (fun _ _ => rfl)))
  refine sss_cons ?_ ?_
  · exact (ss_set (i := 4) sc__law_kind.nd rfl (by first | exact .inl rfl | exact .inr rfl) (ee_op or_div dDiv_mono (eb_var (pv 1)) ee_int.b))
  refine sss_cons ?_ ?_
  · refine ss_if (et_cmp (or_eq hr.units) dEq_mono (eb_var (pv 3)) ee_str.b (nomark _)) ?_ ?_
    · refine sss_cons ?_ ?_
      · exact (ss_setLc (i := 5) (own := [("_law_digit", 6)]) [] rfl sc__law_kind.nd rfl rfl (sw_true rfl rfl rfl (by decide +kernel)) (ei_seq (ee_call c__law_digits (hr.mono (by decide)) (by rfl) (ea_cons (ee_var (pv 4)) (ea_cons ee_int (ea_cons (ee_var (pv 0)) ea_nil))))) (blkOk_by (N := N__law_kind) (sc := defScope s__law_kind) (by decide +kernel)) (fun _ _ _ _ _ => (eg_name (i := 6) sc__law_kind.nd rfl (by first | exact .inl rfl | exact .inr rfl))) (fun _ _ _ _ _ => ets_nil) (fun _ _ _ _ _ => (ee_op or_sub dSub_mono (eb_var (pv 6)) (EE.b ee_int))))
      refine sss_cons ?_ ?_
      · refine ss_if (et_cmp (or_eq hr.units) dEq_mono (ee_callB (cn_sum rfl) nSum_mono (by rfl) T.z_sum (by decide +kernel) (eab_cons (en_lcH (own := [("_law_number", 7)]) [] rfl sc__law_kind.nd (ei_varB (pv 5)) (blkOk_by (N := N__law_kind) (sc := defScope s__law_kind) (by decide +kernel)) (fun _ _ _ _ _ => (eg_name (i := 7) sc__law_kind.nd rfl (by first | exact .inl rfl | exact .inr rfl))) (fun _ _ _ _ _ => ets_nil) (fun _ _ _ _ _ => (ee_callB (cn_abs) nAbs_mono (by rfl) T.z_abs (by decide +kernel) (eab_cons (eb_var (pv 7)) eab_nil)))).b eab_nil)).b ee_int.b (nomark _)) ?_ ?_
        · refine sss_one ?_
          · exact (ss_setIx (pv 5) ee_int ee_int)
        · exact sss_nil
      refine sss_one ?_
      · exact (ss_ret (ee_tup (ea_cons (ee_var (pv 3)) (ea_cons (ee_callTy cn_tuple nTuple_mono (by rfl) T.z_tuple (by decide +kernel) (eab_cons (eb_var (pv 5)) eab_nil)) ea_nil))))
    · exact sss_nil
  refine sss_cons ?_ ?_
  · refine ss_if (et_cmp (or_eq hr.units) dEq_mono (eb_var (pv 3)) ee_str.b (nomark _)) ?_ ?_
    · refine sss_cons ?_ ?_
      · exact (ss_setN (i := 8) sc__law_kind.nd rfl (by first | exact .inl rfl | exact .inr rfl) (en_lst ea_nil))
      refine sss_cons ?_ ?_
      · refine ss_for PassesOwn.never rfl (ei_range1 (by rfl) T.z_range (ea_cons (ee_op or_add dAdd_mono ee_int.b (ee_op or_mod dMod_mono (ee_callTy cn_int nInt_mono (by rfl) T.z_int (by decide +kernel) (eab_cons (eb_var (pv 4)) eab_nil)).b ee_int.b).b) ea_nil)) (eg_name (i := 9) sc__law_kind.nd rfl (by first | exact .inl rfl | exact .inr rfl)) ?_
        refine sss_cons ?_ ?_
        · exact (ss_set (i := 10) sc__law_kind.nd rfl (by first | exact .inl rfl | exact .inr rfl) (ee_call c__law_point (hr.mono (by decide)) (by rfl) (ea_cons (ee_var (pv 0)) (ea_cons (ee_op or_add dAdd_mono (ee_op or_div dDiv_mono (eb_var (pv 4)) ee_int.b).b (ee_op or_mul dMul_mono ee_int.b (eb_var (pv 9))).b) ea_nil))))
        refine sss_one ?_
        · exact (ss_app (pv 8) (ee_callTy cn_tuple nTuple_mono (by rfl) T.z_tuple (by decide +kernel) (eab_cons (en_lc (own := [("_law_number", 7)]) [] rfl sc__law_kind.nd (ei_seq (ee_var (pv 10))) (blkOk_by (N := N__law_kind) (sc := defScope s__law_kind) (by decide +kernel)) (fun _ _ _ _ _ => (eg_name (i := 7) sc__law_kind.nd rfl (by first | exact .inl rfl | exact .inr rfl))) (fun _ _ _ _ _ => ets_nil) (fun _ _ _ _ _ => (ee_tup (ea_cons (ee_var (pv 7)) (ea_cons (ee_op or_add dAdd_mono (eb_var (pv 7)) (EE.b (ee_op or_mod dMod_mono (EE.b (ee_callTy cn_int nInt_mono (by rfl) T.z_int (by decide +kernel) (eab_cons (EE.b (ee_op or_div dDiv_mono (eb_var (pv 4)) (EE.b ee_int))) eab_nil))) (EE.b ee_int)))) ea_nil))))).b eab_nil)))
      refine sss_one ?_
      · exact (ss_ret (ee_tup (ea_cons (ee_var (pv 3)) (ea_cons (ee_callTy cn_tuple nTuple_mono (by rfl) T.z_tuple (by decide +kernel) (eab_cons (eb_var (pv 8)) eab_nil)) ea_nil))))
    · exact sss_nil
  refine sss_cons ?_ ?_
  · refine ss_if (ew_or (et_cmp (or_eq hr.units) dEq_mono (eb_var (pv 3)) ee_str.b (nomark _)) (ew_or1 (et_cmp (or_eq hr.units) dEq_mono (eb_var (pv 3)) ee_str.b (nomark _)))).t ?_ ?_
    · refine sss_one ?_
      · exact (ss_ret (ee_tup (ea_cons (ee_var (pv 3)) (ea_cons (ee_call c__law_point (hr.mono (by decide)) (by rfl) (ea_cons (ee_var (pv 0)) (ea_cons (ee_var (pv 4)) ea_nil))) (ea_cons (ee_call c__law_point (hr.mono (by decide)) (by rfl) (ea_cons (ee_var (pv 0)) (ea_cons (ee_op or_div dDiv_mono (eb_var (pv 4)) ee_int.b) ea_nil))) ea_nil)))))
    · exact sss_nil
  refine sss_one ?_
  · exact (ss_ret (ee_tup (ea_cons (ee_var (pv 3)) (ea_cons (ee_call c__law_point (hr.mono (by decide)) (by rfl) (ea_cons (ee_var (pv 0)) (ea_cons (ee_var (pv 4)) ea_nil))) ea_nil))))
theorem d__law_moved (T : Tx mg) (hr : Room 0 (A.deeper (envOfC "_law_moved" (defScope s__law_moved) s.heap.objs.size fa cdv))) :
    SSs (cxOf CX0 P w K mg base N__law_moved "_law_moved" (defScope s__law_moved) fa cdv A outer s H E).nox (defBody s__law_moved) m__law_moved := by
  refine sss_cons ?_ ?_
  · refine ss_if (et_cmp (or_eq hr.units) dEq_mono (ee_ix (eb_var (pv 0)) ee_int.b (fun _ _ => rfl)).b ee_str.b (nomark _)) ?_ ?_
    · refine sss_one ?_
      · exact (ss_ret (ee_var (pv 0)))
    · exact sss_nil
  refine sss_cons ?_ ?_
  · refine ss_if (et_cmp (or_eq hr.units) dEq_mono (ee_ix (eb_var (pv 0)) ee_int.b (fun _ _ => rfl)).b ee_str.b (nomark _)) ?_ ?_
    · refine sss_cons ?_ ?_
      · exact (ss_setN (i := 2) sc__law_moved.nd rfl (by first | exact .inl rfl | exact .inr rfl) (en_lst ea_nil))
      refine sss_cons ?_ ?_
      · refine ss_for PassesOwn.never rfl (ei_seq (ee_ix (eb_var (pv 0)) ee_int.b (fun _ _ => rfl))) (eg_name (i := 3) sc__law_moved.nd rfl (by first | exact .inl rfl | exact .inr rfl)) ?_
        refine sss_one ?_
        · exact (ss_app (pv 2) (ee_callTy cn_tuple nTuple_mono (by rfl) T.z_tuple (by decide +kernel) (eab_cons (en_lc (own := [("_law_k", 4)]) [] rfl sc__law_moved.nd (ei_range1 (by rfl) T.z_range (ea_cons (ee_callB (cn_len) nLen_mono (by rfl) T.z_len (by decide +kernel) (eab_cons (eb_var (pv 3)) eab_nil)) ea_nil)) (blkOk_by (N := N__law_moved) (sc := defScope s__law_moved) (by decide +kernel)) (fun _ _ _ _ _ => (eg_name (i := 4) sc__law_moved.nd rfl (by first | exact .inl rfl | exact .inr rfl))) (fun _ _ _ _ _ => ets_nil) (fun _ _ _ _ _ => (ee_tup (ea_cons (ee_op or_add dAdd_mono (EE.b (ee_ix (EE.b (ee_ix (eb_var (pv 3)) (eb_var (pv 4)) (fun _ _ => rfl))) (EE.b ee_int) (fun _ _ => rfl))) (EE.b (ee_ix (eb_var (pv 1)) (eb_var (pv 4)) (fun _ _ => rfl)))) (ea_cons (ee_op or_add dAdd_mono (EE.b (ee_ix (EE.b (ee_ix (eb_var (pv 3)) (eb_var (pv 4)) (fun _ _ => rfl))) (EE.b ee_int) (fun _ _ => rfl))) (EE.b (ee_ix (eb_var (pv 1)) (eb_var (pv 4)) (fun _ _ => rfl)))) ea_nil))))).b eab_nil)))
      refine sss_one ?_
      · exact (ss_ret (ee_tup (ea_cons (ee_ix (eb_var (pv 0)) ee_int.b (fun _ _ => rfl)) (ea_cons (ee_callTy cn_tuple nTuple_mono (by rfl) T.z_tuple (by decide +kernel) (eab_cons (eb_var (pv 2)) eab_nil)) ea_nil))))
    · exact sss_nil
  refine sss_cons ?_ ?_
  · exact (ss_setLcF (i := 5) (own := [("_law_point_here", 6)]) [] rfl sc__law_moved.nd rfl rfl (sw_true rfl rfl rfl (by decide +kernel)) (ei_seq (ee_slice (eb_var (pv 0)) (eo_some ee_int) eo_none)) (blkOk_by (N := N__law_moved) (sc := defScope s__law_moved) (by decide +kernel)) (fun _ _ _ _ _ => (eg_name (i := 6) sc__law_moved.nd rfl (by first | exact .inl rfl | exact .inr rfl))) (fun _ _ _ _ _ => ets_nil) (fun _ _ _ _ _ => (ee_callTy cn_tuple nTuple_mono (by rfl) T.z_tuple (by decide +kernel) (eab_cons (EN.b (en_lc (own := [("_law_k", 4)]) [] rfl sc__law_moved.nd (ei_range1 (by rfl) T.z_range (ea_cons (ee_callB (cn_len) nLen_mono (by rfl) T.z_len (by decide +kernel) (eab_cons (eb_var (pv 6)) eab_nil)) ea_nil)) (blkOk_by (by kernel_rfl)) (fun _ _ _ _ _ => (eg_name (i := 4) sc__law_moved.nd rfl (by first | exact .inl rfl | exact .inr rfl))) (fun _ _ _ _ _ => ets_nil) (fun _ _ _ _ _ => (ee_op or_add dAdd_mono (EE.b (ee_ix (eb_var (pv 6)) (eb_var (pv 4)) (fun _ _ => rfl))) (EE.b (ee_ix (eb_var (pv 1)) (eb_var (pv 4)) (fun _ _ => rfl))))))) eab_nil))))
  refine sss_one ?_
  · exact (ss_ret (ee_callTy cn_tuple nTuple_mono (by rfl) T.z_tuple (by decide +kernel) (eab_cons (ee_op or_add dAdd_mono (en_lst (ea_cons (ee_ix (eb_var (pv 0)) ee_int.b (fun _ _ => rfl)) ea_nil)).b (eb_var (pv 5))).b eab_nil)))
theorem d__law_reading {cl : Nat → Addr} (T : Tx mg) (c__law_kind : Cal P w K mg base "_law_kind" 3 ["_law_dims", "_law_row"] [] (runD 11 m__law_kind)) (c__law_at : Cal P w K mg base "_law_at" 1 ["_law_way_here", "_law_moment"] [] (runD 14 m__law_at)) (c__law_value : Cal P w K mg base "_law_value" 3 ["_law_kind_here", "_law_place", "_law_clock"] [] (runD 10 m__law_value)) (c__law_moved : Cal P w K mg base "_law_moved" 1 ["_law_kind_here", "_law_shift"] [] (runD 7 m__law_moved)) (k_Reading__4 : CalMK P w K mg base "Reading" 3 (cl 1) ["source", "moment", "kind", "low", "high", "late", "near"] 3 ["low", "high", "late", "near"] (fun ds es => ds ++ es) (mkD (cl 1) ["source", "moment", "kind", "low", "high", "late", "near"] 8 (m_K_Reading_init cl))) (hr : Room 4 (A.deeper (envOfC "_law_reading" (defScope s__law_reading) s.heap.objs.size fa cdv))) :
    SSs (cxOf CX0 P w K mg base N__law_reading "_law_reading" (defScope s__law_reading) fa cdv A outer s H E).nox (defBody s__law_reading) (m__law_reading cl) := by
  refine sss_cons ?_ ?_
  · exact (ss_set (i := 5) sc__law_reading.nd rfl (by first | exact .inl rfl | exact .inr rfl) (ee_call c__law_kind (hr.mono (by decide)) (by rfl) (ea_cons (ee_var (pv 1)) (ea_cons (ee_op or_div dDiv_mono (eb_var (pv 3)) ee_int.b) ea_nil))))
  refine sss_cons ?_ ?_
  · exact (ss_set (i := 6) sc__law_reading.nd rfl (by first | exact .inl rfl | exact .inr rfl) (ee_op or_sub dSub_mono (ee_op or_mod dMod_mono (ee_callTy cn_int nInt_mono (by rfl) T.z_int (by decide +kernel) (eab_cons (eb_var (pv 3)) eab_nil)).b ee_int.b).b ee_int.b))
  refine sss_cons ?_ ?_
  · exact (ss_set (i := 7) sc__law_reading.nd rfl (by first | exact .inl rfl | exact .inr rfl) (ee_op or_div dDiv_mono (ee_op or_mod dMod_mono (ee_callTy cn_int nInt_mono (by rfl) T.z_int (by decide +kernel) (eab_cons (ee_op or_div dDiv_mono (eb_var (pv 3)) ee_int.b).b eab_nil)).b ee_int.b).b ee_int.b))
  refine sss_cons ?_ ?_
  · exact (ss_set (i := 8) sc__law_reading.nd rfl (by first | exact .inl rfl | exact .inr rfl) (ee_op or_add dAdd_mono (eb_var (pv 6)) (ee_op or_mul dMul_mono (eb_var (pv 7)) (ee_op or_sub dSub_mono (ee_op or_mod dMod_mono (ee_callTy cn_int nInt_mono (by rfl) T.z_int (by decide +kernel) (eab_cons (ee_op or_div dDiv_mono (eb_var (pv 3)) ee_int.b).b eab_nil)).b ee_int.b).b ee_int.b).b).b))
  refine sss_cons ?_ ?_
  · exact (ss_set (i := 9) sc__law_reading.nd rfl (by first | exact .inl rfl | exact .inr rfl) (ee_op or_div dDiv_mono (ee_op or_mod dMod_mono (ee_callTy cn_int nInt_mono (by rfl) T.z_int (by decide +kernel) (eab_cons (ee_op or_div dDiv_mono (eb_var (pv 3)) ee_int.b).b eab_nil)).b ee_int.b).b ee_int.b))
  refine sss_cons ?_ ?_
  · exact (ss_setN (i := 10) sc__law_reading.nd rfl (by first | exact .inl rfl | exact .inr rfl) (en_rep (en_lst (ea_cons ee_int ea_nil)).b (eb_var (pv 1))))
  refine sss_cons ?_ ?_
  · exact (ss_setIx (pv 10) (ee_op or_mod dMod_mono (ee_callTy cn_int nInt_mono (by rfl) T.z_int (by decide +kernel) (eab_cons (ee_op or_div dDiv_mono (eb_var (pv 3)) ee_int.b).b eab_nil)).b (eb_var (pv 1))) (ee_op or_mul dMul_mono (eb_var (pv 9)) (ee_op or_sub dSub_mono (ee_op or_mod dMod_mono (ee_callTy cn_int nInt_mono (by rfl) T.z_int (by decide +kernel) (eab_cons (ee_op or_div dDiv_mono (eb_var (pv 3)) ee_int.b).b eab_nil)).b ee_int.b).b ee_int.b).b))
  refine sss_cons ?_ ?_
  · exact (ss_set (i := 11) sc__law_reading.nd rfl (by first | exact .inl rfl | exact .inr rfl) (ee_call c__law_at (hr.mono (by decide)) (by rfl) (ea_cons (ee_var (pv 0)) (ea_cons (ee_var (pv 8)) ea_nil))))
  refine sss_cons ?_ ?_
  · exact (ss_asg (ee_call c__law_value (hr.mono (by decide)) (by rfl) (ea_cons (ee_call c__law_moved (hr.mono (by decide)) (by rfl) (ea_cons (ee_var (pv 5)) (ea_cons (ee_var (pv 10)) ea_nil))) (ea_cons (ee_slice (eb_var (pv 11)) eo_none (eo_some (ee_var (pv 1)))) (ea_cons (ee_ix (eb_var (pv 11)) (eb_var (pv 1)) (fun _ _ => rfl)) ea_nil)))) (eg_tup rfl (egs_cons (eg_name (i := 12) sc__law_reading.nd rfl (by first | exact .inl rfl | exact .inr rfl)) (egs_cons (eg_name (i := 13) sc__law_reading.nd rfl (by first | exact .inl rfl | exact .inr rfl)) egs_nil))))
  refine sss_cons ?_ ?_
  · refine ss_if (et_tru (eb_var (pv 4)) (fun _ => rfl)) ?_ ?_
    · refine sss_cons ?_ ?_
      · exact (ss_set (i := 12) sc__law_reading.nd rfl (by first | exact .inl rfl | exact .inr rfl) (ee_op or_sub dSub_mono (ee_op or_add dAdd_mono (eb_var (pv 12)) (ee_op or_mod dMod_mono (ee_callTy cn_int nInt_mono (by rfl) T.z_int (by decide +kernel) (eab_cons (ee_op or_div dDiv_mono (eb_var (pv 3)) ee_int.b).b eab_nil)).b ee_int.b).b).b ee_int.b))
      refine sss_one ?_
      · exact (ss_set (i := 13) sc__law_reading.nd rfl (by first | exact .inl rfl | exact .inr rfl) (ee_op or_add dAdd_mono (eb_var (pv 12)) (ee_op or_mod dMod_mono (ee_callTy cn_int nInt_mono (by rfl) T.z_int (by decide +kernel) (eab_cons (ee_op or_div dDiv_mono (eb_var (pv 3)) ee_int.b).b eab_nil)).b ee_int.b).b))
    · exact sss_nil
  refine sss_cons ?_ ?_
  · exact (ss_set (i := 12) sc__law_reading.nd rfl (by first | exact .inl rfl | exact .inr rfl) (ee_op or_sub dSub_mono (eb_var (pv 12)) (ee_op or_mod dMod_mono (ee_callTy cn_int nInt_mono (by rfl) T.z_int (by decide +kernel) (eab_cons (ee_op or_div dDiv_mono (eb_var (pv 3)) ee_int.b).b eab_nil)).b ee_int.b).b))
  refine sss_cons ?_ ?_
  · exact (ss_set (i := 13) sc__law_reading.nd rfl (by first | exact .inl rfl | exact .inr rfl) (ee_op or_add dAdd_mono (eb_var (pv 13)) (ee_op or_mod dMod_mono (ee_callTy cn_int nInt_mono (by rfl) T.z_int (by decide +kernel) (eab_cons (ee_op or_div dDiv_mono (eb_var (pv 3)) ee_int.b).b eab_nil)).b ee_int.b).b))
  refine sss_one ?_
  · exact (ss_ret (ee_makeK k_Reading__4 (hr.mono (by decide)) (by rfl) (ea_cons (ee_var (pv 2)) (ea_cons (ee_var (pv 6)) (ea_cons (ee_var (pv 5)) ea_nil))) (ek_cons (ee_var (pv 12)) (ek_cons (ee_var (pv 13)) (ek_cons (ee_var (pv 7)) (ek_cons (ee_var (pv 9)) ek_nil))))))
theorem d__law_readings {cl : Nat → Addr} (T : Tx mg) (c__law_reading : Cal P w K mg base "_law_reading" 5 ["_law_way_here", "_law_dims", "_law_name", "_law_row", "_law_lies"] [] (runD 14 (m__law_reading cl))) (hr : Room 5 (A.deeper (envOfC "_law_readings" (defScope s__law_readings) s.heap.objs.size fa cdv))) :
    SSs (cxOf CX0 P w K mg base N__law_readings "_law_readings" (defScope s__law_readings) fa cdv A outer s H E).nox (defBody s__law_readings) (m__law_readings cl) := by
  refine sss_cons ?_ ?_
  · exact (ss_setN (i := 6) sc__law_readings.nd rfl (by first | exact .inl rfl | exact .inr rfl) (en_lst ea_nil))
  refine sss_cons ?_ ?_
  · refine ss_for PassesOwn.never rfl (ei_range1 (by rfl) T.z_range (ea_cons (ee_var (pv 3)) ea_nil)) (eg_name (i := 7) sc__law_readings.nd rfl (by first | exact .inl rfl | exact .inr rfl)) ?_
    refine sss_cons ?_ ?_
    · exact (ss_set (i := 8) sc__law_readings.nd rfl (by first | exact .inl rfl | exact .inr rfl) (ee_ix (eb_var (pv 4)) (ee_op or_mod dMod_mono (ee_callTy cn_int nInt_mono (by rfl) T.z_int (by decide +kernel) (eab_cons (ee_op or_div dDiv_mono (ee_ix (eb_var (pv 2)) (eb_var (pv 7)) (fun _ _ => rfl)).b ee_int.b).b eab_nil)).b (ee_callB (cn_len) nLen_mono (by rfl) T.z_len (by decide +kernel) (eab_cons (eb_var (pv 4)) eab_nil)).b).b (fun _ _ => rfl)))
    refine sss_one ?_
    · exact (ss_app (pv 6) (ee_tup (ea_cons (ee_op or_add dAdd_mono (ee_op or_mul dMul_mono (eb_var (pv 7)) ee_int.b).b ee_int.b) (ea_cons (ee_call c__law_reading (hr.mono (by decide)) (by rfl) (ea_cons (ee_var (pv 0)) (ea_cons (ee_var (pv 1)) (ea_cons (ee_var (pv 8)) (ea_cons (ee_ix (eb_var (pv 2)) (eb_var (pv 7)) (fun _ _ => rfl)) (ea_cons (ee_cmp or_in dIn_mono (eb_var (pv 8)) (eb_var (pv 5)) (by rfl)) ea_nil)))))) ea_nil))))
  refine sss_one ?_
  · exact (ss_ret (ee_var (pv 6)))
theorem d__law_question {cl : Nat → Addr} (T : Tx mg) (c__law_at : Cal P w K mg base "_law_at" 1 ["_law_way_here", "_law_moment"] [] (runD 14 m__law_at)) (c__law_digits : Cal P w K mg base "_law_digits" 1 ["_law_row", "_law_base", "_law_count"] [] (runD 5 m__law_digits)) (k_Question__4 : CalMK P w K mg base "Question" 2 (cl 2) ["moment", "root", "liars", "share", "earliest", "latest"] 2 ["liars", "share", "earliest", "latest"] (fun ds es => ds ++ es) (mkD (cl 2) ["moment", "root", "liars", "share", "earliest", "latest"] 7 (m_K_Question_init cl))) (hr : Room 3 (A.deeper (envOfC "_law_question" (defScope s__law_question) s.heap.objs.size fa cdv))) :
    SSs (cxOf CX0 P w K mg base N__law_question "_law_question" (defScope s__law_question) fa cdv A outer s H E).nox (defBody s__law_question) (m__law_question cl) := by
  refine sss_cons ?_ ?_
  · exact (ss_set (i := 4) sc__law_question.nd rfl (by first | exact .inl rfl | exact .inr rfl) (ee_op or_sub dSub_mono (ee_op or_mod dMod_mono (ee_callTy cn_int nInt_mono (by rfl) T.z_int (by decide +kernel) (eab_cons (eb_var (pv 2)) eab_nil)).b ee_int.b).b ee_int.b))
  refine sss_cons ?_ ?_
  · exact (ss_set (i := 5) sc__law_question.nd rfl (by first | exact .inl rfl | exact .inr rfl) (ee_call c__law_at (hr.mono (by decide)) (by rfl) (ea_cons (ee_var (pv 0)) (ea_cons (ee_var (pv 4)) ea_nil))))
  refine sss_cons ?_ ?_
  · exact (ss_set (i := 6) sc__law_question.nd rfl (by first | exact .inl rfl | exact .inr rfl) (ee_call c__law_digits (hr.mono (by decide)) (by rfl) (ea_cons (ee_op or_div dDiv_mono (eb_var (pv 2)) ee_int.b) (ea_cons ee_int (ea_cons (ee_op or_add dAdd_mono (eb_var (pv 1)) ee_int.b) ea_nil)))))
  refine sss_cons ?_ ?_
  · exact (ss_set (i := 7) sc__law_question.nd rfl (by first | exact .inl rfl | exact .inr rfl) (ee_call c__law_digits (hr.mono (by decide)) (by rfl) (ea_cons (ee_op or_div dDiv_mono (eb_var (pv 2)) ee_int.b) (ea_cons ee_int (ea_cons (ee_op or_add dAdd_mono (eb_var (pv 1)) ee_int.b) ea_nil)))))
  refine sss_cons ?_ ?_
  · exact (ss_setLcF (i := 8) (own := [("_law_k", 9)]) [] rfl sc__law_question.nd rfl rfl (sw_true rfl rfl rfl (by decide +kernel)) (ei_range1 (by rfl) T.z_range (ea_cons (ee_op or_add dAdd_mono (eb_var (pv 1)) ee_int.b) ea_nil)) (blkOk_by (N := N__law_question) (sc := defScope s__law_question) (by decide +kernel)) (fun _ _ _ _ _ => (eg_name (i := 9) sc__law_question.nd rfl (by first | exact .inl rfl | exact .inr rfl))) (fun _ _ _ _ _ => ets_nil) (fun _ _ _ _ _ => (ee_tup (ea_cons (ee_op or_sub dSub_mono (EE.b (ee_ix (eb_var (pv 5)) (eb_var (pv 9)) (fun _ _ => rfl))) (EE.b (ee_ix (eb_var (pv 6)) (eb_var (pv 9)) (fun _ _ => rfl)))) (ea_cons (ee_op or_add dAdd_mono (EE.b (ee_ix (eb_var (pv 5)) (eb_var (pv 9)) (fun _ _ => rfl))) (EE.b (ee_ix (eb_var (pv 7)) (eb_var (pv 9)) (fun _ _ => rfl)))) ea_nil)))))
  refine sss_cons ?_ ?_
  · exact (ss_set (i := 10) sc__law_question.nd rfl (by first | exact .inl rfl | exact .inr rfl) (ee_op or_add dAdd_mono ee_int.b (ee_op or_mod dMod_mono (ee_callTy cn_int nInt_mono (by rfl) T.z_int (by decide +kernel) (eab_cons (ee_op or_div dDiv_mono (eb_var (pv 2)) ee_int.b).b eab_nil)).b ee_int.b).b))
  refine sss_cons ?_ ?_
  · exact (ss_set (i := 11) sc__law_question.nd rfl (by first | exact .inl rfl | exact .inr rfl) (ee_op or_sub dSub_mono ee_int.b (ee_op or_mod dMod_mono (ee_callTy cn_int nInt_mono (by rfl) T.z_int (by decide +kernel) (eab_cons (ee_op or_div dDiv_mono (eb_var (pv 2)) ee_int.b).b eab_nil)).b ee_int.b).b))
  refine sss_cons ?_ ?_
  · exact (ss_set (i := 12) sc__law_question.nd rfl (by first | exact .inl rfl | exact .inr rfl) (ee_op or_add dAdd_mono (eb_var (pv 11)) (ee_op or_mod dMod_mono (ee_callTy cn_int nInt_mono (by rfl) T.z_int (by decide +kernel) (eab_cons (ee_op or_div dDiv_mono (eb_var (pv 2)) ee_int.b).b eab_nil)).b ee_int.b).b))
  refine sss_one ?_
  · exact (ss_ret (ee_makeK k_Question__4 (hr.mono (by decide)) (by rfl) (ea_cons (ee_var (pv 4)) (ea_cons (ee_callTy cn_tuple nTuple_mono (by rfl) T.z_tuple (by decide +kernel) (eab_cons (eb_var (pv 8)) eab_nil)) ea_nil)) (ek_cons (ee_var (pv 3)) (ek_cons (ee_var (pv 10)) (ek_cons (ee_var (pv 11)) (ek_cons (ee_var (pv 12)) ek_nil))))))
theorem d_law {cl : Nat → Addr} (T : Tx mg) (c__law_rows : Cal P w K mg base "_law_rows" 1 ["_law_script", "_law_count"] [] (runD 5 m__law_rows)) (c__law_setting : Cal P w K mg base "_law_setting" 3 ["_law_row"] [] (runD 2 (m__law_setting cl))) (c__law_way : Cal P w K mg base "_law_way" 3 ["_law_setting_here", "_law_rows_here"] [] (runD 9 m__law_way)) (c__law_question : Cal P w K mg base "_law_question" 4 ["_law_way_here", "_law_dims", "_law_row", "_law_liars"] [] (runD 13 (m__law_question cl))) (c__law_readings : Cal P w K mg base "_law_readings" 6 ["_law_way_here", "_law_dims", "_law_rows_here", "_law_many", "_law_names", "_law_liars"] [] (runD 9 (m__law_readings cl))) (c__law_up : Cal P w K mg base "_law_up" 2 ["_law_number"] [] (runD 2 m__law_up)) (c_cell_radius : Cal P w K mg base "cell_radius" 2 ["setting", "share"] [] (runD 3 m_cell_radius)) (c_moved : Cal P w K mg base "moved" 1 ["kind"] [] (runD 1 m_moved)) (c_rate : Cal P w K mg base "rate" 2 ["kind"] [] (runD 1 m_rate)) (c_reach : Cal P w K mg base "reach" 1 ["setting", "ticks"] [] (runD 2 m_reach)) (c_clock_rate : Cal P w K mg base "clock_rate" 1 ["kind"] [] (runD 1 m_clock_rate)) (c_slip : Cal P w K mg base "slip" 1 ["setting", "ticks"] [] (runD 2 m_slip)) (c_margin : Cal P w K mg base "margin" 3 ["setting", "question", "reading"] [] (runD 6 m_margin)) (c_stretch : Cal P w K mg base "stretch" 3 ["setting", "question", "readings"] [] (runD 6 m_stretch)) (e_Question : CalE P w K mg base 1 (cl 2) [cl 0, cl 1, cl 2] (runD 3 (m_K_Question_eq cl))) (e_Reading : CalE P w K mg base 1 (cl 1) [cl 0, cl 1, cl 2] (runD 3 (m_K_Reading_eq cl))) (e_Setting : CalE P w K mg base 1 (cl 0) [cl 0, cl 1, cl 2] (runD 3 (m_K_Setting_eq cl))) (k_Question__4 : CalMK P w K mg base "Question" 2 (cl 2) ["moment", "root", "liars", "share", "earliest", "latest"] 2 ["liars", "share", "earliest", "latest"] (fun ds es => ds ++ es) (mkD (cl 2) ["moment", "root", "liars", "share", "earliest", "latest"] 7 (m_K_Question_init cl))) (hr : Room 14 (A.deeper (envOfC "law" (defScope s_law) s.heap.objs.size fa cdv))) :
    SSs (cxOf CX0 P w K mg base N_law "law" (defScope s_law) fa cdv A outer s H E).nox (defBody s_law) (m_law cl) := by
  refine sss_cons ?_ ?_
  · exact (ss_set (i := 1) sc_law.nd rfl (by first | exact .inl rfl | exact .inr rfl) (ee_call c__law_rows (hr.mono (by decide)) (by rfl) (ea_cons (ee_var (pv 0)) (ea_cons ee_int ea_nil))))
  refine sss_cons ?_ ?_
  · exact (ss_set (i := 2) sc_law.nd rfl (by first | exact .inl rfl | exact .inr rfl) (ee_call c__law_setting (hr.mono (by decide)) (by rfl) (ea_cons (ee_ix (eb_var (pv 1)) ee_int.b (fun _ _ => rfl)) ea_nil)))
  refine sss_cons ?_ ?_
  · exact (ss_set (i := 3) sc_law.nd rfl (by first | exact .inl rfl | exact .inr rfl) (ee_call c__law_way (hr.mono (by decide)) (by rfl) (ea_cons (ee_var (pv 2)) (ea_cons (ee_slice (eb_var (pv 1)) (eo_some ee_int) (eo_some ee_int)) ea_nil))))
  refine sss_cons ?_ ?_
  · exact (ss_set (i := 4) sc_law.nd rfl (by first | exact .inl rfl | exact .inr rfl) (ee_fld (eb_var (pv 2))))
  refine sss_cons ?_ ?_
  · exact (ss_set (i := 5) sc_law.nd rfl (by first | exact .inl rfl | exact .inr rfl) (ee_call c__law_question (hr.mono (by decide)) (by rfl) (ea_cons (ee_var (pv 3)) (ea_cons (ee_var (pv 4)) (ea_cons (ee_ix (eb_var (pv 1)) ee_int.b (fun _ _ => rfl)) (ea_cons (ee_op or_mod dMod_mono (ee_callTy cn_int nInt_mono (by rfl) T.z_int (by decide +kernel) (eab_cons (ee_op or_div dDiv_mono (ee_ix (eb_var (pv 1)) ee_int.b (fun _ _ => rfl)).b ee_int.b).b eab_nil)).b ee_int.b) ea_nil))))))
  refine sss_cons ?_ ?_
  · refine ss_if (et_cmp (or_eq hr.units) dEq_mono (ee_op or_mod dMod_mono (ee_op or_div dDiv_mono (ee_ix (eb_var (pv 1)) ee_int.b (fun _ _ => rfl)).b ee_int.b).b ee_int.b).b ee_int.b (nomark _)) ?_ ?_
    · refine sss_one ?_
      · exact (ss_set (i := 5) sc_law.nd rfl (by first | exact .inl rfl | exact .inr rfl) (ee_makeK k_Question__4 (hr.mono (by decide)) (by rfl) (ea_cons (ee_fld (eb_var (pv 5))) (ea_cons (ee_fld (eb_var (pv 5))) ea_nil)) (ek_cons ee_int (ek_cons (ee_op or_add dAdd_mono ee_int.b (ee_op or_mod dMod_mono (ee_callTy cn_int nInt_mono (by rfl) T.z_int (by decide +kernel) (eab_cons (ee_ix (eb_var (pv 1)) ee_int.b (fun _ _ => rfl)).b eab_nil)).b ee_int.b).b) (ek_cons (ee_fld (eb_var (pv 5))) (ek_cons (ee_fld (eb_var (pv 5))) ek_nil))))))
    · exact sss_nil
  refine sss_cons ?_ ?_
  · exact (ss_set (i := 6) sc_law.nd rfl (by first | exact .inl rfl | exact .inr rfl) (ee_call c__law_readings (hr.mono (by decide)) (by rfl) (ea_cons (ee_var (pv 3)) (ea_cons (ee_var (pv 4)) (ea_cons (ee_slice (eb_var (pv 1)) (eo_some ee_int) (eo_some ee_int)) (ea_cons (ee_op or_mod dMod_mono (ee_callTy cn_int nInt_mono (by rfl) T.z_int (by decide +kernel) (eab_cons (ee_op or_div dDiv_mono (ee_ix (eb_var (pv 1)) ee_int.b (fun _ _ => rfl)).b ee_int.b).b eab_nil)).b ee_int.b) (ea_cons (en_lst (ea_cons ee_str (ea_cons ee_str (ea_cons ee_str ea_nil)))).fz (ea_cons (en_lst (ea_cons ee_str ea_nil)).fz ea_nil))))))))
  refine sss_cons ?_ ?_
  · exact (ss_set (i := 7) sc_law.nd rfl (by first | exact .inl rfl | exact .inr rfl) (ee_op or_div dDiv_mono (ee_op or_add dAdd_mono (ee_fld (eb_var (pv 5))).b ee_int.b).b ee_int.b))
  refine sss_cons ?_ ?_
  · exact (ss_set (i := 8) sc_law.nd rfl (by first | exact .inl rfl | exact .inr rfl) (ee_call c__law_up (hr.mono (by decide)) (by rfl) (ea_cons (ee_op or_mul dMul_mono (ee_op or_mul dMul_mono (eb_var (pv 4)) (eb_var (pv 7))).b (eb_var (pv 7))) ea_nil)))
  refine sss_cons ?_ ?_
  · refine ss_if (et_cmp (or_ne hr.units) dNe_mono (ee_call c_cell_radius (hr.mono (by decide)) (by rfl) (ea_cons (ee_var (pv 2)) (ea_cons (ee_fld (eb_var (pv 5))) ea_nil))).b (eb_var (pv 8)) (nomark _)) ?_ ?_
    · refine sss_one ?_
      · exact (ss_ret ee_bl)
    · exact sss_nil
  refine sss_cons ?_ ?_
  · exact (ss_setN (i := 9) sc_law.nd rfl (by first | exact .inl rfl | exact .inr rfl) (en_lst (ea_cons (ee_fld (eb_var (pv 5))) ea_nil)))
  refine sss_cons ?_ ?_
  · refine ss_for PassesOwn.never rfl (ei_seq (ee_var (pv 6))) (eg_tup rfl (egs_cons (eg_name (i := 10) sc_law.nd rfl (by first | exact .inl rfl | exact .inr rfl)) (egs_cons (eg_name (i := 11) sc_law.nd rfl (by first | exact .inl rfl | exact .inr rfl)) egs_nil))) ?_
    refine sss_cons ?_ ?_
    · exact (ss_set (i := 12) sc_law.nd rfl (by first | exact .inl rfl | exact .inr rfl) (ee_fld (eb_var (pv 11))))
    refine sss_cons ?_ ?_
    · exact (ss_set (i := 13) sc_law.nd rfl (by first | exact .inl rfl | exact .inr rfl) (ee_op or_add dAdd_mono (ee_op or_mul dMul_mono (ee_call c_moved (hr.mono (by decide)) (by rfl) (ea_cons (ee_var (pv 12)) ea_nil)).b (ee_fld (eb_var (pv 11))).b).b (ee_op or_mul dMul_mono (ee_call c_rate (hr.mono (by decide)) (by rfl) (ea_cons (ee_var (pv 12)) ea_nil)).b (ee_call c_reach (hr.mono (by decide)) (by rfl) (ea_cons (ee_var (pv 2)) (ea_cons (ee_fld (eb_var (pv 11))) ea_nil))).b).b))
    refine sss_cons ?_ ?_
    · exact (ss_set (i := 13) sc_law.nd rfl (by first | exact .inl rfl | exact .inr rfl) (ee_op or_add dAdd_mono (ee_op or_add dAdd_mono (eb_var (pv 13)) (ee_op or_mul dMul_mono (ee_call c_clock_rate (hr.mono (by decide)) (by rfl) (ea_cons (ee_var (pv 12)) ea_nil)).b (ee_call c_slip (hr.mono (by decide)) (by rfl) (ea_cons (ee_var (pv 2)) (ea_cons (ee_fld (eb_var (pv 11))) ea_nil))).b).b).b (ee_op or_mul dMul_mono (ee_call c_rate (hr.mono (by decide)) (by rfl) (ea_cons (ee_var (pv 12)) ea_nil)).b (ee_op or_add dAdd_mono (ee_op or_mul dMul_mono ee_int.b (eb_var (pv 8))).b ee_int.b).b).b))
    refine sss_cons ?_ ?_
    · refine ss_if (et_cmp (or_ne hr.units) dNe_mono (ee_call c_margin (hr.mono (by decide)) (by rfl) (ea_cons (ee_var (pv 2)) (ea_cons (ee_var (pv 5)) (ea_cons (ee_var (pv 11)) ea_nil)))).b (ee_op or_add dAdd_mono (eb_var (pv 13)) (ee_op or_mul dMul_mono (ee_call c_clock_rate (hr.mono (by decide)) (by rfl) (ea_cons (ee_var (pv 12)) ea_nil)).b (ee_fld (eb_var (pv 5))).b).b).b (nomark _)) ?_ ?_
      · refine sss_one ?_
        · exact (ss_ret ee_bl)
      · exact sss_nil
    refine sss_cons ?_ ?_
    · exact (ss_set (i := 14) sc_law.nd rfl (by first | exact .inl rfl | exact .inr rfl) (ee_chain or_le or_le dRel_mono dRel_mono (ee_fld (eb_var (pv 5))).b (ee_fld (eb_var (pv 11))).b (ee_fld (eb_var (pv 5))).b))
    refine sss_one ?_
    · refine ss_if (ew_and (et_tru (eb_var (pv 14)) (fun _ => rfl)) (ew_and1 (et_cmp or_notin dIn_mono (ee_fld (eb_var (pv 11))).b (eb_var (pv 9)) (by rfl)))).t ?_ ?_
      · refine sss_one ?_
        · exact (ss_app (pv 9) (ee_fld (eb_var (pv 11))))
      · exact sss_nil
  refine sss_cons ?_ ?_
  · exact (ss_set (i := 15) sc_law.nd rfl (by first | exact .inl rfl | exact .inr rfl) (ee_callTy cn_list nList_mono (by rfl) T.z_list (by decide +kernel) (eab_cons (eb_var (pv 6)) eab_nil)))
  refine sss_one ?_
  · exact (ss_ret (ee_and (ee_cmp (or_eq hr.units) dEq_mono (ee_call c_stretch (hr.mono (by decide)) (by rfl) (ea_cons (ee_var (pv 2)) (ea_cons (ee_var (pv 5)) (ea_cons (ee_var (pv 6)) ea_nil)))).b (ee_op or_mul dMul_mono (ee_op or_mul dMul_mono ee_int.b (ee_callB (cn_len) nLen_mono (by rfl) T.z_len (by decide +kernel) (eab_cons (eb_var (pv 9)) eab_nil)).b).b (eb_var (pv 8))).b (nomark _)) (ee_one (ee_cmp (or_eqS (or_eq hr.units) (hr.mono (by decide)) (tb_cons e_Setting (tb_cons e_Reading (tb_cons e_Question tb_nil)))) dEqS_mono (eb_var (pv 6)) (eb_var (pv 15)) (nomark _)))))
end
theorem all_mk {l : PySem.W.OpenLaw} {w : World} {K : PySem.W.Frag} {h : Heap} {mg : Str → Option Value} {fa f0 f1 f2 f3 f4 f5 f6 f7 f8 f9 f10 f11 f12 f13 f14 f15 f16 f17 f18 f19 f20 f21 f22 f23 f24 f25 f26 f27 f28 f29 f30 f31 f32 f33 f34 f35 f36 f37 f38 f39 C0 C1 C2 : Addr} (X : K.In h) (G : h.Ns mainGlobals mg) (hfa : mg "law" = some (.ref fa))
    {od0 an0 od1 an1 od2 an2 od3 an3 od4 an4 od5 an5 od6 an6 od7 an7 od8 an8 od9 an9 od10 an10 od11 an11 od12 an12 od13 an13 od14 an14 od15 an15 od16 an16 od17 an17 od18 an18 od19 an19 od20 an20 od21 an21 od22 an22 od23 an23 od24 an24 od25 an25 od26 an26 od27 an27 od28 an28 od29 an29 od30 an30 od31 an31 od32 an32 od33 an33 od34 an34 od35 an35 od36 an36 od37 an37 od38 an38 od39 an39 : Option Addr} {sl0 sl1 sl2 sl3 sl4 sl5 sl6 sl7 sl8 sl9 sl10 sl11 sl12 sl13 sl14 sl15 sl16 sl17 sl18 sl19 sl20 sl21 sl22 sl23 sl24 sl25 sl26 sl27 sl28 sl29 sl30 sl31 sl32 sl33 sl34 sl35 sl36 sl37 sl38 sl39 : Array (Option Value)} {oc0 kV0 dc0 pm0 cd0 ct0 oc1 kV1 dc1 pm1 cd1 ct1 oc2 kV2 dc2 pm2 cd2 ct2 oc3 kV3 dc3 pm3 cd3 ct3 oc4 kV4 dc4 pm4 cd4 ct4 oc5 kV5 dc5 pm5 cd5 ct5 oc6 dc6 pm6 cd6 ct6 oc7 kV7 dc7 pm7 cd7 ct7 oc8 kV8 dc8 pm8 cd8 ct8 oc9 kV9 dc9 pm9 cd9 ct9 oc10 kV10 dc10 pm10 cd10 ct10 oc11 kV11 dc11 pm11 cd11 ct11 oc12 kV12 dc12 pm12 cd12 ct12 oc13 kV13 dc13 pm13 cd13 ct13 oc14 kV14 dc14 pm14 cd14 ct14 oc15 kV15 dc15 pm15 cd15 ct15 oc16 kV16 dc16 pm16 cd16 ct16 oc17 kV17 dc17 pm17 cd17 ct17 oc18 kV18 dc18 pm18 cd18 ct18 oc19 kV19 dc19 pm19 cd19 ct19 oc20 kV20 dc20 pm20 cd20 ct20 oc21 kV21 dc21 pm21 cd21 ct21 oc22 kV22 dc22 pm22 cd22 ct22 oc23 kV23 dc23 pm23 cd23 ct23 oc24 kV24 dc24 pm24 cd24 ct24 oc25 kV25 dc25 pm25 cd25 ct25 oc26 kV26 dc26 pm26 cd26 ct26 oc27 kV27 dc27 pm27 cd27 ct27 oc28 kV28 dc28 pm28 cd28 ct28 oc29 kV29 dc29 pm29 cd29 ct29 oc30 kV30 dc30 pm30 cd30 ct30 oc31 kV31 dc31 pm31 cd31 ct31 oc32 kV32 dc32 pm32 cd32 ct32 oc33 kV33 dc33 pm33 cd33 ct33 oc34 kV34 dc34 pm34 cd34 ct34 oc35 kV35 dc35 pm35 cd35 ct35 oc36 kV36 dc36 pm36 cd36 ct36 oc37 kV37 dc37 pm37 cd37 ct37 oc38 kV38 dc38 pm38 cd38 ct38 oc39 kV39 dc39 pm39 cd39 ct39 : Value} {KD6 : Addr} {tk6_late : Tok} {tk6_near : Tok}
    (aC0 : PySem.W.nsIn K mainGlobals "Setting" = some (some (.ref C0)))
    (aC1 : PySem.W.nsIn K mainGlobals "Reading" = some (some (.ref C1)))
    (aC2 : PySem.W.nsIn K mainGlobals "Question" = some (some (.ref C2)))
    (a0 : PySem.W.nsIn K mainGlobals "is_name" = some (some (.ref f0)))
    (l0 : K.lookup f0 = some ⟨oc0, od0, .func (PySem.W.fnOf "is_name" "is_name" (defArgs s_is_name) (defBody s_is_name) (defScope s_is_name) .none kV0 dc0 pm0 an0 cd0 ct0), sl0⟩)
    (c0 : PySem.W.codeIn K cd0 "is_name" = true)
    (k0 : PySem.W.keepIn K (.ref f0) = true)
    (a1 : PySem.W.findIn K (.ref C0) "__init__" = some (some (.ref f1)))
    (i1 : PySem.W.isFn K (.ref f1) = true)
    (l1 : K.lookup f1 = some ⟨oc1, od1, .func (PySem.W.fnOf "__init__" "Setting.__init__" (defArgs s_K_Setting_init) (defBody s_K_Setting_init) (defScope s_K_Setting_init) .none kV1 dc1 pm1 an1 cd1 ct1), sl1⟩)
    (c1 : PySem.W.codeIn K cd1 "Setting.__init__" = true)
    (k1 : PySem.W.keepIn K (.ref f1) = true)
    (a2 : PySem.W.findIn K (.ref C0) "__eq__" = some (some (.ref f2)))
    (i2 : PySem.W.isFn K (.ref f2) = true)
    (l2 : K.lookup f2 = some ⟨oc2, od2, .func (PySem.W.fnOf "__eq__" "Setting.__eq__" (defArgs s_K_Setting_eq) (defBody s_K_Setting_eq) (defScope s_K_Setting_eq) .none kV2 dc2 pm2 an2 cd2 ct2), sl2⟩)
    (c2 : PySem.W.codeIn K cd2 "Setting.__eq__" = true)
    (k2 : PySem.W.keepIn K (.ref f2) = true)
    (a3 : PySem.W.nsIn K mainGlobals "in_room" = some (some (.ref f3)))
    (l3 : K.lookup f3 = some ⟨oc3, od3, .func (PySem.W.fnOf "in_room" "in_room" (defArgs s_in_room) (defBody s_in_room) (defScope s_in_room) .none kV3 dc3 pm3 an3 cd3 ct3), sl3⟩)
    (c3 : PySem.W.codeIn K cd3 "in_room" = true)
    (k3 : PySem.W.keepIn K (.ref f3) = true)
    (a4 : PySem.W.nsIn K mainGlobals "box_in_room" = some (some (.ref f4)))
    (l4 : K.lookup f4 = some ⟨oc4, od4, .func (PySem.W.fnOf "box_in_room" "box_in_room" (defArgs s_box_in_room) (defBody s_box_in_room) (defScope s_box_in_room) .none kV4 dc4 pm4 an4 cd4 ct4), sl4⟩)
    (c4 : PySem.W.codeIn K cd4 "box_in_room" = true)
    (k4 : PySem.W.keepIn K (.ref f4) = true)
    (a5 : PySem.W.nsIn K mainGlobals "kind_in_bounds" = some (some (.ref f5)))
    (l5 : K.lookup f5 = some ⟨oc5, od5, .func (PySem.W.fnOf "kind_in_bounds" "kind_in_bounds" (defArgs s_kind_in_bounds) (defBody s_kind_in_bounds) (defScope s_kind_in_bounds) .none kV5 dc5 pm5 an5 cd5 ct5), sl5⟩)
    (c5 : PySem.W.codeIn K cd5 "kind_in_bounds" = true)
    (k5 : PySem.W.keepIn K (.ref f5) = true)
    (a6 : PySem.W.findIn K (.ref C1) "__init__" = some (some (.ref f6)))
    (i6 : PySem.W.isFn K (.ref f6) = true)
    (l6 : K.lookup f6 = some ⟨oc6, od6, .func (PySem.W.fnOf "__init__" "Reading.__init__" (defArgs s_K_Reading_init) (defBody s_K_Reading_init) (defScope s_K_Reading_init) .none (.ref KD6) dc6 pm6 an6 cd6 ct6), sl6⟩)
    (c6 : PySem.W.codeIn K cd6 "Reading.__init__" = true)
    (k6 : PySem.W.keepIn K (.ref f6) = true)
    (q6_late : PySem.W.nsIn K KD6 "late" = some (some (.int 0 tk6_late)))
    (q6_near : PySem.W.nsIn K KD6 "near" = some (some (.int 0 tk6_near)))
    (a7 : PySem.W.findIn K (.ref C1) "__eq__" = some (some (.ref f7)))
    (i7 : PySem.W.isFn K (.ref f7) = true)
    (l7 : K.lookup f7 = some ⟨oc7, od7, .func (PySem.W.fnOf "__eq__" "Reading.__eq__" (defArgs s_K_Reading_eq) (defBody s_K_Reading_eq) (defScope s_K_Reading_eq) .none kV7 dc7 pm7 an7 cd7 ct7), sl7⟩)
    (c7 : PySem.W.codeIn K cd7 "Reading.__eq__" = true)
    (k7 : PySem.W.keepIn K (.ref f7) = true)
    (a8 : PySem.W.findIn K (.ref C2) "__init__" = some (some (.ref f8)))
    (i8 : PySem.W.isFn K (.ref f8) = true)
    (l8 : K.lookup f8 = some ⟨oc8, od8, .func (PySem.W.fnOf "__init__" "Question.__init__" (defArgs s_K_Question_init) (defBody s_K_Question_init) (defScope s_K_Question_init) .none kV8 dc8 pm8 an8 cd8 ct8), sl8⟩)
    (c8 : PySem.W.codeIn K cd8 "Question.__init__" = true)
    (k8 : PySem.W.keepIn K (.ref f8) = true)
    (a9 : PySem.W.findIn K (.ref C2) "__eq__" = some (some (.ref f9)))
    (i9 : PySem.W.isFn K (.ref f9) = true)
    (l9 : K.lookup f9 = some ⟨oc9, od9, .func (PySem.W.fnOf "__eq__" "Question.__eq__" (defArgs s_K_Question_eq) (defBody s_K_Question_eq) (defScope s_K_Question_eq) .none kV9 dc9 pm9 an9 cd9 ct9), sl9⟩)
    (c9 : PySem.W.codeIn K cd9 "Question.__eq__" = true)
    (k9 : PySem.W.keepIn K (.ref f9) = true)
    (a10 : PySem.W.nsIn K mainGlobals "asked" = some (some (.ref f10)))
    (l10 : K.lookup f10 = some ⟨oc10, od10, .func (PySem.W.fnOf "asked" "asked" (defArgs s_asked) (defBody s_asked) (defScope s_asked) .none kV10 dc10 pm10 an10 cd10 ct10), sl10⟩)
    (c10 : PySem.W.codeIn K cd10 "asked" = true)
    (k10 : PySem.W.keepIn K (.ref f10) = true)
    (a11 : PySem.W.nsIn K mainGlobals "root_up" = some (some (.ref f11)))
    (l11 : K.lookup f11 = some ⟨oc11, od11, .func (PySem.W.fnOf "root_up" "root_up" (defArgs s_root_up) (defBody s_root_up) (defScope s_root_up) .none kV11 dc11 pm11 an11 cd11 ct11), sl11⟩)
    (c11 : PySem.W.codeIn K cd11 "root_up" = true)
    (k11 : PySem.W.keepIn K (.ref f11) = true)
    (a12 : PySem.W.nsIn K mainGlobals "dot" = some (some (.ref f12)))
    (l12 : K.lookup f12 = some ⟨oc12, od12, .func (PySem.W.fnOf "dot" "dot" (defArgs s_dot) (defBody s_dot) (defScope s_dot) .none kV12 dc12 pm12 an12 cd12 ct12), sl12⟩)
    (c12 : PySem.W.codeIn K cd12 "dot" = true)
    (k12 : PySem.W.keepIn K (.ref f12) = true)
    (a13 : PySem.W.nsIn K mainGlobals "reach" = some (some (.ref f13)))
    (l13 : K.lookup f13 = some ⟨oc13, od13, .func (PySem.W.fnOf "reach" "reach" (defArgs s_reach) (defBody s_reach) (defScope s_reach) .none kV13 dc13 pm13 an13 cd13 ct13), sl13⟩)
    (c13 : PySem.W.codeIn K cd13 "reach" = true)
    (k13 : PySem.W.keepIn K (.ref f13) = true)
    (a14 : PySem.W.nsIn K mainGlobals "slip" = some (some (.ref f14)))
    (l14 : K.lookup f14 = some ⟨oc14, od14, .func (PySem.W.fnOf "slip" "slip" (defArgs s_slip) (defBody s_slip) (defScope s_slip) .none kV14 dc14 pm14 an14 cd14 ct14), sl14⟩)
    (c14 : PySem.W.codeIn K cd14 "slip" = true)
    (k14 : PySem.W.keepIn K (.ref f14) = true)
    (a15 : PySem.W.nsIn K mainGlobals "rate" = some (some (.ref f15)))
    (l15 : K.lookup f15 = some ⟨oc15, od15, .func (PySem.W.fnOf "rate" "rate" (defArgs s_rate) (defBody s_rate) (defScope s_rate) .none kV15 dc15 pm15 an15 cd15 ct15), sl15⟩)
    (c15 : PySem.W.codeIn K cd15 "rate" = true)
    (k15 : PySem.W.keepIn K (.ref f15) = true)
    (a16 : PySem.W.nsIn K mainGlobals "clock_rate" = some (some (.ref f16)))
    (l16 : K.lookup f16 = some ⟨oc16, od16, .func (PySem.W.fnOf "clock_rate" "clock_rate" (defArgs s_clock_rate) (defBody s_clock_rate) (defScope s_clock_rate) .none kV16 dc16 pm16 an16 cd16 ct16), sl16⟩)
    (c16 : PySem.W.codeIn K cd16 "clock_rate" = true)
    (k16 : PySem.W.keepIn K (.ref f16) = true)
    (a17 : PySem.W.nsIn K mainGlobals "moved" = some (some (.ref f17)))
    (l17 : K.lookup f17 = some ⟨oc17, od17, .func (PySem.W.fnOf "moved" "moved" (defArgs s_moved) (defBody s_moved) (defScope s_moved) .none kV17 dc17 pm17 an17 cd17 ct17), sl17⟩)
    (c17 : PySem.W.codeIn K cd17 "moved" = true)
    (k17 : PySem.W.keepIn K (.ref f17) = true)
    (a18 : PySem.W.nsIn K mainGlobals "cell_radius" = some (some (.ref f18)))
    (l18 : K.lookup f18 = some ⟨oc18, od18, .func (PySem.W.fnOf "cell_radius" "cell_radius" (defArgs s_cell_radius) (defBody s_cell_radius) (defScope s_cell_radius) .none kV18 dc18 pm18 an18 cd18 ct18), sl18⟩)
    (c18 : PySem.W.codeIn K cd18 "cell_radius" = true)
    (k18 : PySem.W.keepIn K (.ref f18) = true)
    (a19 : PySem.W.nsIn K mainGlobals "stretch" = some (some (.ref f19)))
    (l19 : K.lookup f19 = some ⟨oc19, od19, .func (PySem.W.fnOf "stretch" "stretch" (defArgs s_stretch) (defBody s_stretch) (defScope s_stretch) .none kV19 dc19 pm19 an19 cd19 ct19), sl19⟩)
    (c19 : PySem.W.codeIn K cd19 "stretch" = true)
    (k19 : PySem.W.keepIn K (.ref f19) = true)
    (a20 : PySem.W.nsIn K mainGlobals "margin" = some (some (.ref f20)))
    (l20 : K.lookup f20 = some ⟨oc20, od20, .func (PySem.W.fnOf "margin" "margin" (defArgs s_margin) (defBody s_margin) (defScope s_margin) .none kV20 dc20 pm20 an20 cd20 ct20), sl20⟩)
    (c20 : PySem.W.codeIn K cd20 "margin" = true)
    (k20 : PySem.W.keepIn K (.ref f20) = true)
    (a21 : PySem.W.nsIn K mainGlobals "_law_rows" = some (some (.ref f21)))
    (l21 : K.lookup f21 = some ⟨oc21, od21, .func (PySem.W.fnOf "_law_rows" "_law_rows" (defArgs s__law_rows) (defBody s__law_rows) (defScope s__law_rows) .none kV21 dc21 pm21 an21 cd21 ct21), sl21⟩)
    (c21 : PySem.W.codeIn K cd21 "_law_rows" = true)
    (k21 : PySem.W.keepIn K (.ref f21) = true)
    (a22 : PySem.W.nsIn K mainGlobals "_law_root" = some (some (.ref f22)))
    (l22 : K.lookup f22 = some ⟨oc22, od22, .func (PySem.W.fnOf "_law_root" "_law_root" (defArgs s__law_root) (defBody s__law_root) (defScope s__law_root) .none kV22 dc22 pm22 an22 cd22 ct22), sl22⟩)
    (c22 : PySem.W.codeIn K cd22 "_law_root" = true)
    (k22 : PySem.W.keepIn K (.ref f22) = true)
    (a23 : PySem.W.nsIn K mainGlobals "_law_up" = some (some (.ref f23)))
    (l23 : K.lookup f23 = some ⟨oc23, od23, .func (PySem.W.fnOf "_law_up" "_law_up" (defArgs s__law_up) (defBody s__law_up) (defScope s__law_up) .none kV23 dc23 pm23 an23 cd23 ct23), sl23⟩)
    (c23 : PySem.W.codeIn K cd23 "_law_up" = true)
    (k23 : PySem.W.keepIn K (.ref f23) = true)
    (a24 : PySem.W.nsIn K mainGlobals "_law_digits" = some (some (.ref f24)))
    (l24 : K.lookup f24 = some ⟨oc24, od24, .func (PySem.W.fnOf "_law_digits" "_law_digits" (defArgs s__law_digits) (defBody s__law_digits) (defScope s__law_digits) .none kV24 dc24 pm24 an24 cd24 ct24), sl24⟩)
    (c24 : PySem.W.codeIn K cd24 "_law_digits" = true)
    (k24 : PySem.W.keepIn K (.ref f24) = true)
    (a25 : PySem.W.nsIn K mainGlobals "_law_setting" = some (some (.ref f25)))
    (l25 : K.lookup f25 = some ⟨oc25, od25, .func (PySem.W.fnOf "_law_setting" "_law_setting" (defArgs s__law_setting) (defBody s__law_setting) (defScope s__law_setting) .none kV25 dc25 pm25 an25 cd25 ct25), sl25⟩)
    (c25 : PySem.W.codeIn K cd25 "_law_setting" = true)
    (k25 : PySem.W.keepIn K (.ref f25) = true)
    (a26 : PySem.W.nsIn K mainGlobals "_law_velocity" = some (some (.ref f26)))
    (l26 : K.lookup f26 = some ⟨oc26, od26, .func (PySem.W.fnOf "_law_velocity" "_law_velocity" (defArgs s__law_velocity) (defBody s__law_velocity) (defScope s__law_velocity) .none kV26 dc26 pm26 an26 cd26 ct26), sl26⟩)
    (c26 : PySem.W.codeIn K cd26 "_law_velocity" = true)
    (k26 : PySem.W.keepIn K (.ref f26) = true)
    (a27 : PySem.W.nsIn K mainGlobals "_law_at" = some (some (.ref f27)))
    (l27 : K.lookup f27 = some ⟨oc27, od27, .func (PySem.W.fnOf "_law_at" "_law_at" (defArgs s__law_at) (defBody s__law_at) (defScope s__law_at) .none kV27 dc27 pm27 an27 cd27 ct27), sl27⟩)
    (c27 : PySem.W.codeIn K cd27 "_law_at" = true)
    (k27 : PySem.W.keepIn K (.ref f27) = true)
    (a28 : PySem.W.nsIn K mainGlobals "_law_way" = some (some (.ref f28)))
    (l28 : K.lookup f28 = some ⟨oc28, od28, .func (PySem.W.fnOf "_law_way" "_law_way" (defArgs s__law_way) (defBody s__law_way) (defScope s__law_way) .none kV28 dc28 pm28 an28 cd28 ct28), sl28⟩)
    (c28 : PySem.W.codeIn K cd28 "_law_way" = true)
    (k28 : PySem.W.keepIn K (.ref f28) = true)
    (a29 : PySem.W.nsIn K mainGlobals "_law_square" = some (some (.ref f29)))
    (l29 : K.lookup f29 = some ⟨oc29, od29, .func (PySem.W.fnOf "_law_square" "_law_square" (defArgs s__law_square) (defBody s__law_square) (defScope s__law_square) .none kV29 dc29 pm29 an29 cd29 ct29), sl29⟩)
    (c29 : PySem.W.codeIn K cd29 "_law_square" = true)
    (k29 : PySem.W.keepIn K (.ref f29) = true)
    (a30 : PySem.W.nsIn K mainGlobals "_law_piece" = some (some (.ref f30)))
    (l30 : K.lookup f30 = some ⟨oc30, od30, .func (PySem.W.fnOf "_law_piece" "_law_piece" (defArgs s__law_piece) (defBody s__law_piece) (defScope s__law_piece) .none kV30 dc30 pm30 an30 cd30 ct30), sl30⟩)
    (c30 : PySem.W.codeIn K cd30 "_law_piece" = true)
    (k30 : PySem.W.keepIn K (.ref f30) = true)
    (a31 : PySem.W.nsIn K mainGlobals "_law_boxes" = some (some (.ref f31)))
    (l31 : K.lookup f31 = some ⟨oc31, od31, .func (PySem.W.fnOf "_law_boxes" "_law_boxes" (defArgs s__law_boxes) (defBody s__law_boxes) (defScope s__law_boxes) .none kV31 dc31 pm31 an31 cd31 ct31), sl31⟩)
    (c31 : PySem.W.codeIn K cd31 "_law_boxes" = true)
    (k31 : PySem.W.keepIn K (.ref f31) = true)
    (a32 : PySem.W.nsIn K mainGlobals "_law_value" = some (some (.ref f32)))
    (l32 : K.lookup f32 = some ⟨oc32, od32, .func (PySem.W.fnOf "_law_value" "_law_value" (defArgs s__law_value) (defBody s__law_value) (defScope s__law_value) .none kV32 dc32 pm32 an32 cd32 ct32), sl32⟩)
    (c32 : PySem.W.codeIn K cd32 "_law_value" = true)
    (k32 : PySem.W.keepIn K (.ref f32) = true)
    (a33 : PySem.W.nsIn K mainGlobals "_law_point" = some (some (.ref f33)))
    (l33 : K.lookup f33 = some ⟨oc33, od33, .func (PySem.W.fnOf "_law_point" "_law_point" (defArgs s__law_point) (defBody s__law_point) (defScope s__law_point) .none kV33 dc33 pm33 an33 cd33 ct33), sl33⟩)
    (c33 : PySem.W.codeIn K cd33 "_law_point" = true)
    (k33 : PySem.W.keepIn K (.ref f33) = true)
    (a34 : PySem.W.nsIn K mainGlobals "_law_kind" = some (some (.ref f34)))
    (l34 : K.lookup f34 = some ⟨oc34, od34, .func (PySem.W.fnOf "_law_kind" "_law_kind" (defArgs s__law_kind) (defBody s__law_kind) (defScope s__law_kind) .none kV34 dc34 pm34 an34 cd34 ct34), sl34⟩)
    (c34 : PySem.W.codeIn K cd34 "_law_kind" = true)
    (k34 : PySem.W.keepIn K (.ref f34) = true)
    (a35 : PySem.W.nsIn K mainGlobals "_law_moved" = some (some (.ref f35)))
    (l35 : K.lookup f35 = some ⟨oc35, od35, .func (PySem.W.fnOf "_law_moved" "_law_moved" (defArgs s__law_moved) (defBody s__law_moved) (defScope s__law_moved) .none kV35 dc35 pm35 an35 cd35 ct35), sl35⟩)
    (c35 : PySem.W.codeIn K cd35 "_law_moved" = true)
    (k35 : PySem.W.keepIn K (.ref f35) = true)
    (a36 : PySem.W.nsIn K mainGlobals "_law_reading" = some (some (.ref f36)))
    (l36 : K.lookup f36 = some ⟨oc36, od36, .func (PySem.W.fnOf "_law_reading" "_law_reading" (defArgs s__law_reading) (defBody s__law_reading) (defScope s__law_reading) .none kV36 dc36 pm36 an36 cd36 ct36), sl36⟩)
    (c36 : PySem.W.codeIn K cd36 "_law_reading" = true)
    (k36 : PySem.W.keepIn K (.ref f36) = true)
    (a37 : PySem.W.nsIn K mainGlobals "_law_readings" = some (some (.ref f37)))
    (l37 : K.lookup f37 = some ⟨oc37, od37, .func (PySem.W.fnOf "_law_readings" "_law_readings" (defArgs s__law_readings) (defBody s__law_readings) (defScope s__law_readings) .none kV37 dc37 pm37 an37 cd37 ct37), sl37⟩)
    (c37 : PySem.W.codeIn K cd37 "_law_readings" = true)
    (k37 : PySem.W.keepIn K (.ref f37) = true)
    (a38 : PySem.W.nsIn K mainGlobals "_law_question" = some (some (.ref f38)))
    (l38 : K.lookup f38 = some ⟨oc38, od38, .func (PySem.W.fnOf "_law_question" "_law_question" (defArgs s__law_question) (defBody s__law_question) (defScope s__law_question) .none kV38 dc38 pm38 an38 cd38 ct38), sl38⟩)
    (c38 : PySem.W.codeIn K cd38 "_law_question" = true)
    (k38 : PySem.W.keepIn K (.ref f38) = true)
    (a39 : PySem.W.nsIn K mainGlobals "law" = some (some (.ref f39)))
    (l39 : K.lookup f39 = some ⟨oc39, od39, .func (PySem.W.fnOf "law" "law" (defArgs s_law) (defBody s_law) (defScope s_law) .none kV39 dc39 pm39 an39 cd39 ct39), sl39⟩)
    (c39 : PySem.W.codeIn K cd39 "law" = true)
    (k39 : PySem.W.keepIn K (.ref f39) = true)
    (pg0 : PySem.W.plainGet K C0 Str.empty = true)
    (hd0 : PySem.W.hasDictIn K C0 = true)
    (po0 : PySem.W.plainOver K C0 = true)
    (sa0 : PySem.W.findIn K (.ref C0) "__setattr__" = some (some (.builtin "object.__setattr__")))
    (mk0 : PySem.W.makesIn K C0 = true)
    (kc0 : PySem.W.keepIn K (.ref C0) = true)
    (ha0 : PySem.W.findIn K (.ref C0) "__class__" = some (some (.builtin "object.__class__")))
    (hn0 : PySem.W.specialIn K (.builtin "object.__class__") "__get__" = some (some (.builtin "getset_descriptor.__get__")))
    (ht0 : PySem.W.takesIn K (.builtin "object.__class__") = some true)
    (hm0 : PySem.W.mroIn K C0 (.type "object") = some true)
    (n0_0 : PySem.W.findIn K (.ref C0) "dims" = some none)
    (n0_1 : PySem.W.findIn K (.ref C0) "speed" = some none)
    (n0_2 : PySem.W.findIn K (.ref C0) "drift" = some none)
    (n0_3 : PySem.W.findIn K (.ref C0) "per" = some none)
    (pg1 : PySem.W.plainGet K C1 Str.empty = true)
    (hd1 : PySem.W.hasDictIn K C1 = true)
    (po1 : PySem.W.plainOver K C1 = true)
    (sa1 : PySem.W.findIn K (.ref C1) "__setattr__" = some (some (.builtin "object.__setattr__")))
    (mk1 : PySem.W.makesIn K C1 = true)
    (kc1 : PySem.W.keepIn K (.ref C1) = true)
    (ha1 : PySem.W.findIn K (.ref C1) "__class__" = some (some (.builtin "object.__class__")))
    (hn1 : PySem.W.specialIn K (.builtin "object.__class__") "__get__" = some (some (.builtin "getset_descriptor.__get__")))
    (ht1 : PySem.W.takesIn K (.builtin "object.__class__") = some true)
    (hm1 : PySem.W.mroIn K C1 (.type "object") = some true)
    (n1_0 : PySem.W.findIn K (.ref C1) "source" = some none)
    (n1_1 : PySem.W.findIn K (.ref C1) "moment" = some none)
    (n1_2 : PySem.W.findIn K (.ref C1) "kind" = some none)
    (n1_3 : PySem.W.findIn K (.ref C1) "low" = some none)
    (n1_4 : PySem.W.findIn K (.ref C1) "high" = some none)
    (n1_5 : PySem.W.findIn K (.ref C1) "late" = some none)
    (n1_6 : PySem.W.findIn K (.ref C1) "near" = some none)
    (pg2 : PySem.W.plainGet K C2 Str.empty = true)
    (hd2 : PySem.W.hasDictIn K C2 = true)
    (po2 : PySem.W.plainOver K C2 = true)
    (sa2 : PySem.W.findIn K (.ref C2) "__setattr__" = some (some (.builtin "object.__setattr__")))
    (mk2 : PySem.W.makesIn K C2 = true)
    (kc2 : PySem.W.keepIn K (.ref C2) = true)
    (ha2 : PySem.W.findIn K (.ref C2) "__class__" = some (some (.builtin "object.__class__")))
    (hn2 : PySem.W.specialIn K (.builtin "object.__class__") "__get__" = some (some (.builtin "getset_descriptor.__get__")))
    (ht2 : PySem.W.takesIn K (.builtin "object.__class__") = some true)
    (hm2 : PySem.W.mroIn K C2 (.type "object") = some true)
    (n2_0 : PySem.W.findIn K (.ref C2) "moment" = some none)
    (n2_1 : PySem.W.findIn K (.ref C2) "root" = some none)
    (n2_2 : PySem.W.findIn K (.ref C2) "liars" = some none)
    (n2_3 : PySem.W.findIn K (.ref C2) "share" = some none)
    (n2_4 : PySem.W.findIn K (.ref C2) "earliest" = some none)
    (n2_5 : PySem.W.findIn K (.ref C2) "latest" = some none)
    (ty2 : PySem.W.typeIn K (.ref C2) = some (.type "type"))
    (x0_2 : PySem.W.subIn K (.ref C0) (.ref C2) = some false)
    (x1_2 : PySem.W.subIn K (.ref C1) (.ref C2) = some false)
    (xt0_2 : PySem.W.subIn K (.type "int") (.ref C2) = some false)
    (xt1_2 : PySem.W.subIn K (.type "bool") (.ref C2) = some false)
    (xt2_2 : PySem.W.subIn K (.type "str") (.ref C2) = some false)
    (xt3_2 : PySem.W.subIn K (.type "tuple") (.ref C2) = some false)
    (xt4_2 : PySem.W.subIn K (.type "list") (.ref C2) = some false)
    (xt5_2 : PySem.W.subIn K (.type "NoneType") (.ref C2) = some false)
    (ty1 : PySem.W.typeIn K (.ref C1) = some (.type "type"))
    (x0_1 : PySem.W.subIn K (.ref C0) (.ref C1) = some false)
    (x2_1 : PySem.W.subIn K (.ref C2) (.ref C1) = some false)
    (xt0_1 : PySem.W.subIn K (.type "int") (.ref C1) = some false)
    (xt1_1 : PySem.W.subIn K (.type "bool") (.ref C1) = some false)
    (xt2_1 : PySem.W.subIn K (.type "str") (.ref C1) = some false)
    (xt3_1 : PySem.W.subIn K (.type "tuple") (.ref C1) = some false)
    (xt4_1 : PySem.W.subIn K (.type "list") (.ref C1) = some false)
    (xt5_1 : PySem.W.subIn K (.type "NoneType") (.ref C1) = some false)
    (ty0 : PySem.W.typeIn K (.ref C0) = some (.type "type"))
    (x1_0 : PySem.W.subIn K (.ref C1) (.ref C0) = some false)
    (x2_0 : PySem.W.subIn K (.ref C2) (.ref C0) = some false)
    (xt0_0 : PySem.W.subIn K (.type "int") (.ref C0) = some false)
    (xt1_0 : PySem.W.subIn K (.type "bool") (.ref C0) = some false)
    (xt2_0 : PySem.W.subIn K (.type "str") (.ref C0) = some false)
    (xt3_0 : PySem.W.subIn K (.type "tuple") (.ref C0) = some false)
    (xt4_0 : PySem.W.subIn K (.type "list") (.ref C0) = some false)
    (xt5_0 : PySem.W.subIn K (.type "NoneType") (.ref C0) = some false)
    (e0_2 : PySem.W.notFirst K C2 (.ref C0) = true)
    (e1_2 : PySem.W.notFirst K C2 (.ref C1) = true)
    (e2_2 : PySem.W.notFirst K C2 (.ref C2) = true)
    (et0_2 : PySem.W.notFirst K C2 (.type "int") = true)
    (et1_2 : PySem.W.notFirst K C2 (.type "bool") = true)
    (et2_2 : PySem.W.notFirst K C2 (.type "str") = true)
    (et3_2 : PySem.W.notFirst K C2 (.type "tuple") = true)
    (et4_2 : PySem.W.notFirst K C2 (.type "list") = true)
    (et5_2 : PySem.W.notFirst K C2 (.type "NoneType") = true)
    (e0_1 : PySem.W.notFirst K C1 (.ref C0) = true)
    (e1_1 : PySem.W.notFirst K C1 (.ref C1) = true)
    (e2_1 : PySem.W.notFirst K C1 (.ref C2) = true)
    (et0_1 : PySem.W.notFirst K C1 (.type "int") = true)
    (et1_1 : PySem.W.notFirst K C1 (.type "bool") = true)
    (et2_1 : PySem.W.notFirst K C1 (.type "str") = true)
    (et3_1 : PySem.W.notFirst K C1 (.type "tuple") = true)
    (et4_1 : PySem.W.notFirst K C1 (.type "list") = true)
    (et5_1 : PySem.W.notFirst K C1 (.type "NoneType") = true)
    (e0_0 : PySem.W.notFirst K C0 (.ref C0) = true)
    (e1_0 : PySem.W.notFirst K C0 (.ref C1) = true)
    (e2_0 : PySem.W.notFirst K C0 (.ref C2) = true)
    (et0_0 : PySem.W.notFirst K C0 (.type "int") = true)
    (et1_0 : PySem.W.notFirst K C0 (.type "bool") = true)
    (et2_0 : PySem.W.notFirst K C0 (.type "str") = true)
    (et3_0 : PySem.W.notFirst K C0 (.type "tuple") = true)
    (et4_0 : PySem.W.notFirst K C0 (.type "list") = true)
    (et5_0 : PySem.W.notFirst K C0 (.type "NoneType") = true)
    {KP_POINTS : Addr} {es_POINTS : Array DictEntry} {nn_POINTS : Nat} {tv_POINTS_range : Tok} {tv_POINTS_clocked : Tok} {tv_POINTS_differ : Tok} {tv_POINTS_piece : Tok}
    (pa_POINTS : PySem.W.nsIn K mainGlobals "POINTS" = some (some (.ref KP_POINTS)))
    (pb_POINTS : K.lookup KP_POINTS = some ⟨.type "dict", none, .dict es_POINTS nn_POINTS, #[]⟩)
    (pc_POINTS : PySem.W.KeysLit w.params es_POINTS.toList)
    (pd_POINTS : (KP_POINTS == sysModules) = false)
    (pe_POINTS_range : PySem.W.nsIn K KP_POINTS "range" = some (some (.int 1 tv_POINTS_range)))
    (pe_POINTS_clocked : PySem.W.nsIn K KP_POINTS "clocked" = some (some (.int 1 tv_POINTS_clocked)))
    (pe_POINTS_differ : PySem.W.nsIn K KP_POINTS "differ" = some (some (.int 2 tv_POINTS_differ)))
    (pe_POINTS_piece : PySem.W.nsIn K KP_POINTS "piece" = some (some (.int 2 tv_POINTS_piece)))
    (nd : List.Nodup [C0, C1, C2])
    (z_abs : PySem.W.nsIn K mainGlobals "abs" = some none)
    (z_all : PySem.W.nsIn K mainGlobals "all" = some none)
    (z_any : PySem.W.nsIn K mainGlobals "any" = some none)
    (z_int : PySem.W.nsIn K mainGlobals "int" = some none)
    (z_isinstance : PySem.W.nsIn K mainGlobals "isinstance" = some none)
    (z_len : PySem.W.nsIn K mainGlobals "len" = some none)
    (z_list : PySem.W.nsIn K mainGlobals "list" = some none)
    (z_max : PySem.W.nsIn K mainGlobals "max" = some none)
    (z_range : PySem.W.nsIn K mainGlobals "range" = some none)
    (z_set : PySem.W.nsIn K mainGlobals "set" = some none)
    (z_sum : PySem.W.nsIn K mainGlobals "sum" = some none)
    (z_tuple : PySem.W.nsIn K mainGlobals "tuple" = some none)
    (z_zip : PySem.W.nsIn K mainGlobals "zip" = some none)
    {t_MOST : Tok} (g_MOST : PySem.W.nsIn K mainGlobals "MOST" = some (some (.int 1000000000000 t_MOST)))
    {t_MOST_BOXES : Tok} (g_MOST_BOXES : PySem.W.nsIn K mainGlobals "MOST_BOXES" = some (some (.int 16 t_MOST_BOXES)))
    {t_MOST_DIRECTION : Tok} (g_MOST_DIRECTION : PySem.W.nsIn K mainGlobals "MOST_DIRECTION" = some (some (.int 1000 t_MOST_DIRECTION)))
    {t_MOST_LIARS : Tok} (g_MOST_LIARS : PySem.W.nsIn K mainGlobals "MOST_LIARS" = some (some (.int 3 t_MOST_LIARS)))
    {t_MOST_SIGNS : Tok} (g_MOST_SIGNS : PySem.W.nsIn K mainGlobals "MOST_SIGNS" = some (some (.int 64 t_MOST_SIGNS)))
    {t_MOST_VALUE : Tok} (g_MOST_VALUE : PySem.W.nsIn K mainGlobals "MOST_VALUE" = some (some (.int 1000000000000000 t_MOST_VALUE)))
    {t_SIGNS : Tok} (g_SIGNS : PySem.W.nsIn K mainGlobals "SIGNS" = some (some (.str (PySem.Str.ofString "abcdefghijklmnopqrstuvwxyz0123456789_-") t_SIGNS)))
    (g_isqrt : PySem.W.nsIn K mainGlobals "isqrt" = some (some (.builtin "math.isqrt")))
    : ∃ fd : FuncData, (∀ (s : Shared) (v : Value), BindsTo s fd ⟨[v], []⟩ [("_law_script", v)]) ∧ ∀ base : Heap, K.In base → base.Ns mainGlobals mg → FnOk l.prog w K mg base CX0 15 fa fd ["_law_script"] (spD K 1 (fun ds Q => ∀ cl, GoodC 3 cl → runD 16 (m_law cl) ds Q)) := by
  have e := hfa.symm.trans (PySem.W.mg_of X G a39)
  cases e
  have T : Tx mg := ⟨PySem.W.mg_none_of X G z_abs, PySem.W.mg_none_of X G z_all, PySem.W.mg_none_of X G z_any, PySem.W.mg_none_of X G z_int, PySem.W.mg_none_of X G z_isinstance, PySem.W.mg_none_of X G z_len, PySem.W.mg_none_of X G z_list, PySem.W.mg_none_of X G z_max, PySem.W.mg_none_of X G z_range, PySem.W.mg_none_of X G z_set, PySem.W.mg_none_of X G z_sum, PySem.W.mg_none_of X G z_tuple, PySem.W.mg_none_of X G z_zip, ⟨_, PySem.W.mg_of X G g_MOST⟩, ⟨_, PySem.W.mg_of X G g_MOST_BOXES⟩, ⟨_, PySem.W.mg_of X G g_MOST_DIRECTION⟩, ⟨_, PySem.W.mg_of X G g_MOST_LIARS⟩, ⟨_, PySem.W.mg_of X G g_MOST_SIGNS⟩, ⟨_, PySem.W.mg_of X G g_MOST_VALUE⟩, ⟨_, PySem.W.mg_of X G g_SIGNS⟩, PySem.W.mg_of X G g_isqrt⟩
  have good : GoodC 3 (clOf [C0, C1, C2]) := good_nodup nd
  have F0 := fun_mk (st := s_is_name) l0 c0 k0
  have b0 := F0.binds (ps := ["text"]) fun _ _ _ _ _ _ us hl => match us, hl with | [_], _ => rfl
  have F1 := fun_mk (st := s_K_Setting_init) l1 c1 k1
  have F2 := fun_mk (st := s_K_Setting_eq) l2 c2 k2
  have b2 := F2.binds (ps := ["self", "other"]) fun _ _ _ _ _ _ us hl => match us, hl with | [_, _], _ => rfl
  have F3 := fun_mk (st := s_in_room) l3 c3 k3
  have b3 := F3.binds (ps := ["numbers"]) fun _ _ _ _ _ _ us hl => match us, hl with | [_], _ => rfl
  have F4 := fun_mk (st := s_box_in_room) l4 c4 k4
  have b4 := F4.binds (ps := ["box"]) fun _ _ _ _ _ _ us hl => match us, hl with | [_], _ => rfl
  have F5 := fun_mk (st := s_kind_in_bounds) l5 c5 k5
  have b5 := F5.binds (ps := ["kind"]) fun _ _ _ _ _ _ us hl => match us, hl with | [_], _ => rfl
  have F6 := fun_mk (st := s_K_Reading_init) l6 c6 k6
  have F7 := fun_mk (st := s_K_Reading_eq) l7 c7 k7
  have b7 := F7.binds (ps := ["self", "other"]) fun _ _ _ _ _ _ us hl => match us, hl with | [_, _], _ => rfl
  have F8 := fun_mk (st := s_K_Question_init) l8 c8 k8
  have F9 := fun_mk (st := s_K_Question_eq) l9 c9 k9
  have b9 := F9.binds (ps := ["self", "other"]) fun _ _ _ _ _ _ us hl => match us, hl with | [_, _], _ => rfl
  have F10 := fun_mk (st := s_asked) l10 c10 k10
  have b10 := F10.binds (ps := ["question", "readings"]) fun _ _ _ _ _ _ us hl => match us, hl with | [_, _], _ => rfl
  have F11 := fun_mk (st := s_root_up) l11 c11 k11
  have b11 := F11.binds (ps := ["number"]) fun _ _ _ _ _ _ us hl => match us, hl with | [_], _ => rfl
  have F12 := fun_mk (st := s_dot) l12 c12 k12
  have b12 := F12.binds (ps := ["one", "two"]) fun _ _ _ _ _ _ us hl => match us, hl with | [_, _], _ => rfl
  have F13 := fun_mk (st := s_reach) l13 c13 k13
  have b13 := F13.binds (ps := ["setting", "ticks"]) fun _ _ _ _ _ _ us hl => match us, hl with | [_, _], _ => rfl
  have F14 := fun_mk (st := s_slip) l14 c14 k14
  have b14 := F14.binds (ps := ["setting", "ticks"]) fun _ _ _ _ _ _ us hl => match us, hl with | [_, _], _ => rfl
  have F15 := fun_mk (st := s_rate) l15 c15 k15
  have b15 := F15.binds (ps := ["kind"]) fun _ _ _ _ _ _ us hl => match us, hl with | [_], _ => rfl
  have F16 := fun_mk (st := s_clock_rate) l16 c16 k16
  have b16 := F16.binds (ps := ["kind"]) fun _ _ _ _ _ _ us hl => match us, hl with | [_], _ => rfl
  have F17 := fun_mk (st := s_moved) l17 c17 k17
  have b17 := F17.binds (ps := ["kind"]) fun _ _ _ _ _ _ us hl => match us, hl with | [_], _ => rfl
  have F18 := fun_mk (st := s_cell_radius) l18 c18 k18
  have b18 := F18.binds (ps := ["setting", "share"]) fun _ _ _ _ _ _ us hl => match us, hl with | [_, _], _ => rfl
  have F19 := fun_mk (st := s_stretch) l19 c19 k19
  have b19 := F19.binds (ps := ["setting", "question", "readings"]) fun _ _ _ _ _ _ us hl => match us, hl with | [_, _, _], _ => rfl
  have F20 := fun_mk (st := s_margin) l20 c20 k20
  have b20 := F20.binds (ps := ["setting", "question", "reading"]) fun _ _ _ _ _ _ us hl => match us, hl with | [_, _, _], _ => rfl
  have F21 := fun_mk (st := s__law_rows) l21 c21 k21
  have b21 := F21.binds (ps := ["_law_script", "_law_count"]) fun _ _ _ _ _ _ us hl => match us, hl with | [_, _], _ => rfl
  have F22 := fun_mk (st := s__law_root) l22 c22 k22
  have b22 := F22.binds (ps := ["_law_number"]) fun _ _ _ _ _ _ us hl => match us, hl with | [_], _ => rfl
  have F23 := fun_mk (st := s__law_up) l23 c23 k23
  have b23 := F23.binds (ps := ["_law_number"]) fun _ _ _ _ _ _ us hl => match us, hl with | [_], _ => rfl
  have F24 := fun_mk (st := s__law_digits) l24 c24 k24
  have b24 := F24.binds (ps := ["_law_row", "_law_base", "_law_count"]) fun _ _ _ _ _ _ us hl => match us, hl with | [_, _, _], _ => rfl
  have F25 := fun_mk (st := s__law_setting) l25 c25 k25
  have b25 := F25.binds (ps := ["_law_row"]) fun _ _ _ _ _ _ us hl => match us, hl with | [_], _ => rfl
  have F26 := fun_mk (st := s__law_velocity) l26 c26 k26
  have b26 := F26.binds (ps := ["_law_setting_here", "_law_row"]) fun _ _ _ _ _ _ us hl => match us, hl with | [_, _], _ => rfl
  have F27 := fun_mk (st := s__law_at) l27 c27 k27
  have b27 := F27.binds (ps := ["_law_way_here", "_law_moment"]) fun _ _ _ _ _ _ us hl => match us, hl with | [_, _], _ => rfl
  have F28 := fun_mk (st := s__law_way) l28 c28 k28
  have b28 := F28.binds (ps := ["_law_setting_here", "_law_rows_here"]) fun _ _ _ _ _ _ us hl => match us, hl with | [_, _], _ => rfl
  have F29 := fun_mk (st := s__law_square) l29 c29 k29
  have b29 := F29.binds (ps := ["_law_one", "_law_two"]) fun _ _ _ _ _ _ us hl => match us, hl with | [_, _], _ => rfl
  have F30 := fun_mk (st := s__law_piece) l30 c30 k30
  have b30 := F30.binds (ps := ["_law_place", "_law_at_here", "_law_to"]) fun _ _ _ _ _ _ us hl => match us, hl with | [_, _, _], _ => rfl
  have F31 := fun_mk (st := s__law_boxes) l31 c31 k31
  have b31 := F31.binds (ps := ["_law_place", "_law_boxes_here"]) fun _ _ _ _ _ _ us hl => match us, hl with | [_, _], _ => rfl
  have F32 := fun_mk (st := s__law_value) l32 c32 k32
  have b32 := F32.binds (ps := ["_law_kind_here", "_law_place", "_law_clock"]) fun _ _ _ _ _ _ us hl => match us, hl with | [_, _, _], _ => rfl
  have F33 := fun_mk (st := s__law_point) l33 c33 k33
  have b33 := F33.binds (ps := ["_law_dims", "_law_row"]) fun _ _ _ _ _ _ us hl => match us, hl with | [_, _], _ => rfl
  have F34 := fun_mk (st := s__law_kind) l34 c34 k34
  have b34 := F34.binds (ps := ["_law_dims", "_law_row"]) fun _ _ _ _ _ _ us hl => match us, hl with | [_, _], _ => rfl
  have F35 := fun_mk (st := s__law_moved) l35 c35 k35
  have b35 := F35.binds (ps := ["_law_kind_here", "_law_shift"]) fun _ _ _ _ _ _ us hl => match us, hl with | [_, _], _ => rfl
  have F36 := fun_mk (st := s__law_reading) l36 c36 k36
  have b36 := F36.binds (ps := ["_law_way_here", "_law_dims", "_law_name", "_law_row", "_law_lies"]) fun _ _ _ _ _ _ us hl => match us, hl with | [_, _, _, _, _], _ => rfl
  have F37 := fun_mk (st := s__law_readings) l37 c37 k37
  have b37 := F37.binds (ps := ["_law_way_here", "_law_dims", "_law_rows_here", "_law_many", "_law_names", "_law_liars"]) fun _ _ _ _ _ _ us hl => match us, hl with | [_, _, _, _, _, _], _ => rfl
  have F38 := fun_mk (st := s__law_question) l38 c38 k38
  have b38 := F38.binds (ps := ["_law_way_here", "_law_dims", "_law_row", "_law_liars"]) fun _ _ _ _ _ _ us hl => match us, hl with | [_, _, _, _], _ => rfl
  have F39 := fun_mk (st := s_law) l39 c39 k39
  have b39 := F39.binds (ps := ["_law_script"]) fun _ _ _ _ _ _ us hl => match us, hl with | [_], _ => rfl
  refine ⟨PySem.W.fnOf "law" "law" (defArgs s_law) (defBody s_law) (defScope s_law) .none kV39 dc39 pm39 an39 cd39 ct39, fun s v => .of_eq rfl, fun base _ _ => ?_⟩
  have i_Setting : InsK K ((clOf [C0, C1, C2]) 0) ["dims", "speed", "drift", "per"] := ⟨⟨pg0, hd0, po0, sa0⟩, (all_cons n0_0 (all_cons n0_1 (all_cons n0_2 (all_cons n0_3 all_nil)))), ha0, hn0, ht0, hm0⟩
  have g_Setting : mg "Setting" = some (.ref ((clOf [C0, C1, C2]) 0)) := PySem.W.mg_of X G aC0
  have i_Reading : InsK K ((clOf [C0, C1, C2]) 1) ["source", "moment", "kind", "low", "high", "late", "near"] := ⟨⟨pg1, hd1, po1, sa1⟩, (all_cons n1_0 (all_cons n1_1 (all_cons n1_2 (all_cons n1_3 (all_cons n1_4 (all_cons n1_5 (all_cons n1_6 all_nil))))))), ha1, hn1, ht1, hm1⟩
  have g_Reading : mg "Reading" = some (.ref ((clOf [C0, C1, C2]) 1)) := PySem.W.mg_of X G aC1
  have i_Question : InsK K ((clOf [C0, C1, C2]) 2) ["moment", "root", "liars", "share", "earliest", "latest"] := ⟨⟨pg2, hd2, po2, sa2⟩, (all_cons n2_0 (all_cons n2_1 (all_cons n2_2 (all_cons n2_3 (all_cons n2_4 (all_cons n2_5 all_nil)))))), ha2, hn2, ht2, hm2⟩
  have g_Question : mg "Question" = some (.ref ((clOf [C0, C1, C2]) 2)) := PySem.W.mg_of X G aC2
  have p_POINTS : DictK K w mg "POINTS" ["range", "clocked", "differ", "piece"] := ⟨_, _, _, PySem.W.mg_of X G pa_POINTS, ⟨pb_POINTS, pc_POINTS, pd_POINTS⟩, (all_cons ⟨_, pe_POINTS_range⟩ (all_cons ⟨_, pe_POINTS_clocked⟩ (all_cons ⟨_, pe_POINTS_differ⟩ (all_cons ⟨_, pe_POINTS_piece⟩ all_nil))))⟩
  have x_Question : (∀ C ∈ [(clOf [C0, C1, C2]) 0, (clOf [C0, C1, C2]) 1, (clOf [C0, C1, C2]) 2], PySem.W.kitOne K (.ref C) (.ref ((clOf [C0, C1, C2]) 2)) = some (decide (C = (clOf [C0, C1, C2]) 2))) ∧ ∀ n ∈ tysD, PySem.W.kitOne K (.type n) (.ref ((clOf [C0, C1, C2]) 2)) = some false := ⟨(all_cons (kit_f (fun z => absurd (good 0 2 (by decide) (by decide) z) (by decide)) (kit_own (ref_ne (fun z => absurd (good 0 2 (by decide) (by decide) z) (by decide))) hd2 ty2 x0_2)) (all_cons (kit_f (fun z => absurd (good 1 2 (by decide) (by decide) z) (by decide)) (kit_own (ref_ne (fun z => absurd (good 1 2 (by decide) (by decide) z) (by decide))) hd2 ty2 x1_2)) (all_cons (kit_t kit_self) all_nil))), (all_cons (kit_own rfl hd2 ty2 xt0_2) (all_cons (kit_own rfl hd2 ty2 xt1_2) (all_cons (kit_own rfl hd2 ty2 xt2_2) (all_cons (kit_own rfl hd2 ty2 xt3_2) (all_cons (kit_own rfl hd2 ty2 xt4_2) (all_cons (kit_own rfl hd2 ty2 xt5_2) all_nil))))))⟩
  have x_Reading : (∀ C ∈ [(clOf [C0, C1, C2]) 0, (clOf [C0, C1, C2]) 1, (clOf [C0, C1, C2]) 2], PySem.W.kitOne K (.ref C) (.ref ((clOf [C0, C1, C2]) 1)) = some (decide (C = (clOf [C0, C1, C2]) 1))) ∧ ∀ n ∈ tysD, PySem.W.kitOne K (.type n) (.ref ((clOf [C0, C1, C2]) 1)) = some false := ⟨(all_cons (kit_f (fun z => absurd (good 0 1 (by decide) (by decide) z) (by decide)) (kit_own (ref_ne (fun z => absurd (good 0 1 (by decide) (by decide) z) (by decide))) hd1 ty1 x0_1)) (all_cons (kit_t kit_self) (all_cons (kit_f (fun z => absurd (good 2 1 (by decide) (by decide) z) (by decide)) (kit_own (ref_ne (fun z => absurd (good 2 1 (by decide) (by decide) z) (by decide))) hd1 ty1 x2_1)) all_nil))), (all_cons (kit_own rfl hd1 ty1 xt0_1) (all_cons (kit_own rfl hd1 ty1 xt1_1) (all_cons (kit_own rfl hd1 ty1 xt2_1) (all_cons (kit_own rfl hd1 ty1 xt3_1) (all_cons (kit_own rfl hd1 ty1 xt4_1) (all_cons (kit_own rfl hd1 ty1 xt5_1) all_nil))))))⟩
  have x_Setting : (∀ C ∈ [(clOf [C0, C1, C2]) 0, (clOf [C0, C1, C2]) 1, (clOf [C0, C1, C2]) 2], PySem.W.kitOne K (.ref C) (.ref ((clOf [C0, C1, C2]) 0)) = some (decide (C = (clOf [C0, C1, C2]) 0))) ∧ ∀ n ∈ tysD, PySem.W.kitOne K (.type n) (.ref ((clOf [C0, C1, C2]) 0)) = some false := ⟨(all_cons (kit_t kit_self) (all_cons (kit_f (fun z => absurd (good 1 0 (by decide) (by decide) z) (by decide)) (kit_own (ref_ne (fun z => absurd (good 1 0 (by decide) (by decide) z) (by decide))) hd0 ty0 x1_0)) (all_cons (kit_f (fun z => absurd (good 2 0 (by decide) (by decide) z) (by decide)) (kit_own (ref_ne (fun z => absurd (good 2 0 (by decide) (by decide) z) (by decide))) hd0 ty0 x2_0)) all_nil))), (all_cons (kit_own rfl hd0 ty0 xt0_0) (all_cons (kit_own rfl hd0 ty0 xt1_0) (all_cons (kit_own rfl hd0 ty0 xt2_0) (all_cons (kit_own rfl hd0 ty0 xt3_0) (all_cons (kit_own rfl hd0 ty0 xt4_0) (all_cons (kit_own rfl hd0 ty0 xt5_0) all_nil))))))⟩
  have c_is_name : Cal l.prog w K mg base "is_name" 1 ["text"] [] (runD 2 m_is_name) := cal_mk F0 sc_is_name (PySem.W.mg_of X G a0) b0 (fun cdv A outer s H E hr => d_is_name T hr) ⟨rfl, by decide, by decide⟩
  have mm_K_Setting_init : MonoS (m_K_Setting_init (clOf [C0, C1, C2])) := (d_K_Setting_init (cl := (clOf [C0, C1, C2])) (P := l.prog) (w := w) (base := base) (fa := f1) (cdv := .none) (A := callerA) (outer := []) (s := {}) (H := fun _ => none) (E := fun _ _ _ => False) T i_Setting ((show Room 1 callerA from ⟨rfl, by decide, by decide⟩).deeper _)).mono
  have k_Setting__3 : CalMK l.prog w K mg base "Setting" 1 ((clOf [C0, C1, C2]) 0) ["dims", "speed", "drift", "per"] 1 ["speed", "drift", "per"] (fun ds es => ds ++ es) (mkD ((clOf [C0, C1, C2]) 0) ["dims", "speed", "drift", "per"] 5 (m_K_Setting_init (clOf [C0, C1, C2]))) := calMK_mk (mkD_mono mm_K_Setting_init) i_Setting (mkD_ins mm_K_Setting_init) rfl (init_ok F1 sc_K_Setting_init (fun cdv A outer s H E hr => d_K_Setting_init (cl := (clOf [C0, C1, C2])) T i_Setting hr)) ⟨mk0, a1, i1, kc0⟩ g_Setting (fun s us ws l1 l2 => match us, ws, l1, l2 with | [_, _], [_, _, _], _, _ => .of_eq rfl)
  have mm_K_Setting_eq : MonoS (m_K_Setting_eq (clOf [C0, C1, C2])) := (d_K_Setting_eq (cl := (clOf [C0, C1, C2])) (P := l.prog) (w := w) (base := base) (fa := f2) (cdv := .none) (A := callerA) (outer := []) (s := {}) (H := fun _ => none) (E := fun _ _ _ => False) T g_Setting x_Setting ((show Room 1 callerA from ⟨rfl, by decide, by decide⟩).deeper _)).mono
  have e_Setting : CalE l.prog w K mg base 1 ((clOf [C0, C1, C2]) 0) [(clOf [C0, C1, C2]) 0, (clOf [C0, C1, C2]) 1, (clOf [C0, C1, C2]) 2] (runD 3 (m_K_Setting_eq (clOf [C0, C1, C2]))) := calE_mono (j := 1) ⟨runD_mono mm_K_Setting_eq, (all_cons et0_0 (all_cons et1_0 (all_cons et2_0 (all_cons et3_0 (all_cons et4_0 (all_cons et5_0 all_nil)))))), (all_cons e0_0 (all_cons e1_0 (all_cons e2_0 all_nil))), f2, _, _, rfl, fn_ok F2 sc_K_Setting_eq (fun cdv A outer s H E hr => d_K_Setting_eq (cl := (clOf [C0, C1, C2])) T g_Setting x_Setting hr), a2, i2, b2⟩ (by decide)
  have c_in_room : Cal l.prog w K mg base "in_room" 1 ["numbers"] [] (runD 2 m_in_room) := cal_mk F3 sc_in_room (PySem.W.mg_of X G a3) b3 (fun cdv A outer s H E hr => d_in_room T hr) ⟨rfl, by decide, by decide⟩
  have c_box_in_room : Cal l.prog w K mg base "box_in_room" 1 ["box"] [] (runD 3 m_box_in_room) := cal_mk F4 sc_box_in_room (PySem.W.mg_of X G a4) b4 (fun cdv A outer s H E hr => d_box_in_room T hr) ⟨rfl, by decide, by decide⟩
  have c_kind_in_bounds : Cal l.prog w K mg base "kind_in_bounds" 2 ["kind"] [] (runD 4 m_kind_in_bounds) := cal_mk F5 sc_kind_in_bounds (PySem.W.mg_of X G a5) b5 (fun cdv A outer s H E hr => d_kind_in_bounds T c_box_in_room c_in_room p_POINTS hr) ⟨rfl, by decide, by decide⟩
  have mm_K_Reading_init : MonoS (m_K_Reading_init (clOf [C0, C1, C2])) := (d_K_Reading_init (cl := (clOf [C0, C1, C2])) (P := l.prog) (w := w) (base := base) (fa := f6) (cdv := .none) (A := callerA) (outer := []) (s := {}) (H := fun _ => none) (E := fun _ _ _ => False) T c_is_name c_in_room c_kind_in_bounds i_Reading ((show Room 3 callerA from ⟨rfl, by decide, by decide⟩).deeper _)).mono
  have k_Reading__4 : CalMK l.prog w K mg base "Reading" 3 ((clOf [C0, C1, C2]) 1) ["source", "moment", "kind", "low", "high", "late", "near"] 3 ["low", "high", "late", "near"] (fun ds es => ds ++ es) (mkD ((clOf [C0, C1, C2]) 1) ["source", "moment", "kind", "low", "high", "late", "near"] 8 (m_K_Reading_init (clOf [C0, C1, C2]))) := calMK_mk (mkD_mono mm_K_Reading_init) i_Reading (mkD_ins mm_K_Reading_init) rfl (init_ok F6 sc_K_Reading_init (fun cdv A outer s H E hr => d_K_Reading_init (cl := (clOf [C0, C1, C2])) T c_is_name c_in_room c_kind_in_bounds i_Reading hr)) ⟨mk1, a6, i6, kc1⟩ g_Reading (fun s us ws l1 l2 => match us, ws, l1, l2 with | [_, _, _, _], [_, _, _, _], _, _ => .of_eq rfl)
  have mm_K_Reading_eq : MonoS (m_K_Reading_eq (clOf [C0, C1, C2])) := (d_K_Reading_eq (cl := (clOf [C0, C1, C2])) (P := l.prog) (w := w) (base := base) (fa := f7) (cdv := .none) (A := callerA) (outer := []) (s := {}) (H := fun _ => none) (E := fun _ _ _ => False) T g_Reading x_Reading ((show Room 1 callerA from ⟨rfl, by decide, by decide⟩).deeper _)).mono
  have e_Reading : CalE l.prog w K mg base 1 ((clOf [C0, C1, C2]) 1) [(clOf [C0, C1, C2]) 0, (clOf [C0, C1, C2]) 1, (clOf [C0, C1, C2]) 2] (runD 3 (m_K_Reading_eq (clOf [C0, C1, C2]))) := calE_mono (j := 1) ⟨runD_mono mm_K_Reading_eq, (all_cons et0_1 (all_cons et1_1 (all_cons et2_1 (all_cons et3_1 (all_cons et4_1 (all_cons et5_1 all_nil)))))), (all_cons e0_1 (all_cons e1_1 (all_cons e2_1 all_nil))), f7, _, _, rfl, fn_ok F7 sc_K_Reading_eq (fun cdv A outer s H E hr => d_K_Reading_eq (cl := (clOf [C0, C1, C2])) T g_Reading x_Reading hr), a7, i7, b7⟩ (by decide)
  have mm_K_Question_init : MonoS (m_K_Question_init (clOf [C0, C1, C2])) := (d_K_Question_init (cl := (clOf [C0, C1, C2])) (P := l.prog) (w := w) (base := base) (fa := f8) (cdv := .none) (A := callerA) (outer := []) (s := {}) (H := fun _ => none) (E := fun _ _ _ => False) T c_in_room c_box_in_room i_Question ((show Room 2 callerA from ⟨rfl, by decide, by decide⟩).deeper _)).mono
  have k_Question__4 : CalMK l.prog w K mg base "Question" 2 ((clOf [C0, C1, C2]) 2) ["moment", "root", "liars", "share", "earliest", "latest"] 2 ["liars", "share", "earliest", "latest"] (fun ds es => ds ++ es) (mkD ((clOf [C0, C1, C2]) 2) ["moment", "root", "liars", "share", "earliest", "latest"] 7 (m_K_Question_init (clOf [C0, C1, C2]))) := calMK_mk (mkD_mono mm_K_Question_init) i_Question (mkD_ins mm_K_Question_init) rfl (init_ok F8 sc_K_Question_init (fun cdv A outer s H E hr => d_K_Question_init (cl := (clOf [C0, C1, C2])) T c_in_room c_box_in_room i_Question hr)) ⟨mk2, a8, i8, kc2⟩ g_Question (fun s us ws l1 l2 => match us, ws, l1, l2 with | [_, _, _], [_, _, _, _], _, _ => .of_eq rfl)
  have mm_K_Question_eq : MonoS (m_K_Question_eq (clOf [C0, C1, C2])) := (d_K_Question_eq (cl := (clOf [C0, C1, C2])) (P := l.prog) (w := w) (base := base) (fa := f9) (cdv := .none) (A := callerA) (outer := []) (s := {}) (H := fun _ => none) (E := fun _ _ _ => False) T g_Question x_Question ((show Room 1 callerA from ⟨rfl, by decide, by decide⟩).deeper _)).mono
  have e_Question : CalE l.prog w K mg base 1 ((clOf [C0, C1, C2]) 2) [(clOf [C0, C1, C2]) 0, (clOf [C0, C1, C2]) 1, (clOf [C0, C1, C2]) 2] (runD 3 (m_K_Question_eq (clOf [C0, C1, C2]))) := calE_mono (j := 1) ⟨runD_mono mm_K_Question_eq, (all_cons et0_2 (all_cons et1_2 (all_cons et2_2 (all_cons et3_2 (all_cons et4_2 (all_cons et5_2 all_nil)))))), (all_cons e0_2 (all_cons e1_2 (all_cons e2_2 all_nil))), f9, _, _, rfl, fn_ok F9 sc_K_Question_eq (fun cdv A outer s H E hr => d_K_Question_eq (cl := (clOf [C0, C1, C2])) T g_Question x_Question hr), a9, i9, b9⟩ (by decide)
  have c_asked : Cal l.prog w K mg base "asked" 1 ["question", "readings"] [] (runD 4 m_asked) := cal_mk F10 sc_asked (PySem.W.mg_of X G a10) b10 (fun cdv A outer s H E hr => d_asked T hr) ⟨rfl, by decide, by decide⟩
  have c_root_up : Cal l.prog w K mg base "root_up" 1 ["number"] [] (runD 2 m_root_up) := cal_mk F11 sc_root_up (PySem.W.mg_of X G a11) b11 (fun cdv A outer s H E hr => d_root_up T hr) ⟨rfl, by decide, by decide⟩
  have c_dot : Cal l.prog w K mg base "dot" 1 ["one", "two"] [] (runD 4 m_dot) := cal_mk F12 sc_dot (PySem.W.mg_of X G a12) b12 (fun cdv A outer s H E hr => d_dot T hr) ⟨rfl, by decide, by decide⟩
  have c_reach : Cal l.prog w K mg base "reach" 1 ["setting", "ticks"] [] (runD 2 m_reach) := cal_mk F13 sc_reach (PySem.W.mg_of X G a13) b13 (fun cdv A outer s H E hr => d_reach T hr) ⟨rfl, by decide, by decide⟩
  have c_slip : Cal l.prog w K mg base "slip" 1 ["setting", "ticks"] [] (runD 2 m_slip) := cal_mk F14 sc_slip (PySem.W.mg_of X G a14) b14 (fun cdv A outer s H E hr => d_slip T hr) ⟨rfl, by decide, by decide⟩
  have c_rate : Cal l.prog w K mg base "rate" 2 ["kind"] [] (runD 1 m_rate) := cal_mk F15 sc_rate (PySem.W.mg_of X G a15) b15 (fun cdv A outer s H E hr => d_rate T c_root_up c_dot hr) ⟨rfl, by decide, by decide⟩
  have c_clock_rate : Cal l.prog w K mg base "clock_rate" 1 ["kind"] [] (runD 1 m_clock_rate) := cal_mk F16 sc_clock_rate (PySem.W.mg_of X G a16) b16 (fun cdv A outer s H E hr => d_clock_rate T hr) ⟨rfl, by decide, by decide⟩
  have c_moved : Cal l.prog w K mg base "moved" 1 ["kind"] [] (runD 1 m_moved) := cal_mk F17 sc_moved (PySem.W.mg_of X G a17) b17 (fun cdv A outer s H E hr => d_moved T hr) ⟨rfl, by decide, by decide⟩
  have c_cell_radius : Cal l.prog w K mg base "cell_radius" 2 ["setting", "share"] [] (runD 3 m_cell_radius) := cal_mk F18 sc_cell_radius (PySem.W.mg_of X G a18) b18 (fun cdv A outer s H E hr => d_cell_radius T c_root_up hr) ⟨rfl, by decide, by decide⟩
  have c_stretch : Cal l.prog w K mg base "stretch" 3 ["setting", "question", "readings"] [] (runD 6 m_stretch) := cal_mk F19 sc_stretch (PySem.W.mg_of X G a19) b19 (fun cdv A outer s H E hr => d_stretch T c_asked c_cell_radius hr) ⟨rfl, by decide, by decide⟩
  have c_margin : Cal l.prog w K mg base "margin" 3 ["setting", "question", "reading"] [] (runD 6 m_margin) := cal_mk F20 sc_margin (PySem.W.mg_of X G a20) b20 (fun cdv A outer s H E hr => d_margin T c_rate c_reach c_clock_rate c_slip c_cell_radius c_moved hr) ⟨rfl, by decide, by decide⟩
  have c__law_rows : Cal l.prog w K mg base "_law_rows" 1 ["_law_script", "_law_count"] [] (runD 5 m__law_rows) := cal_mk F21 sc__law_rows (PySem.W.mg_of X G a21) b21 (fun cdv A outer s H E hr => d__law_rows T hr) ⟨rfl, by decide, by decide⟩
  have c__law_root : Cal l.prog w K mg base "_law_root" 1 ["_law_number"] [] (runD 5 m__law_root) := cal_mk F22 sc__law_root (PySem.W.mg_of X G a22) b22 (fun cdv A outer s H E hr => d__law_root T hr) ⟨rfl, by decide, by decide⟩
  have c__law_up : Cal l.prog w K mg base "_law_up" 2 ["_law_number"] [] (runD 2 m__law_up) := cal_mk F23 sc__law_up (PySem.W.mg_of X G a23) b23 (fun cdv A outer s H E hr => d__law_up T c__law_root hr) ⟨rfl, by decide, by decide⟩
  have c__law_digits : Cal l.prog w K mg base "_law_digits" 1 ["_law_row", "_law_base", "_law_count"] [] (runD 5 m__law_digits) := cal_mk F24 sc__law_digits (PySem.W.mg_of X G a24) b24 (fun cdv A outer s H E hr => d__law_digits T hr) ⟨rfl, by decide, by decide⟩
  have c__law_setting : Cal l.prog w K mg base "_law_setting" 3 ["_law_row"] [] (runD 2 (m__law_setting (clOf [C0, C1, C2]))) := cal_mk F25 sc__law_setting (PySem.W.mg_of X G a25) b25 (fun cdv A outer s H E hr => d__law_setting (cl := (clOf [C0, C1, C2])) T k_Setting__3 hr) ⟨rfl, by decide, by decide⟩
  have c__law_velocity : Cal l.prog w K mg base "_law_velocity" 2 ["_law_setting_here", "_law_row"] [] (runD 7 m__law_velocity) := cal_mk F26 sc__law_velocity (PySem.W.mg_of X G a26) b26 (fun cdv A outer s H E hr => d__law_velocity T c__law_digits hr) ⟨rfl, by decide, by decide⟩
  have c__law_at : Cal l.prog w K mg base "_law_at" 1 ["_law_way_here", "_law_moment"] [] (runD 14 m__law_at) := cal_mk F27 sc__law_at (PySem.W.mg_of X G a27) b27 (fun cdv A outer s H E hr => d__law_at T hr) ⟨rfl, by decide, by decide⟩
  have c__law_way : Cal l.prog w K mg base "_law_way" 3 ["_law_setting_here", "_law_rows_here"] [] (runD 9 m__law_way) := cal_mk F28 sc__law_way (PySem.W.mg_of X G a28) b28 (fun cdv A outer s H E hr => d__law_way T c__law_digits c__law_velocity hr) ⟨rfl, by decide, by decide⟩
  have c__law_square : Cal l.prog w K mg base "_law_square" 1 ["_law_one", "_law_two"] [] (runD 3 m__law_square) := cal_mk F29 sc__law_square (PySem.W.mg_of X G a29) b29 (fun cdv A outer s H E hr => d__law_square T hr) ⟨rfl, by decide, by decide⟩
  have c__law_piece : Cal l.prog w K mg base "_law_piece" 2 ["_law_place", "_law_at_here", "_law_to"] [] (runD 10 m__law_piece) := cal_mk F30 sc__law_piece (PySem.W.mg_of X G a30) b30 (fun cdv A outer s H E hr => d__law_piece T c__law_square hr) ⟨rfl, by decide, by decide⟩
  have c__law_boxes : Cal l.prog w K mg base "_law_boxes" 1 ["_law_place", "_law_boxes_here"] [] (runD 7 m__law_boxes) := cal_mk F31 sc__law_boxes (PySem.W.mg_of X G a31) b31 (fun cdv A outer s H E hr => d__law_boxes T hr) ⟨rfl, by decide, by decide⟩
  have c__law_value : Cal l.prog w K mg base "_law_value" 3 ["_law_kind_here", "_law_place", "_law_clock"] [] (runD 10 m__law_value) := cal_mk F32 sc__law_value (PySem.W.mg_of X G a32) b32 (fun cdv A outer s H E hr => d__law_value T c__law_piece c__law_up c__law_root c__law_boxes c__law_square hr) ⟨rfl, by decide, by decide⟩
  have c__law_point : Cal l.prog w K mg base "_law_point" 2 ["_law_dims", "_law_row"] [] (runD 3 m__law_point) := cal_mk F33 sc__law_point (PySem.W.mg_of X G a33) b33 (fun cdv A outer s H E hr => d__law_point T c__law_digits hr) ⟨rfl, by decide, by decide⟩
  have c__law_kind : Cal l.prog w K mg base "_law_kind" 3 ["_law_dims", "_law_row"] [] (runD 11 m__law_kind) := cal_mk F34 sc__law_kind (PySem.W.mg_of X G a34) b34 (fun cdv A outer s H E hr => d__law_kind T c__law_digits c__law_point hr) ⟨rfl, by decide, by decide⟩
  have c__law_moved : Cal l.prog w K mg base "_law_moved" 1 ["_law_kind_here", "_law_shift"] [] (runD 7 m__law_moved) := cal_mk F35 sc__law_moved (PySem.W.mg_of X G a35) b35 (fun cdv A outer s H E hr => d__law_moved T hr) ⟨rfl, by decide, by decide⟩
  have c__law_reading : Cal l.prog w K mg base "_law_reading" 5 ["_law_way_here", "_law_dims", "_law_name", "_law_row", "_law_lies"] [] (runD 14 (m__law_reading (clOf [C0, C1, C2]))) := cal_mk F36 sc__law_reading (PySem.W.mg_of X G a36) b36 (fun cdv A outer s H E hr => d__law_reading (cl := (clOf [C0, C1, C2])) T c__law_kind c__law_at c__law_value c__law_moved k_Reading__4 hr) ⟨rfl, by decide, by decide⟩
  have c__law_readings : Cal l.prog w K mg base "_law_readings" 6 ["_law_way_here", "_law_dims", "_law_rows_here", "_law_many", "_law_names", "_law_liars"] [] (runD 9 (m__law_readings (clOf [C0, C1, C2]))) := cal_mk F37 sc__law_readings (PySem.W.mg_of X G a37) b37 (fun cdv A outer s H E hr => d__law_readings (cl := (clOf [C0, C1, C2])) T c__law_reading hr) ⟨rfl, by decide, by decide⟩
  have c__law_question : Cal l.prog w K mg base "_law_question" 4 ["_law_way_here", "_law_dims", "_law_row", "_law_liars"] [] (runD 13 (m__law_question (clOf [C0, C1, C2]))) := cal_mk F38 sc__law_question (PySem.W.mg_of X G a38) b38 (fun cdv A outer s H E hr => d__law_question (cl := (clOf [C0, C1, C2])) T c__law_at c__law_digits k_Question__4 hr) ⟨rfl, by decide, by decide⟩
  exact (fn_ok F39 sc_law fun cdv A outer s H E hr => d_law (cl := (clOf [C0, C1, C2])) T c__law_rows c__law_setting c__law_way c__law_question c__law_readings c__law_up c_cell_radius c_moved c_rate c_reach c_clock_rate c_slip c_margin c_stretch e_Question e_Reading e_Setting k_Question__4 hr).imp fun vs H Q E ⟨h1, F, es, h2, h3, h4⟩ => ⟨h1, F, es, h2, h3, h4 _ good⟩
end DL

open PySem PySem.W PyProof.Rows
set_option maxHeartbeats 0 in
theorem PySem.Challenge.cw_sureplace_k51_how_bounds_are_widened_holds : PySem.Challenge.rw_sureplace_k51_how_bounds_are_widened.Holds := by
  w_on; o_law; k_head; (case hw => w_witness2)
  k_fill
  refine DL.walk_D (l := PySem.Challenge.rw_sureplace_k51_how_bounds_are_widened) (n := 63) (k := 15) (x := "_law_script") (m := fun ds Q => ∀ cl, DL.GoodC 3 cl → DL.runD 16 (DL.m_law cl) ds Q) rfl (by decide) rfl ⟨rfl, by decide, by decide⟩ (fun w h Y => PySem.W.kIn_of Y) ?F DL.law_D
  case F =>
    intro w mg fa h KX G hmg
    refine' DL.all_mk KX G hmg ?aC0 ?aC1 ?aC2 ?a0 ?l0 ?c0 ?k0 ?a1 ?i1 ?l1 ?c1 ?k1 ?a2 ?i2 ?l2 ?c2 ?k2 ?a3 ?l3 ?c3 ?k3 ?a4 ?l4 ?c4 ?k4 ?a5 ?l5 ?c5 ?k5 ?a6 ?i6 ?l6 ?c6 ?k6 ?q6_late ?q6_near ?a7 ?i7 ?l7 ?c7 ?k7 ?a8 ?i8 ?l8 ?c8 ?k8 ?a9 ?i9 ?l9 ?c9 ?k9 ?a10 ?l10 ?c10 ?k10 ?a11 ?l11 ?c11 ?k11 ?a12 ?l12 ?c12 ?k12 ?a13 ?l13 ?c13 ?k13 ?a14 ?l14 ?c14 ?k14 ?a15 ?l15 ?c15 ?k15 ?a16 ?l16 ?c16 ?k16 ?a17 ?l17 ?c17 ?k17 ?a18 ?l18 ?c18 ?k18 ?a19 ?l19 ?c19 ?k19 ?a20 ?l20 ?c20 ?k20 ?a21 ?l21 ?c21 ?k21 ?a22 ?l22 ?c22 ?k22 ?a23 ?l23 ?c23 ?k23 ?a24 ?l24 ?c24 ?k24 ?a25 ?l25 ?c25 ?k25 ?a26 ?l26 ?c26 ?k26 ?a27 ?l27 ?c27 ?k27 ?a28 ?l28 ?c28 ?k28 ?a29 ?l29 ?c29 ?k29 ?a30 ?l30 ?c30 ?k30 ?a31 ?l31 ?c31 ?k31 ?a32 ?l32 ?c32 ?k32 ?a33 ?l33 ?c33 ?k33 ?a34 ?l34 ?c34 ?k34 ?a35 ?l35 ?c35 ?k35 ?a36 ?l36 ?c36 ?k36 ?a37 ?l37 ?c37 ?k37 ?a38 ?l38 ?c38 ?k38 ?a39 ?l39 ?c39 ?k39 ?pg0 ?hd0 ?po0 ?sa0 ?mk0 ?kc0 ?ha0 ?hn0 ?ht0 ?hm0 ?n0_0 ?n0_1 ?n0_2 ?n0_3 ?pg1 ?hd1 ?po1 ?sa1 ?mk1 ?kc1 ?ha1 ?hn1 ?ht1 ?hm1 ?n1_0 ?n1_1 ?n1_2 ?n1_3 ?n1_4 ?n1_5 ?n1_6 ?pg2 ?hd2 ?po2 ?sa2 ?mk2 ?kc2 ?ha2 ?hn2 ?ht2 ?hm2 ?n2_0 ?n2_1 ?n2_2 ?n2_3 ?n2_4 ?n2_5 ?ty2 ?x0_2 ?x1_2 ?xt0_2 ?xt1_2 ?xt2_2 ?xt3_2 ?xt4_2 ?xt5_2 ?ty1 ?x0_1 ?x2_1 ?xt0_1 ?xt1_1 ?xt2_1 ?xt3_1 ?xt4_1 ?xt5_1 ?ty0 ?x1_0 ?x2_0 ?xt0_0 ?xt1_0 ?xt2_0 ?xt3_0 ?xt4_0 ?xt5_0 ?e0_2 ?e1_2 ?e2_2 ?et0_2 ?et1_2 ?et2_2 ?et3_2 ?et4_2 ?et5_2 ?e0_1 ?e1_1 ?e2_1 ?et0_1 ?et1_1 ?et2_1 ?et3_1 ?et4_1 ?et5_1 ?e0_0 ?e1_0 ?e2_0 ?et0_0 ?et1_0 ?et2_0 ?et3_0 ?et4_0 ?et5_0 ?pa_POINTS ?pb_POINTS ?pc_POINTS ?pd_POINTS ?pe_POINTS_range ?pe_POINTS_clocked ?pe_POINTS_differ ?pe_POINTS_piece ?nd ?z_abs ?z_all ?z_any ?z_int ?z_isinstance ?z_len ?z_list ?z_max ?z_range ?z_set ?z_sum ?z_tuple ?z_zip ?g_MOST ?g_MOST_BOXES ?g_MOST_DIRECTION ?g_MOST_LIARS ?g_MOST_SIGNS ?g_MOST_VALUE ?g_SIGNS ?g_isqrt
    (case aC0 => k_is); (case aC1 => k_is); (case aC2 => k_is); (case a0 => k_is); (case l0 => k_is); (case c0 => k_is); (case k0 => k_is); (case a1 => k_is); (case i1 => k_is); (case l1 => k_is); (case c1 => k_is); (case k1 => k_is); (case a2 => k_is); (case i2 => k_is); (case l2 => k_is); (case c2 => k_is); (case k2 => k_is); (case a3 => k_is); (case l3 => k_is); (case c3 => k_is); (case k3 => k_is); (case a4 => k_is); (case l4 => k_is); (case c4 => k_is); (case k4 => k_is); (case a5 => k_is); (case l5 => k_is); (case c5 => k_is); (case k5 => k_is); (case a6 => k_is); (case i6 => k_is); (case l6 => k_is); (case c6 => k_is); (case k6 => k_is); (case q6_late => k_is); (case q6_near => k_is); (case a7 => k_is); (case i7 => k_is); (case l7 => k_is); (case c7 => k_is); (case k7 => k_is); (case a8 => k_is); (case i8 => k_is); (case l8 => k_is); (case c8 => k_is); (case k8 => k_is); (case a9 => k_is); (case i9 => k_is); (case l9 => k_is); (case c9 => k_is); (case k9 => k_is); (case a10 => k_is); (case l10 => k_is); (case c10 => k_is); (case k10 => k_is); (case a11 => k_is); (case l11 => k_is); (case c11 => k_is); (case k11 => k_is); (case a12 => k_is); (case l12 => k_is); (case c12 => k_is); (case k12 => k_is); (case a13 => k_is); (case l13 => k_is); (case c13 => k_is); (case k13 => k_is); (case a14 => k_is); (case l14 => k_is); (case c14 => k_is); (case k14 => k_is); (case a15 => k_is); (case l15 => k_is); (case c15 => k_is); (case k15 => k_is); (case a16 => k_is); (case l16 => k_is); (case c16 => k_is); (case k16 => k_is); (case a17 => k_is); (case l17 => k_is); (case c17 => k_is); (case k17 => k_is); (case a18 => k_is); (case l18 => k_is); (case c18 => k_is); (case k18 => k_is); (case a19 => k_is); (case l19 => k_is); (case c19 => k_is); (case k19 => k_is); (case a20 => k_is); (case l20 => k_is); (case c20 => k_is); (case k20 => k_is); (case a21 => k_is); (case l21 => k_is); (case c21 => k_is); (case k21 => k_is); (case a22 => k_is); (case l22 => k_is); (case c22 => k_is); (case k22 => k_is); (case a23 => k_is); (case l23 => k_is); (case c23 => k_is); (case k23 => k_is); (case a24 => k_is); (case l24 => k_is); (case c24 => k_is); (case k24 => k_is); (case a25 => k_is); (case l25 => k_is); (case c25 => k_is); (case k25 => k_is); (case a26 => k_is); (case l26 => k_is); (case c26 => k_is); (case k26 => k_is); (case a27 => k_is); (case l27 => k_is); (case c27 => k_is); (case k27 => k_is); (case a28 => k_is); (case l28 => k_is); (case c28 => k_is); (case k28 => k_is); (case a29 => k_is); (case l29 => k_is); (case c29 => k_is); (case k29 => k_is); (case a30 => k_is); (case l30 => k_is); (case c30 => k_is); (case k30 => k_is); (case a31 => k_is); (case l31 => k_is); (case c31 => k_is); (case k31 => k_is); (case a32 => k_is); (case l32 => k_is); (case c32 => k_is); (case k32 => k_is); (case a33 => k_is); (case l33 => k_is); (case c33 => k_is); (case k33 => k_is); (case a34 => k_is); (case l34 => k_is); (case c34 => k_is); (case k34 => k_is); (case a35 => k_is); (case l35 => k_is); (case c35 => k_is); (case k35 => k_is); (case a36 => k_is); (case l36 => k_is); (case c36 => k_is); (case k36 => k_is); (case a37 => k_is); (case l37 => k_is); (case c37 => k_is); (case k37 => k_is); (case a38 => k_is); (case l38 => k_is); (case c38 => k_is); (case k38 => k_is); (case a39 => k_is); (case l39 => k_is); (case c39 => k_is); (case k39 => k_is); (case pg0 => k_is); (case hd0 => k_is); (case po0 => k_is); (case sa0 => k_is); (case mk0 => k_is); (case kc0 => k_is); (case ha0 => k_is); (case hn0 => k_is); (case ht0 => k_is); (case hm0 => k_is); (case n0_0 => k_is); (case n0_1 => k_is); (case n0_2 => k_is); (case n0_3 => k_is); (case pg1 => k_is); (case hd1 => k_is); (case po1 => k_is); (case sa1 => k_is); (case mk1 => k_is); (case kc1 => k_is); (case ha1 => k_is); (case hn1 => k_is); (case ht1 => k_is); (case hm1 => k_is); (case n1_0 => k_is); (case n1_1 => k_is); (case n1_2 => k_is); (case n1_3 => k_is); (case n1_4 => k_is); (case n1_5 => k_is); (case n1_6 => k_is); (case pg2 => k_is); (case hd2 => k_is); (case po2 => k_is); (case sa2 => k_is); (case mk2 => k_is); (case kc2 => k_is); (case ha2 => k_is); (case hn2 => k_is); (case ht2 => k_is); (case hm2 => k_is); (case n2_0 => k_is); (case n2_1 => k_is); (case n2_2 => k_is); (case n2_3 => k_is); (case n2_4 => k_is); (case n2_5 => k_is); (case ty2 => k_is); (case x0_2 => k_is); (case x1_2 => k_is); (case xt0_2 => k_is); (case xt1_2 => k_is); (case xt2_2 => k_is); (case xt3_2 => k_is); (case xt4_2 => k_is); (case xt5_2 => k_is); (case ty1 => k_is); (case x0_1 => k_is); (case x2_1 => k_is); (case xt0_1 => k_is); (case xt1_1 => k_is); (case xt2_1 => k_is); (case xt3_1 => k_is); (case xt4_1 => k_is); (case xt5_1 => k_is); (case ty0 => k_is); (case x1_0 => k_is); (case x2_0 => k_is); (case xt0_0 => k_is); (case xt1_0 => k_is); (case xt2_0 => k_is); (case xt3_0 => k_is); (case xt4_0 => k_is); (case xt5_0 => k_is); (case e0_2 => k_is); (case e1_2 => k_is); (case e2_2 => k_is); (case et0_2 => k_is); (case et1_2 => k_is); (case et2_2 => k_is); (case et3_2 => k_is); (case et4_2 => k_is); (case et5_2 => k_is); (case e0_1 => k_is); (case e1_1 => k_is); (case e2_1 => k_is); (case et0_1 => k_is); (case et1_1 => k_is); (case et2_1 => k_is); (case et3_1 => k_is); (case et4_1 => k_is); (case et5_1 => k_is); (case e0_0 => k_is); (case e1_0 => k_is); (case e2_0 => k_is); (case et0_0 => k_is); (case et1_0 => k_is); (case et2_0 => k_is); (case et3_0 => k_is); (case et4_0 => k_is); (case et5_0 => k_is); (case pa_POINTS => k_is); (case pb_POINTS => k_is); (case pc_POINTS => k_keys); (case pd_POINTS => decide); (case pe_POINTS_range => k_is); (case pe_POINTS_clocked => k_is); (case pe_POINTS_differ => k_is); (case pe_POINTS_piece => k_is); (case nd => decide); (case z_abs => k_is); (case z_all => k_is); (case z_any => k_is); (case z_int => k_is); (case z_isinstance => k_is); (case z_len => k_is); (case z_list => k_is); (case z_max => k_is); (case z_range => k_is); (case z_set => k_is); (case z_sum => k_is); (case z_tuple => k_is); (case z_zip => k_is); (case g_MOST => k_is); (case g_MOST_BOXES => k_is); (case g_MOST_DIRECTION => k_is); (case g_MOST_LIARS => k_is); (case g_MOST_SIGNS => k_is); (case g_MOST_VALUE => k_is); (case g_SIGNS => k_is); (case g_isqrt => k_is)

