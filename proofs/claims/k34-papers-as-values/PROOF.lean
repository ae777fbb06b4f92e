import PyProof.Rows.All
import Wide.All
import OpenK.AllK
import Wide.FinOn
import HandS.ForMost
import HandS.EndBits
import HandS.Wide
import HandS.TupAny
import HandS.Zip
import HandS.IsInst
import HandS.Conv
import HandS.Deep
import HandS.TupMul
import KE.KMathG
import Flt.RightSqrt
import HandS.Style
import HandS.ForExc
import HandS.MakeKwOnly
import HandS.WideBits
import HandS.List
import HandS.Text
import HandS.Iter
import HandS.More
import HandS.OwnEq
import KE.GoesZip
import KE.GoesMore
import HandS.ExcIs
import PyProof.StrOps2
import HandS.SortInts
import HandS.Property
import HandS.FStr
import HandS.StrMore
import PySem.Challenge.RW_sureplace_k34_papers_as_values
set_option Elab.async false
set_option linter.all false
set_option maxRecDepth 100000
set_option maxHeartbeats 4000000
set_option autoImplicit false
/-! DL: a calculus over data (values without a heap) upon the layer HandS. -/
namespace DL
open PySem PySem.Spec PyProof.Rows L2

/-- a value as data: instances are data too, by their class's address and their attributes -/
inductive D where
  | non | bl (b : Bool) | int (i : Int) | str (x : Str)
  | tup (xs : List D) | lst (xs : List D) | scr (ns : List Int)
  | ins (C : Addr) (ns : List Str) (xs : List D)
  | ty (n : String) | cls (C : Addr)
  /-- a set of so many ints -/
  | sz (n : Nat)

/-- what of the text the reading of an instance rests on -/
structure InsK (K : PySem.W.Frag) (C : Addr) (ns : List Str) : Prop where
  cl : Cls K C
  nf : ∀ f ∈ ns, NoAttr K C f
  ha : PySem.W.findIn K (.ref C) "__class__" = some (some (.builtin "object.__class__"))
  hn : PySem.W.specialIn K (.builtin "object.__class__") "__get__" = some (some (.builtin "getset_descriptor.__get__"))
  htk : PySem.W.takesIn K (.builtin "object.__class__") = some true
  hm : PySem.W.mroIn K C (.type "object") = some true
mutual
inductive Rep (K : PySem.W.Frag) (F : Hp) : V → D → Prop
  | non : Rep K F .non .non
  | bl (b : Bool) : Rep K F (.bl b) (.bl b)
  | int (i : Int) : Rep K F (.int i) (.int i)
  | str (x : Str) : Rep K F (.str x) (.str x)
  | tup {a : Addr} {vs : List V} {ds : List D} : SqT K F a vs → Reps K F vs ds → Rep K F (.ref a) (.tup ds)
  | lst {a : Addr} {vs : List V} {ds : List D} : F a = some (.lst vs) → Reps K F vs ds → Rep K F (.ref a) (.lst ds)
  | scr {a : Addr} {ns : List Int} : SqL K F a (ns.map V.int) → Rep K F (.ref a) (.scr ns)
  | ins {a C dx : Addr} {fs : List (Str × V)} {ds : List D} : InsK K C (fs.map (·.1)) → F a = some (.ins C dx fs) → Reps K F (fs.map (·.2)) ds → Rep K F (.ref a) (.ins C (fs.map (·.1)) ds)
  | ty (n : String) : Rep K F (.ty n) (.ty n)
  | cls (C : Addr) : Rep K F (.ref C) (.cls C)
  | sz {a : Addr} {S : Int → Bool} {n : Nat} : F a = some (.set S n) → Rep K F (.ref a) (.sz n)
inductive Reps (K : PySem.W.Frag) (F : Hp) : List V → List D → Prop
  | nil : Reps K F [] []
  | cons {v : V} {d : D} {vs : List V} {ds : List D} : Rep K F v d → Reps K F vs ds → Reps K F (v :: vs) (d :: ds)
end

theorem SqT_mono {K : PySem.W.Frag} {F F' : Hp} (h : Same F F') {a : Addr} {xs : List V} (q : SqT K F a xs) : SqT K F' a xs := by
  rcases q with (q | ⟨o, q⟩) | q
  · exact .inl (.inl (h _ _ q))
  · exact .inl (.inr ⟨o, h _ _ q⟩)
  · exact .inr q

section
variable {K : PySem.W.Frag} {G F0 F F' F'' H H' H'' : Hp}

theorem Rep.mono (h : Same F F') {v : V} {d : D} (r : Rep K F v d) : Rep K F' v d :=
  Rep.rec (motive_1 := fun v d _ => Rep K F' v d) (motive_2 := fun vs ds _ => Reps K F' vs ds)
    .non .bl .int .str (fun q _ ih => .tup (SqT_mono h q) ih) (fun q _ ih => .lst (h _ _ q) ih) (fun q => .scr (h.seq q)) (fun k q _ ih => .ins k (h _ _ q) ih) .ty .cls (fun q => .sz (h _ _ q)) .nil (fun _ _ i1 i2 => .cons i1 i2) r
theorem Reps.mono (h : Same F F') {vs : List V} {ds : List D} (r : Reps K F vs ds) : Reps K F' vs ds :=
  Reps.rec (motive_1 := fun v d _ => Rep K F' v d) (motive_2 := fun vs ds _ => Reps K F' vs ds)
    .non .bl .int .str (fun q _ ih => .tup (SqT_mono h q) ih) (fun q _ ih => .lst (h _ _ q) ih) (fun q => .scr (h.seq q)) (fun k q _ ih => .ins k (h _ _ q) ih) .ty .cls (fun q => .sz (h _ _ q)) .nil (fun _ _ i1 i2 => .cons i1 i2) r

theorem Reps.length : ∀ {vs : List V} {ds : List D}, Reps K F vs ds → vs.length = ds.length
  | [], _, h => by cases h; rfl
  | v :: vs, _, h => by cases h with | cons r t => simp [Reps.length t]
theorem Reps.get : ∀ {vs : List V} {ds : List D} {i : Nat} {d : D}, Reps K F vs ds → ds[i]? = some d → ∃ v, vs[i]? = some v ∧ Rep K F v d
  | [], _, i, d, h, e => by cases h; simp at e
  | v :: vs, _, 0, d, h, e => by
    cases h with | cons r t => simp at e; subst e; exact ⟨v, rfl, r⟩
  | v :: vs, _, i + 1, d, h, e => by
    cases h with | cons r t => simp at e; obtain ⟨w, h1, h2⟩ := Reps.get t e; exact ⟨w, by simpa using h1, h2⟩
theorem Reps.getV : ∀ {vs : List V} {ds : List D} {i : Nat} {v : V}, Reps K F vs ds → vs[i]? = some v → ∃ d, ds[i]? = some d ∧ Rep K F v d
  | [], _, i, d, h, e => by cases h; simp at e
  | v :: vs, _, 0, d, h, e => by
    cases h with | cons r t => simp at e; subst e; exact ⟨_, rfl, r⟩
  | v :: vs, _, i + 1, d, h, e => by
    cases h with | cons r t => simp at e; obtain ⟨w, h1, h2⟩ := Reps.getV t e; exact ⟨w, by simpa using h1, h2⟩
theorem Reps.append : ∀ {vs ws : List V} {ds es : List D}, Reps K F vs ds → Reps K F ws es → Reps K F (vs ++ ws) (ds ++ es)
  | [], _, _, _, h, h2 => by cases h; exact h2
  | v :: vs, _, _, _, h, h2 => by cases h with | cons r t => exact .cons r (Reps.append t h2)
theorem Reps.take : ∀ {vs : List V} {ds : List D} (n : Nat), Reps K F vs ds → Reps K F (vs.take n) (ds.take n)
  | [], _, n, h => by cases h; simp; exact .nil
  | v :: vs, _, 0, h => by simp; exact .nil
  | v :: vs, _, n + 1, h => by cases h with | cons r t => exact .cons r (Reps.take n t)
theorem Reps.drop : ∀ {vs : List V} {ds : List D} (n : Nat), Reps K F vs ds → Reps K F (vs.drop n) (ds.drop n)
  | [], _, n, h => by cases h; simp; exact .nil
  | v :: vs, _, 0, h => h
  | v :: vs, _, n + 1, h => by cases h with | cons r t => exact Reps.drop n t
theorem Reps.set : ∀ {vs : List V} {ds : List D} {v : V} {d : D} (n : Nat), Reps K F vs ds → Rep K F v d → Reps K F (vs.set n v) (ds.set n d)
  | [], _, _, _, n, h, _ => by cases h; simp; exact .nil
  | v :: vs, _, _, _, 0, h, q => by cases h with | cons r t => exact .cons q t
  | v :: vs, _, _, _, n + 1, h, q => by cases h with | cons r t => exact .cons r (Reps.set n t q)
theorem Reps.one {v : V} {d : D} (r : Rep K F v d) : Reps K F [v] [d] := .cons r .nil
theorem Reps.nil_iff {vs : List V} {ds : List D} (h : Reps K F vs ds) : vs = [] ↔ ds = [] := by
  have e := h.length
  constructor <;> intro q <;> subst q
  · cases h; rfl
  · cases h; rfl
theorem Reps.ints : ∀ {vs : List V} {ns : List Int}, Reps K F vs (ns.map D.int) → vs = ns.map V.int
  | [], [], _ => rfl
  | [], _ :: _, h => by cases h
  | v :: vs, [], h => by cases h
  | v :: vs, n :: ns, h => by
    cases h with | cons r t => cases r; rw [Reps.ints t]; rfl
theorem Reps.bls : ∀ {vs : List V} {ns : List Bool}, Reps K F vs (ns.map D.bl) → vs = ns.map V.bl
  | [], [], _ => rfl
  | [], _ :: _, h => by cases h
  | v :: vs, [], h => by cases h
  | v :: vs, n :: ns, h => by
    cases h with | cons r t => cases r; rw [Reps.bls t]; rfl
theorem Reps.of_ints : ∀ (ns : List Int), Reps K F (ns.map V.int) (ns.map D.int)
  | [] => .nil
  | n :: ns => .cons (.int n) (Reps.of_ints ns)

/-- values that hold no address -/
def flat : D → Prop
  | .non => True | .bl _ => True | .int _ => True | .str _ => True | _ => False
theorem Rep.flat_any {v : V} {d : D} (h : flat d) (r : Rep K F v d) : Rep K F' v d := by
  cases r with
  | non => exact .non
  | bl b => exact .bl b
  | int i => exact .int i
  | str x => exact .str x
  | tup _ _ => exact h.elim
  | lst _ _ => exact h.elim
  | scr _ => exact h.elim
  | ins _ _ _ => exact h.elim
  | ty _ => exact h.elim
  | cls _ => exact h.elim
  | sz _ => exact h.elim

/-- from (F, H) on: all that was tracked stays, F grows by new addresses alone -/
structure Ext (F H F' H' : Hp) : Prop where
  fF : Same F F'
  hH : Same H H'
  fh : Same F' H'
  nw : ∀ a, H a ≠ none → F' a = F a
theorem Ext.refl (h : Same F H) : Ext F H F H := ⟨Same.refl _, Same.refl _, h, fun _ _ => rfl⟩
theorem _root_.L2.Same.ne {a : Addr} (h : Same H H') (n : H a ≠ none) : H' a ≠ none := by
  cases e : H a with
  | none => exact absurd e n
  | some o => rw [h _ _ e]; exact fun z => nomatch z
theorem Ext.trans (a : Ext F H F' H') (b : Ext F' H' F'' H'') : Ext F H F'' H'' :=
  ⟨a.fF.trans b.fF, a.hH.trans b.hH, b.fh, fun x h => (b.nw x (a.hH.ne h)).trans (a.nw x h)⟩
theorem same_upd {H : Hp} {p : Addr} {o : HO} (h : H p = none) : Same H (upd H p o) := fun b x e => by
  rw [upd_ne (ne_of_none e h)]; exact e
theorem _root_.L2.Same.at_none {a : Addr} (h : Same H H') (n : H' a = none) : H a = none := by
  cases e : H a with
  | none => rfl
  | some o => rw [h _ _ e] at n; cases n
theorem Ext.alloc {p : Addr} {o : HO} (hf : Same F H) (h : H p = none) : Ext F H (upd F p o) (upd H p o) where
  fF := same_upd (hf.at_none h)
  hH := same_upd h
  fh := fun b x e => by
    by_cases hb : b = p
    · subst hb; rw [upd_same] at e ⊢; exact e
    · rw [upd_ne hb] at e ⊢; exact hf _ _ e
  nw := fun a n => by
    have : a ≠ p := fun e => n (e ▸ h)
    rw [upd_ne this]

/-- a value that is read: data, or a list whose items are data (it may be changed later) -/
def BRep (K : PySem.W.Frag) (F H : Hp) (v : V) (d : D) : Prop :=
  Rep K F v d ∨ ∃ a vs ds, v = .ref a ∧ d = .lst ds ∧ H a = some (.lst vs) ∧ Reps K F vs ds
theorem BRep.ext {v : V} {d : D} (h : Same F F') (h2 : Same H H') (r : BRep K F H v d) : BRep K F' H' v d := by
  rcases r with r | ⟨a, vs, ds, e1, e2, e3, e4⟩
  · exact .inl (r.mono h)
  · exact .inr ⟨a, vs, ds, e1, e2, h2 _ _ e3, e4.mono h⟩
theorem BRep.rep (hf : Same F H) {v : V} {d : D} (r : BRep K F H v d) : Rep K H v d := by
  rcases r with r | ⟨a, vs, ds, rfl, rfl, e3, e4⟩
  · exact r.mono hf
  · exact .lst e3 (e4.mono hf)
theorem BRep.lst (hf : Same F H) {v : V} {ds : List D} (r : BRep K F H v (.lst ds)) : ∃ a vs, v = .ref a ∧ H a = some (.lst vs) ∧ Reps K F vs ds := by
  rcases r with r | ⟨a, vs, ds, rfl, e, e3, e4⟩
  · cases r with | lst h q => exact ⟨_, _, rfl, hf _ _ h, q⟩
  · cases e; exact ⟨a, vs, rfl, e3, e4⟩
theorem BRep.int {v : V} {i : Int} (r : BRep K F H v (.int i)) : v = .int i := by
  rcases r with r | ⟨a, vs, ds, rfl, e, _, _⟩
  · cases r; rfl
  · cases e
theorem BRep.bl {v : V} {i : Bool} (r : BRep K F H v (.bl i)) : v = .bl i := by
  rcases r with r | ⟨a, vs, ds, rfl, e, _, _⟩
  · cases r; rfl
  · cases e
theorem BRep.str {v : V} {i : Str} (r : BRep K F H v (.str i)) : v = .str i := by
  rcases r with r | ⟨a, vs, ds, rfl, e, _, _⟩
  · cases r; rfl
  · cases e
theorem BRep.non {v : V} (r : BRep K F H v .non) : v = .non := by
  rcases r with r | ⟨a, vs, ds, rfl, e, _, _⟩
  · cases r; rfl
  · cases e
theorem BRep.tup (hf : Same F H) {v : V} {ds : List D} (r : BRep K F H v (.tup ds)) : ∃ a vs, v = .ref a ∧ SqT K H a vs ∧ Reps K F vs ds ∧ SqT K F a vs := by
  rcases r with r | ⟨a, vs, ds, rfl, e, _, _⟩
  · cases r with | tup h q => exact ⟨_, _, rfl, SqT_mono hf h, q, h⟩
  · cases e
theorem BRep.scr (hf : Same F H) {v : V} {ns : List Int} (r : BRep K F H v (.scr ns)) : ∃ a, v = .ref a ∧ SqL K H a (ns.map V.int) := by
  rcases r with r | ⟨a, vs, ds, rfl, e, _, _⟩
  · cases r with | scr h => exact ⟨_, rfl, hf.seq h⟩
  · cases e

/-! ### slots -/
/-- what one owns: a list, an object (its class, its attributes by name) -/
inductive OC where
  | l (ds : List D) | o (p C : Addr) (ns : List Str) (xs : List D)
instance : Coe (List D) OC := ⟨OC.l⟩
inductive Sl where
  | un | v (d : D) | own (c : OC)
def OcR (K : PySem.W.Frag) (F : Hp) (a : Addr) : OC → HO → Prop
  | .l ds, .lst vs => Reps K F vs ds
  | .o p C ns xs, .ins C' _ fs => a = p ∧ C' = C ∧ fs.map (·.1) = ns ∧ Reps K F (fs.map (·.2)) xs
  | _, _ => False
theorem OcR.mono {K : PySem.W.Frag} {F F' : Hp} {a : Addr} {c : OC} {o : HO} (r : OcR K F a c o) (h : Same F F') : OcR K F' a c o := by
  cases c with
  | l ds => cases o <;> first | exact Reps.mono h r | exact r
  | o p C ns xs => cases o <;> first | exact ⟨r.1, r.2.1, r.2.2.1, Reps.mono h r.2.2.2⟩ | exact r
theorem OcR.lst {K : PySem.W.Frag} {F : Hp} {a : Addr} {ds : List D} {o : HO} (r : OcR K F a (.l ds) o) : ∃ vs, o = .lst vs ∧ Reps K F vs ds := by
  cases o <;> first | exact ⟨_, rfl, r⟩ | exact r.elim
theorem OcR.ins {K : PySem.W.Frag} {F : Hp} {a p C : Addr} {ns : List Str} {xs : List D} {o : HO} (r : OcR K F a (.o p C ns xs) o) : ∃ dx fs, o = .ins C dx fs ∧ a = p ∧ fs.map (·.1) = ns ∧ Reps K F (fs.map (·.2)) xs := by
  cases o <;> first | (obtain ⟨rfl, rfl, h1, h2⟩ := r; exact ⟨_, _, rfl, rfl, h1, h2⟩) | exact r.elim
abbrev En := List Sl
/-- what a slot holds -/
def _root_.L2.St.at (σ : L2.St) (i : Nat) : Option V := (σ[i]?).join
def SlOk (K : PySem.W.Frag) (F H : Hp) : Sl → Option V → Prop
  | .un, _ => True
  | .v d, o => ∃ v, o = some v ∧ Rep K F v d
  | .own c, o => ∃ a ho, o = some (V.ref a) ∧ F a = none ∧ H a = some ho ∧ OcR K F a c ho
structure StOk (K : PySem.W.Frag) (G F0 F H : Hp) (env : En) (σ : L2.St) : Prop where
  fh : Same F H
  gh : Same G H
  ff : Same F0 F
  nw : ∀ a, G a ≠ none → F a = F0 a
  len : env.length = σ.length
  sl : ∀ (i : Nat) (s : Sl), env[i]? = some s → SlOk K F H s ((L2.St.at σ i))
  og : ∀ (i : Nat) (ds : OC) (a : Addr), env[i]? = some (Sl.own ds) → (L2.St.at σ i) = some (V.ref a) → G a = none
  inj : ∀ (i j : Nat) (ds es : OC) (a : Addr), env[i]? = some (Sl.own ds) → env[j]? = some (Sl.own es) → (L2.St.at σ i) = some (V.ref a) → (L2.St.at σ j) = some (V.ref a) → i = j
variable {env env' : En} {σ : L2.St}
theorem SlOk.ext {s : Sl} {o : Option V} (x : Ext F H F' H') (h : SlOk K F H s o) : SlOk K F' H' s o := by
  cases s with
  | un => trivial
  | v d => obtain ⟨v, e, r⟩ := h; exact ⟨v, e, r.mono x.fF⟩
  | own ds =>
    obtain ⟨a, vs, e, n, h1, r⟩ := h
    refine ⟨a, vs, e, ?_, x.hH _ _ h1, r.mono x.fF⟩
    rw [x.nw a (by rw [h1]; exact fun z => nomatch z)]; exact n
theorem StOk.ext (k : StOk K G F0 F H env σ) (x : Ext F H F' H') : StOk K G F0 F' H' env σ where
  fh := x.fh
  gh := k.gh.trans x.hH
  ff := k.ff.trans x.fF
  nw := fun a n => (x.nw a (k.gh.ne n)).trans (k.nw a n)
  len := k.len
  sl := fun i s e => (k.sl i s e).ext x
  og := k.og
  inj := k.inj
theorem StOk.toExt (k : StOk K G F0 F H env σ) : Ext F0 G F H := ⟨k.ff, k.gh, k.fh, k.nw⟩
/-- the address is that of no owned list -/
def NotOwn (env : En) (σ : L2.St) (a : Addr) : Prop := ∀ (i : Nat) (ds : OC), env[i]? = some (Sl.own ds) → (L2.St.at σ i) ≠ some (V.ref a)
theorem StOk.notOwn_new (k : StOk K G F0 F H env σ) {a : Addr} (n : H a = none) : NotOwn env σ a := fun i ds e z => by
  obtain ⟨b, vs, e1, _, e3, _⟩ := k.sl i _ e
  rw [z] at e1; cases e1; rw [n] at e3; cases e3
/-- an untracked-for-G list at a is frozen -/
theorem StOk.freezeAt (k : StOk K G F0 F H env σ) {a : Addr} {vs : List V} (hF : F a = none) (hH : H a = some (.lst vs)) (hG : G a = none) (no : NotOwn env σ a) : StOk K G F0 (upd F a (.lst vs)) H env σ := by
  have sF : Same F (upd F a (.lst vs)) := same_upd hF
  refine ⟨fun b o e => ?_, k.gh, k.ff.trans sF, fun b n => ?_, k.len, fun i s e => ?_, k.og, k.inj⟩
  · by_cases hb : b = a
    · subst hb; rw [upd_same] at e; rw [hH]; exact e
    · rw [upd_ne hb] at e; exact k.fh _ _ e
  · have : b ≠ a := fun z => n (z ▸ hG)
    rw [upd_ne this]; exact k.nw b n
  · have h := k.sl i s e
    cases s with
    | un => trivial
    | v d => obtain ⟨v, e1, r⟩ := h; exact ⟨v, e1, r.mono sF⟩
    | own ds =>
      obtain ⟨b, ws, e1, n, h1, r⟩ := h
      have : b ≠ a := fun z => no i ds e (by rw [e1, z])
      exact ⟨b, ws, e1, by rw [upd_ne this]; exact n, h1, r.mono sF⟩
theorem getElem?_set_some {α : Type} {l : List α} {i j : Nat} {x y : α} (e : (l.set i x)[j]? = some y) : (j = i ∧ y = x ∧ i < l.length) ∨ (j ≠ i ∧ l[j]? = some y) := by
  by_cases h : j = i
  · subst h
    by_cases hl : j < l.length
    · rw [List.getElem?_set_self hl] at e; exact .inl ⟨rfl, (Option.some.inj e).symm, hl⟩
    · rw [List.getElem?_eq_none (by simpa using hl)] at e; cases e
  · rw [List.getElem?_set_ne (Ne.symm h)] at e; exact .inr ⟨h, e⟩
theorem at_set {σ : L2.St} {i : Nat} {o : Option V} (h : i < σ.length) : L2.St.at (σ.set i o) i = o := by
  unfold L2.St.at; rw [List.getElem?_set_self h]; rfl
theorem at_set_ne {σ : L2.St} {i j : Nat} {o : Option V} (h : j ≠ i) : L2.St.at (σ.set i o) j = L2.St.at σ j := by
  unfold L2.St.at; rw [List.getElem?_set_ne (Ne.symm h)]
theorem set_none {α : Type} {l : List α} {i j : Nat} {x : α} (h : j ≠ i) : (l.set i x)[j]? = l[j]? := List.getElem?_set_ne (Ne.symm h)
theorem StOk.setV (k : StOk K G F0 F H env σ) {v : V} {d : D} (i : Nat) (r : Rep K F v d) : StOk K G F0 F H (env.set i (.v d)) (σ.set i (some v)) where
  fh := k.fh
  gh := k.gh
  ff := k.ff
  nw := k.nw
  len := by simp [k.len]
  sl := fun j s e => by
    rcases getElem?_set_some e with ⟨rfl, rfl, hl⟩ | ⟨h, e⟩
    · rw [at_set (by rw [← k.len]; exact hl)]; exact ⟨v, rfl, r⟩
    · rw [at_set_ne h]; exact k.sl j s e
  og := fun j ds a e => by
    rcases getElem?_set_some e with ⟨rfl, e, hl⟩ | ⟨h, e⟩
    · cases e
    · rw [at_set_ne h]; exact k.og j ds a e
  inj := fun j j' ds es a e e' => by
    rcases getElem?_set_some e with ⟨rfl, e, hl⟩ | ⟨h, e⟩
    · cases e
    · rcases getElem?_set_some e' with ⟨rfl, e', hl⟩ | ⟨h', e'⟩
      · cases e'
      · rw [at_set_ne h, at_set_ne h']; exact k.inj j j' ds es a e e'
theorem StOk.setC (k : StOk K G F0 F H env σ) {a : Addr} {ho : HO} {c : OC} (i : Nat) (hF : F a = none) (hH : H a = some ho) (hG : G a = none) (no : NotOwn env σ a) (r : OcR K F a c ho) :
    StOk K G F0 F H (env.set i (.own c)) (σ.set i (some (V.ref a))) where
  fh := k.fh
  gh := k.gh
  ff := k.ff
  nw := k.nw
  len := by simp [k.len]
  sl := fun j s e => by
    rcases getElem?_set_some e with ⟨rfl, rfl, hl⟩ | ⟨h, e⟩
    · rw [at_set (by rw [← k.len]; exact hl)]; exact ⟨a, ho, rfl, hF, hH, r⟩
    · rw [at_set_ne h]; exact k.sl j s e
  og := fun j es b e => by
    rcases getElem?_set_some e with ⟨rfl, e, hl⟩ | ⟨h, e⟩
    · rw [at_set (by rw [← k.len]; exact hl)]
      intro z; cases z; exact hG
    · rw [at_set_ne h]; exact k.og j es b e
  inj := fun j j' ds es b e e' => by
    rcases getElem?_set_some e with ⟨q, _, hl⟩ | ⟨h, e1⟩
    · rcases getElem?_set_some e' with ⟨q', _, hl'⟩ | ⟨h', e1'⟩
      · intros; exact q.trans q'.symm
      · rw [at_set_ne h', q, at_set (by rw [← k.len]; exact hl)]
        intro z z'; cases z; exact absurd z' (no j' _ e1')
    · rcases getElem?_set_some e' with ⟨q', _, hl'⟩ | ⟨h', e1'⟩
      · rw [at_set_ne h, q', at_set (by rw [← k.len]; exact hl')]
        intro z z'; cases z'; exact absurd z (no j _ e1)
      · rw [at_set_ne h, at_set_ne h']; exact k.inj j j' ds es b e1 e1'
theorem StOk.setN (k : StOk K G F0 F H env σ) {a : Addr} {vs : List V} {ds : List D} (i : Nat) (hF : F a = none) (hH : H a = some (.lst vs)) (hG : G a = none) (no : NotOwn env σ a) (r : Reps K F vs ds) :
    StOk K G F0 F H (env.set i (.own (.l ds))) (σ.set i (some (V.ref a))) := k.setC i hF hH hG no r
/-- what a slot owns is changed -/
theorem StOk.writeC (k : StOk K G F0 F H env σ) {i : Nat} {ds es : OC} {a : Addr} {ho : HO} (e : env[i]? = some (Sl.own ds)) (ea : (L2.St.at σ i) = some (V.ref a)) (r : OcR K F a es ho) :
    StOk K G F0 F (upd H a ho) (env.set i (.own es)) σ := by
  obtain ⟨b, vs, e1, hF, hH, _⟩ := k.sl i _ e
  rw [ea] at e1; cases e1
  have hG := k.og i ds a e ea
  have hl : i < env.length := by
    rcases Nat.lt_or_ge i env.length with h | h
    · exact h
    · rw [List.getElem?_eq_none h] at e; cases e
  refine ⟨fun b o q => ?_, fun b o q => ?_, k.ff, k.nw, by simp [k.len], fun j s q => ?_, fun j ys b q => ?_, fun j j' ys zs b q q' => ?_⟩
  · rw [upd_ne (ne_of_none q hF)]; exact k.fh _ _ q
  · rw [upd_ne (ne_of_none q hG)]; exact k.gh _ _ q
  · rcases getElem?_set_some q with ⟨rfl, rfl, _⟩ | ⟨h, q⟩
    · exact ⟨a, ho, ea, hF, upd_same, r⟩
    · have hs := k.sl j s q
      cases s with
      | un => trivial
      | v d => exact hs
      | own ys =>
        obtain ⟨b, vs', e1, n, h1, r'⟩ := hs
        have : b ≠ a := fun z => h (k.inj j i ys _ a q e (by rw [e1, z]) ea)
        exact ⟨b, vs', e1, n, by rw [upd_ne this]; exact h1, r'⟩
  · rcases getElem?_set_some q with ⟨rfl, _, _⟩ | ⟨h, q⟩
    · exact k.og j ds b e
    · exact k.og j ys b q
  · rcases getElem?_set_some q with ⟨z, _, _⟩ | ⟨h, q1⟩
    · rcases getElem?_set_some q' with ⟨z', _, _⟩ | ⟨h', q1'⟩
      · intros; exact z.trans z'.symm
      · rw [z]; exact k.inj i j' ds zs b e q1'
    · rcases getElem?_set_some q' with ⟨z', _, _⟩ | ⟨h', q1'⟩
      · rw [z']; exact k.inj j i ys ds b q1 e
      · exact k.inj j j' ys zs b q1 q1'
theorem StOk.write (k : StOk K G F0 F H env σ) {i : Nat} {ds es : List D} {a : Addr} {ws : List V} (e : env[i]? = some (Sl.own (.l ds))) (ea : (L2.St.at σ i) = some (V.ref a)) (r : Reps K F ws es) :
    StOk K G F0 F (upd H a (.lst ws)) (env.set i (.own (.l es))) σ := k.writeC e ea r
/-- a slot is forgotten -/
theorem StOk.weakEnv (k : StOk K G F0 F H env σ) (hl : env'.length = env.length) (h : ∀ (i : Nat) (s : Sl), env'[i]? = some s → s = .un ∨ env[i]? = some s) : StOk K G F0 F H env' σ where
  fh := k.fh
  gh := k.gh
  ff := k.ff
  nw := k.nw
  len := by rw [hl, k.len]
  sl := fun j s e => by
    rcases h j s e with rfl | e'
    · trivial
    · exact k.sl j s e'
  og := fun j ds a e => by
    rcases h j _ e with z | e'
    · cases z
    · exact k.og j ds a e'
  inj := fun j j' ds es b e e' => by
    rcases h j _ e with z | e1
    · cases z
    · rcases h j' _ e' with z | e2
      · cases z
      · exact k.inj j j' ds es b e1 e2
theorem StOk.freeze (k : StOk K G F0 F H env σ) {i : Nat} {ds : List D} (e : env[i]? = some (Sl.own (.l ds))) :
    ∃ a vs, (L2.St.at σ i) = some (V.ref a) ∧ H a = some (.lst vs) ∧ Reps K F vs ds ∧ Same F (upd F a (.lst vs)) ∧ StOk K G F0 (upd F a (.lst vs)) H (env.set i (.v (.lst ds))) σ := by
  obtain ⟨a, ho, ea, hF, hH, r⟩ := k.sl i _ e
  obtain ⟨vs, rfl, r⟩ := r.lst
  have hG := k.og i _ a e ea
  have sF : Same F (upd F a (.lst vs)) := same_upd hF
  refine ⟨a, vs, ea, hH, r, sF, fun b o q => ?_, k.gh, k.ff.trans sF, fun b n => ?_, by simp [k.len], fun j s q => ?_, fun j ys b q => ?_, fun j j' ys zs b q q' => ?_⟩
  · by_cases hb : b = a
    · subst hb; rw [upd_same] at q; rw [hH]; exact q
    · rw [upd_ne hb] at q; exact k.fh _ _ q
  · have : b ≠ a := fun z => n (z ▸ hG)
    rw [upd_ne this]; exact k.nw b n
  · rcases getElem?_set_some q with ⟨rfl, rfl, _⟩ | ⟨h, q⟩
    · exact ⟨_, ea, .lst upd_same (r.mono sF)⟩
    · have hs := k.sl j s q
      cases s with
      | un => trivial
      | v d => obtain ⟨v, e1, r'⟩ := hs; exact ⟨v, e1, r'.mono sF⟩
      | own ys =>
        obtain ⟨b, vs', e1, n, h1, r'⟩ := hs
        have : b ≠ a := fun z => h (k.inj j i ys _ a q e (by rw [e1, z]) ea)
        exact ⟨b, vs', e1, by rw [upd_ne this]; exact n, h1, r'.mono sF⟩
  · rcases getElem?_set_some q with ⟨rfl, z, _⟩ | ⟨h, q⟩
    · cases z
    · exact k.og j ys b q
  · rcases getElem?_set_some q with ⟨rfl, z, _⟩ | ⟨h, q⟩
    · cases z
    · rcases getElem?_set_some q' with ⟨rfl, z, _⟩ | ⟨h', q'⟩
      · cases z
      · exact k.inj j j' ys zs b q q'
end
end DL

namespace DL
open PySem PySem.Spec PyProof.Rows L2

/-! ### readings over data -/
abbrev RE := En → (D → En → Prop) → Prop
abbrev RN := En → (List D → En → Prop) → Prop
abbrev RT := En → (Bool → En → Prop) → Prop
def MonoQ {α : Type} (m : En → (α → En → Prop) → Prop) : Prop := ∀ (env : En) (Q Q' : α → En → Prop), (∀ d e, Q d e → Q' d e) → m env Q → m env Q'
/-- what stands behind an expression's evaluation -/
structure Af (K : PySem.W.Frag) (G F0 : Hp) (F H : Hp) (σ : L2.St) (F' H' : Hp) (env' : En) : Prop where
  hH : Same H H'
  fF : Same F F'
  ok : StOk K G F0 F' H' env' σ
def tM (K : PySem.W.Frag) (G F0 : Hp) (m : RE) : TE := fun σ H Q => ∃ F env, StOk K G F0 F H env σ ∧ m env fun d env' => ∀ v F' H', Af K G F0 F H σ F' H' env' → Rep K F' v d → Q v H'
def tBo (K : PySem.W.Frag) (G F0 : Hp) (m : RE) : TE := fun σ H Q => ∃ F env, StOk K G F0 F H env σ ∧ m env fun d env' => ∀ v F' H', Af K G F0 F H σ F' H' env' → BRep K F' H' v d → Q v H'
def tN (K : PySem.W.Frag) (G F0 : Hp) (m : RN) : TE := fun σ H Q => ∃ F env, StOk K G F0 F H env σ ∧ m env fun ds env' => ∀ a vs F' H', Af K G F0 F H σ F' H' env' → H' a = some (.lst vs) → F' a = none → G a = none → NotOwn env' σ a → Reps K F' vs ds → Q (.ref a) H'
def tTe (K : PySem.W.Frag) (G F0 : Hp) (m : RT) : TT := fun σ H Q => ∃ F env, StOk K G F0 F H env σ ∧ m env fun b env' => ∀ F' H', Af K G F0 F H σ F' H' env' → Q b H'
def tAr (K : PySem.W.Frag) (G F0 : Hp) (m : RN) : TA := fun σ H Q => ∃ F env, StOk K G F0 F H env σ ∧ m env fun ds env' => ∀ vs F' H', Af K G F0 F H σ F' H' env' → Reps K F' vs ds → Q vs H'
/-- arguments that are only read -/
inductive BReps (K : PySem.W.Frag) (F H : Hp) : List V → List D → Prop
  | nil : BReps K F H [] []
  | cons {v : V} {d : D} {vs : List V} {ds : List D} : BRep K F H v d → BReps K F H vs ds → BReps K F H (v :: vs) (d :: ds)
def tAb (K : PySem.W.Frag) (G F0 : Hp) (m : RN) : TA := fun σ H Q => ∃ F env, StOk K G F0 F H env σ ∧ m env fun ds env' => ∀ vs F' H', Af K G F0 F H σ F' H' env' → BReps K F' H' vs ds → Q vs H'

structure EE (X : Cx) (e : Expr) (m : RE) : Prop where
  mono : MonoQ m
  pe : ∀ G F0, PE X e (tM X.K G F0 m)
structure EB (X : Cx) (e : Expr) (m : RE) : Prop where
  mono : MonoQ m
  pe : ∀ G F0, PE X e (tBo X.K G F0 m)
structure EN (X : Cx) (e : Expr) (m : RN) : Prop where
  mono : MonoQ m
  pe : ∀ G F0, PE X e (tN X.K G F0 m)
structure ET (X : Cx) (e : Expr) (m : RT) : Prop where
  mono : MonoQ m
  pe : ∀ G F0, PT X e (tTe X.K G F0 m)
structure EW (X : Cx) (e : Expr) (m : RT) : Prop where
  mono : MonoQ m
  pe : ∀ G F0, PW X e (tTe X.K G F0 m)
structure EA (X : Cx) (es : List Expr) (m : RN) : Prop where
  mono : MonoQ m
  pe : ∀ G F0, PA X es (tAr X.K G F0 m)
structure EAb (X : Cx) (es : List Expr) (m : RN) : Prop where
  mono : MonoQ m
  pe : ∀ G F0, PA X es (tAb X.K G F0 m)

theorem PE_imp {X : Cx} {e : Expr} {t t' : TE} (h : PE X e t) (i : ∀ σ H Q, t' σ H Q → t σ H Q) : PE X e t' := ⟨fun pins s σ H Q I q => h.run pins s σ H Q I (i σ H Q q)⟩
theorem PT_imp {X : Cx} {e : Expr} {t t' : TT} (h : PT X e t) (i : ∀ σ H Q, t' σ H Q → t σ H Q) : PT X e t' := ⟨fun pins s σ H Q I q => h.run pins s σ H Q I (i σ H Q q)⟩
theorem PW_imp {X : Cx} {e : Expr} {t t' : TT} (h : PW X e t) (i : ∀ σ H Q, t' σ H Q → t σ H Q) : PW X e t' := ⟨fun wh pins s σ H Q I q => h.run wh pins s σ H Q I (i σ H Q q)⟩
theorem PA_imp {X : Cx} {es : List Expr} {t t' : TA} (h : PA X es t) (i : ∀ σ H Q, t' σ H Q → t σ H Q) : PA X es t' := ⟨fun pos pins s σ H Q I q => h.run pos pins s σ H Q I (i σ H Q q)⟩
theorem PS_imp {X : Cx} {e : Stmt} {t t' : TS} (h : PS X e t) (i : ∀ D σ H, t' D σ H → t D σ H) : PS X e t' := ⟨fun pins s σ H D I q => h.run pins s σ H D I (i D σ H q)⟩
theorem PSs_imp {X : Cx} {e : List Stmt} {t t' : TS} (h : PSs X e t) (i : ∀ D σ H, t' D σ H → t D σ H) : PSs X e t' := ⟨fun pins s σ H D I q => h.run pins s σ H D I (i D σ H q)⟩
theorem PE_of_run {X : Cx} {e : Expr} {t : TE} (h : ∀ pins s σ H Q, Inv X pins σ H s → t σ H Q → wpAny (model X.prog X.w) X.A (eval e X.env) (EP X pins σ Q) X.xe s) : PE X e t := ⟨h⟩

section
variable {K : PySem.W.Frag} {G F0 F F' F'' H H' H'' : Hp} {env env' env'' : En} {σ : L2.St}
theorem Af.refl (k : StOk K G F0 F H env σ) : Af K G F0 F H σ F H env := ⟨Same.refl _, Same.refl _, k⟩
theorem Af.trans (a : Af K G F0 F H σ F' H' env') (b : Af K G F0 F' H' σ F'' H'' env'') : Af K G F0 F H σ F'' H'' env'' := ⟨a.hH.trans b.hH, a.fF.trans b.fF, b.ok⟩
theorem Af.ext (a : Af K G F0 F H σ F' H' env') (x : Ext F' H' F'' H'') : Af K G F0 F H σ F'' H'' env' := ⟨a.hH.trans x.hH, a.fF.trans x.fF, a.ok.ext x⟩
theorem BReps.ext {vs : List V} {ds : List D} (h : Same F F') (h2 : Same H H') (r : BReps K F H vs ds) : BReps K F' H' vs ds := by
  induction r with
  | nil => exact .nil
  | cons r _ ih => exact .cons (r.ext h h2) ih
theorem BReps.reps {vs : List V} {ds : List D} (hf : Same F H) (r : BReps K F H vs ds) : Reps K H vs ds := by
  induction r with
  | nil => exact .nil
  | cons r _ ih => exact .cons (r.rep hf) ih
theorem BReps.length {vs : List V} {ds : List D} (r : BReps K F H vs ds) : vs.length = ds.length := by
  induction r with
  | nil => rfl
  | cons r _ ih => simp [ih]
end

/-! ### conversions -/
section
variable {X : Cx} {e : Expr}
theorem EE.b {m : RE} (h : EE X e m) : EB X e m where
  mono := h.mono
  pe := fun G F0 => PE_imp (h.pe G F0) fun σ H Q ⟨F, env, k, q⟩ => ⟨F, env, k, h.mono _ _ _ (fun d e f v F' H' a r => f v F' H' a (.inl r)) q⟩
/-- a new list, frozen at once -/
def rFz (m : RN) : RE := fun env Q => m env fun ds e => Q (.lst ds) e
theorem rFz_mono {m : RN} (h : MonoQ m) : MonoQ (rFz m) := fun env Q Q' i => h env _ _ fun ds e => i _ e
theorem EN.fz {m : RN} (h : EN X e m) : EE X e (rFz m) where
  mono := rFz_mono h.mono
  pe := fun G F0 => PE_imp (h.pe G F0) fun σ H Q ⟨F, env, k, q⟩ => ⟨F, env, k, h.mono _ _ _ (fun ds e f a vs F' H' af hH hF hG no r =>
    f (.ref a) (upd F' a (.lst vs)) H' ⟨af.hH, af.fF.trans (same_upd hF), af.ok.freezeAt hF hH hG no⟩ (.lst upd_same (r.mono (same_upd hF)))) q⟩
theorem EN.b {m : RN} (h : EN X e m) : EB X e (rFz m) where
  mono := rFz_mono h.mono
  pe := fun G F0 => PE_imp (h.pe G F0) fun σ H Q ⟨F, env, k, q⟩ => ⟨F, env, k, h.mono _ _ _ (fun ds e f a vs F' H' af hH hF hG no r =>
    f (.ref a) F' H' af (.inr ⟨a, vs, ds, rfl, rfl, hH, r⟩)) q⟩
end

/-! ### names -/
def eg : En → Nat → Sl
  | [], _ => .un
  | s :: _, 0 => s
  | _ :: r, i + 1 => eg r i
theorem eg_get : ∀ {env : En} {i : Nat}, eg env i ≠ .un → env[i]? = some (eg env i)
  | [], _, h => absurd rfl h
  | s :: _, 0, _ => rfl
  | _ :: r, i + 1, h => by
    have h' : eg r i ≠ .un := h
    simpa [eg] using eg_get h'
def es : En → Nat → Sl → En
  | [], _, _ => []
  | _ :: r, 0, s => s :: r
  | x :: r, i + 1, s => x :: es r i s
theorem es_eq : ∀ (env : En) (i : Nat) (s : Sl), es env i s = env.set i s
  | [], _, _ => rfl
  | _ :: _, 0, _ => rfl
  | x :: r, i + 1, s => by rw [es, es_eq r i s]; rfl
def rVar (i : Nat) : RE := fun env Q => match eg env i with
  | .v d => Q d env
  | .own (.l ds) => Q (.lst ds) (es env i (.v (.lst ds)))
  | _ => False
def rVarB (i : Nat) : RE := fun env Q => match eg env i with
  | .v d => Q d env
  | .own (.l ds) => Q (.lst ds) env
  | _ => False
theorem rVar_mono (i : Nat) : MonoQ (rVar i) := fun env Q Q' h q => by
  unfold rVar at q ⊢
  split at q <;> first | exact h _ _ q | exact q
theorem rVarB_mono (i : Nat) : MonoQ (rVarB i) := fun env Q Q' h q => by
  unfold rVarB at q ⊢
  split at q <;> first | exact h _ _ q | exact q
section
variable {X : Cx} {x : Str} {pos : Pos}
theorem at_some {σ : L2.St} {i : Nat} {v : V} (h : L2.St.at σ i = some v) : σ[i]? = some (some v) := by
  unfold L2.St.at at h
  cases e : σ[i]? with
  | none => rw [e] at h; cases h
  | some o => rw [e] at h; cases o with
    | none => cases h
    | some w => exact congrArg some h
theorem ee_var {i : Nat} (hp : PE X (.Name x pos) (tVar i)) : EE X (.Name x pos) (rVar i) where
  mono := rVar_mono i
  pe := fun G F0 => PE_imp hp fun σ H Q ⟨F, env, k, q⟩ => by
    unfold rVar at q
    split at q
    · rename_i d e
      have g := eg_get (env := env) (i := i) (by rw [e]; exact fun z => nomatch z)
      rw [e] at g
      obtain ⟨v, ev, r⟩ := k.sl i _ g
      exact ⟨v, at_some ev, q v F H (Af.refl k) r⟩
    · rename_i ds e
      have g := eg_get (env := env) (i := i) (by rw [e]; exact fun z => nomatch z)
      rw [e] at g
      obtain ⟨a, vs, ea, hH, r, sF, k'⟩ := k.freeze g
      rw [es_eq] at q
      exact ⟨.ref a, at_some ea, q (.ref a) _ H ⟨Same.refl _, sF, k'⟩ (.lst upd_same (r.mono sF))⟩
    · exact q.elim
theorem eb_var {i : Nat} (hp : PE X (.Name x pos) (tVar i)) : EB X (.Name x pos) (rVarB i) where
  mono := rVarB_mono i
  pe := fun G F0 => PE_imp hp fun σ H Q ⟨F, env, k, q⟩ => by
    unfold rVarB at q
    split at q
    · rename_i d e
      have g := eg_get (env := env) (i := i) (by rw [e]; exact fun z => nomatch z)
      rw [e] at g
      obtain ⟨v, ev, r⟩ := k.sl i _ g
      exact ⟨v, at_some ev, q v F H (Af.refl k) (.inl r)⟩
    · rename_i ds e
      have g := eg_get (env := env) (i := i) (by rw [e]; exact fun z => nomatch z)
      rw [e] at g
      obtain ⟨a, ho, ea, hF, hH, r⟩ := k.sl i _ g
      obtain ⟨vs, rfl, r⟩ := r.lst
      exact ⟨.ref a, at_some ea, q (.ref a) F H (Af.refl k) (.inr ⟨a, vs, ds, rfl, rfl, hH, r⟩)⟩
    · exact q.elim
/-! ### constants -/
def rC (d : D) : RE := fun env Q => Q d env
theorem rC_mono (d : D) : MonoQ (rC d) := fun env Q Q' h q => h _ _ q
theorem ee_c {e : Expr} {v : V} {d : D} (h : PE X e (tC v)) (r : ∀ F, Rep X.K F v d) : EE X e (rC d) where
  mono := rC_mono d
  pe := fun G F0 => PE_imp h fun σ H Q ⟨F, env, k, q⟩ => q v F H (Af.refl k) (r F)
theorem ee_int {i : Int} {j p} : EE X (.Constant (.int i) j p) (rC (.int i)) := ee_c pe_int fun _ => .int i
theorem ee_bl {i : Bool} {j p} : EE X (.Constant (.bool i) j p) (rC (.bl i)) := ee_c pe_bl fun _ => .bl i
theorem ee_non {j p} : EE X (.Constant .none j p) (rC .non) := ee_c pe_non fun _ => .non
theorem ee_str {i : Str} {j p} : EE X (.Constant (.str i) j p) (rC (.str i)) := ee_c pe_str fun _ => .str i
end

/-! ### operations on values -/
/-- what an operation asks and gives, over data -/
abbrev Op2 := D → D → (D → Prop) → Prop
def Mono2 (δ : Op2) : Prop := ∀ d e (Q Q' : D → Prop), (∀ x, Q x → Q' x) → δ d e Q → δ d e Q'
def Wants (K : PySem.W.Frag) (F H : Hp) (Q : VK) (d : D) : Prop := ∀ v F' H', Ext F H F' H' → Rep K F' v d → Q v H'
def rD2 (K : PySem.W.Frag) (δ : Op2) : R2 := fun x y H Q => ∃ F d e, Same F H ∧ BRep K F H x d ∧ BRep K F H y e ∧ δ d e (Wants K F H Q)
def rBin (δ : Op2) (ma mb : RE) : RE := fun env Q => ma env fun x e1 => mb e1 fun y e2 => δ x y fun d => Q d e2
theorem rBin_mono {δ : Op2} {ma mb : RE} (hd : Mono2 δ) (ha : MonoQ ma) (hb : MonoQ mb) : MonoQ (rBin δ ma mb) := fun env Q Q' i q =>
  ha _ _ _ (fun x e1 q => hb _ _ _ (fun y e2 q => hd _ _ _ _ (fun d q => i _ _ q) q) q) q
section
variable {X : Cx} {a b : Expr} {ma mb : RE} {pos : Pos} {δ : Op2}
theorem bin_core {G F0 : Hp} {σ : L2.St} {H : Hp} {Q : VK} (hd : Mono2 δ) (ha : EB X a ma) (hb : EB X b mb) (h : tM X.K G F0 (rBin δ ma mb) σ H Q) :
    tOp (rD2 X.K δ) (tBo X.K G F0 ma) (tBo X.K G F0 mb) σ H Q := by
  obtain ⟨F, env, k, q⟩ := h
  refine ⟨F, env, k, ha.mono _ _ _ (fun x e1 q v1 F1 H1 a1 r1 => ?_) q⟩
  refine ⟨F1, e1, a1.ok, hb.mono _ _ _ (fun y e2 q v2 F2 H2 a2 r2 => ?_) q⟩
  exact ⟨F2, x, y, a2.ok.fh, r1.ext a2.fF a2.hH, r2, hd _ _ _ _ (fun d q v F3 H3 x3 r3 => q v F3 H3 ((a1.trans a2).ext x3) r3) q⟩
theorem ee_op {op : Operator} (ho : OpR X (binaryOp op) (rD2 X.K δ)) (hd : Mono2 δ) (ha : EB X a ma) (hb : EB X b mb) : EE X (.BinOp a op b pos) (rBin δ ma mb) where
  mono := rBin_mono hd ha.mono hb.mono
  pe := fun G F0 => PE_imp (pe_op ho (ha.pe G F0) (hb.pe G F0)) fun σ H Q h => bin_core hd ha hb h
theorem ee_cmp {op : CmpOp} (ho : OpR X (compareOp op) (rD2 X.K δ)) (hd : Mono2 δ) (ha : EB X a ma) (hb : EB X b mb) (hm : behindInMarks op b = false) : EE X (.Compare a [op] [b] pos) (rBin δ ma mb) where
  mono := rBin_mono hd ha.mono hb.mono
  pe := fun G F0 => PE_imp (pe_cmpR ho (ha.pe G F0) (hb.pe G F0) hm) fun σ H Q h => bin_core hd ha hb h
/-- as a test -/
def rTest (m : RE) : RT := fun env Q => m env fun d e => ∃ b, d = .bl b ∧ Q b e
theorem rTest_mono {m : RE} (h : MonoQ m) : MonoQ (rTest m) := fun env Q Q' i q => h _ _ _ (fun d e ⟨b, h1, h2⟩ => ⟨b, h1, i _ _ h2⟩) q
theorem test_core {G F0 : Hp} {σ : L2.St} {H : Hp} {Q : Bool → Hp → Prop} {m : RE} {t : TE} (hm : MonoQ m) (hi : ∀ Q, tM X.K G F0 m σ H Q → t σ H Q) (h : tTe X.K G F0 (rTest m) σ H Q) : tTest t σ H Q := by
  obtain ⟨F, env, k, q⟩ := h
  refine hi _ ⟨F, env, k, hm _ _ _ (fun d e ⟨b, h1, h2⟩ v F' H' a r => ?_) q⟩
  subst h1
  cases r
  exact ⟨b, rfl, h2 F' H' a⟩
theorem et_cmp {op : CmpOp} (ho : OpR X (compareOp op) (rD2 X.K δ)) (hd : Mono2 δ) (ha : EB X a ma) (hb : EB X b mb) (hm : behindInMarks op b = false) : ET X (.Compare a [op] [b] pos) (rTest (rBin δ ma mb)) where
  mono := rTest_mono (rBin_mono hd ha.mono hb.mono)
  pe := fun G F0 => PT_imp (pt_cmpR ho (ha.pe G F0) (hb.pe G F0) hm) fun σ H Q h => test_core (rBin_mono hd ha.mono hb.mono) (fun Q h => bin_core hd ha hb h) h
/-- a chain of two -/
def rChain (δ δ' : Op2) (ma mb mc : RE) : RE := fun env Q => ma env fun x e1 => mb e1 fun y e2 => δ x y fun d => ∃ k, d = .bl k ∧ (if k = true then mc e2 fun z e3 => δ' y z fun d' => Q d' e3 else Q (.bl false) e2)
theorem rChain_mono {δ δ' : Op2} {ma mb mc : RE} (hd : Mono2 δ) (hd' : Mono2 δ') (ha : MonoQ ma) (hb : MonoQ mb) (hc : MonoQ mc) : MonoQ (rChain δ δ' ma mb mc) := fun env Q Q' i q =>
  ha _ _ _ (fun x e1 q => hb _ _ _ (fun y e2 q => hd _ _ _ _ (fun d ⟨k, h1, h2⟩ => ⟨k, h1, by
    cases k with
    | true => exact hc _ _ _ (fun z e3 q => hd' _ _ _ _ (fun d q => i _ _ q) q) h2
    | false => exact i _ _ h2⟩) q) q) q
theorem chain_core {δ' : Op2} {c : Expr} {mc : RE} {G F0 : Hp} {σ : L2.St} {H : Hp} {Q : VK} (hd : Mono2 δ) (hd' : Mono2 δ') (ha : EB X a ma) (hb : EB X b mb) (hc : EB X c mc) (h : tM X.K G F0 (rChain δ δ' ma mb mc) σ H Q) :
    tChain (rD2 X.K δ) (rD2 X.K δ') (tBo X.K G F0 ma) (tBo X.K G F0 mb) (tBo X.K G F0 mc) σ H Q := by
  obtain ⟨F, env, k, q⟩ := h
  refine ⟨F, env, k, ha.mono _ _ _ (fun x e1 q v1 F1 H1 a1 r1 => ?_) q⟩
  refine ⟨F1, e1, a1.ok, hb.mono _ _ _ (fun y e2 q v2 F2 H2 a2 r2 => ?_) q⟩
  refine ⟨F2, x, y, a2.ok.fh, r1.ext a2.fF a2.hH, r2, hd _ _ _ _ (fun d ⟨k, h1, h2⟩ v F3 H3 x3 r3 => ?_) q⟩
  subst h1
  cases r3
  refine ⟨k, rfl, ?_⟩
  cases k with
  | false => exact h2 _ F3 H3 ((a1.trans a2).ext x3) (.bl false)
  | true =>
    show tBo X.K G F0 mc σ H3 _
    refine ⟨F3, e2, a2.ok.ext x3, hc.mono _ _ _ (fun z e3 q v4 F4 H4 a4 r4 => ?_) h2⟩
    exact ⟨F4, y, z, a4.ok.fh, (r2.ext x3.fF x3.hH).ext a4.fF a4.hH, r4, hd' _ _ _ _ (fun d q v F5 H5 x5 r5 => q v F5 H5 ((((a1.trans a2).ext x3).trans a4).ext x5) r5) q⟩
theorem ee_chain {op op' : CmpOp} {δ' : Op2} {c : Expr} {mc : RE} (ho : OpR X (compareOp op) (rD2 X.K δ)) (ho' : OpR X (compareOp op') (rD2 X.K δ')) (hd : Mono2 δ) (hd' : Mono2 δ') (ha : EB X a ma) (hb : EB X b mb) (hc : EB X c mc)
    (hm : lastMarks [op, op'] [b, c] = false := by with_unfolding_all rfl) : EE X (.Compare a [op, op'] [b, c] pos) (rChain δ δ' ma mb mc) where
  mono := rChain_mono hd hd' ha.mono hb.mono hc.mono
  pe := fun G F0 => PE_imp (pe_chain ho ho' (ha.pe G F0) (hb.pe G F0) (hc.pe G F0) hm) fun σ H Q h => chain_core hd hd' ha hb hc h
theorem et_chain {op op' : CmpOp} {δ' : Op2} {c : Expr} {mc : RE} (ho : OpR X (compareOp op) (rD2 X.K δ)) (ho' : OpR X (compareOp op') (rD2 X.K δ')) (hd : Mono2 δ) (hd' : Mono2 δ') (ha : EB X a ma) (hb : EB X b mb) (hc : EB X c mc)
    (hm : lastMarks [op, op'] [b, c] = false := by with_unfolding_all rfl) : ET X (.Compare a [op, op'] [b, c] pos) (rTest (rChain δ δ' ma mb mc)) where
  mono := rTest_mono (rChain_mono hd hd' ha.mono hb.mono hc.mono)
  pe := fun G F0 => PT_imp (pt_chain ho ho' (ha.pe G F0) (hb.pe G F0) (hc.pe G F0) hm) fun σ H Q h => test_core (rChain_mono hd hd' ha.mono hb.mono hc.mono) (fun Q h => chain_core hd hd' ha hb hc h) h
end

/-! ### tests -/
def dTr : D → (Bool → Prop) → Prop
  | .non, Q => Q false
  | .bl b, Q => Q b
  | .int i, Q => Q (i != 0)
  | .str y, Q => y.length ≤ sizeLine ∧ Q ((y.length : Int) != 0)
  | .tup xs, Q => Q (!xs.isEmpty)
  | .lst xs, Q => Q (!xs.isEmpty)
  | .scr xs, Q => Q (!xs.isEmpty)
  | .ins _ _ _, _ => False
  | .ty _, _ => False
  | .cls _, _ => False
  | .sz _, _ => False
theorem dTr_mono {d : D} {Q Q' : Bool → Prop} (h : ∀ b, Q b → Q' b) (q : dTr d Q) : dTr d Q' := by
  cases d <;> first | exact h _ q | exact ⟨q.1, h _ q.2⟩ | exact q
def rTru (m : RE) : RT := fun env Q => m env fun d e => dTr d fun b => Q b e
theorem rTru_mono {m : RE} (h : MonoQ m) : MonoQ (rTru m) := fun env Q Q' i q => h _ _ _ (fun d e q => dTr_mono (fun b q => i _ _ q) q) q
theorem isEmpty_len {α β : Type} {xs : List α} {ys : List β} (h : xs.length = ys.length) : xs.isEmpty = ys.isEmpty := by
  cases xs <;> cases ys <;> first | rfl | simp at h
theorem tru_of {K : PySem.W.Frag} {F H : Hp} {v : V} {d : D} {Q : Bool → Prop} (hf : Same F H) (r : BRep K F H v d) (q : dTr d Q) : ∃ b, TruV K v H b ∧ Q b := by
  cases d with
  | non => rw [r.non]; exact ⟨false, rfl, q⟩
  | bl b => rw [r.bl]; exact ⟨b, rfl, q⟩
  | int i => rw [r.int]; exact ⟨_, rfl, q⟩
  | str y => rw [r.str]; exact ⟨_, ⟨q.1, rfl⟩, q.2⟩
  | tup xs =>
    obtain ⟨a, vs, rfl, h, rs, _⟩ := r.tup hf
    exact ⟨_, .inr (.inl ⟨vs, h, rfl⟩), by rw [isEmpty_len rs.length]; exact q⟩
  | lst xs =>
    obtain ⟨a, vs, rfl, h, rs⟩ := r.lst hf
    exact ⟨_, .inl ⟨vs, .of h, rfl⟩, by rw [isEmpty_len rs.length]; exact q⟩
  | scr ns =>
    obtain ⟨a, rfl, h⟩ := r.scr hf
    exact ⟨_, .inl ⟨_, h, rfl⟩, by rw [isEmpty_len (List.length_map _)]; exact q⟩
  | ins _ _ _ => exact q.elim
  | ty _ => exact q.elim
  | cls _ => exact q.elim
  | sz _ => exact q.elim
section
variable {X : Cx} {a b c : Expr} {ma mb : RE} {pos : Pos} {rest : List Expr} {ta tb tc : RT}
theorem et_tru (ha : EB X a ma) (he : ∀ whole, isTrue a X.env whole = (do let v ← whole; standAt a.pos; holding [v] (truthy v))) : ET X a (rTru ma) where
  mono := rTru_mono ha.mono
  pe := fun G F0 => PT_imp (pt_truth (ha.pe G F0) he) fun σ H Q ⟨F, env, k, q⟩ => ⟨F, env, k, ha.mono _ _ _ (fun d e q v F' H' af r => by
    obtain ⟨b, h1, h2⟩ := tru_of (Q := fun b => ∀ F'' H'', Af X.K G F0 F H σ F'' H'' e → Q b H'') af.ok.fh r q
    exact ⟨b, h1, h2 F' H' af⟩) q⟩
def rNot (t : RT) : RT := fun env Q => t env fun b e => Q (!b) e
theorem rNot_mono {t : RT} (h : MonoQ t) : MonoQ (rNot t) := fun env Q Q' i q => h _ _ _ (fun d e q => i _ _ q) q
theorem et_not (ha : ET X a ta) : ET X (.UnaryOp .Not a pos) (rNot ta) where
  mono := rNot_mono ha.mono
  pe := fun G F0 => PT_imp (pt_not (ha.pe G F0)) fun σ H Q ⟨F, env, k, q⟩ => ⟨F, env, k, q⟩
def rAnd (t u : RT) : RT := fun env Q => t env fun b e => if b = true then u e Q else Q false e
def rOr (t u : RT) : RT := fun env Q => t env fun b e => if b = true then Q true e else u e Q
theorem rAnd_mono {t u : RT} (h : MonoQ t) (h' : MonoQ u) : MonoQ (rAnd t u) := fun env Q Q' i q => h _ _ _ (fun b e q => by
  cases b with
  | true => exact h' _ _ _ i q
  | false => exact i _ _ q) q
theorem rOr_mono {t u : RT} (h : MonoQ t) (h' : MonoQ u) : MonoQ (rOr t u) := fun env Q Q' i q => h _ _ _ (fun b e q => by
  cases b with
  | false => exact h' _ _ _ i q
  | true => exact i _ _ q) q
theorem ew_and1 (ha : ET X a ta) : EW X (.BoolOp .And [a] pos) ta := ⟨ha.mono, fun G F0 => pw_and1 (ha.pe G F0)⟩
theorem ew_or1 (ha : ET X a ta) : EW X (.BoolOp .Or [a] pos) ta := ⟨ha.mono, fun G F0 => pw_or1 (ha.pe G F0)⟩
theorem ew_and (ha : ET X a ta) (hb : EW X (.BoolOp .And (b :: rest) pos) tb) : EW X (.BoolOp .And (a :: b :: rest) pos) (rAnd ta tb) where
  mono := rAnd_mono ha.mono hb.mono
  pe := fun G F0 => PW_imp (pw_and (ha.pe G F0) (hb.pe G F0)) fun σ H Q ⟨F, env, k, q⟩ => ⟨F, env, k, ha.mono _ _ _ (fun b e q F' H' af => by
    cases b with
    | false => exact q F' H' af
    | true => exact ⟨F', e, af.ok, hb.mono _ _ _ (fun b e' q F2 H2 a2 => q F2 H2 (af.trans a2)) q⟩) q⟩
theorem ew_or (ha : ET X a ta) (hb : EW X (.BoolOp .Or (b :: rest) pos) tb) : EW X (.BoolOp .Or (a :: b :: rest) pos) (rOr ta tb) where
  mono := rOr_mono ha.mono hb.mono
  pe := fun G F0 => PW_imp (pw_or (ha.pe G F0) (hb.pe G F0)) fun σ H Q ⟨F, env, k, q⟩ => ⟨F, env, k, ha.mono _ _ _ (fun b e q F' H' af => by
    cases b with
    | true => exact q F' H' af
    | false => exact ⟨F', e, af.ok, hb.mono _ _ _ (fun b e' q F2 H2 a2 => q F2 H2 (af.trans a2)) q⟩) q⟩
theorem EW.t (h : EW X a ta) : ET X a ta := ⟨h.mono, fun G F0 => (h.pe G F0).pt⟩
/-! and, or, not as values: all but the last True or False -/
def rAndV (ma mb : RE) : RE := fun env Q => ma env fun d e => ∃ b, d = .bl b ∧ if b = true then mb e Q else Q (.bl false) e
def rOrV (ma mb : RE) : RE := fun env Q => ma env fun d e => ∃ b, d = .bl b ∧ if b = true then Q (.bl true) e else mb e Q
theorem rAndV_mono {ma mb : RE} (h : MonoQ ma) (h' : MonoQ mb) : MonoQ (rAndV ma mb) := fun env Q Q' i q => h _ _ _ (fun d e ⟨b, h1, q⟩ => ⟨b, h1, by
  cases b with
  | true => exact h' _ _ _ i q
  | false => exact i _ _ q⟩) q
theorem rOrV_mono {ma mb : RE} (h : MonoQ ma) (h' : MonoQ mb) : MonoQ (rOrV ma mb) := fun env Q Q' i q => h _ _ _ (fun d e ⟨b, h1, q⟩ => ⟨b, h1, by
  cases b with
  | false => exact h' _ _ _ i q
  | true => exact i _ _ q⟩) q
theorem ee_one {op} (h : EE X a ma) : EE X (.BoolOp op [a] pos) ma := ⟨h.mono, fun G F0 => pe_one (h.pe G F0)⟩
theorem ee_and (ha : EE X a ma) (hb : EE X (.BoolOp .And (b :: rest) pos) mb) : EE X (.BoolOp .And (a :: b :: rest) pos) (rAndV ma mb) where
  mono := rAndV_mono ha.mono hb.mono
  pe := fun G F0 => PE_imp (pe_and (ha.pe G F0) (hb.pe G F0)) fun σ H Q ⟨F, env, k, q⟩ => ⟨F, env, k, ha.mono _ _ _ (fun d e ⟨b, h1, q⟩ v F' H' af r => by
    subst h1
    cases r
    refine ⟨b, rfl, ?_⟩
    cases b with
    | false => exact q _ F' H' af (.bl false)
    | true => exact ⟨F', e, af.ok, hb.mono _ _ _ (fun b e' q v F2 H2 a2 r2 => q v F2 H2 (af.trans a2) r2) q⟩) q⟩
theorem ee_or (ha : EE X a ma) (hb : EE X (.BoolOp .Or (b :: rest) pos) mb) : EE X (.BoolOp .Or (a :: b :: rest) pos) (rOrV ma mb) where
  mono := rOrV_mono ha.mono hb.mono
  pe := fun G F0 => PE_imp (pe_or (ha.pe G F0) (hb.pe G F0)) fun σ H Q ⟨F, env, k, q⟩ => ⟨F, env, k, ha.mono _ _ _ (fun d e ⟨b, h1, q⟩ v F' H' af r => by
    subst h1
    cases r
    refine ⟨b, rfl, ?_⟩
    cases b with
    | true => exact q _ F' H' af (.bl true)
    | false => exact ⟨F', e, af.ok, hb.mono _ _ _ (fun b e' q v F2 H2 a2 r2 => q v F2 H2 (af.trans a2) r2) q⟩) q⟩
def rNotV (m : RE) : RE := fun env Q => m env fun d e => ∃ b, d = .bl b ∧ Q (.bl (!b)) e
theorem rNotV_mono {m : RE} (h : MonoQ m) : MonoQ (rNotV m) := fun env Q Q' i q => h _ _ _ (fun d e ⟨b, h1, q⟩ => ⟨b, h1, i _ _ q⟩) q
theorem ee_not (ha : EE X a ma) : EE X (.UnaryOp .Not a pos) (rNotV ma) where
  mono := rNotV_mono ha.mono
  pe := fun G F0 => PE_imp (pe_not (ha.pe G F0)) fun σ H Q ⟨F, env, k, q⟩ => ⟨F, env, k, ha.mono _ _ _ (fun d e ⟨b, h1, q⟩ v F' H' af r => by
    subst h1
    cases r
    exact ⟨b, rfl, q _ F' H' af (.bl _)⟩) q⟩
def rIf (t : RT) (ma mb : RE) : RE := fun env Q => t env fun b e => if b = true then ma e Q else mb e Q
theorem rIf_mono {t : RT} {ma mb : RE} (h : MonoQ t) (h1 : MonoQ ma) (h2 : MonoQ mb) : MonoQ (rIf t ma mb) := fun env Q Q' i q => h _ _ _ (fun b e q => by
  cases b with
  | true => exact h1 _ _ _ i q
  | false => exact h2 _ _ _ i q) q
theorem ee_if (hc : ET X c tc) (ha : EE X a ma) (hb : EE X b mb) : EE X (.IfExp c a b pos) (rIf tc ma mb) where
  mono := rIf_mono hc.mono ha.mono hb.mono
  pe := fun G F0 => PE_imp (pe_ifExp (hc.pe G F0) (ha.pe G F0) (hb.pe G F0)) fun σ H Q ⟨F, env, k, q⟩ => ⟨F, env, k, hc.mono _ _ _ (fun b e q F' H' af => by
    cases b with
    | true => exact ⟨F', e, af.ok, ha.mono _ _ _ (fun b e' q v F2 H2 a2 r2 => q v F2 H2 (af.trans a2) r2) q⟩
    | false => exact ⟨F', e, af.ok, hb.mono _ _ _ (fun b e' q v F2 H2 a2 r2 => q v F2 H2 (af.trans a2) r2) q⟩) q⟩
/-! ### argument lists -/
def rNil : RN := fun env Q => Q [] env
def rCons (m : RE) (r : RN) : RN := fun env Q => m env fun d e => r e fun ds e' => Q (d :: ds) e'
theorem rNil_mono : MonoQ rNil := fun env Q Q' i q => i _ _ q
theorem rCons_mono {m : RE} {r : RN} (h : MonoQ m) (h' : MonoQ r) : MonoQ (rCons m r) := fun env Q Q' i q => h _ _ _ (fun d e q => h' _ _ _ (fun ds e' q => i _ _ q) q) q
variable {e : Expr} {es : List Expr} {mr : RN}
theorem ea_nil : EA X [] rNil := ⟨rNil_mono, fun G F0 => PA_imp pa_nil fun σ H Q ⟨F, env, k, q⟩ => q [] F H (Af.refl k) .nil⟩
theorem eab_nil : EAb X [] rNil := ⟨rNil_mono, fun G F0 => PA_imp pa_nil fun σ H Q ⟨F, env, k, q⟩ => q [] F H (Af.refl k) .nil⟩
theorem ea_cons (ha : EE X e ma) (hr : EA X es mr) (hs : starEach (e :: es) X.env = (false, eval e X.env) :: starEach es X.env := by rfl) : EA X (e :: es) (rCons ma mr) where
  mono := rCons_mono ha.mono hr.mono
  pe := fun G F0 => PA_imp (pa_cons (ha.pe G F0) (hr.pe G F0) hs) fun σ H Q ⟨F, env, k, q⟩ => ⟨F, env, k, ha.mono _ _ _ (fun d e q v F1 H1 a1 r1 =>
    ⟨F1, e, a1.ok, hr.mono _ _ _ (fun ds e' q vs F2 H2 a2 r2 => q (v :: vs) F2 H2 (a1.trans a2) (.cons (r1.mono a2.fF) r2)) q⟩) q⟩
theorem eab_cons (ha : EB X e ma) (hr : EAb X es mr) (hs : starEach (e :: es) X.env = (false, eval e X.env) :: starEach es X.env := by rfl) : EAb X (e :: es) (rCons ma mr) where
  mono := rCons_mono ha.mono hr.mono
  pe := fun G F0 => PA_imp (pa_cons (ha.pe G F0) (hr.pe G F0) hs) fun σ H Q ⟨F, env, k, q⟩ => ⟨F, env, k, ha.mono _ _ _ (fun d e q v F1 H1 a1 r1 =>
    ⟨F1, e, a1.ok, hr.mono _ _ _ (fun ds e' q vs F2 H2 a2 r2 => q (v :: vs) F2 H2 (a1.trans a2) (.cons (r1.ext a2.fF a2.hH) r2)) q⟩) q⟩
/-! ### displays -/
def rTup (m : RN) : RE := fun env Q => m env fun ds e => ds.length ≤ sizeLine ∧ Q (.tup ds) e
theorem rTup_mono {m : RN} (h : MonoQ m) : MonoQ (rTup m) := fun env Q Q' i q => h _ _ _ (fun d e q => ⟨q.1, i _ _ q.2⟩) q
theorem ee_tup {x1} (h : EA X es mr) : EE X (.Tuple es x1 pos) (rTup mr) where
  mono := rTup_mono h.mono
  pe := fun G F0 => PE_imp (pe_tup (h.pe G F0)) fun σ H Q ⟨F, env, k, q⟩ => ⟨F, env, k, h.mono _ _ _ (fun ds e q vs F1 H1 a1 r1 =>
    ⟨by rw [r1.length]; exact q.1, fun p hp => by
      have x := Ext.alloc (o := .tup vs) a1.ok.fh hp
      exact q.2 (.ref p) _ _ (a1.ext x) (.tup (.of upd_same) (r1.mono x.fF))⟩) q⟩
def rLst (m : RN) : RN := fun env Q => m env fun ds e => ds.length ≤ sizeLine ∧ Q ds e
theorem rLst_mono {m : RN} (h : MonoQ m) : MonoQ (rLst m) := fun env Q Q' i q => h _ _ _ (fun d e q => ⟨q.1, i _ _ q.2⟩) q
/-- only the new list's cell is laid -/
theorem af_new {K : PySem.W.Frag} {G F0 F H F' H' : Hp} {σ : L2.St} {env : En} {p : Addr} {vs : List V} (a : Af K G F0 F H σ F' H' env) (hp : H' p = none) :
    Af K G F0 F H σ F' (upd H' p (.lst vs)) env ∧ F' p = none ∧ G p = none ∧ NotOwn env σ p := by
  have hF := a.ok.fh.at_none hp
  have hG := a.ok.gh.at_none hp
  refine ⟨⟨a.hH.trans (same_upd hp), a.fF, ?_⟩, hF, hG, a.ok.notOwn_new hp⟩
  exact a.ok.ext ⟨Same.refl _, same_upd hp, fun b o e => by rw [upd_ne (ne_of_none e hF)]; exact a.ok.fh _ _ e, fun _ _ => rfl⟩
theorem en_lst (h : EA X es mr) : EN X (.List es pos) (rLst mr) where
  mono := rLst_mono h.mono
  pe := fun G F0 => PE_imp (pe_lst (h.pe G F0)) fun σ H Q ⟨F, env, k, q⟩ => ⟨F, env, k, h.mono _ _ _ (fun ds e q vs F1 H1 a1 r1 =>
    ⟨by rw [r1.length]; exact q.1, fun p hp => by
      obtain ⟨a2, hF, hG, no⟩ := af_new (vs := vs) a1 hp
      exact q.2 p vs F1 _ a2 upd_same hF hG no r1⟩) q⟩
end
end DL

namespace DL
open PySem PySem.Spec PyProof.Rows L2

/-! ### statements -/
structure DE where
  nx : En → Prop
  rt : D → Prop
  bk : En → Prop := fun _ => False
  ct : En → Prop := fun _ => False
abbrev RS := DE → En → Prop
structure DE.le (D D' : DE) : Prop where
  nx : ∀ e, D.nx e → D'.nx e
  rt : ∀ d, D.rt d → D'.rt d
  bk : ∀ e, D.bk e → D'.bk e
  ct : ∀ e, D.ct e → D'.ct e
theorem DE.le.refl (D : DE) : D.le D := ⟨fun _ h => h, fun _ h => h, fun _ h => h, fun _ h => h⟩
def MonoS (m : RS) : Prop := ∀ (D D' : DE) (env : En), D.le D' → m D env → m D' env
def liftD (K : PySem.W.Frag) (G F0 : Hp) (D : Ends) : DE where
  nx := fun env => ∀ σ F H, StOk K G F0 F H env σ → D.nx σ H
  rt := fun d => ∀ v F H, Ext F0 G F H → Rep K F v d → D.rt v H
  bk := fun env => ∀ σ F H, StOk K G F0 F H env σ → D.bk σ H
  ct := fun env => ∀ σ F H, StOk K G F0 F H env σ → D.ct σ H
def tSt (K : PySem.W.Frag) (G F0 : Hp) (m : RS) : TS := fun D σ H => ∃ F env, StOk K G F0 F H env σ ∧ m (liftD K G F0 D) env
structure SS (X : Cx) (st : Stmt) (m : RS) : Prop where
  mono : MonoS m
  ps : ∀ G F0, PS X st (tSt X.K G F0 m)
structure SSs (X : Cx) (st : List Stmt) (m : RS) : Prop where
  mono : MonoS m
  ps : ∀ G F0, PSs X st (tSt X.K G F0 m)
def sNext : RS := fun D env => D.nx env
def sSeq (m m' : RS) : RS := fun D env => m { D with nx := fun e => m' D e } env
theorem sSeq_mono {m m' : RS} (h : MonoS m) (h' : MonoS m') : MonoS (sSeq m m') := fun Z Z' env l q =>
  h { Z with nx := fun e => m' Z e } { Z' with nx := fun e => m' Z' e } env ⟨fun e q => h' Z Z' e l q, l.rt, l.bk, l.ct⟩ q
section
variable {X : Cx} {st : Stmt} {rest : List Stmt} {m m' : RS} {e : Expr} {me : RE} {mn : RN} {pos : Pos}
theorem sss_nil : SSs X [] sNext := ⟨fun D D' env l q => l.nx _ q, fun G F0 => PSs_imp pss_nil fun D σ H ⟨F, env, k, q⟩ => q σ F H k⟩
theorem sss_cons (h1 : SS X st m) (h2 : SSs X rest m') : SSs X (st :: rest) (sSeq m m') where
  mono := sSeq_mono h1.mono h2.mono
  ps := fun G F0 => PSs_imp (pss_cons (h1.ps G F0) (h2.ps G F0)) fun Z σ H ⟨F, env, k, q⟩ => ⟨F, env, k, h1.mono { liftD X.K G F0 Z with nx := fun e => m' (liftD X.K G F0 Z) e } _ env ⟨fun e q σ' F' H' k' => ⟨F', e, k', q⟩, fun _ q => q, fun _ q => q, fun _ q => q⟩ q⟩
theorem sss_one (h1 : SS X st m) : SSs X [st] m := ⟨h1.mono, fun G F0 => pss_one (h1.ps G F0)⟩
theorem ss_pass : SS X (.Pass pos) sNext := ⟨fun D D' env l q => l.nx _ q, fun G F0 => PS_imp ps_pass fun D σ H ⟨F, env, k, q⟩ => q σ F H k⟩
theorem ss_doc {x j p pos'} : SS X (.Expr (.Constant (.str x) j p) pos') sNext := ⟨fun D D' env l q => l.nx _ q, fun G F0 => PS_imp ps_doc fun D σ H ⟨F, env, k, q⟩ => q σ F H k⟩
def sBreak : RS := fun D env => D.bk env
def sCont : RS := fun D env => D.ct env
theorem ss_break : SS X (.Break pos) sBreak := ⟨fun D D' env l q => l.bk _ q, fun G F0 => PS_imp ps_break fun D σ H ⟨F, env, k, q⟩ => q σ F H k⟩
theorem ss_cont : SS X (.Continue pos) sCont := ⟨fun D D' env l q => l.ct _ q, fun G F0 => PS_imp ps_continue fun D σ H ⟨F, env, k, q⟩ => q σ F H k⟩
def sRet (me : RE) : RS := fun D env => me env fun d _ => D.rt d
theorem ss_ret (h : EE X e me) : SS X (.Return (some e) pos) (sRet me) where
  mono := fun D D' env l q => h.mono _ _ _ (fun d e q => l.rt _ q) q
  ps := fun G F0 => PS_imp (ps_ret (h.pe G F0)) fun D σ H ⟨F, env, k, q⟩ => ⟨F, env, k, h.mono _ _ _ (fun d e q v F' H' a r => q v F' H' a.ok.toExt r) q⟩
def sRetN : RS := fun D env => D.rt .non
theorem ss_retN : SS X (.Return none pos) sRetN := ⟨fun D D' env l q => l.rt _ q, fun G F0 => PS_imp ps_retN fun D σ H ⟨F, env, k, q⟩ => q .non F H k.toExt .non⟩
def sSet (i : Nat) (me : RE) : RS := fun D env => me env fun d e => D.nx (es e i (.v d))
theorem ss_set {i : Nat} {x : Str} {pos' : Pos} (hN : X.N.Nodup) (hi : X.N[i]? = some x) (hx : Loc X.env.scope x) (he : EE X e me) (hs : swapsWith e (some (.Name x pos')) pos.line X.env = pure false := by rfl)
    (hf : X.fn x = true ∨ X.env.scope.names.lookup x = some .local := by first | exact .inl rfl | exact .inr rfl | assumption) : SS X (.Assign [.Name x pos'] e pos) (sSet i me) where
  mono := fun D D' env l q => he.mono _ _ _ (fun d e q => l.nx _ q) q
  ps := fun G F0 => PS_imp (ps_set hN hi hx (he.pe G F0) hs hf) fun D σ H ⟨F, env, k, q⟩ => ⟨F, env, k, he.mono _ _ _ (fun d e q v F' H' a r => by
    rw [es_eq] at q
    exact q _ F' H' (a.ok.setV i r)) q⟩
def sSetN (i : Nat) (mn : RN) : RS := fun D env => mn env fun ds e => D.nx (es e i (.own (.l ds)))
theorem ss_setN {i : Nat} {x : Str} {pos' : Pos} (hN : X.N.Nodup) (hi : X.N[i]? = some x) (hx : Loc X.env.scope x) (he : EN X e mn) (hs : swapsWith e (some (.Name x pos')) pos.line X.env = pure false := by rfl)
    (hf : X.fn x = true ∨ X.env.scope.names.lookup x = some .local := by first | exact .inl rfl | exact .inr rfl | assumption) : SS X (.Assign [.Name x pos'] e pos) (sSetN i mn) where
  mono := fun D D' env l q => he.mono _ _ _ (fun d e q => l.nx _ q) q
  ps := fun G F0 => PS_imp (ps_set hN hi hx (he.pe G F0) hs hf) fun D σ H ⟨F, env, k, q⟩ => ⟨F, env, k, he.mono _ _ _ (fun d e q a vs F' H' af hH hF hG no r => by
    rw [es_eq] at q
    exact q _ F' H' (af.ok.setN i hF hH hG no r)) q⟩
def sExpr (me : RE) : RS := fun D env => me env fun _ e => D.nx e
theorem ss_expr (he : EE X e me) (hs : swapsWith e none pos.line X.env = pure false := by rfl) : SS X (.Expr e pos) (sExpr me) where
  mono := fun D D' env l q => he.mono _ _ _ (fun d e q => l.nx _ q) q
  ps := fun G F0 => PS_imp (ps_expr (he.pe G F0) hs) fun D σ H ⟨F, env, k, q⟩ => ⟨F, env, k, he.mono _ _ _ (fun d e q v F' H' a r => q _ F' H' a.ok) q⟩
def sIf (t : RT) (m m' : RS) : RS := fun D env => t env fun b e => if b = true then m D e else m' D e
theorem sIf_mono {t : RT} (ht : MonoQ t) (h : MonoS m) (h' : MonoS m') : MonoS (sIf t m m') := fun D D' env l q => ht _ _ _ (fun b e q => by
  cases b with
  | true => exact h _ _ _ l q
  | false => exact h' _ _ _ l q) q
theorem ss_if {c : Expr} {a b : List Stmt} {tc : RT} (hc : ET X c tc) (ha : SSs X a m) (hb : SSs X b m') : SS X (.If c a b pos) (sIf tc m m') where
  mono := sIf_mono hc.mono ha.mono hb.mono
  ps := fun G F0 => PS_imp (ps_if (hc.pe G F0) (ha.ps G F0) (hb.ps G F0)) fun D σ H ⟨F, env, k, q⟩ => ⟨F, env, k, hc.mono _ _ _ (fun b e q F' H' a => by
    cases b with
    | true => exact ⟨F', e, a.ok, q⟩
    | false => exact ⟨F', e, a.ok, q⟩) q⟩
/-! ### x.append(e), x a list of one's own -/
def ownAt (env : En) (i : Nat) (Q : List D → Prop) : Prop := match eg env i with
  | .own (.l ds) => Q ds
  | _ => False
theorem ownAt_get {env : En} {i : Nat} {Q : List D → Prop} (h : ownAt env i Q) : ∃ ds, env[i]? = some (Sl.own (.l ds)) ∧ Q ds := by
  unfold ownAt at h
  split at h
  · rename_i ds e
    have g := eg_get (env := env) (i := i) (by rw [e]; exact fun z => nomatch z)
    rw [e] at g
    exact ⟨ds, g, h⟩
  · exact h.elim
theorem ownAt_mono {env : En} {i : Nat} {Q Q' : List D → Prop} (i' : ∀ ds, Q ds → Q' ds) (h : ownAt env i Q) : ownAt env i Q' := by
  unfold ownAt at h ⊢
  split at h
  · exact i' _ h
  · exact h
def sApp (i : Nat) (me : RE) : RS := fun D env => ownAt env i fun _ => me env fun d e => ownAt e i fun ds => ds.length < sizeLine ∧ D.nx (es e i (.own (.l (ds ++ [d]))))
theorem sApp_mono {i : Nat} (h : MonoQ me) : MonoS (sApp i me) := fun D D' env l q => ownAt_mono (fun ds q => h _ _ _ (fun d e q => ownAt_mono (fun ds q => ⟨q.1, l.nx _ q.2⟩) q) q) q
theorem ss_app {i : Nat} {o : Expr} {apos cpos : Pos} (hp : PE X o (tVar i)) (he : EE X e me)
    (hs : swapsWith (.Call (.Attribute o "append" apos) [e] [] cpos) none pos.line X.env = pure false := by rfl)
    (hbase : attributeBase o "append" X.env (eval o X.env) = eval o X.env := by rfl)
    (hfew : ((backTo cpos (starEach [e] X.env)).all (fun x => !x.1) && (backToKw cpos (keywordEach [] X.env)).all (fun x => x.1.isSome)
      && decide (([e] : List Expr).length + ([] : List Keyword).length + (if ([] : List Keyword).isEmpty then 0 else 1) < 30)) = true := by rfl)
    (hline : (apos.endLine == cpos.line) = true := by rfl) (hst : starEach [e] X.env = (false, eval e X.env) :: starEach [] X.env := by rfl) :
    SS X (.Expr (.Call (.Attribute o "append" apos) [e] [] cpos) pos) (sApp i me) where
  mono := sApp_mono he.mono
  ps := fun G F0 => PS_imp (ps_expr (pe_bm PySem.F.plainAttrs_list PySem.F.slot_list_append PySem.F.type_list_append mt_append hp (pa_cons (he.pe G F0) pa_nil hst) hbase hfew hline hst (by rfl)) hs) fun D σ H ⟨F, env, k, q⟩ => by
    obtain ⟨ds0, g0, q⟩ := ownAt_get q
    obtain ⟨a, ho, ea, hF, hH, r⟩ := k.sl i _ g0
    obtain ⟨vs, rfl, r⟩ := r.lst
    refine ⟨.ref a, at_some ea, .inl ⟨rfl, vs, .of hH⟩, ?_⟩
    refine ⟨F, env, k, he.mono _ _ _ (fun d e q v F1 H1 a1 r1 => ?_) q⟩
    obtain ⟨ds, g, hz, q⟩ := ownAt_get q
    obtain ⟨b, ho', eb, hF', hH', r'⟩ := a1.ok.sl i _ g
    obtain ⟨vs', rfl, r'⟩ := r'.lst
    rw [ea] at eb; cases eb
    refine ⟨a, vs', v, rfl, rfl, hH', by rw [r'.length]; exact hz, ?_⟩
    rw [es_eq] at q
    exact q σ F1 _ (a1.ok.write g ea (r'.append (Reps.one r1)))
/-! ### targets -/
abbrev RG := D → En → (En → Prop) → Prop
abbrev RGs := List D → En → (En → Prop) → Prop
def MonoG {α : Type} (g : α → En → (En → Prop) → Prop) : Prop := ∀ d env (Q Q' : En → Prop), (∀ e, Q e → Q' e) → g d env Q → g d env Q'
/-- all but the slots sl is as it was -/
structure But (sl : List Nat) (σ σ' : L2.St) : Prop where
  len : σ'.length = σ.length
  but : ∀ j, j ∉ sl → L2.St.at σ' j = L2.St.at σ j
theorem But.refl (sl : List Nat) (σ : L2.St) : But sl σ σ := ⟨rfl, fun _ _ => rfl⟩
def tG (K : PySem.W.Frag) (G F0 : Hp) (sl : List Nat) (g : RG) : TG := fun v σ H Q => ∃ F env d, StOk K G F0 F H env σ ∧ Rep K F v d ∧ g d env fun env' => ∀ σ', But sl σ σ' → StOk K G F0 F H env' σ' → Q σ' H
def tGs (K : PySem.W.Frag) (G F0 : Hp) (sl : List Nat) (g : RGs) : TGs := fun vs σ H Q => ∃ F env ds, StOk K G F0 F H env σ ∧ Reps K F vs ds ∧ g ds env fun env' => ∀ σ', But sl σ σ' → StOk K G F0 F H env' σ' → Q σ' H
structure EG (X : Cx) (tg : Expr) (sl : List Nat) (g : RG) : Prop where
  mono : MonoG g
  pg : ∀ G F0, PG X tg (tG X.K G F0 sl g)
structure EGs (X : Cx) (ts : List Expr) (sl : List Nat) (g : RGs) : Prop where
  mono : MonoG g
  pg : ∀ G F0, PGs X ts (tGs X.K G F0 sl g)
theorem PG_imp {X : Cx} {e : Expr} {t t' : TG} (h : PG X e t) (i : ∀ v σ H Q, t' v σ H Q → t v σ H Q) : PG X e t' := ⟨fun pins s σ H v u Q I r q => h.run pins s σ H v u Q I r (i v σ H Q q)⟩
theorem PGs_imp {X : Cx} {e : List Expr} {t t' : TGs} (h : PGs X e t) (i : ∀ v σ H Q, t' v σ H Q → t v σ H Q) : PGs X e t' := ⟨fun pins s σ H v u Q I r q => h.run pins s σ H v u Q I r (i v σ H Q q)⟩
def gNm (i : Nat) : RG := fun d env Q => Q (es env i (.v d))
theorem eg_name {i : Nat} {x : Str} (hN : X.N.Nodup) (hi : X.N[i]? = some x) (hx : Loc X.env.scope x) (hf : X.fn x = true ∨ X.env.scope.names.lookup x = some .local := by first | exact .inl rfl | exact .inr rfl | assumption) : EG X (.Name x pos) [i] (gNm i) where
  mono := fun d env Q Q' i q => i _ q
  pg := fun G F0 => PG_imp (pg_name hN hi hx hf) fun v σ H Q ⟨F, env, d, k, r, q⟩ => by
    unfold gNm at q
    rw [es_eq] at q
    exact q _ ⟨by simp, fun j h => at_set_ne (by simpa using h)⟩ (k.setV i r)
def gsNil : RGs := fun ds env Q => ds = [] ∧ Q env
def gsCons (g : RG) (gs : RGs) : RGs := fun ds env Q => match ds with
  | [] => False
  | d :: r => g d env fun e => gs r e Q
theorem egs_nil : EGs X [] [] gsNil := ⟨fun d env Q Q' i q => ⟨q.1, i _ q.2⟩, fun G F0 => PGs_imp pgs_nil fun v σ H Q ⟨F, env, ds, k, r, e, q⟩ => by subst e; cases r; exact ⟨rfl, q σ (But.refl _ _) k⟩⟩
theorem egs_cons {e : Expr} {es : List Expr} {g : RG} {gs : RGs} {s1 s2 : List Nat} (h1 : EG X e s1 g) (h2 : EGs X es s2 gs) (hs : (assignEach (e :: es) X.env).map (·.2) = assign e X.env :: (assignEach es X.env).map (·.2) := by rfl) : EGs X (e :: es) (s1 ++ s2) (gsCons g gs) where
  mono := fun d env Q Q' i q => by
    cases d with
    | nil => exact q
    | cons x r => exact h1.mono _ _ _ _ (fun e q => h2.mono _ _ _ _ i q) q
  pg := fun G F0 => PGs_imp (pgs_cons (h1.pg G F0) (h2.pg G F0) hs) fun vs σ H Q ⟨F, env, ds, k, r, q⟩ => by
    cases r with
    | nil => exact q.elim
    | cons r0 rs => exact ⟨_, _, rfl, F, env, _, k, r0, h1.mono _ _ _ _ (fun e q σ' b' k' => ⟨F, e, _, k', rs, h2.mono _ _ _ _ (fun e2 q σ2 b2 k2 => q σ2 ⟨b2.len.trans b'.len, fun j hj => (b2.but j fun m => hj (List.mem_append_right _ m)).trans (b'.but j fun m => hj (List.mem_append_left _ m))⟩ k2) q⟩) q⟩
def gTp (n : Nat) (gs : RGs) : RG := fun d env Q => match d with
  | .tup ds => ds.length = n ∧ gs ds env Q
  | _ => False
theorem eg_tup {es : List Expr} {k : Nat} {gs : RGs} {n : Nat} {sl : List Nat} (hc : X.calm = true) (h : EGs X es sl gs) (hn : (assignEach es X.env).length = n := by rfl) (hst : (assignEach es X.env).findIdx? (·.1) = none := by rfl) : EG X (.Tuple es k pos) sl (gTp n gs) where
  mono := fun d env Q Q' i q => by
    cases d <;> first | exact q | exact ⟨q.1, h.mono _ _ _ _ i q.2⟩
  pg := fun G F0 => PG_imp (pg_tup hc (h.pg G F0) hn hst) fun v σ H Q ⟨F, env, d, k, r, q⟩ => by
    cases r <;> first | exact q.elim | skip
    rename_i vs ds hs rs _
    exact ⟨_, vs, rfl, SqT_mono k.fh hs, by rw [rs.length]; exact q.1, F, env, ds, k, rs, q.2⟩
/-- a, b = e -/
def sAsg (me : RE) (g : RG) : RS := fun D env => me env fun d e => g d e D.nx
theorem ss_asg {tg : Expr} {g : RG} {sl : List Nat} (he : EE X e me) (hg : EG X tg sl g) (hs : swapsWithSole [tg] e pos.line X.env = pure false := by rfl) (hw : swappedStores [tg] e X.env = pure none := by rfl)
    (h1 : (assignEach [tg] X.env).map (·.2) = [assign tg X.env] := by rfl) : SS X (.Assign [tg] e pos) (sAsg me g) where
  mono := fun D D' env l q => he.mono _ _ _ (fun d e q => hg.mono _ _ _ _ (fun e q => l.nx _ q) q) q
  ps := fun G F0 => PS_imp (ps_asg (he.pe G F0) (hg.pg G F0) hs hw h1) fun D σ H ⟨F, env, k, q⟩ => ⟨F, env, k, he.mono _ _ _ (fun d e q v F' H' a r => ⟨F', e, d, a.ok, r, hg.mono _ _ _ _ (fun e q σ' _ k' => q σ' F' H' k') q⟩) q⟩
end

/-! ### walks -/
/-- the walk J gives the items ds, one a turn -/
def ItOk (K : PySem.W.Frag) (F : Hp) (J : It) (ds : List D) : Prop := ∀ (i : Nat) (F1 H1 : Hp), Same F F1 → Same F1 H1 →
  (∀ d, ds[i]? = some d → J.go i H1 ∧ ∀ x H2, J.yld i H1 x H2 → ∃ F2, Ext F1 H1 F2 H2 ∧ Rep K F2 x d) ∧ (ds[i]? = none → J.stop i H1)
def tIt (K : PySem.W.Frag) (G F0 : Hp) (m : RN) : TI := fun σ H R => ∃ F env, StOk K G F0 F H env σ ∧ m env fun ds env' => ∀ J F' H', Af K G F0 F H σ F' H' env' → ItOk K F' J ds → R J H'
structure EI (X : Cx) (tg iter : Expr) (m : RN) : Prop where
  mono : MonoQ m
  pi : ∀ G F0, PI X tg iter (tIt X.K G F0 m)
theorem PI_imp {X : Cx} {tg e : Expr} {t t' : TI} (h : PI X tg e t) (i : ∀ σ H R, t' σ H R → t σ H R) : PI X tg e t' := ⟨fun pins s σ H R I q => h.run pins s σ H R I (i σ H R q)⟩

section
variable {K : PySem.W.Frag} {G F0 F F' H H' : Hp} {env : En} {σ : L2.St}
theorem StOk.reF (k : StOk K G F0 F H env σ) : StOk K G F F H env σ := ⟨k.fh, k.gh, Same.refl _, fun _ _ => rfl, k.len, k.sl, k.og, k.inj⟩
theorem StOk.unF (k : StOk K G F0 F H env σ) {F1 H1 : Hp} {env1 : En} {σ1 : L2.St} (k1 : StOk K G F F1 H1 env1 σ1) : StOk K G F0 F1 H1 env1 σ1 :=
  ⟨k1.fh, k1.gh, k.ff.trans k1.ff, fun a n => (k1.nw a n).trans (k.nw a n), k1.len, k1.sl, k1.og, k1.inj⟩
end
def forL (g : RG) (body : RS) (Z : DE) : List D → En → Prop
  | [], e => Z.nx e
  | x :: xs, e => g x e fun e' => body { Z with nx := forL g body Z xs, ct := forL g body Z xs, bk := Z.nx } e'
theorem forL_mono {g : RG} {body : RS} (hg : MonoG g) (hb : MonoS body) {Z Z' : DE} (l : Z.le Z') : ∀ (xs : List D) (e : En), forL g body Z xs e → forL g body Z' xs e
  | [], e, q => l.nx _ q
  | x :: xs, e, q => hg x e _ _ (fun e' q => hb { Z with nx := forL g body Z xs, ct := forL g body Z xs, bk := Z.nx } { Z' with nx := forL g body Z' xs, ct := forL g body Z' xs, bk := Z'.nx } e' ⟨fun e q => forL_mono hg hb l xs e q, l.rt, fun e q => l.nx _ q, fun e q => forL_mono hg hb l xs e q⟩ q) q
def sFor (mi : RN) (g : RG) (body : RS) : RS := fun Z env => mi env fun ds e => forL g body Z ds e
section
variable {X : Cx} {tg iter : Expr} {body : List Stmt} {mi : RN} {g : RG} {mb : RS} {pos : Pos}
theorem ss_for (hp : PassesOwn (model X.prog X.w) X.A X.env X.xe) (hc : X.calm = true) {sl : List Nat} (hi : EI X tg iter mi) (hg : EG X tg sl g) (hb : SSs X body mb)
    (hs : ∀ x, foldedSetIterable iter X.env x = pure x := by intro _; rfl) : SS X (.For tg iter body [] pos) (sFor mi g mb) where
  mono := fun D D' env l q => hi.mono _ _ _ (fun ds e q => forL_mono hg.mono hb.mono l ds e q) q
  ps := fun G F0 => by
    -- the loop runs over the frozen part F' of its start
    refine ⟨fun pins s σ H D I h => ?_⟩
    obtain ⟨F, env, k, q⟩ := h
    -- choose the loop's F0 by cases at run: use G, F0 of each start through unF
    refine (ps_for hp hc (wi := tIt X.K G F0 mi) (g := fun v σ H Q => ∃ F', tG X.K G F' sl g v σ H Q) (tb := fun D σ H => ∃ F', tSt X.K G F' mb D σ H) (hi.pi G F0)
      ⟨fun pins s σ H v u Q I r ⟨F', q⟩ => (hg.pg G F').run pins s σ H v u Q I r q⟩ ⟨fun pins s σ H D I ⟨F', q⟩ => (hb.ps G F').run pins s σ H D I q⟩ hs).run pins s σ H D I ?_
    refine ⟨F, env, k, hi.mono _ _ _ (fun ds e q J F' H' a io => ?_) q⟩
    refine ⟨fun i m σ H => m = ds.length - i ∧ ∃ F1 env1, StOk X.K G F' F1 H env1 σ ∧ forL g mb (liftD X.K G F0 D) (ds.drop i) env1, ⟨ds.length, by simp, F', e, a.ok.reF, by simpa using q⟩, ?_⟩
    rintro i m σ1 H1 ⟨rfl, F1, env1, k1, q1⟩
    have io1 := io i F1 H1 k1.ff k1.fh
    cases e1 : ds[i]? with
    | none =>
      refine .inl ⟨io1.2 e1, ?_⟩
      rw [List.drop_eq_nil_of_le (List.getElem?_eq_none_iff.mp e1)] at q1
      exact q1 σ1 F1 H1 (a.ok.unF k1)
    | some d =>
      have hlt : i < ds.length := by
        rcases Nat.lt_or_ge i ds.length with h | h
        · exact h
        · rw [List.getElem?_eq_none h] at e1; cases e1
      have ed : ds.drop i = d :: ds.drop (i + 1) := by
        rw [List.drop_eq_getElem_cons hlt]
        rw [List.getElem?_eq_getElem hlt] at e1
        rw [Option.some.inj e1]
      rw [ed] at q1
      obtain ⟨go, yl⟩ := io1.1 d e1
      refine .inr ⟨go, fun σ' H' => ∃ F2 env2, StOk X.K G F' F2 H' env2 σ' ∧ forL g mb (liftD X.K G F0 D) (ds.drop (i + 1)) env2, fun σ' H' ⟨F2, env2, k2, q2⟩ => ⟨ds.length - (i + 1), by omega, rfl, F2, env2, k2, q2⟩, fun x H2 y => ?_⟩
      obtain ⟨F2, x2, r2⟩ := yl x H2 y
      refine ⟨F', F2, env1, d, k1.ext x2, r2, hg.mono _ _ _ _ (fun e' q3 σ3 _ k3 => ?_) q1⟩
      refine ⟨F', F2, e', k3, hb.mono { liftD X.K G F0 D with nx := forL g mb (liftD X.K G F0 D) (ds.drop (i + 1)), ct := forL g mb (liftD X.K G F0 D) (ds.drop (i + 1)), bk := (liftD X.K G F0 D).nx } _ _ ⟨fun e q4 σ4 F4 H4 k4 => ⟨F4, e, k4, q4⟩, fun d q4 v F4 H4 x4 r4 => q4 v F4 H4 ?_ r4, fun e q4 σ4 F4 H4 k4 => q4 σ4 F4 H4 (a.ok.unF k4), fun e q4 σ4 F4 H4 k4 => ⟨F4, e, k4, q4⟩⟩ q3⟩
      exact ⟨a.ok.ff.trans x4.fF, x4.hH, x4.fh, fun b n => (x4.nw b n).trans (a.ok.nw b n)⟩
end
end DL

namespace DL
open PySem PySem.Spec PyProof.Rows L2

/-! ### arithmetic -/
def MulOk (i j : Int) : Prop := CMul i j ∨ CMulW i j
theorem MulOk.ok {i j : Int} (h : MulOk i j) : IntMulOk i j := h.elim CMul.ok CMulW.ok
/-- a list or tuple written k times -/
def repD (k : Nat) (xs : List D) : List D := (List.replicate k xs).flatten
def dAdd : Op2 := fun d e Q => match d, e with
  | .int i, .int j => Q (.int (i + j))
  | .int i, .bl b => Q (.int (i + b2i b))
  | .str x, .str y => x.length + y.length ≤ sizeLine ∧ Q (.str (x ++ y))
  | .tup xs, .tup ys => xs.length + ys.length ≤ sizeLine ∧ Q (.tup (xs ++ ys))
  | .lst xs, .lst ys => xs.length + ys.length ≤ sizeLine ∧ Q (.lst (xs ++ ys))
  | _, _ => False
def dSub : Op2 := fun d e Q => match d, e with
  | .int i, .int j => Q (.int (i - j))
  | _, _ => False
def dMul : Op2 := fun d e Q => match d, e with
  | .int i, .int j => MulOk i j ∧ Q (.int (i * j))
  | .tup xs, .int k => xs ≠ [] ∧ 2 ≤ k ∧ k ≤ 1000 ∧ xs.length ≤ 1000 ∧ Q (.tup (repD k.toNat xs))
  | .lst xs, .int k => -(2 ^ 63) ≤ k ∧ k < 2 ^ 63 ∧ xs.length * k.toNat ≤ sizeLine ∧ Q (.lst (repD k.toNat xs))
  | _, _ => False
def dDiv : Op2 := fun d e Q => match d, e with
  | .int i, .int j => CDivW i j ∧ Q (.int (i / j))
  | _, _ => False
def dMod : Op2 := fun d e Q => match d, e with
  | .int i, .int j => 0 < j ∧ Q (.int (i % j))
  | _, _ => False
theorem dAdd_mono : Mono2 dAdd := fun d e Q Q' i q => by
  unfold dAdd at q ⊢
  split at q <;> first | exact i _ q | exact ⟨q.1, i _ q.2⟩ | exact q
theorem dSub_mono : Mono2 dSub := fun d e Q Q' i q => by
  unfold dSub at q ⊢
  split at q <;> first | exact i _ q | exact q
theorem dMul_mono : Mono2 dMul := fun d e Q Q' i q => by
  unfold dMul at q ⊢
  split at q <;> first | exact ⟨q.1, i _ q.2⟩ | exact ⟨q.1, q.2.1, q.2.2.1, q.2.2.2.1, i _ q.2.2.2.2⟩ | exact ⟨q.1, q.2.1, q.2.2.1, i _ q.2.2.2⟩ | exact q
theorem dDiv_mono : Mono2 dDiv := fun d e Q Q' i q => by
  unfold dDiv at q ⊢
  split at q <;> first | exact ⟨q.1, i _ q.2⟩ | exact q
theorem dMod_mono : Mono2 dMod := fun d e Q Q' i q => by
  unfold dMod at q ⊢
  split at q <;> first | exact ⟨q.1, i _ q.2⟩ | exact q
section
variable {K : PySem.W.Frag} {F H : Hp} {Q : VK}
theorem Wants.int {i : Int} (hf : Same F H) (h : Wants K F H Q (.int i)) : Q (.int i) H := h _ F H (Ext.refl hf) (.int i)
theorem Wants.bl {i : Bool} (hf : Same F H) (h : Wants K F H Q (.bl i)) : Q (.bl i) H := h _ F H (Ext.refl hf) (.bl i)
theorem Wants.str {i : Str} (hf : Same F H) (h : Wants K F H Q (.str i)) : Q (.str i) H := h _ F H (Ext.refl hf) (.str i)
theorem Wants.non (hf : Same F H) (h : Wants K F H Q .non) : Q .non H := h _ F H (Ext.refl hf) .non
theorem Wants.newT {vs : List V} {ds : List D} {p : Addr} (hf : Same F H) (r : Reps K F vs ds) (hp : H p = none) (h : Wants K F H Q (.tup ds)) : Q (.ref p) (upd H p (.tup vs)) := by
  have x := Ext.alloc (o := .tup vs) hf hp
  exact h _ _ _ x (.tup (.of upd_same) (r.mono x.fF))
theorem Wants.newL {vs : List V} {ds : List D} {p : Addr} (hf : Same F H) (r : Reps K F vs ds) (hp : H p = none) (h : Wants K F H Q (.lst ds)) : Q (.ref p) (upd H p (.lst vs)) := by
  have x := Ext.alloc (o := .lst vs) hf hp
  exact h _ _ _ x (.lst upd_same (r.mono x.fF))
theorem Reps.rep {vs : List V} {ds : List D} (r : Reps K F vs ds) : ∀ k : Nat, Reps K F (List.replicate k vs).flatten (repD k ds)
  | 0 => .nil
  | k + 1 => by
    show Reps K F (List.replicate (k + 1) vs).flatten ((List.replicate (k + 1) ds).flatten)
    rw [List.replicate_succ, List.replicate_succ, List.flatten_cons, List.flatten_cons]
    exact r.append (r.rep k)
end
section
variable {X : Cx}
theorem or_add : OpR X (binaryOp .Add) (rD2 X.K dAdd) := fun pins s σ H x y v u Q I rx ry ⟨F, d, e, hf, r1, r2, q⟩ => by
  unfold dAdd at q
  split at q
  · rw [r1.int] at rx; rw [r2.int] at ry
    exact op_add pins s σ H _ _ v u Q I rx ry ⟨_, _, rfl, rfl, q.int hf⟩
  · rw [r1.int] at rx; rw [r2.bl] at ry
    exact op_add_ib pins s σ H _ _ v u Q I rx ry ⟨_, _, rfl, rfl, q.int hf⟩
  · rw [r1.str] at rx; rw [r2.str] at ry
    exact op_add_str pins s σ H _ _ v u Q I rx ry ⟨_, _, rfl, rfl, q.1, q.2.str hf⟩
  · obtain ⟨a, vs, rfl, h1, p1, g1⟩ := r1.tup hf
    obtain ⟨b, ws, rfl, h2, p2, g2⟩ := r2.tup hf
    refine op_catA pins s σ H _ _ v u Q I rx ry ⟨a, b, vs, ws, rfl, rfl, h1, h2, by rw [p1.length, p2.length]; exact q.1, fun e => ?_, fun _ e => ?_, fun _ _ p hp => q.2.newT hf (p1.append p2) hp⟩
    · subst e; cases p1; exact q.2 _ F H (Ext.refl hf) (.tup g2 p2)
    · subst e; cases p2; rw [List.append_nil] at q; exact q.2 _ F H (Ext.refl hf) (.tup g1 p1)
  · obtain ⟨a, vs, rfl, h1, p1⟩ := r1.lst hf
    obtain ⟨b, ws, rfl, h2, p2⟩ := r2.lst hf
    exact op_cat pins s σ H _ _ v u Q I rx ry ⟨a, b, vs, ws, rfl, rfl, h1, h2, by rw [p1.length, p2.length]; exact q.1, fun p hp => q.2.newL hf (p1.append p2) hp⟩
  · exact q.elim
theorem or_sub : OpR X (binaryOp .Sub) (rD2 X.K dSub) := fun pins s σ H x y v u Q I rx ry ⟨F, d, e, hf, r1, r2, q⟩ => by
  unfold dSub at q
  split at q
  · rw [r1.int] at rx; rw [r2.int] at ry
    exact op_sub pins s σ H _ _ v u Q I rx ry ⟨_, _, rfl, rfl, q.int hf⟩
  · exact q.elim
theorem or_mul : OpR X (binaryOp .Mult) (rD2 X.K dMul) := fun pins s σ H x y v u Q I rx ry ⟨F, d, e, hf, r1, r2, q⟩ => by
  unfold dMul at q
  split at q
  · rw [r1.int] at rx; rw [r2.int] at ry
    rcases q.1 with c | c
    · exact op_mul pins s σ H _ _ v u Q I rx ry ⟨_, _, rfl, rfl, c, q.2.int hf⟩
    · exact op_mulW pins s σ H _ _ v u Q I rx ry ⟨_, _, rfl, rfl, c, q.2.int hf⟩
  · obtain ⟨a, vs, rfl, h1, p1, _⟩ := r1.tup hf
    rw [r2.int] at ry
    obtain ⟨h0, h2, h3, h4, q⟩ := q
    exact op_repT pins s σ H _ _ v u Q I rx ry ⟨a, _, vs, rfl, rfl, h1, fun z => h0 (p1.nil_iff.mp z), h2, h3, by rw [p1.length]; exact h4, fun p hp => q.newT hf (p1.rep _) hp⟩
  · obtain ⟨a, vs, rfl, h1, p1⟩ := r1.lst hf
    rw [r2.int] at ry
    obtain ⟨h2, h3, h4, q⟩ := q
    exact op_rep pins s σ H _ _ v u Q I rx ry ⟨a, _, vs, rfl, rfl, h1, h2, h3, by rw [p1.length]; exact h4, fun p hp => q.newL hf (p1.rep _) hp⟩
  · exact q.elim
theorem or_div : OpR X (binaryOp .FloorDiv) (rD2 X.K dDiv) := fun pins s σ H x y v u Q I rx ry ⟨F, d, e, hf, r1, r2, q⟩ => by
  unfold dDiv at q
  split at q
  · rw [r1.int] at rx; rw [r2.int] at ry
    exact op_fdivW pins s σ H _ _ v u Q I rx ry ⟨_, _, rfl, rfl, q.1, q.2.int hf⟩
  · exact q.elim
theorem or_mod : OpR X (binaryOp .Mod) (rD2 X.K dMod) := fun pins s σ H x y v u Q I rx ry ⟨F, d, e, hf, r1, r2, q⟩ => by
  unfold dMod at q
  split at q
  · rw [r1.int] at rx; rw [r2.int] at ry
    exact op_mod pins s σ H _ _ v u Q I rx ry ⟨_, _, rfl, rfl, q.1, q.2.int hf⟩
  · exact q.elim
/-! ### order of ints (and texts) -/
def dRel (f : Int → Int → Bool) : Op2 := fun d e Q => match d, e with
  | .int i, .int j => Q (.bl (f i j))
  | _, _ => False
theorem dRel_mono {f : Int → Int → Bool} : Mono2 (dRel f) := fun d e Q Q' i q => by
  unfold dRel at q ⊢
  split at q <;> first | exact i _ q | exact q
theorem or_rel {op : CmpOp} {f : Int → Int → Bool} (h : OpR X (compareOp op) (rI0 fun i j => .bl (f i j))) : OpR X (compareOp op) (rD2 X.K (dRel f)) := fun pins s σ H x y v u Q I rx ry ⟨F, d, e, hf, r1, r2, q⟩ => by
  unfold dRel at q
  split at q
  · rw [r1.int] at rx; rw [r2.int] at ry
    exact h pins s σ H _ _ v u Q I rx ry ⟨_, _, rfl, rfl, q.bl hf⟩
  · exact q.elim
abbrev dLt : Op2 := dRel fun i j => decide (i < j)
abbrev dLe : Op2 := dRel fun i j => decide (i ≤ j)
abbrev dGt : Op2 := dRel fun i j => decide (j < i)
abbrev dGe : Op2 := dRel fun i j => decide (j ≤ i)
theorem or_lt : OpR X (compareOp .Lt) (rD2 X.K dLt) := or_rel op_lt
theorem or_le : OpR X (compareOp .LtE) (rD2 X.K dLe) := or_rel op_le
theorem or_gt : OpR X (compareOp .Gt) (rD2 X.K dGt) := or_rel op_gt
theorem or_ge : OpR X (compareOp .GtE) (rD2 X.K dGe) := or_rel op_ge
end
/-! ### data without instances, for == -/
mutual
def toPy : D → Option PyData
  | .non => some .none
  | .bl b => some (.bool b)
  | .int i => some (.int i)
  | .str x => some (.str x)
  | .tup xs => (toPys xs).map .tuple
  | .lst xs => (toPys xs).map .list
  | .scr ns => some (.list (ns.map .int))
  | .ins _ _ _ => none
  | .ty _ => none
  | .cls _ => none
  | .sz _ => none
def toPys : List D → Option (List PyData)
  | [] => some []
  | x :: xs => (toPy x).bind fun p => (toPys xs).map fun ps => p :: ps
end
theorem DpAll_ints {K : PySem.W.Frag} {H : Hp} : ∀ ns : List Int, DpAll K H (ns.map V.int) (ns.map PyData.int)
  | [] => .nil
  | n :: ns => .cons (.int n) (DpAll_ints ns)
theorem Rep.dp {K : PySem.W.Frag} {H : Hp} {v : V} {d : D} (r : Rep K H v d) : ∀ p, toPy d = some p → Dp K H v p :=
  Rep.rec (motive_1 := fun v d _ => ∀ p, toPy d = some p → Dp K H v p) (motive_2 := fun vs ds _ => ∀ ps, toPys ds = some ps → DpAll K H vs ps)
    (fun p e => by simp only [toPy, Option.some.injEq] at e; subst e; exact .non)
    (fun b p e => by simp only [toPy, Option.some.injEq] at e; subst e; exact .bl b)
    (fun i p e => by simp only [toPy, Option.some.injEq] at e; subst e; exact .int i)
    (fun x p e => by simp only [toPy, Option.some.injEq] at e; subst e; exact .str x)
    (fun q _ ih p e => by
      simp only [toPy, Option.map_eq_some_iff] at e
      obtain ⟨ps, e1, e2⟩ := e
      subst e2
      exact .tup q (ih ps e1))
    (fun q _ ih p e => by
      simp only [toPy, Option.map_eq_some_iff] at e
      obtain ⟨ps, e1, e2⟩ := e
      subst e2
      exact .lst (.of q) (ih ps e1))
    (fun q p e => by simp only [toPy, Option.some.injEq] at e; subst e; exact .lst q (DpAll_ints _))
    (fun k q _ ih p e => by simp only [toPy] at e; cases e)
    (fun n p e => by simp only [toPy] at e; cases e)
    (fun n p e => by simp only [toPy] at e; cases e)
    (fun q p e => by simp only [toPy] at e; cases e)
    (fun ps e => by simp only [toPys, Option.some.injEq] at e; subst e; exact .nil)
    (fun _ _ i1 i2 ps e => by
      simp only [toPys, Option.bind_eq_some_iff, Option.map_eq_some_iff] at e
      obtain ⟨p, e1, qs, e2, e3⟩ := e
      subst e3
      exact .cons (i1 p e1) (i2 qs e2))
    r
/-- d == e of data: p, q what they are -/
def dEq : Op2 := fun d e Q => ∃ p q, toPy d = some p ∧ toPy e = some q ∧ SeqAt.shaped p = true ∧ SeqAt.shaped q = true ∧ Q (.bl (PyData.eqv p q))
def dNe : Op2 := fun d e Q => ∃ p q, toPy d = some p ∧ toPy e = some q ∧ SeqAt.shaped p = true ∧ SeqAt.shaped q = true ∧ Q (.bl (!PyData.eqv p q))
theorem dEq_mono : Mono2 dEq := fun d e Q Q' i ⟨p, q, h1, h2, h3, h4, h⟩ => ⟨p, q, h1, h2, h3, h4, i _ h⟩
theorem dNe_mono : Mono2 dNe := fun d e Q Q' i ⟨p, q, h1, h2, h3, h4, h⟩ => ⟨p, q, h1, h2, h3, h4, i _ h⟩
def dIs : Op2 := fun d e Q => match d, e with
  | .non, .non => Q (.bl true)
  | .bl _, .non => Q (.bl false) | .int _, .non => Q (.bl false) | .str _, .non => Q (.bl false) | .tup _, .non => Q (.bl false) | .lst _, .non => Q (.bl false) | .scr _, .non => Q (.bl false) | .ins _ _ _, .non => Q (.bl false)
  | _, _ => False
def dIsNot : Op2 := fun d e Q => dIs d e fun x => match x with
  | .bl b => Q (.bl (!b))
  | _ => False
theorem dIs_mono : Mono2 dIs := fun d e Q Q' i q => by
  unfold dIs at q ⊢
  split at q <;> first | exact i _ q | exact q
theorem dIsNot_mono : Mono2 dIsNot := fun d e Q Q' i q => dIs_mono d e _ _ (fun x q => by
  split at q <;> first | exact i _ q | exact q) q
theorem isnon {K : PySem.W.Frag} {F H : Hp} {v : V} {d : D} (r : BRep K F H v d) (h : d ≠ .non) : decide (v = .non) = false := by
  refine decide_eq_false fun e => ?_
  subst e
  rcases r with r | ⟨_, _, _, e, _⟩
  · cases r; exact h rfl
  · cases e
section
variable {X : Cx}
theorem or_eq (hu : X.A.units + 64 < cLine) : OpR X (compareOp .Eq) (rD2 X.K dEq) := fun pins s σ H x y v u Q I rx ry ⟨F, d, e, hf, r1, r2, p, q, h1, h2, h3, h4, h⟩ =>
  op_eqD hu pins s σ H x y v u Q I rx ry ⟨p, q, (r1.rep hf).dp p h1, (r2.rep hf).dp q h2, h3, h4, h.bl hf⟩
theorem or_ne (hu : X.A.units + 64 < cLine) : OpR X (compareOp .NotEq) (rD2 X.K dNe) := fun pins s σ H x y v u Q I rx ry ⟨F, d, e, hf, r1, r2, p, q, h1, h2, h3, h4, h⟩ =>
  op_neD hu pins s σ H x y v u Q I rx ry ⟨p, q, (r1.rep hf).dp p h1, (r2.rep hf).dp q h2, h3, h4, h.bl hf⟩
theorem or_is : OpR X (compareOp .Is) (rD2 X.K dIs) := fun pins s σ H x y v u Q I rx ry ⟨F, d, e, hf, r1, r2, q⟩ => by
  unfold dIs at q
  split at q <;> first | exact q.elim | skip
  · rw [r1.non] at rx; rw [r2.non] at ry
    exact op_isN pins s σ H _ _ v u Q I rx ry ⟨rfl, q.bl hf⟩
  all_goals
    rw [r2.non] at ry
    refine op_isN pins s σ H _ _ v u Q I rx ry ⟨rfl, ?_⟩
    rw [isnon r1 (fun z => nomatch z)]
    exact q.bl hf
theorem or_isnot : OpR X (compareOp .IsNot) (rD2 X.K dIsNot) := fun pins s σ H x y v u Q I rx ry ⟨F, d, e, hf, r1, r2, q⟩ => by
  unfold dIsNot dIs at q
  split at q <;> first | exact q.elim | skip
  · rw [r1.non] at rx; rw [r2.non] at ry
    exact op_notN pins s σ H _ _ v u Q I rx ry ⟨rfl, q.bl hf⟩
  all_goals
    rw [r2.non] at ry
    refine op_notN pins s σ H _ _ v u Q I rx ry ⟨rfl, ?_⟩
    rw [isnon r1 (fun z => nomatch z)]
    exact q.bl hf
/-! ### a[i] -/
def dIx : Op2 := fun d e Q => match d, e with
  | .tup xs, .int i => ∃ x, atI xs i = some x ∧ Q x
  | .lst xs, .int i => ∃ x, atI xs i = some x ∧ Q x
  | .scr ns, .int i => ∃ n, atI ns i = some n ∧ Q (.int n)
  | .str z, .int i => z.length ≤ sizeLine ∧ ∃ c, atI z.cps.toList i = some c ∧ Q (.str ⟨#[c]⟩)
  | _, _ => False
theorem dIx_mono : Mono2 dIx := fun d e Q Q' i q => by
  unfold dIx at q ⊢
  split at q
  · obtain ⟨x, h1, h2⟩ := q; exact ⟨x, h1, i _ h2⟩
  · obtain ⟨x, h1, h2⟩ := q; exact ⟨x, h1, i _ h2⟩
  · obtain ⟨x, h1, h2⟩ := q; exact ⟨x, h1, i _ h2⟩
  · obtain ⟨h0, x, h1, h2⟩ := q; exact ⟨h0, x, h1, i _ h2⟩
  · exact q
theorem atI_rep {K : PySem.W.Frag} {F : Hp} {vs : List V} {ds : List D} {i : Int} {d : D} (r : Reps K F vs ds) (h : atI ds i = some d) : ∃ v, atI vs i = some v ∧ Rep K F v d := by
  unfold atI at h ⊢
  rw [r.length]
  cases e : ixN ds.length i with
  | none => rw [e] at h; cases h
  | some j => rw [e] at h; exact r.get h
theorem atI_map {α β : Type} {f : α → β} {xs : List α} {i : Int} {x : α} (h : atI xs i = some x) : atI (xs.map f) i = some (f x) := by
  unfold atI at h ⊢
  rw [List.length_map]
  cases e : ixN xs.length i with
  | none => rw [e] at h; cases h
  | some j =>
    rw [e] at h
    show (xs.map f)[j]? = _
    rw [List.getElem?_map]
    have h' : xs[j]? = some x := h
    rw [h']; rfl
theorem ir_ix : IxR X (rD2 X.K dIx) := fun value slice pins s σ H x y v u Q I rx ry ⟨F, d, e, hf, r1, r2, q⟩ hs => by
  unfold dIx at q
  split at q
  · obtain ⟨a, vs, rfl, h1, p1, _⟩ := r1.tup hf
    obtain ⟨z, h2, q⟩ := q
    obtain ⟨w, h3, r3⟩ := atI_rep p1 h2
    rw [r2.int] at ry
    exact ix_tup value slice pins s σ H _ _ v u Q I rx ry ⟨a, vs, _, w, rfl, rfl, h1, h3, q _ F H (Ext.refl hf) r3⟩ hs
  · obtain ⟨a, vs, rfl, h1, p1⟩ := r1.lst hf
    obtain ⟨z, h2, q⟩ := q
    obtain ⟨w, h3, r3⟩ := atI_rep p1 h2
    rw [r2.int] at ry
    exact ix_list value slice pins s σ H _ _ v u Q I rx ry ⟨a, vs, _, w, rfl, rfl, .of h1, h3, q _ F H (Ext.refl hf) r3⟩ hs
  · obtain ⟨a, rfl, h1⟩ := r1.scr hf
    obtain ⟨z, h2, q⟩ := q
    rw [r2.int] at ry
    exact ix_list value slice pins s σ H _ _ v u Q I rx ry ⟨a, _, _, _, rfl, rfl, h1, atI_map h2, q.int hf⟩ hs
  · obtain ⟨h0, c, h2, q⟩ := q
    rw [r1.str] at rx; rw [r2.int] at ry
    exact ix_str value slice pins s σ H _ _ v u Q I rx ry ⟨_, _, c, rfl, rfl, h0, h2, q.str hf⟩ hs
  · exact q.elim
variable {a b : Expr} {ma mb : RE} {pos : Pos}
theorem ee_ix (ha : EB X a ma) (hb : EB X b mb) (hs : PlainIx b) : EE X (.Subscript a b pos) (rBin dIx ma mb) where
  mono := rBin_mono dIx_mono ha.mono hb.mono
  pe := fun G F0 => PE_imp (pe_ix ir_ix (ha.pe G F0) (hb.pe G F0) hs) fun σ H Q h => bin_core dIx_mono ha hb h
/-! ### slices -/
def cutD (xs : List D) (lo hi : Option Int) : List D := (xs.drop (HT.sIx xs.length 0 lo)).take (HT.sIx xs.length xs.length hi - HT.sIx xs.length 0 lo)
theorem Reps.cut {K : PySem.W.Frag} {F : Hp} {vs : List V} {ds : List D} (r : Reps K F vs ds) (lo hi : Option Int) : Reps K F (cutV vs lo hi) (cutD ds lo hi) := by
  unfold cutV cutD
  rw [r.length]
  exact (r.drop _).take _
def dSl (d : D) (lo hi : Option Int) (Q : D → Prop) : Prop := match d with
  | .tup xs => Q (.tup (cutD xs lo hi))
  | .lst xs => Q (.lst (cutD xs lo hi))
  | .str z => z.length ≤ sizeLine ∧ Q (.str (cutS z lo hi))
  | _ => False
theorem dSl_mono {d : D} {lo hi : Option Int} {Q Q' : D → Prop} (i : ∀ d, Q d → Q' d) (q : dSl d lo hi Q) : dSl d lo hi Q' := by
  cases d <;> first | exact i _ q | exact ⟨q.1, i _ q.2⟩ | exact q
abbrev RO := En → (Option Int → En → Prop) → Prop
def roNone : RO := fun env Q => Q none env
def roSome (m : RE) : RO := fun env Q => m env fun d e => match d with
  | .int i => Q (some i) e
  | _ => False
def tOo (K : PySem.W.Frag) (G F0 : Hp) (m : RO) : TO := fun σ H Q => ∃ F env, StOk K G F0 F H env σ ∧ m env fun d env' => ∀ F' H', Af K G F0 F H σ F' H' env' → Q d H'
structure EO (X : Cx) (e : Option Expr) (m : RO) : Prop where
  mono : MonoQ m
  pe : ∀ G F0, PO X e (tOo X.K G F0 m)
theorem PO_imp {e : Option Expr} {t t' : TO} (h : PO X e t) (i : ∀ σ H Q, t' σ H Q → t σ H Q) : PO X e t' := ⟨fun pins s σ H Q I q => h.run pins s σ H Q I (i σ H Q q)⟩
theorem eo_none : EO X none roNone := ⟨fun env Q Q' i q => i _ _ q, fun G F0 => PO_imp po_none fun σ H Q ⟨F, env, k, q⟩ => q F H (Af.refl k)⟩
theorem eo_some (h : EE X a ma) : EO X (some a) (roSome ma) where
  mono := fun env Q Q' i q => h.mono _ _ _ (fun d e q => by cases d <;> first | exact i _ _ q | exact q) q
  pe := fun G F0 => PO_imp (po_some (h.pe G F0)) fun σ H Q ⟨F, env, k, q⟩ => ⟨F, env, k, h.mono _ _ _ (fun d e q v F' H' af r => by
    cases r <;> first | exact q.elim | exact ⟨_, rfl, q F' H' af⟩) q⟩
def rSl (m : RE) (l h : RO) : RE := fun env Q => m env fun d e => l e fun lo e1 => h e1 fun hi e2 => dSl d lo hi fun x => Q x e2
theorem sl_any : SlR X (fun x lo hi H Q => ∃ F d, Same F H ∧ BRep X.K F H x d ∧ dSl d lo hi (Wants X.K F H Q)) := fun pins s σ H x v vl vu lo hi sl Q I rx hs pl pu ⟨F, d, hf, r1, q⟩ => by
  unfold dSl at q
  split at q
  · obtain ⟨a, vs, rfl, h1, p1, g1⟩ := r1.tup hf
    refine sl_tupA pins s σ H _ v vl vu lo hi sl Q I rx hs pl pu ⟨a, vs, rfl, h1, fun hw => ?_, fun _ p hp => q.newT hf (p1.cut lo hi) hp⟩
    refine q _ F H (Ext.refl hf) (.tup g1 ?_)
    unfold cutD
    rw [p1.length] at hw
    rw [hw.1, hw.2, List.drop_zero, Nat.sub_zero, List.take_length]
    exact p1
  · obtain ⟨a, vs, rfl, h1, p1⟩ := r1.lst hf
    exact sl_list pins s σ H _ v vl vu lo hi sl Q I rx hs pl pu ⟨a, vs, rfl, .of h1, fun p hp => q.newL hf (p1.cut lo hi) hp⟩
  · rw [r1.str] at rx
    exact sl_str pins s σ H _ v vl vu lo hi sl Q I rx hs pl pu ⟨_, rfl, q.1, q.2.str hf⟩
  · exact q.elim
theorem ee_slice {lo hi : Option Expr} {ml mh : RO} {p2 : Pos} (ha : EB X a ma) (hl : EO X lo ml) (hh : EO X hi mh) : EE X (.Subscript a (.Slice lo hi none p2) pos) (rSl ma ml mh) where
  mono := fun env Q Q' i q => ha.mono _ _ _ (fun d e q => hl.mono _ _ _ (fun l e1 q => hh.mono _ _ _ (fun u e2 q => dSl_mono (fun x q => i _ _ q) q) q) q) q
  pe := fun G F0 => PE_imp (pe_slice sl_any (ha.pe G F0) (hl.pe G F0) (hh.pe G F0)) fun σ H Q ⟨F, env, k, q⟩ =>
    ⟨F, env, k, ha.mono _ _ _ (fun d e q v F1 H1 a1 r1 => ⟨F1, e, a1.ok, hl.mono _ _ _ (fun l e1 q F2 H2 a2 => ⟨F2, e1, a2.ok, hh.mono _ _ _ (fun u e2 q F3 H3 a3 =>
      ⟨F3, d, a3.ok.fh, r1.ext (a2.fF.trans a3.fF) (a2.hH.trans a3.hH), dSl_mono (fun x q v F4 H4 x4 r4 => q v F4 H4 (((a1.trans a2).trans a3).ext x4) r4) q⟩) q⟩) q⟩) q⟩
/-! ### unary minus -/
def rNeg (m : RE) : RE := fun env Q => m env fun d e => match d with
  | .int i => Q (.int (-i)) e
  | _ => False
theorem ee_neg (ha : EE X a ma) : EE X (.UnaryOp .USub a pos) (rNeg ma) where
  mono := fun env Q Q' i q => ha.mono _ _ _ (fun d e q => by cases d <;> first | exact i _ _ q | exact q) q
  pe := fun G F0 => PE_imp (pe_un un_neg (ha.pe G F0)) fun σ H Q ⟨F, env, k, q⟩ => ⟨F, env, k, ha.mono _ _ _ (fun d e q v F' H' af r => by
    cases r <;> first | exact q.elim | exact ⟨_, rfl, q _ F' H' af (.int _)⟩) q⟩
end

/-! ### calls of built-ins -/
abbrev OpN := List D → (D → Prop) → Prop
def MonoN (δ : OpN) : Prop := ∀ ds (Q Q' : D → Prop), (∀ x, Q x → Q' x) → δ ds Q → δ ds Q'
def rDc (K : PySem.W.Frag) (δ : OpN) : List V → Hp → VK → Prop := fun vs H Q => ∃ F ds, Same F H ∧ BReps K F H vs ds ∧ δ ds (Wants K F H Q)
def rCall (δ : OpN) (m : RN) : RE := fun env Q => m env fun ds e => δ ds fun d => Q d e
theorem rCall_mono {δ : OpN} {m : RN} (h : MonoN δ) (hm : MonoQ m) : MonoQ (rCall δ m) := fun env Q Q' i q => hm _ _ _ (fun ds e q => h _ _ _ (fun d q => i _ _ q) q) q
section
variable {X : Cx} {x : Str} {p pos : Pos} {e : Expr} {es : List Expr} {m : RN} {id T : String} {δ : OpN}
theorem call_core {G F0 : Hp} {σ : L2.St} {H : Hp} {Q : VK} (hd : MonoN δ) (ha : EAb X es m) (h : tM X.K G F0 (rCall δ m) σ H Q) : tCB (rDc X.K δ) (tAb X.K G F0 m) σ H Q := by
  obtain ⟨F, env, k, q⟩ := h
  exact ⟨F, env, k, ha.mono _ _ _ (fun ds e q vs F1 H1 a1 r1 => ⟨F1, ds, a1.ok.fh, r1, hd _ _ _ (fun d q v F2 H2 x2 r2 => q v F2 H2 (a1.ext x2) r2) q⟩) q⟩
theorem ee_callB (hc : CallR X (.builtin id) (rDc X.K δ)) (hd : MonoN δ) (hg : Gl X x) (hm : X.mg x = none) (hv : bootBuiltins x = some (.builtin id)) (ha : EAb X (e :: es) m) (hn : x ≠ "__name__" := by decide) (hdb : (x == ("__debug__" : Str)) = false := by decide)
    (he : starEach (e :: es) X.env = (false, eval e X.env) :: starEach es X.env := by rfl) (hpl : (backTo pos (starEach es X.env)).any (·.1) = false := by rfl) : EE X (.Call (.Name x p) (e :: es) [] pos) (rCall δ m) where
  mono := rCall_mono hd ha.mono
  pe := fun G F0 => PE_imp (pe_callB hc hg hm hv (ha.pe G F0) hn hdb he hpl) fun σ H Q h => call_core hd ha h
theorem ee_callTy (hc : CallR X (.type T) (rDc X.K δ)) (hd : MonoN δ) (hg : Gl X x) (hm : X.mg x = none) (hv : bootBuiltins x = some (.type T)) (ha : EAb X (e :: es) m) (hn : x ≠ "__name__" := by decide) (hdb : (x == ("__debug__" : Str)) = false := by decide)
    (he : starEach (e :: es) X.env = (false, eval e X.env) :: starEach es X.env := by rfl) (hpl : (backTo pos (starEach es X.env)).any (·.1) = false := by rfl) : EE X (.Call (.Name x p) (e :: es) [] pos) (rCall δ m) where
  mono := rCall_mono hd ha.mono
  pe := fun G F0 => PE_imp (pe_callTy hc hg hm hv (ha.pe G F0) hn hdb he hpl) fun σ H Q h => call_core hd ha h
end
theorem BReps.one {K : PySem.W.Frag} {F H : Hp} {vs : List V} {d : D} (r : BReps K F H vs [d]) : ∃ v, vs = [v] ∧ BRep K F H v d := by
  cases r with | cons r t => cases t; exact ⟨_, rfl, r⟩
theorem BReps.two {K : PySem.W.Frag} {F H : Hp} {vs : List V} {d d' : D} (r : BReps K F H vs [d, d']) : ∃ v v', vs = [v, v'] ∧ BRep K F H v d ∧ BRep K F H v' d' := by
  cases r with | cons r t => obtain ⟨v', rfl, r'⟩ := t.one; exact ⟨_, _, rfl, r, r'⟩
def nInt : OpN := fun ds Q => match ds with
  | [.int i] => Q (.int i)
  | [.bl b] => Q (.int (if b then 1 else 0))
  | _ => False
def nLen : OpN := fun ds Q => match ds with
  | [.str y] => y.length ≤ sizeLine ∧ Q (.int y.length)
  | [.tup xs] => Q (.int xs.length)
  | [.lst xs] => Q (.int xs.length)
  | [.scr xs] => Q (.int xs.length)
  | _ => False
def nTuple : OpN := fun ds Q => match ds with
  | [.lst xs] => Q (.tup xs)
  | [.tup xs] => Q (.tup xs)
  | _ => False
def nList : OpN := fun ds Q => match ds with
  | [.lst xs] => Q (.lst xs)
  | [.tup xs] => Q (.lst xs)
  | [.scr ns] => Q (.lst (ns.map D.int))
  | _ => False
def nAbs : OpN := fun ds Q => match ds with
  | [.int i] => Q (.int (if i < 0 then -i else i))
  | _ => False
def nMax2 : OpN := fun ds Q => match ds with
  | [.int i, .int j] => Q (.int (if j > i then j else i))
  | _ => False
def nMin2 : OpN := fun ds Q => match ds with
  | [.int i, .int j] => Q (.int (if j < i then j else i))
  | _ => False
def asInts : List D → Option (List Int)
  | [] => some []
  | .int i :: r => (asInts r).map (i :: ·)
  | _ :: _ => none
def asBls : List D → Option (List Bool)
  | [] => some []
  | .bl i :: r => (asBls r).map (i :: ·)
  | _ :: _ => none
theorem asInts_eq : ∀ {ds : List D} {ns : List Int}, asInts ds = some ns → ds = ns.map D.int
  | [], ns, h => by cases h; rfl
  | d :: r, ns, h => by
    cases d <;> simp only [asInts, Option.map_eq_some_iff] at h <;> try cases h
    rename_i i w hw
    obtain ⟨e1, e2⟩ := hw
    subst e2
    rw [asInts_eq e1]; rfl
theorem asBls_eq : ∀ {ds : List D} {ns : List Bool}, asBls ds = some ns → ds = ns.map D.bl
  | [], ns, h => by cases h; rfl
  | d :: r, ns, h => by
    cases d <;> simp only [asBls, Option.map_eq_some_iff] at h <;> try cases h
    rename_i i w hw
    obtain ⟨e1, e2⟩ := hw
    subst e2
    rw [asBls_eq e1]; rfl
@[simp] theorem asInts_map : ∀ ns : List Int, asInts (ns.map D.int) = some ns
  | [] => rfl
  | n :: ns => by simp [asInts, asInts_map ns]
@[simp] theorem asBls_map : ∀ ns : List Bool, asBls (ns.map D.bl) = some ns
  | [] => rfl
  | n :: ns => by simp [asBls, asBls_map ns]
def nSum : OpN := fun ds Q => match ds with
  | [.lst xs] => ∃ ns, asInts xs = some ns ∧ Q (.int ns.sum)
  | _ => False
def nMaxL : OpN := fun ds Q => match ds with
  | [.lst xs] => ∃ ns, asInts xs = some ns ∧ 0 < ns.length ∧ ∀ m, m ∈ ns → (∀ y, y ∈ ns → y ≤ m) → Q (.int m)
  | _ => False
def nMinL : OpN := fun ds Q => match ds with
  | [.lst xs] => ∃ ns, asInts xs = some ns ∧ 0 < ns.length ∧ ∀ m, m ∈ ns → (∀ y, y ∈ ns → m ≤ y) → Q (.int m)
  | _ => False
def nAll : OpN := fun ds Q => match ds with
  | [.lst xs] => ∃ bs, asBls xs = some bs ∧ Q (.bl (bs.all id))
  | _ => False
def nAny : OpN := fun ds Q => match ds with
  | [.lst xs] => ∃ bs, asBls xs = some bs ∧ Q (.bl (bs.any id))
  | _ => False
theorem nInt_mono : MonoN nInt := by unfold nInt; intro ds Q Q' i q; revert q; split <;> intro q <;> first | exact i _ q | exact q | exact ⟨q.1, i _ q.2⟩
theorem nLen_mono : MonoN nLen := by unfold nLen; intro ds Q Q' i q; revert q; split <;> intro q <;> first | exact i _ q | exact q | exact ⟨q.1, i _ q.2⟩
theorem nTuple_mono : MonoN nTuple := by unfold nTuple; intro ds Q Q' i q; revert q; split <;> intro q <;> first | exact i _ q | exact q | exact ⟨q.1, i _ q.2⟩
theorem nList_mono : MonoN nList := by unfold nList; intro ds Q Q' i q; revert q; split <;> intro q <;> first | exact i _ q | exact q | exact ⟨q.1, i _ q.2⟩
theorem nAbs_mono : MonoN nAbs := by unfold nAbs; intro ds Q Q' i q; revert q; split <;> intro q <;> first | exact i _ q | exact q | exact ⟨q.1, i _ q.2⟩
theorem nMax2_mono : MonoN nMax2 := by unfold nMax2; intro ds Q Q' i q; revert q; split <;> intro q <;> first | exact i _ q | exact q | exact ⟨q.1, i _ q.2⟩
theorem nMin2_mono : MonoN nMin2 := by unfold nMin2; intro ds Q Q' i q; revert q; split <;> intro q <;> first | exact i _ q | exact q | exact ⟨q.1, i _ q.2⟩
theorem nSum_mono : MonoN nSum := by
  intro ds Q Q' i q; unfold nSum at q ⊢
  split at q
  · obtain ⟨ns, h1, h2⟩ := q; exact ⟨ns, h1, i _ h2⟩
  · exact q
theorem nAll_mono : MonoN nAll := by
  intro ds Q Q' i q; unfold nAll at q ⊢
  split at q
  · obtain ⟨ns, h1, h2⟩ := q; exact ⟨ns, h1, i _ h2⟩
  · exact q
theorem nAny_mono : MonoN nAny := by
  intro ds Q Q' i q; unfold nAny at q ⊢
  split at q
  · obtain ⟨ns, h1, h2⟩ := q; exact ⟨ns, h1, i _ h2⟩
  · exact q
theorem nMaxL_mono : MonoN nMaxL := by
  intro ds Q Q' i q; unfold nMaxL at q ⊢
  split at q
  · obtain ⟨ns, h1, h0, h2⟩ := q; exact ⟨ns, h1, h0, fun m h3 h4 => i _ (h2 m h3 h4)⟩
  · exact q
theorem nMinL_mono : MonoN nMinL := by
  intro ds Q Q' i q; unfold nMinL at q ⊢
  split at q
  · obtain ⟨ns, h1, h0, h2⟩ := q; exact ⟨ns, h1, h0, fun m h3 h4 => i _ (h2 m h3 h4)⟩
  · exact q
section
variable {X : Cx}
theorem cn_int : CallR X (.type "int") (rDc X.K nInt) := fun pins s σ H xs us Q I r ⟨F, ds, hf, r1, q⟩ => by
  unfold nInt at q
  split at q
  · obtain ⟨v, rfl, r2⟩ := r1.one
    rw [r2.int] at r
    exact call_int1 pins s σ H _ us Q I r (.inl ⟨_, rfl, q.int hf⟩)
  · obtain ⟨v, rfl, r2⟩ := r1.one
    rw [r2.bl] at r
    exact call_int1 pins s σ H _ us Q I r (.inr ⟨_, rfl, q.int hf⟩)
  · exact q.elim
theorem cn_len : CallR X (.builtin "len") (rDc X.K nLen) := fun pins s σ H xs us Q I r ⟨F, ds, hf, r1, q⟩ => by
  unfold nLen at q
  split at q
  · obtain ⟨v, rfl, r2⟩ := r1.one
    rw [r2.str] at r
    exact call_len_str pins s σ H _ us Q I r ⟨_, rfl, q.1, q.2.int hf⟩
  · obtain ⟨v, rfl, r2⟩ := r1.one
    obtain ⟨a, vs, rfl, h, rs, _⟩ := r2.tup hf
    exact call_len_seq pins s σ H _ us Q I r ⟨a, vs, rfl, .inr h, by rw [rs.length]; exact q.int hf⟩
  · obtain ⟨v, rfl, r2⟩ := r1.one
    obtain ⟨a, vs, rfl, h, rs⟩ := r2.lst hf
    exact call_len_seq pins s σ H _ us Q I r ⟨a, vs, rfl, .inl (.of h), by rw [rs.length]; exact q.int hf⟩
  · obtain ⟨v, rfl, r2⟩ := r1.one
    obtain ⟨a, rfl, h⟩ := r2.scr hf
    exact call_len_seq pins s σ H _ us Q I r ⟨a, _, rfl, .inl h, by rw [List.length_map]; exact q.int hf⟩
  · exact q.elim
theorem cn_tuple : CallR X (.type "tuple") (rDc X.K nTuple) := fun pins s σ H xs us Q I r ⟨F, ds, hf, r1, q⟩ => by
  unfold nTuple at q
  split at q
  · obtain ⟨v, rfl, r2⟩ := r1.one
    obtain ⟨a, vs, rfl, h, rs⟩ := r2.lst hf
    exact call_tuple_of pins s σ H _ us Q I r ⟨a, vs, rfl, .inl ⟨.of h, fun l hl => q.newT hf rs hl⟩⟩
  · obtain ⟨v, rfl, r2⟩ := r1.one
    obtain ⟨a, vs, rfl, h, rs, g⟩ := r2.tup hf
    exact call_tuple_of pins s σ H _ us Q I r ⟨a, vs, rfl, .inr ⟨h, q _ F H (Ext.refl hf) (.tup g rs)⟩⟩
  · exact q.elim
theorem cn_list : CallR X (.type "list") (rDc X.K nList) := fun pins s σ H xs us Q I r ⟨F, ds, hf, r1, q⟩ => by
  unfold nList at q
  split at q
  · obtain ⟨v, rfl, r2⟩ := r1.one
    obtain ⟨a, vs, rfl, h, rs⟩ := r2.lst hf
    exact call_list_of pins s σ H _ us Q I r ⟨a, vs, rfl, .inl (.of h), fun l hl => q.newL hf rs hl⟩
  · obtain ⟨v, rfl, r2⟩ := r1.one
    obtain ⟨a, vs, rfl, h, rs, g⟩ := r2.tup hf
    exact call_list_of pins s σ H _ us Q I r ⟨a, vs, rfl, .inr h, fun l hl => q.newL hf rs hl⟩
  · obtain ⟨v, rfl, r2⟩ := r1.one
    obtain ⟨a, rfl, h⟩ := r2.scr hf
    exact call_list_of pins s σ H _ us Q I r ⟨a, _, rfl, .inl h, fun l hl => q.newL hf (Reps.of_ints _) hl⟩
  · exact q.elim
theorem cn_abs : CallR X (.builtin "abs") (rDc X.K nAbs) := fun pins s σ H xs us Q I r ⟨F, ds, hf, r1, q⟩ => by
  unfold nAbs at q
  split at q
  · obtain ⟨v, rfl, r2⟩ := r1.one
    rw [r2.int] at r
    exact call_abs pins s σ H _ us Q I r ⟨_, rfl, q.int hf⟩
  · exact q.elim
theorem cn_max2 (hc : X.calm = true) : CallR X (.builtin "max") (rDc X.K nMax2) := fun pins s σ H xs us Q I r ⟨F, ds, hf, r1, q⟩ => by
  unfold nMax2 at q
  split at q
  · obtain ⟨v, v', rfl, r2, r3⟩ := r1.two
    rw [r2.int, r3.int] at r
    exact call_max2 hc pins s σ H _ us Q I r ⟨_, _, rfl, q.int hf⟩
  · exact q.elim
theorem cn_min2 (hc : X.calm = true) : CallR X (.builtin "min") (rDc X.K nMin2) := fun pins s σ H xs us Q I r ⟨F, ds, hf, r1, q⟩ => by
  unfold nMin2 at q
  split at q
  · obtain ⟨v, v', rfl, r2, r3⟩ := r1.two
    rw [r2.int, r3.int] at r
    exact call_min2 hc pins s σ H _ us Q I r ⟨_, _, rfl, q.int hf⟩
  · exact q.elim
theorem cn_sum (hc : X.calm = true) : CallR X (.builtin "sum") (rDc X.K nSum) := fun pins s σ H xs us Q I r ⟨F, ds, hf, r1, q⟩ => by
  unfold nSum at q
  split at q
  · obtain ⟨v, rfl, r2⟩ := r1.one
    obtain ⟨a, vs, rfl, h, rs⟩ := r2.lst hf
    obtain ⟨ns, e, q⟩ := q
    rw [asInts_eq e] at rs
    rw [rs.ints] at h
    exact cr_sum hc pins s σ H _ us Q I r ⟨a, ns, rfl, .of h, q.int hf⟩
  · exact q.elim
theorem cn_maxL (hc : X.calm = true) : CallR X (.builtin "max") (rDc X.K nMaxL) := fun pins s σ H xs us Q I r ⟨F, ds, hf, r1, q⟩ => by
  unfold nMaxL at q
  split at q
  · obtain ⟨v, rfl, r2⟩ := r1.one
    obtain ⟨a, vs, rfl, h, rs⟩ := r2.lst hf
    obtain ⟨ns, e, h0, q⟩ := q
    rw [asInts_eq e] at rs
    rw [rs.ints] at h
    exact cr_max hc pins s σ H _ us Q I r ⟨a, ns, rfl, .of h, h0, fun m h1 h2 => (q m h1 h2).int hf⟩
  · exact q.elim
theorem cn_minL (hc : X.calm = true) : CallR X (.builtin "min") (rDc X.K nMinL) := fun pins s σ H xs us Q I r ⟨F, ds, hf, r1, q⟩ => by
  unfold nMinL at q
  split at q
  · obtain ⟨v, rfl, r2⟩ := r1.one
    obtain ⟨a, vs, rfl, h, rs⟩ := r2.lst hf
    obtain ⟨ns, e, h0, q⟩ := q
    rw [asInts_eq e] at rs
    rw [rs.ints] at h
    exact cr_min hc pins s σ H _ us Q I r ⟨a, ns, rfl, .of h, h0, fun m h1 h2 => (q m h1 h2).int hf⟩
  · exact q.elim
theorem cn_all (hc : X.calm = true) : CallR X (.builtin "all") (rDc X.K nAll) := fun pins s σ H xs us Q I r ⟨F, ds, hf, r1, q⟩ => by
  unfold nAll at q
  split at q
  · obtain ⟨v, rfl, r2⟩ := r1.one
    obtain ⟨a, vs, rfl, h, rs⟩ := r2.lst hf
    obtain ⟨ns, e, q⟩ := q
    rw [asBls_eq e] at rs
    rw [rs.bls] at h
    exact cr_all hc pins s σ H _ us Q I r ⟨a, ns, rfl, .of h, q.bl hf⟩
  · exact q.elim
theorem cn_any (hc : X.calm = true) : CallR X (.builtin "any") (rDc X.K nAny) := fun pins s σ H xs us Q I r ⟨F, ds, hf, r1, q⟩ => by
  unfold nAny at q
  split at q
  · obtain ⟨v, rfl, r2⟩ := r1.one
    obtain ⟨a, vs, rfl, h, rs⟩ := r2.lst hf
    obtain ⟨ns, e, q⟩ := q
    rw [asBls_eq e] at rs
    rw [rs.bls] at h
    exact cr_any hc pins s σ H _ us Q I r ⟨a, ns, rfl, .of h, q.bl hf⟩
  · exact q.elim
end
end DL

namespace DL
open PySem PySem.Spec PyProof.Rows L2

/-! ### what is walked -/
section
variable {K : PySem.W.Frag} {F H : Hp}
theorem ItOk.list {a : Addr} {vs : List V} {ds : List D} (h : SqL K F a vs) (r : Reps K F vs ds) : ItOk K F (Itl K a) ds := fun i F1 H1 s1 s2 => by
  have h1 : SqL K H1 a vs := (s1.trans s2).seq h
  refine ⟨fun d e => ?_, fun e => ?_⟩
  · obtain ⟨v, ev, rv⟩ := r.get e
    refine ⟨⟨vs, v, h1, ev⟩, fun x H2 y => ?_⟩
    obtain ⟨rfl, y⟩ := y
    have e2 := (y vs h1).symm.trans ev
    cases e2
    exact ⟨F1, Ext.refl s2, rv.mono s1⟩
  · exact ⟨vs, h1, by rw [r.length]; exact List.getElem?_eq_none_iff.mp e⟩
theorem ItOk.tup {a : Addr} {vs : List V} {ds : List D} (h : SqT K F a vs) (r : Reps K F vs ds) : ItOk K F (Itt K a) ds := fun i F1 H1 s1 s2 => by
  have h1 : SqT K H1 a vs := SqT_mono (s1.trans s2) h
  refine ⟨fun d e => ?_, fun e => ?_⟩
  · obtain ⟨v, ev, rv⟩ := r.get e
    refine ⟨⟨vs, v, h1, ev⟩, fun x H2 y => ?_⟩
    obtain ⟨rfl, y⟩ := y
    have e2 := (y vs h1).symm.trans ev
    cases e2
    exact ⟨F1, Ext.refl s2, rv.mono s1⟩
  · exact ⟨vs, h1, by rw [r.length]; exact List.getElem?_eq_none_iff.mp e⟩
/-- the signs of a text -/
def signs (z : Str) : List D := z.cps.toList.map fun c => D.str ⟨#[c]⟩
theorem ItOk.str {z : Str} : ItOk K F (Its z) (signs z) := fun i F1 H1 s1 s2 => by
  have e0 : (signs z)[i]? = (z.cps[i]?).map fun c => D.str ⟨#[c]⟩ := by
    unfold signs; rw [List.getElem?_map, Array.getElem?_toList]
  rw [e0]
  refine ⟨fun d e => ?_, fun e => ?_⟩
  · obtain ⟨c, ec, rfl⟩ := Option.map_eq_some_iff.mp e
    refine ⟨?_, fun x H2 y => ?_⟩
    · obtain ⟨h, _⟩ := Array.getElem?_eq_some_iff.mp ec; exact h
    · obtain ⟨rfl, c', ec', rfl⟩ := y
      rw [ec] at ec'; cases ec'
      exact ⟨F1, Ext.refl s2, .str _⟩
  · have := Option.map_eq_none_iff.mp e
    exact Array.getElem?_eq_none_iff.mp this
/-- lo, lo + 1, .. -/
def rangeD : Int → Nat → List D
  | _, 0 => []
  | lo, n + 1 => .int lo :: rangeD (lo + 1) n
theorem rangeD_get : ∀ (lo : Int) (n i : Nat), (rangeD lo n)[i]? = if i < n then some (.int (lo + i)) else none
  | lo, 0, i => by simp [rangeD]
  | lo, n + 1, 0 => by simp [rangeD]
  | lo, n + 1, i + 1 => by
    have h := rangeD_get (lo + 1) n i
    simp only [rangeD, List.getElem?_cons_succ, h]
    have e : lo + 1 + (i : Int) = lo + ((i + 1 : Nat) : Int) := by omega
    rw [e]
    by_cases c : i < n
    · rw [if_pos c, if_pos (by omega)]
    · rw [if_neg c, if_neg (by omega)]
theorem ItOk.range {lo : Int} {n : Nat} : ItOk K F (Itr lo n) (rangeD lo n) := fun i F1 H1 s1 s2 => by
  rw [rangeD_get]
  refine ⟨fun d e => ?_, fun e => ?_⟩
  · split at e
    · rename_i hlt
      cases e
      refine ⟨hlt, fun x H2 y => ?_⟩
      obtain ⟨rfl, rfl⟩ := y
      exact ⟨F1, Ext.refl s2, .int _⟩
    · cases e
  · split at e
    · cases e
    · rename_i h; exact Nat.le_of_not_lt h
/-- pairs, each new -/
def zipD : List D → List D → List D
  | x :: xs, y :: ys => .tup [x, y] :: zipD xs ys
  | _, _ => []
theorem zipD_get : ∀ (xs ys : List D) (i : Nat), (zipD xs ys)[i]? = (xs[i]?).bind fun x => (ys[i]?).map fun y => D.tup [x, y]
  | [], ys, i => by simp [zipD]
  | x :: xs, [], i => by
    simp only [zipD, List.getElem?_nil, Option.map_none]
    cases (x :: xs)[i]? <;> rfl
  | x :: xs, y :: ys, 0 => rfl
  | x :: xs, y :: ys, i + 1 => by simpa [zipD] using zipD_get xs ys i
def enumD : Int → List D → List D
  | _, [] => []
  | k, x :: xs => .tup [.int k, x] :: enumD (k + 1) xs
theorem enumD_get : ∀ (k : Int) (xs : List D) (i : Nat), (enumD k xs)[i]? = (xs[i]?).map fun x => D.tup [.int (k + i), x]
  | k, [], i => by simp [enumD]
  | k, x :: xs, 0 => by simp [enumD]
  | k, x :: xs, i + 1 => by
    have h := enumD_get (k + 1) xs i
    simp only [enumD, List.getElem?_cons_succ, h]
    have e : k + 1 + (i : Int) = k + ((i + 1 : Nat) : Int) := by omega
    rw [e]
theorem pair_new {F1 H1 : Hp} {T : Addr} {x y : V} {d e : D} (s2 : Same F1 H1) (hT : H1 T = none) (rx : Rep K F1 x d) (ry : Rep K F1 y e) :
    ∃ F2, Ext F1 H1 F2 (upd H1 T (.tup [x, y])) ∧ Rep K F2 (.ref T) (.tup [d, e]) := by
  have X := Ext.alloc (o := .tup [x, y]) s2 hT
  exact ⟨_, X, .tup (.of upd_same) (.cons (rx.mono X.fF) (Reps.one (ry.mono X.fF)))⟩
theorem ItOk.enum {a : Addr} {vs : List V} {ds : List D} (h : SqL K F a vs) (r : Reps K F vs ds) : ItOk K F (Ite K a) (enumD 0 ds) := fun i F1 H1 s1 s2 => by
  have h1 : SqL K H1 a vs := (s1.trans s2).seq h
  rw [enumD_get]
  refine ⟨fun d e => ?_, fun e => ?_⟩
  · obtain ⟨d', e', rfl⟩ := Option.map_eq_some_iff.mp e
    obtain ⟨v, ev, rv⟩ := r.get e'
    refine ⟨⟨vs, v, h1, ev⟩, fun x H2 y => ?_⟩
    obtain ⟨T, x', rfl, hT, rfl, y⟩ := y
    have e2 := (y vs h1).symm.trans ev
    cases e2
    have e3 : (0 : Int) + (i : Int) = (i : Int) := by omega
    rw [e3]
    exact pair_new s2 hT (.int _) (rv.mono s1)
  · exact ⟨vs, h1, by rw [r.length]; exact List.getElem?_eq_none_iff.mp (Option.map_eq_none_iff.mp e)⟩
theorem ItOk.zipLL {a b : Addr} {vs ws : List V} {ds es : List D} (h : SqL K F a vs) (h' : SqL K F b ws) (r : Reps K F vs ds) (r' : Reps K F ws es) : ItOk K F (Itz K a b) (zipD ds es) := fun i F1 H1 s1 s2 => by
  have h1 : SqL K H1 a vs := (s1.trans s2).seq h
  have h2 : SqL K H1 b ws := (s1.trans s2).seq h'
  rw [zipD_get]
  refine ⟨fun d e => ?_, fun e => ?_⟩
  · obtain ⟨d', e', e⟩ := Option.bind_eq_some_iff.mp e
    obtain ⟨d2, e2, rfl⟩ := Option.map_eq_some_iff.mp e
    obtain ⟨v, ev, rv⟩ := r.get e'
    obtain ⟨w, ew, rw'⟩ := r'.get e2
    refine ⟨⟨vs, ws, v, w, h1, h2, ev, ew⟩, fun x H2 y => ?_⟩
    obtain ⟨T, x', y', rfl, hT, rfl, y1, y2⟩ := y
    have q1 := (y1 vs h1).symm.trans ev
    have q2 := (y2 ws h2).symm.trans ew
    cases q1; cases q2
    exact pair_new s2 hT (rv.mono s1) (rw'.mono s1)
  · refine ⟨vs, ws, h1, h2, ?_⟩
    rw [r.length, r'.length]
    cases e1 : ds[i]? with
    | none => exact .inl (List.getElem?_eq_none_iff.mp e1)
    | some d =>
      rw [e1] at e
      exact .inr (List.getElem?_eq_none_iff.mp (Option.map_eq_none_iff.mp e))
theorem ItOk.zipTT {a b : Addr} {vs ws : List V} {ds es : List D} (h : SqT K F a vs) (h' : SqT K F b ws) (r : Reps K F vs ds) (r' : Reps K F ws es) : ItOk K F (RZ.ItzT K a b) (zipD ds es) := fun i F1 H1 s1 s2 => by
  have h1 : SqT K H1 a vs := SqT_mono (s1.trans s2) h
  have h2 : SqT K H1 b ws := SqT_mono (s1.trans s2) h'
  rw [zipD_get]
  refine ⟨fun d e => ?_, fun e => ?_⟩
  · obtain ⟨d', e', e⟩ := Option.bind_eq_some_iff.mp e
    obtain ⟨d2, e2, rfl⟩ := Option.map_eq_some_iff.mp e
    obtain ⟨v, ev, rv⟩ := r.get e'
    obtain ⟨w, ew, rw'⟩ := r'.get e2
    refine ⟨⟨vs, ws, v, w, h1, h2, ev, ew⟩, fun x H2 y => ?_⟩
    obtain ⟨T, x', y', rfl, hT, rfl, y1, y2⟩ := y
    have q1 := (y1 vs h1).symm.trans ev
    have q2 := (y2 ws h2).symm.trans ew
    cases q1; cases q2
    exact pair_new s2 hT (rv.mono s1) (rw'.mono s1)
  · refine ⟨vs, ws, h1, h2, ?_⟩
    rw [r.length, r'.length]
    cases e1 : ds[i]? with
    | none => exact .inl (List.getElem?_eq_none_iff.mp e1)
    | some d =>
      rw [e1] at e
      exact .inr (List.getElem?_eq_none_iff.mp (Option.map_eq_none_iff.mp e))
end

/-! ### walks by syntax -/
/-- a sequence's items -/
def dSeq (d : D) (Q : List D → Prop) : Prop := match d with
  | .tup xs => Q xs
  | .lst xs => Q xs
  | .scr ns => Q (ns.map D.int)
  | .str z => Q (signs z)
  | _ => False
theorem dSeq_mono {d : D} {Q Q' : List D → Prop} (i : ∀ x, Q x → Q' x) (q : dSeq d Q) : dSeq d Q' := by
  cases d <;> first | exact i _ q | exact q
def iSeqV (K : PySem.W.Frag) (x : V) (H : Hp) (R : It → Hp → Prop) : Prop :=
  (∃ a xs, x = .ref a ∧ SqL K H a xs ∧ R (Itl K a) H) ∨ (∃ a xs, x = .ref a ∧ SqT K H a xs ∧ R (Itt K a) H) ∨ ∃ z, x = .str z ∧ R (Its z) H
section
variable {X : Cx} {tg e : Expr} {te : TE} {me : RE}
theorem pi_seqV (he : PE X e te) : PI X tg e (fun σ H R => te σ H fun x H1 => iSeqV X.K x H1 R) := ⟨fun pins s σ H R I h => thn (he.run pins s σ H _ I h) fun v s1 ⟨x, H1, I1, r1, q1⟩ => by
  rcases q1 with ⟨a, xs, rfl, hq, q⟩ | ⟨a, xs, rfl, hq, q⟩ | ⟨z, rfl, q⟩
  · cases r1
    obtain ⟨its, rv, p, hz⟩ := I1.list hq
    exact wpAny_pyIter_list p.isList (pi_one (tk := s1.toks) I1 _ (turn_list a _) ⟨_, Heap.get?_push_size _ rfl, rfl, rfl⟩ q)
  · cases r1
    obtain ⟨its, rv, p, hz⟩ := I1.tuple hq
    exact wpAny_pyIter_tuple (show s1.heap.IsTuple a its.toArray from p) (pi_one (tk := s1.toks) I1 _ (turn_tuple a _) ⟨_, Heap.get?_push_size _ rfl, rfl, rfl⟩ q)
  · obtain ⟨t, rfl⟩ := r1
    by_cases ha : z.cps.all (· < 128) = true
    · exact wpAny_pyIter_ascii ha (pi_one (tk := s1.toks) I1 _ (turn_str _ z t "str_ascii_iterator" (.inl rfl)) ⟨_, Heap.get?_push_size _ rfl, rfl, rfl⟩ q)
    · exact wpAny_pyIter_wide (Bool.eq_false_iff.mpr ha) (pi_one (tk := s1.toks) I1 _ (turn_str _ z t "str_iterator" (.inr rfl)) ⟨_, Heap.get?_push_size _ rfl, rfl, rfl⟩ q)⟩
def iSeq (m : RE) : RN := fun env Q => m env fun d e => dSeq d fun ds => Q ds e
theorem iSeq_mono {m : RE} (h : MonoQ m) : MonoQ (iSeq m) := fun env Q Q' i q => h _ _ _ (fun d e q => dSeq_mono (fun x q => i _ _ q) q) q
theorem ei_seq (he : EE X e me) : EI X tg e (iSeq me) where
  mono := iSeq_mono he.mono
  pi := fun G F0 => PI_imp (pi_seqV (he.pe G F0)) fun σ H R ⟨F, env, k, q⟩ => ⟨F, env, k, he.mono _ _ _ (fun d e q v F' H' a r => by
    cases r <;> first | exact q.elim | skip
    · exact .inr (.inr ⟨_, rfl, q _ F' H' a ItOk.str⟩)
    · rename_i vs ds h rs
      exact .inr (.inl ⟨_, vs, rfl, SqT_mono a.ok.fh h, q _ F' H' a (ItOk.tup h rs)⟩)
    · rename_i vs ds h rs
      exact .inl ⟨_, vs, rfl, .of (a.ok.fh _ _ h), q _ F' H' a (ItOk.list (.of h) rs)⟩
    · rename_i ns h
      exact .inl ⟨_, _, rfl, a.ok.fh.seq h, q _ F' H' a (ItOk.list h (Reps.of_ints _))⟩) q⟩
variable {p pos : Pos} {a b : Expr} {m : RN}
def inR (i : Int) : Prop := -(2 ^ 62) ≤ i ∧ i < 2 ^ 62
def iRg1 (m : RN) : RN := fun env Q => m env fun ds e => match ds with
  | [.int j] => inR j ∧ Q (rangeD 0 j.toNat) e
  | _ => False
theorem ei_range1 (hg : Gl X "range") (hm : X.mg "range" = none) (ha : EA X [a] m) (hs : starEach [a] X.env = [(false, eval a X.env)] := by rfl) : EI X tg (.Call (.Name "range" p) [a] [] pos) (iRg1 m) where
  mono := fun env Q Q' i q => ha.mono _ _ _ (fun ds e q => by revert q; split <;> intro q <;> first | exact ⟨q.1, i _ _ q.2⟩ | exact q) q
  pi := fun G F0 => PI_imp (pi_range1 hg hm (ha.pe G F0) hs) fun σ H R ⟨F, env, k, q⟩ => ⟨F, env, k, ha.mono _ _ _ (fun ds e q vs F' H' a r => by
    revert q; split <;> intro q
    · obtain ⟨⟨h1, h2⟩, q⟩ := q
      cases r with | cons r t => cases t; cases r; exact ⟨_, rfl, h1, h2, q _ F' H' a ItOk.range⟩
    · exact q.elim) q⟩
def iRg2 (m : RN) : RN := fun env Q => m env fun ds e => match ds with
  | [.int i, .int j] => inR i ∧ inR j ∧ Q (rangeD i (j - i).toNat) e
  | _ => False
theorem ei_range2 (hg : Gl X "range") (hm : X.mg "range" = none) (ha : EA X [a, b] m) (hs : starEach [a, b] X.env = [(false, eval a X.env), (false, eval b X.env)] := by rfl) (hs2 : starEach [b] X.env = [(false, eval b X.env)] := by rfl) : EI X tg (.Call (.Name "range" p) [a, b] [] pos) (iRg2 m) where
  mono := fun env Q Q' i q => ha.mono _ _ _ (fun ds e q => by revert q; split <;> intro q <;> first | exact ⟨q.1, q.2.1, i _ _ q.2.2⟩ | exact q) q
  pi := fun G F0 => PI_imp (pi_range2 hg hm (ha.pe G F0) hs hs2) fun σ H R ⟨F, env, k, q⟩ => ⟨F, env, k, ha.mono _ _ _ (fun ds e q vs F' H' a r => by
    revert q; split <;> intro q
    · obtain ⟨⟨h1, h2⟩, ⟨h3, h4⟩, q⟩ := q
      cases r with | cons r t => cases t with | cons r' t => cases t; cases r; cases r'; exact ⟨_, _, rfl, ⟨h1, h2, h3, h4⟩, q _ F' H' a ItOk.range⟩
    · exact q.elim) q⟩
variable {elts : List Expr} {kk : Nat} {tpos : Pos}
def iEnumD (m : RN) : RN := fun env Q => m env fun ds e => match ds with
  | [.lst xs] => Q (enumD 0 xs) e
  | _ => False
theorem ei_enum (hg : Gl X "enumerate") (hm : X.mg "enumerate" = none) (ha : EA X [a] m) (hs : starEach [a] X.env = [(false, eval a X.env)] := by rfl) : EI X (.Tuple elts kk tpos) (.Call (.Name "enumerate" p) [a] [] pos) (iEnumD m) where
  mono := fun env Q Q' i q => ha.mono _ _ _ (fun ds e q => by revert q; split <;> intro q <;> first | exact i _ _ q | exact q) q
  pi := fun G F0 => PI_imp (pi_enum hg hm (ha.pe G F0) hs) fun σ H R ⟨F, env, k, q⟩ => ⟨F, env, k, ha.mono _ _ _ (fun ds e q vs F' H' a r => by
    revert q; split <;> intro q
    · cases r with | cons r t => cases t; cases r with | lst h rs => exact ⟨_, _, rfl, .of (a.ok.fh _ _ h), q _ F' H' a (ItOk.enum (.of h) rs)⟩
    · exact q.elim) q⟩
def iZipD (m : RN) : RN := fun env Q => m env fun ds e => match ds with
  | [.lst xs, .lst ys] => Q (zipD xs ys) e
  | [.tup xs, .tup ys] => Q (zipD xs ys) e
  | _ => False
theorem ei_zip (hg : Gl X "zip") (hm : X.mg "zip" = none) (ha : EA X [a, b] m) (hs : starEach [a, b] X.env = (false, eval a X.env) :: starEach [b] X.env := by rfl) (hpl : (backTo pos (starEach [b] X.env)).any (·.1) = false := by rfl) :
    EI X (.Tuple elts kk tpos) (.Call (.Name "zip" p) [a, b] [] pos) (iZipD m) where
  mono := fun env Q Q' i q => ha.mono _ _ _ (fun ds e q => by revert q; split <;> intro q <;> first | exact i _ _ q | exact q) q
  pi := fun G F0 => PI_imp (RZ.pi_zipA hg hm (ha.pe G F0) hs hpl) fun σ H R ⟨F, env, k, q⟩ => ⟨F, env, k, ha.mono _ _ _ (fun ds e q vs F' H' a r => by
    revert q; split <;> intro q
    · cases r with | cons r t => cases t with | cons r' t => cases t; cases r with | lst h rs => cases r' with | lst h' rs' => exact ⟨_, _, _, _, rfl, .inl ⟨.of (a.ok.fh _ _ h), .of (a.ok.fh _ _ h'), q _ F' H' a (ItOk.zipLL (.of h) (.of h') rs rs')⟩⟩
    · cases r with | cons r t => cases t with | cons r' t => cases t; cases r with | tup h rs => cases r' with | tup h' rs' => exact ⟨_, _, _, _, rfl, .inr ⟨SqT_mono a.ok.fh h, SqT_mono a.ok.fh h', q _ F' H' a (ItOk.zipTT h h' rs rs')⟩⟩
    · exact q.elim) q⟩
end

/-! ### comprehensions -/
def wipeE (env : En) : List Nat → En
  | [] => env
  | v :: vs => es (wipeE env vs) v .un
theorem StOk.wipes {K : PySem.W.Frag} {G F0 F H : Hp} {env : En} {σ : L2.St} (k : StOk K G F0 F H env σ) : ∀ vs : List Nat, StOk K G F0 F H (wipeE env vs) (wipe σ vs)
  | [] => k
  | v :: vs => by
    have k' := k.wipes vs
    show StOk K G F0 F H (es (wipeE env vs) v .un) ((wipe σ vs).set v none)
    rw [es_eq]
    refine ⟨k'.fh, k'.gh, k'.ff, k'.nw, by simp [k'.len], fun j s e => ?_, fun j ds a e => ?_, fun j j' ds es a e e' => ?_⟩
    · rcases getElem?_set_some e with ⟨rfl, rfl, _⟩ | ⟨h, e⟩
      · trivial
      · rw [at_set_ne h]; exact k'.sl j s e
    · rcases getElem?_set_some e with ⟨_, z, _⟩ | ⟨h, e⟩
      · cases z
      · rw [at_set_ne h]; exact k'.og j ds a e
    · rcases getElem?_set_some e with ⟨_, z, _⟩ | ⟨h, e⟩
      · cases z
      · rcases getElem?_set_some e' with ⟨_, z, _⟩ | ⟨h', e'⟩
        · cases z
        · rw [at_set_ne h, at_set_ne h']; exact k'.inj j j' ds es a e e'
theorem wipeE_get {env : En} {i : Nat} : ∀ {vs : List Nat}, i ∉ vs → (wipeE env vs)[i]? = env[i]?
  | [], _ => rfl
  | v :: vs, h => by
    have h1 : i ≠ v := fun e => h (e ▸ List.mem_cons_self ..)
    show (es (wipeE env vs) v .un)[i]? = _
    rw [es_eq, set_none h1, wipeE_get (fun m => h (List.mem_cons_of_mem _ m))]
theorem wipe_at {σ : L2.St} {i : Nat} {vs : List Nat} (h : i ∉ vs) : L2.St.at (wipe σ vs) i = L2.St.at σ i := by
  unfold L2.St.at; rw [wipe_out h]
theorem wipe_none {σ : L2.St} {i : Nat} : ∀ {vs : List Nat}, i ∈ vs → L2.St.at (wipe σ vs) i = none
  | [], h => by cases h
  | v :: vs, h => by
    by_cases hv : i = v
    · subst hv
      show L2.St.at ((wipe σ vs).set i none) i = none
      by_cases hl : i < (wipe σ vs).length
      · exact at_set hl
      · unfold L2.St.at; rw [List.getElem?_eq_none (by simpa using hl)]; rfl
    · show L2.St.at ((wipe σ vs).set v none) i = none
      rw [at_set_ne hv]
      exact wipe_none ((List.mem_cons.mp h).resolve_left hv)
theorem eg_of : ∀ {en : En} {j : Nat} {s : Sl}, en[j]? = some s → eg en j = s
  | [], _, _, h => by simp at h
  | _ :: _, 0, _, h => by simpa [eg] using h
  | _ :: r, j + 1, s, h => eg_of (en := r) (by simpa using h)
theorem st_ext {σ σ' : L2.St} (hl : σ.length = σ'.length) (h : ∀ j : Nat, L2.St.at σ j = L2.St.at σ' j) : σ = σ' := by
  refine List.ext_getElem? fun j => ?_
  have := h j
  unfold L2.St.at at this
  by_cases c : j < σ.length
  · rw [List.getElem?_eq_getElem c, List.getElem?_eq_getElem (hl ▸ c)] at this ⊢
    exact congrArg some this
  · rw [List.getElem?_eq_none (by omega), List.getElem?_eq_none (by omega)]
theorem wipe_but {σ σ' : L2.St} {vs : List Nat} (b : But vs (wipe σ vs) σ') : wipe σ' vs = wipe σ vs := by
  have l1 := wipe_length σ vs
  have l2 := wipe_length σ' vs
  have lb := b.len
  refine st_ext (by omega) fun j => ?_
  by_cases h : j ∈ vs
  · rw [wipe_none h, wipe_none h]
  · rw [wipe_at h, b.but j h, wipe_at h]
/-- no list of one's own in the slots that the comprehension's names have -/
def noOwn (env : En) (vs : List Nat) : Prop := ∀ v ∈ vs, ∀ ds, eg env v ≠ .own ds
/-- the items of the new list: each turn begins with the slots as they stood -/
def lcL (vs : List Nat) (g : RG) (tt : RT) (me : RE) (env : En) (Q : List D → Prop) : List D → List D → Prop
  | [], acc => Q acc
  | x :: xs, acc => g x (wipeE env vs) fun e2 => wipeE e2 vs = wipeE env vs ∧ tt e2 fun b e3 => if b = true then me e3 fun d e4 => wipeE e4 vs = wipeE env vs ∧ acc.length < sizeLine ∧ lcL vs g tt me env Q xs (acc ++ [d])
      else wipeE e3 vs = wipeE env vs ∧ lcL vs g tt me env Q xs acc
theorem lcL_mono {vs : List Nat} {g : RG} {tt : RT} {me : RE} (hg : MonoG g) (ht : MonoQ tt) (hm : MonoQ me) {env : En} {Q Q' : List D → Prop} (i : ∀ x, Q x → Q' x) : ∀ xs acc, lcL vs g tt me env Q xs acc → lcL vs g tt me env Q' xs acc
  | [], acc, q => i _ q
  | x :: xs, acc, q => hg _ _ _ _ (fun e2 q => ⟨q.1, ht _ _ _ (fun b e3 q => by
      cases b with
      | true => exact hm _ _ _ (fun d e4 q => ⟨q.1, q.2.1, lcL_mono hg ht hm i xs _ q.2.2⟩) q
      | false => exact ⟨q.1, lcL_mono hg ht hm i xs _ q.2⟩) q.2⟩) q
/-- slots frozen ahead -/
def frz1 (env : En) (i : Nat) : En := match eg env i with
  | .own (.l ds) => es env i (.v (.lst ds))
  | _ => env
def frzE (env : En) : List Nat → En
  | [] => env
  | i :: is => frzE (frz1 env i) is
theorem StOk.frz1 {K : PySem.W.Frag} {G F0 F H : Hp} {env : En} {σ : L2.St} (k : StOk K G F0 F H env σ) (i : Nat) : ∃ F', Same F F' ∧ StOk K G F0 F' H (frz1 env i) σ := by
  unfold DL.frz1
  split
  · rename_i ds e
    have g := eg_get (env := env) (i := i) (by rw [e]; exact fun z => nomatch z)
    rw [e] at g
    obtain ⟨a, vs, _, _, _, sF, k'⟩ := k.freeze g
    exact ⟨_, sF, by rw [es_eq]; exact k'⟩
  · exact ⟨F, Same.refl _, k⟩
theorem StOk.frzE {K : PySem.W.Frag} {G F0 H : Hp} {σ : L2.St} : ∀ (is : List Nat) {F : Hp} {env : En}, StOk K G F0 F H env σ → ∃ F', Same F F' ∧ StOk K G F0 F' H (frzE env is) σ
  | [], F, env, k => ⟨F, Same.refl _, k⟩
  | i :: is, F, env, k => by
    obtain ⟨F1, s1, k1⟩ := k.frz1 i
    obtain ⟨F2, s2, k2⟩ := StOk.frzE is k1
    exact ⟨F2, s1.trans s2, k2⟩
def rLc (fz : List Nat) (vs : List Nat) (mi : RN) (g : RG) (tt : RT) (me : RE) : RN := fun env Q => mi env fun ds e => noOwn (frzE e fz) vs ∧ lcL vs g tt me (frzE e fz) (fun acc => Q acc (frzE e fz)) ds []
def rYes : RT := fun env Q => Q true env
structure ETs (X : Cx) (ifs : List Expr) (t : RT) : Prop where
  mono : MonoQ t
  pe : ∀ G F0, PTs X ifs (tTe X.K G F0 t)
theorem ets_nil {X : Cx} : ETs X [] rYes := ⟨fun env Q Q' i q => i _ _ q, fun G F0 => ⟨fun pins s σ H Q I ⟨F, env, k, q⟩ => pts_nil.run pins s σ H Q I (q F H (Af.refl k))⟩⟩
theorem ets_one {X : Cx} {c : Expr} {t : RT} (h : ET X c t) : ETs X [c] t := ⟨h.mono, fun G F0 => pts_one (h.pe G F0)⟩
section
variable {X : Cx}
theorem PG_of {X : Cx} {tg : Expr} {t : Hp → Hp → TG} (h : ∀ G F0, PG X tg (t G F0)) : PG X tg (fun v σ H Q => ∃ G F0, t G F0 v σ H Q) := ⟨fun pins s σ H v u Q I r ⟨G, F0, q⟩ => (h G F0).run pins s σ H v u Q I r q⟩
theorem PE_of {X : Cx} {e : Expr} {t : Hp → Hp → TE} (h : ∀ G F0, PE X e (t G F0)) : PE X e (fun σ H Q => ∃ G F0, t G F0 σ H Q) := ⟨fun pins s σ H Q I ⟨G, F0, q⟩ => (h G F0).run pins s σ H Q I q⟩
theorem PTs_of {X : Cx} {ifs : List Expr} {t : Hp → Hp → TT} (h : ∀ G F0, PTs X ifs (t G F0)) : PTs X ifs (fun σ H Q => ∃ G F0, t G F0 σ H Q) := ⟨fun pins s σ H Q I ⟨G, F0, q⟩ => (h G F0).run pins s σ H Q I q⟩
theorem lc_core2 {G F0 : Hp} {σ : L2.St} {H : Hp} {Q : VK} {tg iter : Expr} {mi : RN} {g : RG} {tt : RT} {me : RE} {fz vs : List Nat} (hi : EI X tg iter mi) (hg : MonoG g) (ht : MonoQ tt) (hm : MonoQ me) (h : tN X.K G F0 (rLc fz vs mi g tt me) σ H Q) :
    tLc (tIt X.K G F0 mi) (fun v σ H Q => ∃ G F0, tG X.K G F0 vs g v σ H Q) (fun σ H Q => ∃ G F0, tTe X.K G F0 tt σ H Q) (fun σ H Q => ∃ G F0, tM X.K G F0 me σ H Q) vs σ H Q := by
  obtain ⟨F, env, k, q⟩ := h
  refine ⟨F, env, k, hi.mono _ _ _ (fun ds e0 ⟨no, q⟩ J F1 H1 af0 io => fun Dd hD => ?_) q⟩
  obtain ⟨F', sF', kf⟩ := StOk.frzE fz af0.ok
  generalize frzE e0 fz = e at no q kf
  have af : Af X.K G F0 F H σ F' H1 e := ⟨af0.hH, af0.fF.trans sF', kf⟩
  obtain ⟨a1, hF, hG, nd⟩ := af_new (vs := []) af hD
  -- the state between two turns
  refine ⟨fun i m Hx => m = ds.length - i ∧ ∃ Fx acc accD, StOk X.K G F0 Fx Hx e σ ∧ Same F' Fx ∧ Same H Hx ∧ Hx Dd = some (.lst acc) ∧ Fx Dd = none ∧ Reps X.K Fx acc accD ∧ lcL vs g tt me e (fun acc => ∀ a vs' F'' H'', Af X.K G F0 F H σ F'' H'' e → H'' a = some (.lst vs') → F'' a = none → G a = none → NotOwn e σ a → Reps X.K F'' vs' acc → Q (.ref a) H'') (ds.drop i) accD,
    ⟨ds.length, by simp, F', [], [], a1.ok, Same.refl _, a1.hH, upd_same, hF, .nil, by simpa using q⟩, ?_⟩
  rintro i m Hx ⟨rfl, Fx, acc, accD, kx, sx, hx, hDx, fDx, ra, qx⟩
  have io1 := io i Fx Hx (sF'.trans sx) kx.fh
  cases e1 : ds[i]? with
  | none =>
    refine .inl ⟨io1.2 e1, ?_⟩
    rw [List.drop_eq_nil_of_le (List.getElem?_eq_none_iff.mp e1)] at qx
    exact qx Dd acc Fx Hx ⟨hx, af.fF.trans sx, kx⟩ hDx fDx hG nd ra
  | some d =>
    have hlt : i < ds.length := by
      rcases Nat.lt_or_ge i ds.length with h | h
      · exact h
      · rw [List.getElem?_eq_none h] at e1; cases e1
    have ed : ds.drop i = d :: ds.drop (i + 1) := by
      rw [List.drop_eq_getElem_cons hlt]
      rw [List.getElem?_eq_getElem hlt] at e1
      rw [Option.some.inj e1]
    rw [ed] at qx
    obtain ⟨go, yl⟩ := io1.1 d e1
    refine .inr ⟨go, fun Hy => ∃ Fx acc accD, StOk X.K G F0 Fx Hy e σ ∧ Same F' Fx ∧ Same H Hy ∧ Hy Dd = some (.lst acc) ∧ Fx Dd = none ∧ Reps X.K Fx acc accD ∧ lcL vs g tt me e (fun acc => ∀ a vs' F'' H'', Af X.K G F0 F H σ F'' H'' e → H'' a = some (.lst vs') → F'' a = none → G a = none → NotOwn e σ a → Reps X.K F'' vs' acc → Q (.ref a) H'') (ds.drop (i + 1)) accD,
      fun H' ⟨Fx, acc, accD, w⟩ => ⟨ds.length - (i + 1), by omega, rfl, Fx, acc, accD, w⟩, fun x H2 y => ?_⟩
    obtain ⟨F2, x2, r2⟩ := yl x H2 y
    -- the turn runs with the new list's cell among what stays
    have hD2 : H2 Dd = some (.lst acc) := x2.hH _ _ hDx
    have f2D : F2 Dd = none := by rw [x2.nw Dd (by rw [hDx]; exact fun z => nomatch z)]; exact fDx
    have k2 : StOk X.K G F0 F2 H2 e σ := kx.ext x2
    have kw := k2.wipes vs
    have noD : NotOwn (wipeE e vs) (wipe σ vs) Dd := fun j es' ej => by
      intro z
      by_cases hj : j ∈ vs
      · have this := wipe_none (σ := σ) hj
        rw [this] at z; cases z
      · rw [wipe_at hj] at z
        rw [wipeE_get hj] at ej
        exact nd j es' ej z
    have kG : StOk X.K (upd G Dd (.lst acc)) F2 F2 H2 (wipeE e vs) (wipe σ vs) := by
      refine ⟨kw.fh, fun b o eb => ?_, Same.refl _, fun _ _ => rfl, kw.len, kw.sl, fun j ds' a ej ea => ?_, kw.inj⟩
      · by_cases hb : b = Dd
        · subst hb; rw [upd_same] at eb; rw [hD2]; exact eb
        · rw [upd_ne hb] at eb; exact kw.gh _ _ eb
      · have : a ≠ Dd := fun z => noD j ds' ej (by rw [ea, z])
        rw [upd_ne this]; exact kw.og j ds' a ej ea
    -- back to the slots ahead of the turn
    have back : ∀ {F4 H4 : Hp} {e4 : En} {σ2 : L2.St} {acc' : List V}, StOk X.K (upd G Dd (.lst acc)) F2 F4 H4 e4 σ2 → Same H2 H4 → wipeE e4 vs = wipeE e vs → wipe σ2 vs = wipe σ vs → F4 Dd = none ∧ Same F2 F4 ∧ StOk X.K G F0 F4 (upd H4 Dd (.lst acc')) e σ := by
      intro F4 H4 e4 σ2 acc' k4 s4 we ws
      have f4D : F4 Dd = none := by rw [k4.nw Dd (by rw [upd_same]; exact fun z => nomatch z)]; exact f2D
      have gne : ∀ a, G a ≠ none → a ≠ Dd := fun a n z => n (z ▸ hG)
      refine ⟨f4D, k4.ff, fun b o q => ?_, fun b o q => ?_, k2.ff.trans k4.ff, fun b n => ?_, k2.len, fun j s ej => ?_, k2.og, k2.inj⟩
      · rw [upd_ne (ne_of_none q f4D)]; exact k4.fh _ _ q
      · have : b ≠ Dd := ne_of_none q hG
        rw [upd_ne this]; exact s4 _ _ (k2.gh _ _ q)
      · have : b ≠ Dd := gne b n
        rw [k4.nw b (by rw [upd_ne this]; exact n)]; exact k2.nw b n
      · have old := k2.sl j s ej
        cases s with
        | un => trivial
        | v d' => obtain ⟨v, ev, rv⟩ := old; exact ⟨v, ev, rv.mono k4.ff⟩
        | own ys =>
          by_cases hj : j ∈ vs
          · exfalso
            have := no j hj ys
            apply this
            exact eg_of ej
          · obtain ⟨b, vs', eb, _, hb, rb⟩ := old
            have e4j : e4[j]? = some (Sl.own ys) := by rw [← wipeE_get (env := e4) hj, we, wipeE_get hj]; exact ej
            obtain ⟨b', vs2, eb', n4, hb', rb'⟩ := k4.sl j _ e4j
            rw [← wipe_at (σ := σ2) hj, ws, wipe_at hj, eb] at eb'
            cases eb'
            have : b ≠ Dd := fun z => nd j ys ej (by rw [eb, z])
            exact ⟨b, vs2, eb, n4, by rw [upd_ne this]; exact hb', rb'⟩
    refine ⟨upd G Dd (.lst acc), F2, F2, wipeE e vs, d, kG, r2, hg _ _ _ _ (fun e2 ⟨we2, q3⟩ σ3 b3 k3 => ?_) qx⟩
    have wσ3 : wipe σ3 vs = wipe σ vs := wipe_but b3
    · refine ⟨wσ3, upd G Dd (.lst acc), F2, F2, e2, k3, ht _ _ _ (fun b e3 q4 F4 H4 a4 => ?_) q3⟩
      cases b with
      | true =>
        rw [if_pos rfl]
        rw [if_pos rfl] at q4
        refine ⟨upd G Dd (.lst acc), F2, F4, e3, a4.ok, hm _ _ _ (fun d5 e5 ⟨we5, hz, q5⟩ y F5 H5 a5 r5 => ?_) q4⟩
        obtain ⟨f5D, s25, k5⟩ := back (acc' := acc ++ [y]) a5.ok (a4.hH.trans a5.hH) we5 wσ3
        refine ⟨acc, a5.hH _ _ (a4.hH _ _ hD2), by rw [ra.length]; exact hz, F5, acc ++ [y], accD ++ [d5], k5, sx.trans (x2.fF.trans s25), fun b o eb => ?_, upd_same, f5D, (ra.mono (x2.fF.trans s25)).append (Reps.one r5), q5⟩
        have : b ≠ Dd := ne_of_none eb (af0.hH.at_none hD)
        rw [upd_ne this]; exact a5.hH _ _ (a4.hH _ _ (x2.hH _ _ (hx _ _ eb)))
      | false =>
        rw [if_neg (by decide)]
        rw [if_neg (by decide)] at q4
        obtain ⟨we4, q4⟩ := q4
        obtain ⟨f4D, s24, k4⟩ := back (acc' := acc) a4.ok a4.hH we4 wσ3
        have h4D : H4 Dd = some (.lst acc) := a4.hH _ _ hD2
        have eU : upd H4 Dd (.lst acc) = H4 := by
          funext b
          by_cases hb : b = Dd
          · subst hb; rw [upd_same, h4D]
          · rw [upd_ne hb]
        rw [eU] at k4
        exact ⟨F4, acc, accD, k4, sx.trans (x2.fF.trans s24), hx.trans (x2.hH.trans a4.hH), h4D, f4D, ra.mono (x2.fF.trans s24), q4⟩
end
end DL

namespace DL
open PySem PySem.Spec PyProof.Rows L2

theorem rLc_mono {fz vs : List Nat} {mi : RN} {g : RG} {tt : RT} {me : RE} (hi : MonoQ mi) (hg : MonoG g) (ht : MonoQ tt) (hm : MonoQ me) : MonoQ (rLc fz vs mi g tt me) := fun env Q Q' i q =>
  hi _ _ _ (fun ds e q => ⟨q.1, lcL_mono hg ht hm (fun acc q => i _ _ q) _ _ q.2⟩) q
section
variable {X : Cx}
theorem en_lc {elt tg iter : Expr} {ifs : List Expr} {scope : Scope} {own : List (Str × Nat)} {pos : Pos} {mi : RN} {g : RG} {tt : RT} {me : RE} (fz : List Nat) (hc : X.calm = true) (hN : X.N.Nodup) (hi : EI X tg iter mi) (ok : BlkOk X.N X.env.scope scope own)
    (hg : ∀ (s : Shared) (H : Hp) (C : Addr) (cl : List (Str × Addr)) (fp : List Addr), EG (X.blk s H scope (compEnvC scope cl C X.env) fp) tg (own.map (·.2)) g)
    (ht : ∀ (s : Shared) (H : Hp) (C : Addr) (cl : List (Str × Addr)) (fp : List Addr), ETs (X.blk s H scope (compEnvC scope cl C X.env) fp) ifs tt)
    (he : ∀ (s : Shared) (H : Hp) (C : Addr) (cl : List (Str × Addr)) (fp : List Addr), EE (X.blk s H scope (compEnvC scope cl C X.env) fp) elt me) (hs : ∀ x, foldedSetIterable iter X.env x = pure x := by intro _; rfl) :
    EN X (.ListComp elt [⟨tg, iter, ifs, 0⟩] scope pos) (rLc fz (own.map (·.2)) mi g tt me) :=
  { mono := fun env Q Q' i q => by
      have m1 : MonoG g := (hg X.s_0 X.H_0 0 [] []).mono
      have m2 : MonoQ tt := (ht X.s_0 X.H_0 0 [] []).mono
      have m3 : MonoQ me := (he X.s_0 X.H_0 0 [] []).mono
      exact rLc_mono hi.mono m1 m2 m3 env Q Q' i q
    pe := fun G F0 => by
      refine PE_of_run fun pins s σ H Q I h => ?_
      have m1 : MonoG g := (hg s H 0 [] []).mono
      have m2 : MonoQ tt := (ht s H 0 [] []).mono
      have m3 : MonoQ me := (he s H 0 [] []).mono
      exact (pe_lc hc hN (hi.pi G F0) ok (fun s H C cl fp => PG_of (t := fun G F0 => tG X.K G F0 (own.map (·.2)) g) fun G F0 => (hg s H C cl fp).pg G F0) (fun s H C cl fp => PTs_of (t := fun G F0 => tTe X.K G F0 tt) fun G F0 => (ht s H C cl fp).pe G F0) (fun s H C cl fp => PE_of (t := fun G F0 => tM X.K G F0 me) fun G F0 => (he s H C cl fp).pe G F0) hs).run pins s σ H Q I (lc_core2 hi m1 m2 m3 h) }
/-- name = [..] on the name's own line -/
theorem ss_setLc {i : Nat} {y : Str} {py : Pos} {elt tg iter : Expr} {ifs : List Expr} {scope : Scope} {own : List (Str × Nat)} {pos spos : Pos} {mi : RN} {g : RG} {tt : RT} {me : RE} (fz : List Nat) (hc : X.calm = true) (hN : X.N.Nodup) (hy : X.N[i]? = some y) (hyl : X.env.scope.names.lookup y = some .local)
    (hsw : swapsWith (.ListComp elt [⟨tg, iter, ifs, 0⟩] scope pos) (some (.Name y py)) spos.line X.env = pure true) (hi : EI X tg iter mi) (ok : BlkOk X.N X.env.scope scope own)
    (hg : ∀ (s : Shared) (H : Hp) (C : Addr) (cl : List (Str × Addr)) (fp : List Addr), EG (X.blk s H scope (compEnvC scope cl C X.env) fp) tg (own.map (·.2)) g)
    (ht : ∀ (s : Shared) (H : Hp) (C : Addr) (cl : List (Str × Addr)) (fp : List Addr), ETs (X.blk s H scope (compEnvC scope cl C X.env) fp) ifs tt)
    (he : ∀ (s : Shared) (H : Hp) (C : Addr) (cl : List (Str × Addr)) (fp : List Addr), EE (X.blk s H scope (compEnvC scope cl C X.env) fp) elt me) (hs : ∀ x, foldedSetIterable iter X.env x = pure x := by intro _; rfl) :
    SS X (.Assign [.Name y py] (.ListComp elt [⟨tg, iter, ifs, 0⟩] scope pos) spos) (sSetN i (rLc fz (own.map (·.2)) mi g tt me)) where
  mono := fun Z Z' env l q => (en_lc (pos := pos) fz hc hN hi ok hg ht he hs).mono _ _ _ (fun d e q => l.nx _ q) q
  ps := fun G F0 => by
    refine ⟨fun pins s σ H Z I h => ?_⟩
    have m1 : MonoG g := (hg s H 0 [] []).mono
    have m2 : MonoQ tt := (ht s H 0 [] []).mono
    have m3 : MonoQ me := (he s H 0 [] []).mono
    refine (ps_setLc hc hN hy hyl hsw (hi.pi G F0) ok (fun s H C cl fp => PG_of (t := fun G F0 => tG X.K G F0 (own.map (·.2)) g) fun G F0 => (hg s H C cl fp).pg G F0) (fun s H C cl fp => PTs_of (t := fun G F0 => tTe X.K G F0 tt) fun G F0 => (ht s H C cl fp).pe G F0) (fun s H C cl fp => PE_of (t := fun G F0 => tM X.K G F0 me) fun G F0 => (he s H C cl fp).pe G F0) hs).run pins s σ H Z I ?_
    refine lc_core2 (fz := fz) hi m1 m2 m3 ?_
    obtain ⟨F, env, k, q⟩ := h
    refine ⟨F, env, k, rLc_mono hi.mono m1 m2 m3 _ _ _ (fun ds e q a vs F' H' af hH hF hG no r => ?_) q⟩
    rw [es_eq] at q
    exact q _ F' H' (af.ok.setN i hF hH hG no r)
end

/-! ### isinstance -/
def tyD : D → Option Value
  | .non => some (.type "NoneType")
  | .bl _ => some (.type "bool")
  | .int _ => some (.type "int")
  | .str _ => some (.type "str")
  | .tup _ => some (.type "tuple")
  | .lst _ => some (.type "list")
  | .scr _ => some (.type "list")
  | .ins C _ _ => some (.ref C)
  | _ => none
def clD : D → Option Value
  | .ty n => some (.type n)
  | .cls C => some (.ref C)
  | _ => none
/-- what of the text isinstance asks about an instance's class -/
structure InsTy (K : PySem.W.Frag) (C : Addr) : Prop where
  cl : Cls K C
  ha : PySem.W.findIn K (.ref C) "__class__" = some (some (.builtin "object.__class__"))
  hn : PySem.W.specialIn K (.builtin "object.__class__") "__get__" = some (some (.builtin "getset_descriptor.__get__"))
  htk : PySem.W.takesIn K (.builtin "object.__class__") = some true
  hm : PySem.W.mroIn K C (.type "object") = some true
def insOk (K : PySem.W.Frag) : D → Prop
  | .ins C _ _ => InsTy K C
  | _ => True
def nIsi (K : PySem.W.Frag) : OpN := fun ds Q => match ds with
  | [d, c] => ∃ t u b, tyD d = some t ∧ clD c = some u ∧ insOk K d ∧ PySem.W.kitOne K t u = some b ∧ Q (.bl b)
  | _ => False
theorem nIsi_mono {K : PySem.W.Frag} : MonoN (nIsi K) := by
  intro ds Q Q' i q; unfold nIsi at q ⊢
  split at q
  · obtain ⟨t, u, b, h1, h2, h3, h4, h5⟩ := q; exact ⟨t, u, b, h1, h2, h3, h4, i _ h5⟩
  · exact q
theorem tyx_of {K : PySem.W.Frag} {F H : Hp} {v : V} {d : D} {t : Value} (hf : Same F H) (r : BRep K F H v d) (e : tyD d = some t) (hi : insOk K d) : TyX K H v t := by
  cases d with
  | non => rw [r.non]; cases e; exact .base .non
  | bl b => rw [r.bl]; cases e; exact .base (.bl b)
  | int i => rw [r.int]; cases e; exact .base (.int i)
  | str i => rw [r.str]; cases e; exact .base (.str i)
  | tup xs =>
    cases e
    obtain ⟨a, vs, rfl, h, _⟩ := r.tup hf
    rcases h with (h | ⟨o, h⟩) | ⟨o, its, n, h, hc, _⟩
    · exact .base (.tup h)
    · exact .fTuple h
    · exact .kTuple h hc
  | lst xs =>
    cases e
    obtain ⟨a, vs, rfl, h, _⟩ := r.lst hf
    exact .base (.lst h)
  | scr ns =>
    cases e
    obtain ⟨a, rfl, h⟩ := r.scr hf
    rcases h with (h | ⟨o, h⟩) | ⟨o, its, n, h, hc, _⟩
    · exact .base (.lst h)
    · exact .base (.frz h)
    · exact .kList h hc
  | ins C ns xs =>
    cases e
    rcases r with r | ⟨_, _, _, _, z, _⟩
    · cases r with | ins _ h _ => exact .base (.ins (hf _ _ h) hi.cl hi.ha hi.hn hi.htk hi.hm)
    · cases z
  | ty n => cases e
  | cls C => cases e
  | sz n => cases e
section
variable {X : Cx}
theorem cn_isi : CallR X (.builtin "isinstance") (rDc X.K (nIsi X.K)) := fun pins s σ H xs us Q I r ⟨F, ds, hf, r1, q⟩ => by
  unfold nIsi at q
  split at q
  · rename_i d c
    obtain ⟨v, v', rfl, r2, r3⟩ := r1.two
    obtain ⟨t, u, b, h1, h2, h3, h4, h5⟩ := q
    have hv : ClsV v' u := by
      cases c <;> first | (cases h2; rcases r3 with r3 | ⟨_, _, _, _, z, _⟩; cases r3; constructor; cases z) | cases h2
    exact call_isi pins s σ H _ us Q I r ⟨v, v', t, u, b, rfl, hv, tyx_of hf r2 h1 h3, h4, h5.bl hf⟩
  · exact q.elim
end
/-- the built-in types that are met -/
def tysD : List String := ["int", "bool", "str", "tuple", "list", "NoneType"]
theorem kit_tab {K : PySem.W.Frag} : ∀ a ∈ tysD, ∀ b ∈ tysD, PySem.W.kitOne K (.type a) (.type b) = some (a == b || (a == "bool" && b == "int")) := by
  have h : (tysD.all fun a => tysD.all fun b => decide (kitB a b = some (a == b || (a == "bool" && b == "int")))) = true := by decide +kernel
  intro a ha b hb
  have h1 := List.all_eq_true.mp h a ha
  have h2 := of_decide_eq_true (List.all_eq_true.mp h1 b hb)
  exact kit_ty h2

/-! ### isqrt -/
def nSqrt : OpN := fun ds Q => match ds with
  | [.int i] => 0 ≤ i ∧ i.toNat.log2 < 13000 ∧ ∀ r : Nat, r * r ≤ i.toNat → i.toNat < (r + 1) * (r + 1) → Q (.int r)
  | _ => False
theorem nSqrt_mono : MonoN nSqrt := by
  intro ds Q Q' i q; unfold nSqrt at q ⊢
  split at q
  · exact ⟨q.1, q.2.1, fun r h1 h2 => i _ (q.2.2 r h1 h2)⟩
  · exact q
section
variable {X : Cx}
theorem cn_sqrt : CallR X (.builtin "math.isqrt") (rDc X.K nSqrt) := fun pins s σ H xs us Q I r ⟨F, ds, hf, r1, q⟩ => by
  unfold nSqrt at q
  split at q
  · obtain ⟨v, rfl, r2⟩ := r1.one
    rw [r2.int] at r
    obtain ⟨u, rfl, ⟨t, rfl⟩⟩ := Vals.one r
    obtain ⟨h0, h1, h2⟩ := q
    have sp := Float64.isqrt_spec
    refine call_function_meets PySem.W.MGF.kind_isqrt PySem.W.MGF.plain_isqrt PySem.W.MGF.entry_isqrt (PySem.W.MGF.args_isqrt _) (PySem.W.mg_run_isqrt _ t (by omega) (by omega) (by omega)).meets ?_
    exact ⟨.int _, H, I.tok _, ⟨_, rfl⟩, (h2 _ (sp _).1 (sp _).2).int hf⟩
  · exact q.elim
variable {x : Str} {p pos : Pos} {e : Expr} {es : List Expr} {m : RN} {id : String} {δ : OpN}
/-- a built-in function that the module has imported by name -/
theorem ee_callG (hc : CallR X (.builtin id) (rDc X.K δ)) (hd : MonoN δ) (hg : Gl X x) (hm : X.mg x = some (.builtin id)) (ha : EAb X (e :: es) m) (hdb : (x == ("__debug__" : Str)) = false := by decide)
    (he : starEach (e :: es) X.env = (false, eval e X.env) :: starEach es X.env := by rfl) (hpl : (backTo pos (starEach es X.env)).any (·.1) = false := by rfl) : EE X (.Call (.Name x p) (e :: es) [] pos) (rCall δ m) where
  mono := rCall_mono hd ha.mono
  pe := fun G F0 => PE_of_run fun pins s σ H Q I h => wpAny_Call_Name_kw (ld_glob I hg hm
    (PyProof.Rows.callWith_builtin1 (thn ((ha.pe G F0).run pos pins s σ H _ I (call_core hd ha h)) fun us s1 ⟨vs, H1, I1, r1, q1⟩ => hc pins s1 σ H1 vs us Q I1 r1 q1) he hpl) hdb)
/-- a built-in class as a value -/
theorem ee_ty {n : String} (hg : Gl X x) (hm : X.mg x = none) (hv : bootBuiltins x = some (.type n)) (hn : x ≠ "__name__" := by decide) (hd : (x == ("__debug__" : Str)) = false := by decide) : EE X (.Name x pos) (rC (.ty n)) :=
  ee_c (pe_bltn (v := .ty n) hg hm hv rfl hn hd) fun _ => .ty n
theorem ee_cls {C : Addr} (hg : Gl X x) (hm : X.mg x = some (.ref C)) (hd : (x == ("__debug__" : Str)) = false := by decide) : EE X (.Name x pos) (rC (.cls C)) :=
  ee_c (pe_glob (v := .ref C) hg hm rfl hd) fun _ => .cls C
/-- a constant of the module -/
theorem ee_glob {v : V} {d : D} {u : Value} (hg : Gl X x) (hm : X.mg x = some u) (r : RelV v u) (rd : ∀ F, Rep X.K F v d) (hd : (x == ("__debug__" : Str)) = false := by decide) : EE X (.Name x pos) (rC d) :=
  ee_c (pe_glob hg hm r hd) rd
end

/-! ### list(x) as a new list -/
abbrev OpNL := List D → (List D → Prop) → Prop
def rDcN (K : PySem.W.Frag) (δ : OpNL) : List V → Hp → VK → Prop := fun vs H Q => ∃ F ds, Same F H ∧ BReps K F H vs ds ∧ δ ds fun es => ∀ p ws, H p = none → Reps K F ws es → Q (.ref p) (upd H p (.lst ws))
def rCallN (δ : OpNL) (m : RN) : RN := fun env Q => m env fun ds e => δ ds fun xs => Q xs e
def nListN : OpNL := fun ds Q => match ds with
  | [.lst xs] => Q xs
  | [.tup xs] => Q xs
  | [.scr ns] => Q (ns.map D.int)
  | _ => False
theorem nListN_mono : ∀ ds (Q Q' : List D → Prop), (∀ x, Q x → Q' x) → nListN ds Q → nListN ds Q' := by
  unfold nListN; intro ds Q Q' i q; revert q; split <;> intro q <;> first | exact i _ q | exact q
section
variable {X : Cx} {x : Str} {p pos : Pos} {e : Expr} {es : List Expr} {m : RN} {T : String} {δ : OpNL}
theorem cn_listN : CallR X (.type "list") (rDcN X.K nListN) := fun pins s σ H xs us Q I r ⟨F, ds, hf, r1, q⟩ => by
  unfold nListN at q
  split at q
  · obtain ⟨v, rfl, r2⟩ := r1.one
    obtain ⟨a, vs, rfl, h, rs⟩ := r2.lst hf
    exact call_list_of pins s σ H _ us Q I r ⟨a, vs, rfl, .inl (.of h), fun l hl => q l vs hl rs⟩
  · obtain ⟨v, rfl, r2⟩ := r1.one
    obtain ⟨a, vs, rfl, h, rs, g⟩ := r2.tup hf
    exact call_list_of pins s σ H _ us Q I r ⟨a, vs, rfl, .inr h, fun l hl => q l vs hl rs⟩
  · obtain ⟨v, rfl, r2⟩ := r1.one
    obtain ⟨a, rfl, h⟩ := r2.scr hf
    exact call_list_of pins s σ H _ us Q I r ⟨a, _, rfl, .inl h, fun l hl => q l _ hl (Reps.of_ints _)⟩
  · exact q.elim
theorem en_callTy (hd : ∀ ds (Q Q' : List D → Prop), (∀ x, Q x → Q' x) → δ ds Q → δ ds Q') (hc : CallR X (.type T) (rDcN X.K δ)) (hg : Gl X x) (hm : X.mg x = none) (hv : bootBuiltins x = some (.type T)) (ha : EAb X (e :: es) m) (hn : x ≠ "__name__" := by decide) (hdb : (x == ("__debug__" : Str)) = false := by decide)
    (he : starEach (e :: es) X.env = (false, eval e X.env) :: starEach es X.env := by rfl) (hpl : (backTo pos (starEach es X.env)).any (·.1) = false := by rfl) : EN X (.Call (.Name x p) (e :: es) [] pos) (rCallN δ m) where
  mono := fun env Q Q' i q => ha.mono _ _ _ (fun ds e q => hd _ _ _ (fun xs q => i _ _ q) q) q
  pe := fun G F0 => PE_imp (pe_callTy hc hg hm hv (ha.pe G F0) hn hdb he hpl) fun σ H Q ⟨F, env, k, q⟩ => ⟨F, env, k, ha.mono _ _ _ (fun ds e q vs F1 H1 a1 r1 =>
    ⟨F1, ds, a1.ok.fh, r1, hd _ _ _ (fun es' q p ws hp rw' => by
      obtain ⟨a2, hF, hG, no⟩ := af_new (vs := ws) a1 hp
      exact q p ws F1 _ a2 upd_same hF hG no rw') q⟩) q⟩
end

/-! ### defs -/
abbrev SpecD := List D → (D → Prop) → Prop
def MonoSp (sp : SpecD) : Prop := ∀ ds (Q Q' : D → Prop), (∀ d, Q d → Q' d) → sp ds Q → sp ds Q'
def spD (K : PySem.W.Frag) (n : Nat) (spec : SpecD) : Sp := fun vs H Q _ => vs.length = n ∧ ∃ F ds, Same F H ∧ Reps K F vs ds ∧ spec ds (Wants K F H Q)
def startD (n : Nat) (ds : List D) : En := ds.map Sl.v ++ List.replicate (n - ds.length) Sl.un
/-- a body's run from its arguments -/
def runD (n : Nat) (m : RS) : SpecD := fun ds Q => m { nx := fun _ => Q .non, rt := Q } (startD n ds)
theorem runD_mono {n : Nat} {m : RS} (h : MonoS m) : MonoSp (runD n m) := fun ds Q Q' i q => h { nx := fun _ => Q .non, rt := Q } _ _ ⟨fun _ q => i _ q, fun _ q => i _ q, fun _ q => q, fun _ q => q⟩ q
theorem start_ok {K : PySem.W.Frag} {F H : Hp} {N : List Str} {vs : List V} {ds : List D} (hf : Same F H) (r : Reps K F vs ds) (hl : vs.length ≤ N.length) : StOk K H F F H (startD N.length ds) (L2.start N vs) := by
  have e1 := r.length
  have own : ∀ (i : Nat) (es : OC), (startD N.length ds)[i]? ≠ some (Sl.own es) := fun i es e => by
    unfold startD at e
    by_cases h : i < ds.length
    · rw [List.getElem?_append_left (by simpa using h), List.getElem?_map, List.getElem?_eq_getElem h] at e
      cases e
    · rw [List.getElem?_append_right (by simpa using h), List.getElem?_replicate] at e
      split at e <;> cases e
  refine ⟨hf, Same.refl _, Same.refl _, fun _ _ => rfl, ?_, fun i s e => ?_, fun i es a e => absurd e (own i es), fun i j es es' a e => absurd e (own i es)⟩
  · unfold startD L2.start
    simp only [List.length_append, List.length_map, List.length_replicate]
    omega
  · unfold startD at e
    by_cases h : i < ds.length
    · rw [List.getElem?_append_left (by simpa using h), List.getElem?_map, List.getElem?_eq_getElem h] at e
      cases e
      obtain ⟨v, ev, rv⟩ := r.get (List.getElem?_eq_getElem h)
      refine ⟨v, ?_, rv⟩
      unfold L2.St.at L2.start
      rw [List.getElem?_append_left (by rw [List.length_map]; omega), List.getElem?_map, ev]
      rfl
    · rw [List.getElem?_append_right (by simpa using h), List.getElem?_replicate] at e
      split at e <;> cases e
      trivial
section
variable {P : Program} {w : World} {K : PySem.W.Frag} {mg : Str → Option Value} {base : Heap}
theorem fn_ok {x qual : Str} {st : Stmt} {f : Addr} {fd : FuncData} {N ps : List Str} {k : Nat} {m : RS} (F : Fun K x qual st f fd) (S : FnScope N ps (defScope st))
    (hm : ∀ (cdv : Value) (A : Around) (outer : List Env) (s : Shared) (H : Hp) (E : XK), Room k (A.deeper (envOfC qual (defScope st) s.heap.objs.size f cdv)) → SSs (cxOf CX0 P w K mg base N qual (defScope st) f cdv A outer s H E).nox (defBody st) m) :
    FnOk P w K mg base CX0 (k + 1) f fd ps (spD K ps.length (runD N.length m)) :=
  F.ok S (fun vs H Q E h => h.1) fun cdv A outer s H vs Q E hr ⟨hl, F', ds, hF, r, q⟩ => by
    have M := hm cdv A outer s H E hr
    refine ⟨_, M.ps H F', F', startD N.length ds, start_ok hF r ?_, ?_⟩
    · rw [hl]
      have := congrArg List.length S.pre
      rw [List.length_take] at this
      omega
    · exact M.mono { nx := fun _ => Wants K F' H Q .non, rt := Wants K F' H Q } _ _ ⟨fun e q σ F1 H1 k => q .non F1 H1 k.toExt .non, fun d q v F1 H1 x1 r1 => q v F1 H1 x1 r1, fun _ q => q.elim, fun _ q => q.elim⟩ q
/-- a def that can be called: where it stands, what it promises; nd: the defaults that fill up -/
structure Cal (P : Program) (w : World) (K : PySem.W.Frag) (mg : Str → Option Value) (base : Heap) (x : Str) (k : Nat) (ps : List Str) (nd : List D) (spec : SpecD) : Prop where
  mono : MonoSp spec
  ex : ∃ (f : Addr) (fd : FuncData) (dvs : List V) (ds : List Value), FnOk P w K mg base CX0 k f fd ps (spD K ps.length spec) ∧ mg x = some (.ref f) ∧ PySem.W.keepIn K (.ref f) = true ∧ Binds K fd ps ds ∧ Vals dvs ds ∧ (∀ F, Reps K F dvs nd) ∧ nd.length ≤ ps.length
theorem Cal.imp {x : Str} {k : Nat} {ps : List Str} {nd : List D} {spec spec' : SpecD} (c : Cal P w K mg base x k ps nd spec) (hm : MonoSp spec') (h : ∀ ds Q, spec' ds Q → spec ds Q) : Cal P w K mg base x k ps nd spec' where
  mono := hm
  ex := by
    obtain ⟨f, fd, dvs, ds, F, r⟩ := c.ex
    exact ⟨f, fd, dvs, ds, F.imp fun vs H Q E ⟨h1, F', es, h2, h3, h4⟩ => ⟨h1, F', es, h2, h3, h _ _ h4⟩, r⟩
theorem cal_mk {x qual : Str} {st : Stmt} {f : Addr} {fd : FuncData} {N ps : List Str} {k : Nat} {m : RS} (F : Fun K x qual st f fd) (S : FnScope N ps (defScope st)) (hg : mg x = some (.ref f)) (hb : Binds K fd ps [])
    (hm : ∀ (cdv : Value) (A : Around) (outer : List Env) (s : Shared) (H : Hp) (E : XK), Room k (A.deeper (envOfC qual (defScope st) s.heap.objs.size f cdv)) → SSs (cxOf CX0 P w K mg base N qual (defScope st) f cdv A outer s H E).nox (defBody st) m)
    (hr0 : Room (k + 1) callerA) : Cal P w K mg base x (k + 1) ps [] (runD N.length m) where
  mono := runD_mono (hm .none callerA [] {} (fun _ => none) (fun _ _ _ => False) (hr0.deeper _)).mono
  ex := ⟨f, fd, [], [], fn_ok F S hm, hg, F.kp, hb, .nil, fun _ => .nil, Nat.zero_le _⟩
end
def rUser (spec : SpecD) (nd : List D) (n : Nat) (m : RN) : RE := fun env Q => m env fun ds e => (ds ++ nd).length = n ∧ spec (ds ++ nd) fun d => Q d e
def rUserB (spec : SpecD) (nd : List D) (n : Nat) (m : RN) : RE := fun env Q => m env fun ds e => (ds ++ nd).length = n ∧ spec (ds ++ nd) fun d => flat d ∧ Q d e
section
variable {X : Cx} {x : Str} {k : Nat} {ps : List Str} {nd : List D} {spec : SpecD} {p pos : Pos} {e : Expr} {es : List Expr} {m : RN}
theorem ee_call (c : Cal X.prog X.w X.K X.mg X.base x k ps nd spec) (hr : Room k X.A) (hg : Gl X x) (ha : EA X (e :: es) m) {n : Nat} (hn : ps.length = n := by rfl) (hdb : (x == ("__debug__" : Str)) = false := by decide)
    (he : starEach (e :: es) X.env = (false, eval e X.env) :: starEach es X.env := by rfl) (hpl : (backTo pos (starEach es X.env)).any (·.1) = false := by rfl) : EE X (.Call (.Name x p) (e :: es) [] pos) (rUser spec nd n m) where
  mono := fun env Q Q' i q => ha.mono _ _ _ (fun ds e q => ⟨q.1, c.mono _ _ _ (fun d q => i _ _ q) q.2⟩) q
  pe := fun G F0 => by
    obtain ⟨f, fd, dvs, ds, F, hm, hk, hb, hd, rd, hl⟩ := c.ex
    refine PE_imp (pe_call F hr hg hm hk hb hd pass0 (ha.pe G F0) hdb he hpl) fun σ H Q ⟨F, env, k, q⟩ => ⟨F, env, k, ha.mono _ _ _ (fun es e q vs F1 H1 a1 r1 => ?_) q⟩
    have r2 := r1.append (rd F1)
    exact ⟨by rw [r2.length, hn]; exact q.1, F1, _, a1.ok.fh, r2, c.mono _ _ _ (fun d q v F2 H2 x2 r2 => q v F2 H2 (a1.ext x2) r2) q.2⟩
theorem ee_callF (c : Cal X.prog X.w X.K X.mg X.base x k ps nd spec) (hr : Room k X.A) (hg : Gl X x) (ha : EAb X (e :: es) m) {n : Nat} (hn : ps.length = n := by rfl) (hdb : (x == ("__debug__" : Str)) = false := by decide)
    (he : starEach (e :: es) X.env = (false, eval e X.env) :: starEach es X.env := by rfl) (hpl : (backTo pos (starEach es X.env)).any (·.1) = false := by rfl) : EE X (.Call (.Name x p) (e :: es) [] pos) (rUserB spec nd n m) where
  mono := fun env Q Q' i q => ha.mono _ _ _ (fun ds e q => ⟨q.1, c.mono _ _ _ (fun d q => ⟨q.1, i _ _ q.2⟩) q.2⟩) q
  pe := fun G F0 => by
    obtain ⟨f, fd, dvs, ds, F, hm, hk, hb, hd, rd, hl⟩ := c.ex
    refine PE_imp (pe_call F hr hg hm hk hb hd pass0 (ha.pe G F0) hdb he hpl) fun σ H Q ⟨F, env, k, q⟩ => ⟨F, env, k, ha.mono _ _ _ (fun es e q vs F1 H1 a1 r1 => ?_) q⟩
    have r2 := (r1.reps a1.ok.fh).append (rd H1)
    refine ⟨by rw [r2.length, hn]; exact q.1, H1, _, Same.refl _, r2, c.mono _ _ _ (fun d q v F2 H2 x2 r2 => ?_) q.2⟩
    refine q.2 v F1 H2 ⟨a1.hH.trans x2.hH, a1.fF, ?_⟩ (r2.flat_any q.1)
    exact a1.ok.ext ⟨Same.refl _, x2.hH, a1.ok.fh.trans x2.hH, fun _ _ => rfl⟩
theorem ee_call0 (c : Cal X.prog X.w X.K X.mg X.base x k ps nd spec) (hr : Room k X.A) (hg : Gl X x) {n : Nat} (hn : ps.length = n := by rfl) (hdb : (x == ("__debug__" : Str)) = false := by decide) : EE X (.Call (.Name x p) [] [] pos) (rUser spec nd n rNil) where
  mono := fun env Q Q' i q => ⟨q.1, c.mono _ _ _ (fun d q => i _ _ q) q.2⟩
  pe := fun G F0 => by
    obtain ⟨f, fd, dvs, ds, F, hm, hk, hb, hd, rd, hl⟩ := c.ex
    refine PE_imp (pe_call0 F hr hg hm hk hb hd pass0 hdb) fun σ H Q ⟨F, env, k, q⟩ => ?_
    have r2 := rd F
    exact ⟨by rw [List.nil_append, r2.length, hn]; exact q.1, F, _, k.fh, r2, c.mono _ _ _ (fun d q v F2 H2 x2 r2 => q v F2 H2 ((Af.refl k).ext x2) r2) q.2⟩
end
/-! ### the end -/
theorem walk_D {l : PySem.W.OpenLaw} {n k : Nat} {q : Program} {loose : List Str} {XP : (Str → Option Value) → Heap → Prop} {YP : World → Heap → Prop} {d : DefRec} {K : Params → PySem.W.Frag} {m : SpecD} {x : Str}
    (hn : l.most = some n) (hn2 : n ≤ sizeLine) (hdf : d.params.defaults = []) (hr : Room k callerA) (hY : ∀ (w : World) (h : Heap), YP w h → (K w.params).In h)
    (F : ∀ (w : World) (mg : Str → Option Value) (fa : Addr) (h : Heap), (K w.params).In h → h.Ns mainGlobals mg → mg d.name = some (.ref fa) →
      ∃ fd : FuncData, (∀ (s : Shared) (u : Value), BindsTo s fd ⟨[u], []⟩ [(x, u)]) ∧ ∀ base : Heap, (K w.params).In base → base.Ns mainGlobals mg → FnOk l.prog w (K w.params) mg base CX0 k fa fd [x] (spD (K w.params) 1 m))
    (hD : ∀ ns : List Int, ns.length ≤ n → (∀ z ∈ ns, Builtin.Int.intBits z ≤ 1048576) → ∀ Q : D → Prop, Q (.bl true) → m [.scr ns] Q) :
    PySem.W.WalkO q loose XP YP l.row.toRowW d [] (fun f vs => PySem.call f vs) := by
  refine walk_ofB (l := l) (n := n) (k := k) (x := x) (CX := fun _ => CX0) (sp := fun w => spD (K w.params) 1 m) hn hn2 hdf hr hY (fun w mg fa h KX G hm => F w mg fa h KX G hm) (fun w H a ns hl hb _ hS => ?_) (fun _ _ _ _ _ h => h)
  refine ⟨rfl, H, [.scr ns], Same.refl _, .cons (.scr hS) .nil, hD ns hl hb _ fun v F' H' x r => ?_⟩
  cases r; rfl
end DL

namespace DL
open PySem PySem.Spec PyProof.Rows L2

/-! ### isinstance against the built-in types -/
def tyS : D → Option String
  | .non => some "NoneType"
  | .bl _ => some "bool"
  | .int _ => some "int"
  | .str _ => some "str"
  | .tup _ => some "tuple"
  | .lst _ => some "list"
  | .scr _ => some "list"
  | _ => none
def isiS (a n : String) : Bool := a == n || (a == "bool" && n == "int")
def nIsiB : OpN := fun ds Q => match ds with
  | [d, .ty n] => ∃ a, tyS d = some a ∧ tysD.contains n = true ∧ Q (.bl (isiS a n))
  | _ => False
theorem nIsiB_mono : MonoN nIsiB := by
  intro ds Q Q' i q; unfold nIsiB at q ⊢
  split at q
  · obtain ⟨a, h1, h2, h3⟩ := q; exact ⟨a, h1, h2, i _ h3⟩
  · exact q
theorem tyS_ty {d : D} {a : String} (h : tyS d = some a) : tyD d = some (.type a) ∧ a ∈ tysD ∧ ∀ K, insOk K d := by
  cases d <;> cases h <;> exact ⟨rfl, by decide, fun K => trivial⟩
section
variable {X : Cx}
theorem cn_isiB : CallR X (.builtin "isinstance") (rDc X.K nIsiB) := fun pins s σ H xs us Q I r ⟨F, ds, hf, r1, q⟩ => by
  refine cn_isi pins s σ H xs us Q I r ⟨F, ds, hf, r1, ?_⟩
  unfold nIsiB at q
  split at q
  · rename_i d n
    obtain ⟨a, h1, h2, h3⟩ := q
    obtain ⟨t1, t2, t3⟩ := tyS_ty h1
    exact ⟨_, _, _, t1, rfl, t3 _, kit_tab a t2 n (by simpa using h2), h3⟩
  · exact q.elim
end

/-! ### x[i] = e, x a list of one's own -/
def sSetIx (i : Nat) (mi mv : RE) : RS := fun Z env => mv env fun v e1 => ownAt e1 i fun _ => mi e1 fun j e2 => match j with
  | .int k => ownAt e2 i fun ds => ∃ n, ixN ds.length k = some n ∧ Z.nx (es e2 i (.own (.l (ds.set n v))))
  | _ => False
theorem sSetIx_mono {i : Nat} {mi mv : RE} (hi : MonoQ mi) (hv : MonoQ mv) : MonoS (sSetIx i mi mv) := fun Z Z' env l q => hv _ _ _ (fun v e1 q => ownAt_mono (fun ds q => hi _ _ _ (fun j e2 q => by
  cases j <;> first | exact q | exact ownAt_mono (fun ds ⟨n, h1, h2⟩ => ⟨n, h1, l.nx _ h2⟩) q) q) q) q
section
variable {X : Cx} {pos : Pos} {mi mv : RE}
theorem ss_setIx {i : Nat} {o ix e : Expr} {p2 : Pos} (hp : PE X o (tVar i)) (hi : EE X ix mi) (he : EE X e mv)
    (ha : ∀ v, assign (.Subscript o ix p2) X.env v = (do
      let ov ← holding [v] (eval o X.env)
      let iv ← holding [v, ov] (eval ix X.env)
      standAt p2
      holding [v, ov, iv] (setItem ov iv v)
      release [v, ov, iv] []) := by intro _; rfl)
    (hs : swapsWithSole [.Subscript o ix p2] e pos.line X.env = pure false := by rfl) (hw : swappedStores [.Subscript o ix p2] e X.env = pure none := by rfl)
    (h1 : (assignEach [.Subscript o ix p2] X.env).map (·.2) = [assign (.Subscript o ix p2) X.env] := by rfl) : SS X (.Assign [.Subscript o ix p2] e pos) (sSetIx i mi mv) where
  mono := sSetIx_mono hi.mono he.mono
  ps := fun G F0 => PS_imp (ps_asg (he.pe G F0) (pg_sub hp (hi.pe G F0) set_list ha) hs hw h1) fun Z σ H ⟨F, env, k, q⟩ => ⟨F, env, k, he.mono _ _ _ (fun v e1 q x F1 H1 a1 r1 => by
    obtain ⟨ds0, g0, q⟩ := ownAt_get q
    obtain ⟨a, ho, ea, hF, hH, r⟩ := a1.ok.sl i _ g0
    obtain ⟨vs, rfl, r⟩ := r.lst
    refine ⟨.ref a, at_some ea, F1, e1, a1.ok, hi.mono _ _ _ (fun j e2 q y F2 H2 a2 r2 => ?_) q⟩
    cases r2 <;> first | exact q.elim | skip
    obtain ⟨ds, g, n, hn, q⟩ := ownAt_get q
    obtain ⟨b, ho', eb, hF', hH', r'⟩ := a2.ok.sl i _ g
    obtain ⟨vs', rfl, r'⟩ := r'.lst
    rw [ea] at eb; cases eb
    refine ⟨a, vs', _, n, rfl, rfl, hH', by rw [r'.length]; exact hn, ?_⟩
    rw [es_eq] at q
    exact q σ F2 _ (a2.ok.write g ea (r'.set n (r1.mono a2.fF)))) q⟩
/-- name = [..] on its own line, a list that is not changed later -/
theorem ss_setLcF {i : Nat} {y : Str} {py : Pos} {elt tg iter : Expr} {ifs : List Expr} {scope : Scope} {own : List (Str × Nat)} {pos spos : Pos} {m1 : RN} {g : RG} {tt : RT} {me : RE} (fz : List Nat) (hc : X.calm = true) (hN : X.N.Nodup) (hy : X.N[i]? = some y) (hyl : X.env.scope.names.lookup y = some .local)
    (hsw : swapsWith (.ListComp elt [⟨tg, iter, ifs, 0⟩] scope pos) (some (.Name y py)) spos.line X.env = pure true) (hi : EI X tg iter m1) (ok : BlkOk X.N X.env.scope scope own)
    (hg : ∀ (s : Shared) (H : Hp) (C : Addr) (cl : List (Str × Addr)) (fp : List Addr), EG (X.blk s H scope (compEnvC scope cl C X.env) fp) tg (own.map (·.2)) g)
    (ht : ∀ (s : Shared) (H : Hp) (C : Addr) (cl : List (Str × Addr)) (fp : List Addr), ETs (X.blk s H scope (compEnvC scope cl C X.env) fp) ifs tt)
    (he : ∀ (s : Shared) (H : Hp) (C : Addr) (cl : List (Str × Addr)) (fp : List Addr), EE (X.blk s H scope (compEnvC scope cl C X.env) fp) elt me) (hs : ∀ x, foldedSetIterable iter X.env x = pure x := by intro _; rfl) :
    SS X (.Assign [.Name y py] (.ListComp elt [⟨tg, iter, ifs, 0⟩] scope pos) spos) (sSet i (rFz (rLc fz (own.map (·.2)) m1 g tt me))) where
  mono := fun Z Z' env l q => rFz_mono (en_lc (pos := pos) fz hc hN hi ok hg ht he hs).mono _ _ _ (fun d e q => l.nx _ q) q
  ps := fun G F0 => PS_imp ((ss_setLc (py := py) (pos := pos) (spos := spos) fz hc hN hy hyl hsw hi ok hg ht he hs).ps G F0) fun Z σ H ⟨F, env, k, q⟩ => ⟨F, env, k, (en_lc (pos := pos) fz hc hN hi ok hg ht he hs).mono _ _ _ (fun ds e q σ' F' H' k' => by
    rw [es_eq] at k'
    have q : (liftD X.K G F0 Z).nx (es e i (Sl.v (.lst ds))) := q
    rw [es_eq] at q
    by_cases hl : i < e.length
    · obtain ⟨a, vs, _, _, _, sF, k2⟩ := k'.freeze (i := i) (ds := ds) (by rw [List.getElem?_set_self hl])
      rw [List.set_set] at k2
      exact q σ' _ H' k2
    · rw [List.set_eq_of_length_le (by omega)] at k' q
      exact q σ' _ H' k') q⟩
/-! ### name += e, name -= e of ints -/
def sAug (f : Int → Int → Int) (i : Nat) (me : RE) : RS := fun Z env => match eg env i with
  | .v (.int a) => me env fun d e => match d with
    | .int b => Z.nx (es e i (.v (.int (f a b))))
    | _ => False
  | _ => False
theorem sAug_mono {f : Int → Int → Int} {i : Nat} {me : RE} (h : MonoQ me) : MonoS (sAug f i me) := fun Z Z' env l q => by
  unfold sAug at q ⊢
  split at q
  · exact h _ _ _ (fun d e q => by cases d <;> first | exact l.nx _ q | exact q) q
  · exact q
theorem aug_core {f : Int → Int → Int} {i : Nat} {x : Str} {e : Expr} {me : RE} {op : Operator} {pos' : Pos} (ho : PIp X op (ipI f)) (hN : X.N.Nodup) (hi : X.N[i]? = some x) (hx : Loc X.env.scope x) (he : EE X e me) (hf : X.fn x = true ∨ X.env.scope.names.lookup x = some .local) :
    SS X (.AugAssign (.Name x pos') op e pos) (sAug f i me) where
  mono := sAug_mono he.mono
  ps := fun G F0 => PS_imp (ps_aug hN hi hx (he.pe G F0) ho hf) fun Z σ H ⟨F, env, k, q⟩ => by
    unfold sAug at q
    split at q
    · rename_i a ea
      have g := eg_get (env := env) (i := i) (by rw [ea]; exact fun z => nomatch z)
      rw [ea] at g
      obtain ⟨v, ev, r⟩ := k.sl i _ g
      cases r
      refine ⟨.int a, at_some ev, F, env, k, he.mono _ _ _ (fun d e q w F' H' af r => ?_) q⟩
      cases r <;> first | exact q.elim | skip
      have q : (liftD X.K G F0 Z).nx (es e i (Sl.v (.int (f a _)))) := q
      rw [es_eq] at q
      exact ⟨a, _, rfl, rfl, q _ F' H' (af.ok.setV i (.int _))⟩
    · exact q.elim
theorem ss_augAdd {i : Nat} {x : Str} {e : Expr} {me : RE} {pos' : Pos} (hN : X.N.Nodup) (hi : X.N[i]? = some x) (hx : Loc X.env.scope x) (he : EE X e me) (hf : X.fn x = true ∨ X.env.scope.names.lookup x = some .local := by first | exact .inl rfl | exact .inr rfl | assumption) :
    SS X (.AugAssign (.Name x pos') .Add e pos) (sAug (· + ·) i me) := aug_core ip_add hN hi hx he hf
theorem ss_augSub {i : Nat} {x : Str} {e : Expr} {me : RE} {pos' : Pos} (hN : X.N.Nodup) (hi : X.N[i]? = some x) (hx : Loc X.env.scope x) (he : EE X e me) (hf : X.fn x = true ∨ X.env.scope.names.lookup x = some .local := by first | exact .inl rfl | exact .inr rfl | assumption) :
    SS X (.AugAssign (.Name x pos') .Sub e pos) (sAug (· - ·) i me) := aug_core ip_sub hN hi hx he hf
end
end DL

namespace DL
open PySem PySem.Spec PyProof.Rows L2

/-! ### max of three and of five whole numbers -/
def mxI (a b : Int) : Int := if b > a then b else a
theorem best_step (f : Nat → Int) (n : Nat) : f (argBest (fun i j => decide (f i > f j)) (n + 1)) = mxI (f (argBest (fun i j => decide (f i > f j)) n)) (f (n + 1)) := by
  show f (if decide (f (n + 1) > f (argBest (fun i j => decide (f i > f j)) n)) = true then n + 1 else argBest (fun i j => decide (f i > f j)) n) = _
  unfold mxI
  by_cases h : f (n + 1) > f (argBest (fun i j => decide (f i > f j)) n)
  · rw [if_pos (decide_eq_true h), if_pos h]
  · rw [if_neg (by simpa using h), if_neg h]
section
variable {prog : Program} {w : World} {A : Around} {E : Value → Shared → Prop} {s : Shared}

theorem args_mx3 (a0 a1 a2 : Value) : argsOk "max" ⟨[a0, a1, a2], []⟩ := by unfold argsOk; kernel_rfl
theorem call_mx3 {a0 a1 a2 : Value} {Q : Value → Shared → Prop}
    (h : wpAny (model prog w) A.in1 (pyIter (.ref s.heap.objs.size)) (fun it s₂ => ∃ I fp wr n P St bt, it = .ref I ∧ Walks prog w A.in1 I fp wr n P St ∧ St 0 s₂.heap ∧ (∀ b ∈ fp, b < s₂.heap.objs.size) ∧ 0 < n ∧ CmpOf prog w A.in1 .Gt P bt ∧
      ∀ v h' tk, P (argBest bt (n - 1)) v → (∀ b o, b ∉ wr → s₂.heap.get? b = some o → h'.get? b = some o) → Q v { s₂ with heap := h', toks := tk }) E
      { s with heap := s.heap.push { cls := .type "tuple", data := .seq #[a0, a1, a2] } }) :
    wpAny (model prog w) A (call (.builtin "max") [a0, a1, a2]) Q E s := by
  have hname : (toString "max" ++ toString ".loop" : String) = "max.loop" := by decide
  refine call_function_tree F.kind_max F.plain_max F.entry_max (args_mx3 _ _ _) ?_
  show wpAny _ A.in1 (Builtin.Builtins.bindParams "max" ["key", "default"] 0 ⟨[], []⟩ >>= _) _ _ s
  refine wpAny_bind (wpAny_of_eq (show Builtin.Builtins.bindParams "max" ["key", "default"] 0 ⟨[], []⟩ = pure [none, none] from rfl) ?_)
  show wpAny _ A.in1 (newTuple [a0, a1, a2] >>= _) _ _ s
  refine wpAny_bind (wpAny_newObj_type ?_)
  refine wpAny_bind (wpAny_mono h (fun it s₂ h₂ => ?_) fun _ _ e => e)
  obtain ⟨I, fp, wr, n, P, St, bt, rfl, W, hst, hfp, hn, hcmp, hQ⟩ := h₂
  refine wpAny_bind (wpAny_newObj_type ?_)
  have hSf : s₂.heap.objs.size ∉ fp := fun hm => Nat.lt_irrefl _ (hfp _ hm)
  rw [hname]
  refine wpAny_pure ⟨plainId_quiet F.plain_max_loop _, codeAny_max_loop_first W bt hcmp s₂.heap.objs.size hSf hn (W.frame _ _ _ hst fun b _ o e => Heap.get?_push_of_some _ e) (Heap.get?_push_size _ rfl) fun v h' tk hP hk => ?_⟩
  exact hQ v h' tk hP fun b o hbw e => hk b o hbw (Nat.ne_of_lt (Heap.lt_size e)) (Heap.get?_push_of_some _ e)
theorem mx3_ints {a0 a1 a2 : Int} {t0 t1 t2 : Tok} {Q : Value → Shared → Prop} (hh : A.handled = none)
    (h : ∀ h' tk t, (∀ d o, s.heap.get? d = some o → h'.get? d = some o) → Q (.int (mxI (mxI a0 a1) a2) t) { s with heap := h', toks := tk }) :
    wpAny (model prog w) A (call (.builtin "max") [.int a0 t0, .int a1 t1, .int a2 t2]) Q E s := by
  have hT : (s.heap.push { cls := .type "tuple", data := .seq #[.int a0 t0, .int a1 t1, .int a2 t2] }).IsTuple s.heap.objs.size (intItems #[(a0, t0), (a1, t1), (a2, t2)]) := ⟨_, Heap.get?_push_size _ rfl, rfl, 0, by simp [intItems]⟩
  refine call_mx3 (wpAny_pyIter_tuple hT ?_)
  have hsz : (s.heap.push { cls := .type "tuple", data := .seq #[.int a0 t0, .int a1 t1, .int a2 t2] }).objs.size = s.heap.objs.size + 1 := Heap.size_push ..
  refine ⟨_, [_, s.heap.objs.size], [_], _, _, _, _, rfl, Walks.tuple (A := A.in1) hh _ s.heap.objs.size (by rw [hsz]; exact Nat.ne_of_lt (Nat.lt_succ_self _)) (intItems #[(a0, t0), (a1, t1), (a2, t2)]),
    ⟨⟨_, Heap.get?_push_size _ rfl, rfl, rfl⟩, hT.push _⟩, fun d hd => ?_, by simp [intItems], CmpOf.ints_gt (numAt #[(a0, t0), (a1, t1), (a2, t2)]) (fun _ _ => intItems_at), fun v h' tk hP hk => ?_⟩
  · show d < ((s.heap.push _).push _).objs.size
    rw [Heap.size_push, hsz]
    rcases List.mem_cons.mp hd with rfl | hd
    · rw [hsz]; exact Nat.lt_succ_self _
    · rcases List.mem_cons.mp hd with rfl | hd
      · exact Nat.lt_succ_of_lt (Nat.lt_succ_self _)
      · cases hd
  · have hold : ∀ d o, s.heap.get? d = some o → h'.get? d = some o := fun d o e => by
      refine hk d o (fun hm => ?_) (Heap.get?_push_of_some _ (Heap.get?_push_of_some _ e))
      rcases List.mem_cons.mp hm with e1 | hm
      · have := Heap.lt_size e; rw [e1, hsz] at this; exact Nat.lt_irrefl _ (Nat.lt_of_succ_lt this)
      · cases hm
    have hP' : (intItems #[(a0, t0), (a1, t1), (a2, t2)])[argBest (fun i j => decide (numAt #[(a0, t0), (a1, t1), (a2, t2)] i > numAt #[(a0, t0), (a1, t1), (a2, t2)] j)) 2]? = some v := by
      have hsz2 : (intItems #[(a0, t0), (a1, t1), (a2, t2)]).size - 1 = 2 := by simp [intItems]
      rw [← hsz2]; exact hP
    obtain ⟨t, rfl⟩ := intItems_at hP'
    have e := best_step (numAt #[(a0, t0), (a1, t1), (a2, t2)])
    have e1 : numAt #[(a0, t0), (a1, t1), (a2, t2)] (argBest (fun i j => decide (numAt #[(a0, t0), (a1, t1), (a2, t2)] i > numAt #[(a0, t0), (a1, t1), (a2, t2)] j)) 2) = mxI (mxI a0 a1) a2 := by
      rw [e 1, e 0]; rfl
    rw [e1]
    exact h h' tk t hold
theorem call_max3I {X : Cx} (hc : X.calm = true) : CallR X (.builtin "max") (fun xs H Q => ∃ a0 a1 a2, xs = [.int a0, .int a1, .int a2] ∧ Q (.int (mxI (mxI a0 a1) a2)) H) := by
  intro pins s σ H xs us Q I r h
  obtain ⟨a0, a1, a2, rfl, q⟩ := h
  cases r with | cons r0 r =>
  obtain ⟨t0, rfl⟩ := r0
  cases r with | cons r1 r =>
  obtain ⟨t1, rfl⟩ := r1
  cases r with | cons r2 r =>
  obtain ⟨t2, rfl⟩ := r2
  cases r
  exact mx3_ints (I.ok.hd hc) fun h' tk t k => ⟨.int (mxI (mxI a0 a1) a2), H, I.kept k, ⟨t, rfl⟩, q⟩
def nMax3 : OpN := fun ds Q => match ds with
  | [.int a0, .int a1, .int a2] => Q (.int (mxI (mxI a0 a1) a2))
  | _ => False
theorem nMax3_mono : MonoN nMax3 := by unfold nMax3; intro ds Q Q' i q; revert q; split <;> intro q <;> first | exact i _ q | exact q
theorem BReps.three {K : PySem.W.Frag} {F H : Hp} {vs : List V} {d0 d1 d2 : D} (r : BReps K F H vs [d0, d1, d2]) : ∃ v0 v1 v2, vs = [v0, v1, v2] ∧ BRep K F H v0 d0 ∧ BRep K F H v1 d1 ∧ BRep K F H v2 d2 := by
  cases r with | cons r0 r =>
  cases r with | cons r1 r =>
  cases r with | cons r2 r =>
  cases r
  exact ⟨_, _, _, rfl, r0, r1, r2⟩
theorem cn_max3 {X : Cx} (hc : X.calm = true) : CallR X (.builtin "max") (rDc X.K nMax3) := fun pins s σ H xs us Q I r ⟨F, ds, hf, r1, q⟩ => by
  unfold nMax3 at q
  split at q
  · obtain ⟨v0, v1, v2, rfl, r0, r1, r2⟩ := r1.three
    rw [r0.int, r1.int, r2.int] at r
    exact call_max3I hc pins s σ H _ us Q I r ⟨_, _, _, rfl, q.int hf⟩
  · exact q.elim
theorem nMax3_i {a0 a1 a2 : Int} {Q : D → Prop} : nMax3 [.int a0, .int a1, .int a2] Q = Q (.int (mxI (mxI a0 a1) a2)) := rfl

theorem args_mx5 (a0 a1 a2 a3 a4 : Value) : argsOk "max" ⟨[a0, a1, a2, a3, a4], []⟩ := by unfold argsOk; kernel_rfl
theorem call_mx5 {a0 a1 a2 a3 a4 : Value} {Q : Value → Shared → Prop}
    (h : wpAny (model prog w) A.in1 (pyIter (.ref s.heap.objs.size)) (fun it s₂ => ∃ I fp wr n P St bt, it = .ref I ∧ Walks prog w A.in1 I fp wr n P St ∧ St 0 s₂.heap ∧ (∀ b ∈ fp, b < s₂.heap.objs.size) ∧ 0 < n ∧ CmpOf prog w A.in1 .Gt P bt ∧
      ∀ v h' tk, P (argBest bt (n - 1)) v → (∀ b o, b ∉ wr → s₂.heap.get? b = some o → h'.get? b = some o) → Q v { s₂ with heap := h', toks := tk }) E
      { s with heap := s.heap.push { cls := .type "tuple", data := .seq #[a0, a1, a2, a3, a4] } }) :
    wpAny (model prog w) A (call (.builtin "max") [a0, a1, a2, a3, a4]) Q E s := by
  have hname : (toString "max" ++ toString ".loop" : String) = "max.loop" := by decide
  refine call_function_tree F.kind_max F.plain_max F.entry_max (args_mx5 _ _ _ _ _) ?_
  show wpAny _ A.in1 (Builtin.Builtins.bindParams "max" ["key", "default"] 0 ⟨[], []⟩ >>= _) _ _ s
  refine wpAny_bind (wpAny_of_eq (show Builtin.Builtins.bindParams "max" ["key", "default"] 0 ⟨[], []⟩ = pure [none, none] from rfl) ?_)
  show wpAny _ A.in1 (newTuple [a0, a1, a2, a3, a4] >>= _) _ _ s
  refine wpAny_bind (wpAny_newObj_type ?_)
  refine wpAny_bind (wpAny_mono h (fun it s₂ h₂ => ?_) fun _ _ e => e)
  obtain ⟨I, fp, wr, n, P, St, bt, rfl, W, hst, hfp, hn, hcmp, hQ⟩ := h₂
  refine wpAny_bind (wpAny_newObj_type ?_)
  have hSf : s₂.heap.objs.size ∉ fp := fun hm => Nat.lt_irrefl _ (hfp _ hm)
  rw [hname]
  refine wpAny_pure ⟨plainId_quiet F.plain_max_loop _, codeAny_max_loop_first W bt hcmp s₂.heap.objs.size hSf hn (W.frame _ _ _ hst fun b _ o e => Heap.get?_push_of_some _ e) (Heap.get?_push_size _ rfl) fun v h' tk hP hk => ?_⟩
  exact hQ v h' tk hP fun b o hbw e => hk b o hbw (Nat.ne_of_lt (Heap.lt_size e)) (Heap.get?_push_of_some _ e)
theorem mx5_ints {a0 a1 a2 a3 a4 : Int} {t0 t1 t2 t3 t4 : Tok} {Q : Value → Shared → Prop} (hh : A.handled = none)
    (h : ∀ h' tk t, (∀ d o, s.heap.get? d = some o → h'.get? d = some o) → Q (.int (mxI (mxI (mxI (mxI a0 a1) a2) a3) a4) t) { s with heap := h', toks := tk }) :
    wpAny (model prog w) A (call (.builtin "max") [.int a0 t0, .int a1 t1, .int a2 t2, .int a3 t3, .int a4 t4]) Q E s := by
  have hT : (s.heap.push { cls := .type "tuple", data := .seq #[.int a0 t0, .int a1 t1, .int a2 t2, .int a3 t3, .int a4 t4] }).IsTuple s.heap.objs.size (intItems #[(a0, t0), (a1, t1), (a2, t2), (a3, t3), (a4, t4)]) := ⟨_, Heap.get?_push_size _ rfl, rfl, 0, by simp [intItems]⟩
  refine call_mx5 (wpAny_pyIter_tuple hT ?_)
  have hsz : (s.heap.push { cls := .type "tuple", data := .seq #[.int a0 t0, .int a1 t1, .int a2 t2, .int a3 t3, .int a4 t4] }).objs.size = s.heap.objs.size + 1 := Heap.size_push ..
  refine ⟨_, [_, s.heap.objs.size], [_], _, _, _, _, rfl, Walks.tuple (A := A.in1) hh _ s.heap.objs.size (by rw [hsz]; exact Nat.ne_of_lt (Nat.lt_succ_self _)) (intItems #[(a0, t0), (a1, t1), (a2, t2), (a3, t3), (a4, t4)]),
    ⟨⟨_, Heap.get?_push_size _ rfl, rfl, rfl⟩, hT.push _⟩, fun d hd => ?_, by simp [intItems], CmpOf.ints_gt (numAt #[(a0, t0), (a1, t1), (a2, t2), (a3, t3), (a4, t4)]) (fun _ _ => intItems_at), fun v h' tk hP hk => ?_⟩
  · show d < ((s.heap.push _).push _).objs.size
    rw [Heap.size_push, hsz]
    rcases List.mem_cons.mp hd with rfl | hd
    · rw [hsz]; exact Nat.lt_succ_self _
    · rcases List.mem_cons.mp hd with rfl | hd
      · exact Nat.lt_succ_of_lt (Nat.lt_succ_self _)
      · cases hd
  · have hold : ∀ d o, s.heap.get? d = some o → h'.get? d = some o := fun d o e => by
      refine hk d o (fun hm => ?_) (Heap.get?_push_of_some _ (Heap.get?_push_of_some _ e))
      rcases List.mem_cons.mp hm with e1 | hm
      · have := Heap.lt_size e; rw [e1, hsz] at this; exact Nat.lt_irrefl _ (Nat.lt_of_succ_lt this)
      · cases hm
    have hP' : (intItems #[(a0, t0), (a1, t1), (a2, t2), (a3, t3), (a4, t4)])[argBest (fun i j => decide (numAt #[(a0, t0), (a1, t1), (a2, t2), (a3, t3), (a4, t4)] i > numAt #[(a0, t0), (a1, t1), (a2, t2), (a3, t3), (a4, t4)] j)) 4]? = some v := by
      have hsz2 : (intItems #[(a0, t0), (a1, t1), (a2, t2), (a3, t3), (a4, t4)]).size - 1 = 4 := by simp [intItems]
      rw [← hsz2]; exact hP
    obtain ⟨t, rfl⟩ := intItems_at hP'
    have e := best_step (numAt #[(a0, t0), (a1, t1), (a2, t2), (a3, t3), (a4, t4)])
    have e1 : numAt #[(a0, t0), (a1, t1), (a2, t2), (a3, t3), (a4, t4)] (argBest (fun i j => decide (numAt #[(a0, t0), (a1, t1), (a2, t2), (a3, t3), (a4, t4)] i > numAt #[(a0, t0), (a1, t1), (a2, t2), (a3, t3), (a4, t4)] j)) 4) = mxI (mxI (mxI (mxI a0 a1) a2) a3) a4 := by
      rw [e 3, e 2, e 1, e 0]; rfl
    rw [e1]
    exact h h' tk t hold
theorem call_max5I {X : Cx} (hc : X.calm = true) : CallR X (.builtin "max") (fun xs H Q => ∃ a0 a1 a2 a3 a4, xs = [.int a0, .int a1, .int a2, .int a3, .int a4] ∧ Q (.int (mxI (mxI (mxI (mxI a0 a1) a2) a3) a4)) H) := by
  intro pins s σ H xs us Q I r h
  obtain ⟨a0, a1, a2, a3, a4, rfl, q⟩ := h
  cases r with | cons r0 r =>
  obtain ⟨t0, rfl⟩ := r0
  cases r with | cons r1 r =>
  obtain ⟨t1, rfl⟩ := r1
  cases r with | cons r2 r =>
  obtain ⟨t2, rfl⟩ := r2
  cases r with | cons r3 r =>
  obtain ⟨t3, rfl⟩ := r3
  cases r with | cons r4 r =>
  obtain ⟨t4, rfl⟩ := r4
  cases r
  exact mx5_ints (I.ok.hd hc) fun h' tk t k => ⟨.int (mxI (mxI (mxI (mxI a0 a1) a2) a3) a4), H, I.kept k, ⟨t, rfl⟩, q⟩
def nMax5 : OpN := fun ds Q => match ds with
  | [.int a0, .int a1, .int a2, .int a3, .int a4] => Q (.int (mxI (mxI (mxI (mxI a0 a1) a2) a3) a4))
  | _ => False
theorem nMax5_mono : MonoN nMax5 := by unfold nMax5; intro ds Q Q' i q; revert q; split <;> intro q <;> first | exact i _ q | exact q
theorem BReps.five {K : PySem.W.Frag} {F H : Hp} {vs : List V} {d0 d1 d2 d3 d4 : D} (r : BReps K F H vs [d0, d1, d2, d3, d4]) : ∃ v0 v1 v2 v3 v4, vs = [v0, v1, v2, v3, v4] ∧ BRep K F H v0 d0 ∧ BRep K F H v1 d1 ∧ BRep K F H v2 d2 ∧ BRep K F H v3 d3 ∧ BRep K F H v4 d4 := by
  cases r with | cons r0 r =>
  cases r with | cons r1 r =>
  cases r with | cons r2 r =>
  cases r with | cons r3 r =>
  cases r with | cons r4 r =>
  cases r
  exact ⟨_, _, _, _, _, rfl, r0, r1, r2, r3, r4⟩
theorem cn_max5 {X : Cx} (hc : X.calm = true) : CallR X (.builtin "max") (rDc X.K nMax5) := fun pins s σ H xs us Q I r ⟨F, ds, hf, r1, q⟩ => by
  unfold nMax5 at q
  split at q
  · obtain ⟨v0, v1, v2, v3, v4, rfl, r0, r1, r2, r3, r4⟩ := r1.five
    rw [r0.int, r1.int, r2.int, r3.int, r4.int] at r
    exact call_max5I hc pins s σ H _ us Q I r ⟨_, _, _, _, _, rfl, q.int hf⟩
  · exact q.elim
theorem nMax5_i {a0 a1 a2 a3 a4 : Int} {Q : D → Prop} : nMax5 [.int a0, .int a1, .int a2, .int a3, .int a4] Q = Q (.int (mxI (mxI (mxI (mxI a0 a1) a2) a3) a4)) := rfl
end
end DL

namespace DL
open PySem PySem.Spec PyProof.Rows L2

/-! ### attributes -/
def fldD : List Str → List D → Str → Option D
  | n :: ns, x :: xs, f => if f == n then some x else fldD ns xs f
  | _, _, _ => none
theorem fld_get {K : PySem.W.Frag} {F : Hp} {f : Str} {x : D} : ∀ {fs : List (Str × V)} {xs : List D}, Reps K F (fs.map (·.2)) xs → fldD (fs.map (·.1)) xs f = some x → f ∈ fs.map (·.1) ∧ ∃ v, fs.lookup f = some v ∧ Rep K F v x
  | [], _, r, e => by cases r; cases e
  | (n, v) :: fs, _, r, e => by
    cases r with | cons r1 r2 =>
    simp only [List.map_cons, fldD] at e
    by_cases c : (f == n) = true
    · rw [if_pos c] at e
      cases e
      have := eq_of_beq c
      subst this
      exact ⟨List.mem_cons_self .., v, by simp [List.lookup], r1⟩
    · rw [if_neg c] at e
      obtain ⟨h1, v', h2, h3⟩ := fld_get r2 e
      refine ⟨List.mem_cons_of_mem _ h1, v', ?_, h3⟩
      have c' : (f == n) = false := by simpa using c
      simp only [List.lookup, c']; exact h2
def qFld (d : D) (f : Str) (Q : D → Prop) : Prop := match d with
  | .ins _ ns xs => ∃ x, fldD ns xs f = some x ∧ Q x
  | _ => False
theorem qFld_mono {d : D} {f : Str} {Q Q' : D → Prop} (i : ∀ x, Q x → Q' x) (q : qFld d f Q) : qFld d f Q' := by
  cases d <;> first | (obtain ⟨x, h1, h2⟩ := q; exact ⟨x, h1, i _ h2⟩) | exact q
def rFld (f : Str) (m : RE) : RE := fun env Q => m env fun d e => qFld d f fun x => Q x e
section
variable {X : Cx} {e : Expr} {m : RE} {f : Str} {pos : Pos}
theorem ee_fld (he : EB X e m) (hb : attributeBase e f X.env (eval e X.env) = eval e X.env := by rfl) : EE X (.Attribute e f pos) (rFld f m) where
  mono := fun env Q Q' i q => he.mono _ _ _ (fun d e q => qFld_mono (fun x q => i _ _ q) q) q
  pe := fun G F0 => PE_imp (pe_fld (he.pe G F0) hb) fun σ H Q ⟨F, env, k, q⟩ => ⟨F, env, k, he.mono _ _ _ (fun d e q v F' H' a r => by
    cases d <;> first | exact q.elim | skip
    obtain ⟨x, h1, q⟩ := q
    rcases r with r | ⟨_, _, _, _, z, _⟩
    · cases r with | ins k' h rs =>
      obtain ⟨h2, v, h3, h4⟩ := fld_get rs h1
      exact ⟨_, _, _, _, v, rfl, a.ok.fh _ _ h, k'.cl, k'.nf _ h2, h3, q v F' H' a h4⟩
    · cases z) q⟩
end
/-! ### self.f = e, in an __init__ -/
def qObj (s : Sl) (Q : Addr → Addr → List Str → List D → Prop) : Prop := match s with
  | .own (.o p C ns xs) => Q p C ns xs
  | _ => False
theorem qObj_mono {s : Sl} {Q Q' : Addr → Addr → List Str → List D → Prop} (i : ∀ p C ns xs, Q p C ns xs → Q' p C ns xs) (q : qObj s Q) : qObj s Q' := by
  unfold qObj at q ⊢
  split at q
  · exact i _ _ _ _ q
  · exact q.elim
theorem qObj_get {env : En} {i : Nat} {Q : Addr → Addr → List Str → List D → Prop} (h : qObj (eg env i) Q) : ∃ p C ns xs, env[i]? = some (Sl.own (.o p C ns xs)) ∧ Q p C ns xs := by
  unfold qObj at h
  split at h
  · rename_i p C ns xs e
    have g := eg_get (env := env) (i := i) (by rw [e]; exact fun z => nomatch z)
    rw [e] at g
    exact ⟨p, C, ns, xs, g, h⟩
  · exact h.elim
theorem qObj_o {p C : Addr} {ns : List Str} {xs : List D} {Q : Addr → Addr → List Str → List D → Prop} : qObj (.own (.o p C ns xs)) Q = Q p C ns xs := rfl
def sFldD (c : Addr) (i : Nat) (f : Str) (me : RE) : RS := fun Z env => me env fun d e => qObj (eg e i) fun p C ns xs => C = c ∧ ns.contains f = false ∧ ns.length < 900 ∧ Z.nx (es e i (.own (.o p C (ns ++ [f]) (xs ++ [d]))))
theorem putF_new {f : Str} {v : V} : ∀ {fs : List (Str × V)}, (fs.map (·.1)).contains f = false → putF f v fs = fs ++ [(f, v)]
  | [], _ => rfl
  | (g, x) :: r, h => by
    simp only [List.map_cons, List.contains_cons, Bool.or_eq_false_iff] at h
    have n : ¬ g = f := fun e => by
      have h1 := h.1
      rw [e] at h1; simp at h1
    show (if g = f then (g, v) :: r else (g, x) :: putF f v r) = _
    rw [if_neg n, putF_new h.2]; rfl
section
variable {X : Cx} {o e : Expr} {me : RE} {f : Str} {pos pos' : Pos} {c : Addr} {i : Nat} {fs : List Str}
theorem ss_fld (hk : InsK X.K c fs) (hf : f ∈ fs) (hp : PE X o (tVar i)) (he : EE X e me) (hs : swapsWith e (some (.Attribute o f pos')) pos.line X.env = pure false := by rfl) : SS X (.Assign [.Attribute o f pos'] e pos) (sFldD c i f me) where
  mono := fun Z Z' env l q => he.mono _ _ _ (fun d e q => qObj_mono (fun p C ns xs q => ⟨q.1, q.2.1, q.2.2.1, l.nx _ q.2.2.2⟩) q) q
  ps := fun G F0 => PS_imp (L2.ps_fld hp (he.pe G F0) hs) fun Z σ H ⟨F, env, k, q⟩ => ⟨F, env, k, he.mono _ _ _ (fun d e q v F1 H1 a1 r1 => by
    obtain ⟨p, C, ns, xs, g, rfl, h1, h2, q⟩ := qObj_get q
    obtain ⟨a, ho, ea, hF, hH, r⟩ := a1.ok.sl i _ g
    obtain ⟨dx, vs, rfl, rfl, e1, e2⟩ := r.ins
    refine ⟨.ref a, at_some ea, a, C, dx, vs, rfl, hH, hk.cl, hk.nf _ hf, ?_, ?_⟩
    · have : vs.length = ns.length := by rw [← e1, List.length_map]
      omega
    · rw [putF_new (by rw [e1]; exact h1)]
      rw [es_eq] at q
      refine q σ F1 _ (a1.ok.writeC g ea ⟨rfl, rfl, by rw [List.map_append, e1]; rfl, ?_⟩)
      rw [List.map_append]
      exact e2.append (Reps.one r1)) q⟩
end
/-! ### __init__, C(..) -/
/-- an instance made: its attributes' names fs, its class c; m: the body of __init__ over n names -/
def mkD (c : Addr) (fs : List Str) (n : Nat) (m : RS) : SpecD := fun ds Q => ∀ p, m { nx := fun e => qObj (eg e 0) fun p' C ns xs => p' = p ∧ C = c ∧ ns = fs ∧ Q (.ins c fs xs), rt := fun _ => False } (.own (.o p c [] []) :: (ds.map Sl.v ++ List.replicate (n - 1 - ds.length) Sl.un))
theorem mkD_mono {c : Addr} {fs : List Str} {n : Nat} {m : RS} (h : MonoS m) : MonoSp (mkD c fs n m) := fun ds Q Q' i q p => h { nx := fun e => qObj (eg e 0) fun p' C ns xs => p' = p ∧ C = c ∧ ns = fs ∧ Q (.ins c fs xs), rt := fun _ => False } _ _ ⟨fun e q => qObj_mono (fun p' C ns xs q => ⟨q.1, q.2.1, q.2.2.1, i _ q.2.2.2⟩) q, fun _ q => q, fun _ q => q, fun _ q => q⟩ (q p)
theorem mkD_ins {c : Addr} {fs : List Str} {n : Nat} {m : RS} (h : MonoS m) (ds : List D) (Q : D → Prop) (q : mkD c fs n m ds Q) : mkD c fs n m ds fun d => (∃ xs, d = .ins c fs xs) ∧ Q d := fun p =>
  h { nx := fun e => qObj (eg e 0) fun p' C ns xs => p' = p ∧ C = c ∧ ns = fs ∧ Q (.ins c fs xs), rt := fun _ => False } _ _ ⟨fun e q => qObj_mono (fun p' C ns xs q => ⟨q.1, q.2.1, q.2.2.1, ⟨xs, rfl⟩, q.2.2.2⟩) q, fun _ q => q, fun _ q => q, fun _ q => q⟩ (q p)
/-- what __init__ promises -/
def spI (K : PySem.W.Frag) (c : Addr) (fs : List Str) (n : Nat) (spec : SpecD) : Sp := fun vs H Q _ => ∃ p dx rest, vs = .ref p :: rest ∧ rest.length = n ∧ H p = some (.ins c dx []) ∧ ∃ F ds, F p = none ∧ Same F H ∧ Reps K F rest ds ∧
  spec ds fun d => ∀ xs, d = .ins c fs xs → ∀ F' H' dx' (vfs : List (Str × V)), Same F F' → (∀ a o, a ≠ p → H a = some o → H' a = some o) → Same F' H' → F' p = none → (∀ a, a ≠ p → H a ≠ none → F' a = F a) →
    H' p = some (.ins c dx' vfs) → vfs.map (·.1) = fs → Reps K F' (vfs.map (·.2)) xs → Q .non H'
def delH (H : Hp) (p : Addr) : Hp := fun a => if a = p then none else H a
theorem delH_ne {H : Hp} {p a : Addr} (h : a ≠ p) : delH H p a = H a := if_neg h
theorem delH_at {H : Hp} {p : Addr} : delH H p p = none := if_pos rfl
theorem delH_same {H : Hp} {p : Addr} : Same (delH H p) H := fun a o e => by
  by_cases h : a = p
  · subst h; rw [delH_at] at e; cases e
  · rw [delH_ne h] at e; exact e
theorem startO_ok {K : PySem.W.Frag} {F H : Hp} {N : List Str} {p c dx : Addr} {vs : List V} {ds : List D} (hf : Same F H) (hF : F p = none) (hp : H p = some (.ins c dx [])) (r : Reps K F vs ds) (hl : vs.length + 1 ≤ N.length) :
    StOk K (delH H p) F F H (.own (.o p c [] []) :: (ds.map Sl.v ++ List.replicate (N.length - 1 - ds.length) Sl.un)) (L2.start N (.ref p :: vs)) := by
  have e1 := r.length
  have at0 : L2.St.at (L2.start N (.ref p :: vs)) 0 = some (.ref p) := rfl
  have own : ∀ (i : Nat) (es : OC), (ds.map Sl.v ++ List.replicate (N.length - 1 - ds.length) Sl.un)[i]? ≠ some (Sl.own es) := fun i es e => by
    by_cases h : i < ds.length
    · rw [List.getElem?_append_left (by simpa using h), List.getElem?_map, List.getElem?_eq_getElem h] at e
      cases e
    · rw [List.getElem?_append_right (by simpa using h), List.getElem?_replicate] at e
      split at e <;> cases e
  refine ⟨hf, delH_same, Same.refl _, fun _ _ => rfl, ?_, fun i s e => ?_, fun i es a e ea => ?_, fun i j es es' a e e' => ?_⟩
  · unfold L2.start
    simp only [List.length_append, List.length_map, List.length_replicate, List.length_cons]
    omega
  · cases i with
    | zero =>
      cases e
      exact ⟨p, _, at0, hF, hp, rfl, rfl, rfl, .nil⟩
    | succ i =>
      rw [List.getElem?_cons_succ] at e
      by_cases h : i < ds.length
      · rw [List.getElem?_append_left (by simpa using h), List.getElem?_map, List.getElem?_eq_getElem h] at e
        cases e
        obtain ⟨v, ev, rv⟩ := r.get (List.getElem?_eq_getElem h)
        refine ⟨v, ?_, rv⟩
        unfold L2.St.at L2.start
        rw [List.map_cons, List.cons_append, List.getElem?_cons_succ, List.getElem?_append_left (by rw [List.length_map]; omega), List.getElem?_map, ev]
        rfl
      · rw [List.getElem?_append_right (by simpa using h), List.getElem?_replicate] at e
        split at e <;> cases e
        trivial
  · cases i with
    | zero => rw [at0] at ea; cases ea; exact delH_at
    | succ i => rw [List.getElem?_cons_succ] at e; exact absurd e (own i es)
  · cases i with
    | zero =>
      cases j with
      | zero => intros; rfl
      | succ j => rw [List.getElem?_cons_succ] at e'; exact absurd e' (own j es')
    | succ i => rw [List.getElem?_cons_succ] at e; exact absurd e (own i es)
section
variable {P : Program} {w : World} {K : PySem.W.Frag} {mg : Str → Option Value} {base : Heap}
theorem init_ok {x qual : Str} {st : Stmt} {f c : Addr} {fd : FuncData} {N ps fs : List Str} {k : Nat} {m : RS} (F : Fun K x qual st f fd) (S : FnScope N ("self" :: ps) (defScope st))
    (hm : ∀ (cdv : Value) (A : Around) (outer : List Env) (s : Shared) (H : Hp) (E : XK), Room k (A.deeper (envOfC qual (defScope st) s.heap.objs.size f cdv)) → SSs (cxOf CX0 P w K mg base N qual (defScope st) f cdv A outer s H E).nox (defBody st) m) :
    FnOk P w K mg base CX0 (k + 1) f fd ("self" :: ps) (spI K c fs ps.length (mkD c fs N.length m)) :=
  F.ok S (fun vs H Q E ⟨p, dx, rest, e, hl, _⟩ => by rw [e, List.length_cons, List.length_cons, hl]) fun cdv A outer s H vs Q E hr ⟨p, dx, rest, ev, hl, hp, F', ds, hF, hs, r, q⟩ => by
    subst ev
    have M := hm cdv A outer s H E hr
    refine ⟨_, M.ps (delH H p) F', F', .own (.o p c [] []) :: (ds.map Sl.v ++ List.replicate (N.length - 1 - ds.length) Sl.un), startO_ok hs hF hp r ?_, ?_⟩
    · rw [hl]
      have := congrArg List.length S.pre
      rw [List.length_take, List.length_cons] at this
      omega
    · refine M.mono { nx := fun e => qObj (eg e 0) fun p' C ns xs => p' = p ∧ C = c ∧ ns = fs ∧ ∀ ys, D.ins c fs xs = .ins c fs ys → ∀ F1 H' dx' (vfs : List (Str × V)), Same F' F1 → (∀ a o, a ≠ p → H a = some o → H' a = some o) → Same F1 H' → F1 p = none → (∀ a, a ≠ p → H a ≠ none → F1 a = F' a) → H' p = some (.ins c dx' vfs) → vfs.map (·.1) = fs → Reps K F1 (vfs.map (·.2)) ys → Q .non H', rt := fun _ => False } _ _ ⟨fun e q σ F1 H1 k => ?_, fun _ q => q.elim, fun _ q => q.elim, fun _ q => q.elim⟩ (q p)
      obtain ⟨p', C, ns, xs, g, rfl, rfl, rfl, q⟩ := qObj_get q
      obtain ⟨a, ho, ea, hF1, hH1, ro⟩ := k.sl 0 _ g
      obtain ⟨dx', vfs, rfl, rfl, e1, e2⟩ := ro.ins
      refine q xs rfl F1 H1 dx' vfs k.ff (fun b o hb e => k.gh _ _ (by rw [delH_ne hb]; exact e)) k.fh hF1 (fun b hb n => k.nw b (by rw [delH_ne hb]; exact n)) hH1 e1 e2
end
/-- a class of one's own that can be called -/
structure CalM (P : Program) (w : World) (K : PySem.W.Frag) (mg : Str → Option Value) (base : Heap) (x : Str) (k : Nat) (c : Addr) (fs : List Str) (n : Nat) (spec : SpecD) : Prop where
  mono : MonoSp spec
  ins : InsK K c fs
  hi : ∀ ds Q, spec ds Q → spec ds fun d => (∃ xs, d = .ins c fs xs) ∧ Q d
  ex : ∃ (f : Addr) (fd : FuncData) (ps : List Str), ps.length = n ∧ FnOk P w K mg base CX0 k f fd ("self" :: ps) (spI K c fs n spec) ∧ Mk K c f ∧ mg x = some (.ref c) ∧ Binds K fd ("self" :: ps) []
section
variable {X : Cx} {x : Str} {k n : Nat} {c : Addr} {fs : List Str} {spec : SpecD} {p pos : Pos} {e : Expr} {es : List Expr} {m : RN}
theorem ee_make (cm : CalM X.prog X.w X.K X.mg X.base x k c fs n spec) (hr : Room (k + 1) X.A) (hg : Gl X x) (ha : EA X (e :: es) m) (hdb : (x == ("__debug__" : Str)) = false := by decide)
    (he : starEach (e :: es) X.env = (false, eval e X.env) :: starEach es X.env := by rfl) (hpl : (backTo pos (starEach es X.env)).any (·.1) = false := by rfl) : EE X (.Call (.Name x p) (e :: es) [] pos) (rUser spec [] n m) where
  mono := fun env Q Q' i q => ha.mono _ _ _ (fun ds e q => ⟨q.1, cm.mono _ _ _ (fun d q => i _ _ q) q.2⟩) q
  pe := fun G F0 => by
    obtain ⟨f, fd, ps, hn, F, hM, hm, hb⟩ := cm.ex
    refine PE_imp (pe_make hM F hr hg hm hb .nil pass0 (ha.pe G F0) hdb he hpl) fun σ H Q ⟨F, env, k, q⟩ => ⟨F, env, k, ha.mono _ _ _ (fun ds e q vs F1 H1 a1 r1 y dx hy hdx hne => ?_) q⟩
    have q2 := cm.hi _ _ q.2
    have fy : F1 y = none := a1.ok.fh.at_none hy
    have fd' : F1 dx = none := a1.ok.fh.at_none hdx
    have s2 : Same F1 (upd (upd H1 dx (.own y)) y (.ins c dx [])) := fun b o eb => by
      rw [upd_ne (ne_of_none eb fy), upd_ne (ne_of_none eb fd')]; exact a1.ok.fh _ _ eb
    rw [List.append_nil]
    refine ⟨y, dx, vs, rfl, ?_, upd_same, F1, ds, fy, s2, r1, ?_⟩
    · rw [r1.length]; simpa using q.1
    · rw [List.append_nil] at q2
      refine cm.mono _ _ _ (fun d ⟨⟨xs, ed⟩, qd⟩ xs' ed' F' H' dx' vfs h1 h2 h3 h4 h5 h6 h7 h8 => ⟨rfl, ?_⟩) q2
      subst ed'
      have old : ∀ b, H1 b ≠ none → b ≠ y ∧ b ≠ dx := fun b hb => ⟨fun z => hb (z ▸ hy), fun z => hb (z ▸ hdx)⟩
      have sF : Same F' (upd F' y (.ins c dx' vfs)) := same_upd h4
      refine qd (.ref y) (upd F' y (.ins c dx' vfs)) H' (a1.ext ⟨h1.trans sF, fun b o eb => ?_, fun b o eb => ?_, fun b hb => ?_⟩) ?_
      · have := old b (by rw [eb]; exact fun z => nomatch z)
        exact h2 b o this.1 (by rw [upd_ne this.1, upd_ne this.2]; exact eb)
      · by_cases hb : b = y
        · subst hb; rw [upd_same] at eb; rw [h6]; exact eb
        · rw [upd_ne hb] at eb; exact h3 _ _ eb
      · have := old b hb
        rw [upd_ne this.1]
        exact h5 b this.1 (by rw [upd_ne this.1, upd_ne this.2]; exact hb)
      · subst h7
        exact .ins cm.ins upd_same (h8.mono sF)
end
end DL

namespace DL
open PySem PySem.Spec PyProof.Rows L2

/-! ### the type of a value, instances too -/
theorem tyx_rep {K : PySem.W.Frag} {F H : Hp} {v : V} {d : D} {t : Value} (hf : Same F H) (r : BRep K F H v d) (e : tyD d = some t) : TyX K H v t := by
  cases d with
  | ins C ns xs =>
    cases e
    rcases r with r | ⟨_, _, _, _, z, _⟩
    · cases r with | ins k h _ => exact .base (.ins (hf _ _ h) k.cl k.ha k.hn k.htk k.hm)
    · cases z
  | _ => exact tyx_of hf r e trivial
/-! ### == by an own __eq__ -/
def okR (cs : List Addr) : D → Prop
  | .ins C _ _ => C ∈ cs
  | .ty _ => False
  | .cls _ => False
  | .sz _ => False
  | _ => True
def dEqI (tbl : List (Addr × SpecD)) (cs : List Addr) : Op2 := fun d e Q => match d with
  | .ins C _ _ => okR cs e ∧ ∃ sp : SpecD, (C, sp) ∈ tbl ∧ ∃ R : D → Prop, sp [d, e] R ∧ ∀ r, R r → (∃ b, r = .bl b) ∧ Q r
  | _ => dEq d e Q
theorem dEqI_mono {tbl : List (Addr × SpecD)} {cs : List Addr} : Mono2 (dEqI tbl cs) := fun d e Q Q' i q => by
  cases d <;> first | exact dEq_mono _ _ _ _ i q | (obtain ⟨h1, sp, h2, R, h3, q⟩ := q; exact ⟨h1, sp, h2, R, h3, fun r h => ⟨(q r h).1, i _ (q r h).2⟩⟩)
theorem dEqI_ins {tbl : List (Addr × SpecD)} {cs : List Addr} {C : Addr} {ns : List Str} {xs : List D} {e : D} {b : Bool} {Q : D → Prop} {sp : SpecD} (h1 : okR cs e) (h2 : (C, sp) ∈ tbl) (h3 : ∀ R : D → Prop, R (.bl b) → sp [.ins C ns xs, e] R) (q : Q (.bl b)) : dEqI tbl cs (.ins C ns xs) e Q :=
  ⟨h1, sp, h2, fun r => r = .bl b, h3 _ rfl, fun r e => by subst e; exact ⟨⟨_, rfl⟩, q⟩⟩
/-- the own __eq__ of the class c; cs: the classes that may stand on the right -/
structure CalE (P : Program) (w : World) (K : PySem.W.Frag) (mg : Str → Option Value) (base : Heap) (k : Nat) (c : Addr) (cs : List Addr) (spec : SpecD) : Prop where
  mono : MonoSp spec
  ty : ∀ n ∈ tysD, PySem.W.notFirst K c (.type n) = true
  cl : ∀ C ∈ cs, PySem.W.notFirst K c (.ref C) = true
  ex : ∃ (f : Addr) (fd : FuncData) (ps : List Str), ps.length = 2 ∧ FnOk P w K mg base CX0 k f fd ps (spD K 2 spec) ∧ PySem.W.findIn K (.ref c) "__eq__" = some (some (.ref f)) ∧ PySem.W.isFn K (.ref f) = true ∧ Binds K fd ps []
theorem tyD_some {d : D} {cs : List Addr} (h : okR cs d) : ∃ t, tyD d = some t ∧ ((∃ n ∈ tysD, t = .type n) ∨ ∃ C ∈ cs, t = .ref C) := by
  cases d <;> first | exact h.elim | exact ⟨_, rfl, .inr ⟨_, h, rfl⟩⟩ | exact ⟨_, rfl, .inl ⟨_, by decide, rfl⟩⟩
section
variable {X : Cx} {k : Nat} {tbl : List (Addr × SpecD)} {cs : List Addr}
theorem or_eqI (ho : OpR X (compareOp .Eq) (rD2 X.K dEq)) (hr : Room k X.A) (ht : ∀ c sp, (c, sp) ∈ tbl → CalE X.prog X.w X.K X.mg X.base k c cs sp) : OpR X (compareOp .Eq) (rD2 X.K (dEqI tbl cs)) := fun pins s σ H x y u v Q I rx ry ⟨F, d, e, hf, r1, r2, q⟩ => by
  cases d with
  | ins C ns xs =>
    obtain ⟨hok, sp, hin, R, hR, q⟩ := q
    have ce := ht _ _ hin
    have hm := ce.mono
    have q := hm _ _ _ q hR
    obtain ⟨f, fd, ps, hps, FN, hs, hfn, hb⟩ := ce.ex
    obtain ⟨t, ht1, ht2⟩ := tyD_some hok
    have ty := tyx_rep hf r2 ht1
    obtain ⟨P, kx, hP, _⟩ := kit_of I ry ty
    have nfst : PySem.W.notFirst X.K C t = true := by
      rcases ht2 with ⟨n, h1, rfl⟩ | ⟨C', h1, rfl⟩
      · exact ce.ty n h1
      · exact ce.cl C' h1
    have rd : BRep X.K F H x (.ins C ns xs) := r1
    rcases r1 with r1 | ⟨_, _, _, _, z, _⟩
    · cases r1 with | @ins a _ dx fs _ ik ha rs =>
      cases rx
      obtain ⟨mA, J, _⟩ := ins_get I.hok (hf _ _ ha)
      obtain ⟨od, J, _⟩ := J.look
      obtain ⟨m, hF⟩ := I.fr
      refine PySem.W.cmp_K (op := .Eq) (tb := t) hr.units0 hF I.ok.mod.kin J (kx.ty _ _ I.kIn hP) nfst hs hfn ?_
      have e0 := I.env0
      have rr : Reps X.K H [V.ref a, y] [.ins C (fs.map (·.1)) xs, e] := .cons (rd.rep hf) (.cons (r2.rep hf) .nil)
      have hsp : spD X.K 2 sp [V.ref a, y] H (fun z H' => ∃ b, z = .bl b ∧ Q (.bl b) H') E0 := by
        refine ⟨rfl, H, _, Same.refl _, rr, hm _ _ _ (fun r q w F2 H2 x2 r2 => ?_) q⟩
        obtain ⟨⟨b, rfl⟩, q⟩ := q
        cases r2
        exact ⟨b, rfl, q (.bl b) F H2 ⟨Same.refl _, x2.hH, hf.trans x2.hH, fun _ _ => rfl⟩ (.bl b)⟩
      have hl := FN.len _ _ _ _ hsp
      have v2 : Vals [V.ref a, y] [Value.ref a, v] := .cons rfl (.cons ry .nil)
      refine wpAny_call (codeAny_mono (FN.run X.A X.stack s H ⟨[.ref a, v], []⟩ [.ref a, v] [.ref a, y] _ E0 hr e0 (by
        have := hb s [.ref a, v] I.kIn (by simpa using hl)
        simpa using this) v2 hsp) fun r s' hq => ?_)
      cases r with
      | error e => exact pass0 pins σ H s e s' I hq
      | ok fl =>
        cases fl with
        | ret w =>
          obtain ⟨z, H', I', rz, b, ez, qz⟩ := I.after hq
          subst ez
          cases rz
          exact ⟨.bl b, H', I', rfl, qz⟩
        | next => exact False.elim hq
        | brk => exact False.elim hq
        | cont => exact False.elim hq
    · cases z
  | _ => exact ho pins s σ H x y u v Q I rx ry ⟨F, _, e, hf, r1, r2, q⟩
end
/-! ### isinstance against a class of one's own -/
def nIsiO (c : Addr) (cs : List Addr) : OpN := fun ds Q => match ds with
  | [.ins C _ _, .cls c'] => c' = c ∧ C ∈ cs ∧ Q (.bl (decide (C = c)))
  | [d, .cls c'] => c' = c ∧ (∃ a, tyS d = some a) ∧ Q (.bl false)
  | _ => False
theorem nIsiO_mono {c : Addr} {cs : List Addr} : MonoN (nIsiO c cs) := by
  intro ds Q Q' i q; unfold nIsiO at q ⊢
  split at q
  · exact ⟨q.1, q.2.1, i _ q.2.2⟩
  · rename_i h _
    exact ⟨q.1, q.2.1, i _ q.2.2⟩
  · exact q.elim
section
variable {X : Cx} {c : Addr} {cs : List Addr}
theorem cn_isiO (hI : ∀ C ∈ cs, PySem.W.kitOne X.K (.ref C) (.ref c) = some (decide (C = c))) (hB : ∀ n ∈ tysD, PySem.W.kitOne X.K (.type n) (.ref c) = some false) : CallR X (.builtin "isinstance") (rDc X.K (nIsiO c cs)) := fun pins s σ H xs us Q I r ⟨F, ds, hf, r1, q⟩ => by
  have fin : ∀ (d : D) (t : Value) (b : Bool), ds = [d, .cls c] → tyD d = some t → PySem.W.kitOne X.K t (.ref c) = some b → Wants X.K F H Q (.bl b) → wpAny (model X.prog X.w) X.A (call (.builtin "isinstance") us) (EP X pins σ Q) X.xe s := fun d t b ed et ek qb => by
    subst ed
    obtain ⟨v, v', rfl, r2, r3⟩ := r1.two
    have hv : ClsV v' (.ref c) := by
      rcases r3 with r3 | ⟨_, _, _, _, z, _⟩
      · cases r3; constructor
      · cases z
    exact call_isi pins s σ H _ us Q I r ⟨v, v', t, _, b, rfl, hv, tyx_rep hf r2 et, ek, qb.bl hf⟩
  unfold nIsiO at q
  split at q
  · rename_i C ns ys c'
    obtain ⟨rfl, h1, q⟩ := q
    exact fin _ _ _ rfl rfl (hI _ h1) q
  · rename_i d c' _
    obtain ⟨rfl, ⟨a, h1⟩, q⟩ := q
    obtain ⟨t1, t2, _⟩ := tyS_ty h1
    exact fin _ _ _ rfl t1 (hB _ t2) q
  · exact q.elim
end
/-! ### class addresses by number -/
def clOf (l : List Addr) : Nat → Addr := fun i => l.getD i 0
def GoodC (n : Nat) (cl : Nat → Addr) : Prop := ∀ i j, i < n → j < n → cl i = cl j → i = j
theorem good_nodup {l : List Addr} (h : l.Nodup) : GoodC l.length (clOf l) := fun i j hi hj e => by
  unfold clOf at e
  rw [List.getD_eq_getElem?_getD, List.getD_eq_getElem?_getD, List.getElem?_eq_getElem hi, List.getElem?_eq_getElem hj] at e
  refine (List.getElem?_inj hi h).mp ?_
  rw [List.getElem?_eq_getElem hi, List.getElem?_eq_getElem hj]; exact congrArg some e
theorem all_nil {α : Type} {P : α → Prop} : ∀ x ∈ ([] : List α), P x := fun x h => nomatch h
theorem all_cons {α : Type} {P : α → Prop} {a : α} {l : List α} (h : P a) (t : ∀ x ∈ l, P x) : ∀ x ∈ a :: l, P x := List.forall_mem_cons.mpr ⟨h, t⟩
theorem kit_own {K : PySem.W.Frag} {t : Value} {C : Addr} {b : Bool} (hne : (t == .ref C) = false) (hd : PySem.W.hasDictIn K C = true) (ty : PySem.W.typeIn K (.ref C) = some (.type "type")) (h : PySem.W.subIn K t (.ref C) = some b) : PySem.W.kitOne K t (.ref C) = some b := by
  obtain ⟨cd, hc, _⟩ := PySem.W.any_some hd
  unfold PySem.W.kitOne PySem.W.kitCls
  rw [if_neg (by rw [hne]; decide)]
  simp only [hc, ty, Option.isSome_some, BEq.rfl, Bool.and_self, if_true]
  exact h
theorem kit_self {K : PySem.W.Frag} {C : Addr} : PySem.W.kitOne K (.ref C) (.ref C) = some true := by
  unfold PySem.W.kitOne
  rw [if_pos (by simp)]
theorem ref_ne {a b : Addr} (h : a ≠ b) : (Value.ref a == Value.ref b) = false := by simpa using h
theorem kit_t {K : PySem.W.Frag} {a : Addr} (h : PySem.W.kitOne K (.ref a) (.ref a) = some true) : PySem.W.kitOne K (.ref a) (.ref a) = some (decide (a = a)) := by rw [h, decide_eq_true rfl]
theorem kit_f {K : PySem.W.Frag} {a b : Addr} (n : a ≠ b) (h : PySem.W.kitOne K (.ref a) (.ref b) = some false) : PySem.W.kitOne K (.ref a) (.ref b) = some (decide (a = b)) := by rw [h, decide_eq_false n]
theorem tb_nil {P : Program} {w : World} {K : PySem.W.Frag} {mg : Str → Option Value} {base : Heap} {k : Nat} {cs : List Addr} : ∀ c sp, (c, sp) ∈ ([] : List (Addr × SpecD)) → CalE P w K mg base k c cs sp := fun c sp h => nomatch h
theorem tb_cons {P : Program} {w : World} {K : PySem.W.Frag} {mg : Str → Option Value} {base : Heap} {k : Nat} {cs : List Addr} {c : Addr} {sp : SpecD} {tbl : List (Addr × SpecD)} (h : CalE P w K mg base k c cs sp) (t : ∀ c sp, (c, sp) ∈ tbl → CalE P w K mg base k c cs sp) : ∀ c' sp', (c', sp') ∈ (c, sp) :: tbl → CalE P w K mg base k c' cs sp' := fun c' sp' m => by
  rcases List.mem_cons.mp m with e | m
  · cases e; exact h
  · exact t _ _ m
theorem calE_mono {P : Program} {w : World} {K : PySem.W.Frag} {mg : Str → Option Value} {base : Heap} {j k : Nat} {c : Addr} {cs : List Addr} {sp : SpecD} (h : CalE P w K mg base j c cs sp) (hk : j ≤ k) : CalE P w K mg base k c cs sp :=
  ⟨h.mono, h.ty, h.cl, let ⟨f, fd, ps, a, F, r⟩ := h.ex; ⟨f, fd, ps, a, F.mono hk, r⟩⟩
end DL

namespace DL
open PySem PySem.Spec PyProof.Rows L2

/-! ### xs[::-1] -/
theorem Reps.reverse {K : PySem.W.Frag} {F : Hp} : ∀ {vs : List V} {ds : List D}, Reps K F vs ds → Reps K F vs.reverse ds.reverse
  | [], _, r => by cases r; exact .nil
  | v :: vs, _, r => by
    cases r with | cons r1 r2 =>
    rw [List.reverse_cons, List.reverse_cons]
    exact (Reps.reverse r2).append (Reps.one r1)
def qRevN (d : D) (Q : List D → Prop) : Prop := match d with
  | .lst xs => Q xs.reverse
  | _ => False
theorem qRevN_l {xs : List D} {Q : List D → Prop} : qRevN (.lst xs) Q = Q xs.reverse := rfl
theorem qRevN_mono {d : D} {Q Q' : List D → Prop} (i : ∀ x, Q x → Q' x) (q : qRevN d Q) : qRevN d Q' := by
  cases d <;> first | exact i _ q | exact q
def rRevN (m : RE) : RN := fun env Q => m env fun d e => qRevN d fun xs => Q xs e
section
variable {X : Cx} {e : Expr} {m : RE} {k : Nat} {p1 p2 p3 pos : Pos}
theorem en_rev (he : EB X e m) : EN X (.Subscript e (.Slice none none (some (.UnaryOp .USub (.Constant (.int 1) k p1) p2)) p3) pos) (rRevN m) where
  mono := fun env Q Q' i q => he.mono _ _ _ (fun d e q => qRevN_mono (fun x q => i _ _ q) q) q
  pe := fun G F0 => PE_imp (pe_revL (he.pe G F0)) fun σ H Q ⟨F, env, k, q⟩ => ⟨F, env, k, he.mono _ _ _ (fun d e q v F1 H1 a1 r1 => by
    cases d <;> first | exact q.elim | skip
    obtain ⟨a, vs, rfl, h, rs⟩ := r1.lst a1.ok.fh
    refine ⟨a, vs, rfl, .of h, fun p hp => ?_⟩
    obtain ⟨a2, hF, hG, no⟩ := af_new (vs := vs.reverse) a1 hp
    exact q p vs.reverse F1 _ a2 upd_same hF hG no rs.reverse) q⟩
end
end DL

namespace DL
open PySem PySem.Spec PyProof.Rows L2

/-! ### exceptions of one's own classes, without attributes -/
/-- the weakest wish that the context takes -/
def WI (X : Cx) : WX := fun cls d σ H => ∀ (a : Addr) (B : PySem.Heap) (sI s' : Shared) (pins : List (Addr × Obj)), Inv X pins σ H sI → (∀ b o, sI.heap.get? b = some o → b ∉ frs X.stack → B.get? b = some o) → sI.heap.UpToSlots s'.heap →
  Sky B X.stack a (Zc cls d) X.env.locals s'.heap → H a = none → s'.os = sI.os → AllBare s'.gens → X.xe (.ref a) s'
theorem takes_WI {X : Cx} : Takes X (WI X) := fun u s' ⟨a, B, sI, pins, σ, H, cls, d, e, I, nb, up, sky, na, os, ag, w⟩ => by
  subst e; exact w a B sI s' pins I nb up sky na os ag
theorem WI_of {X : Cx} {W : WX} (tk : Takes X W) {cls : Value} {d : Option Addr} {σ : L2.St} {H : Hp} (h : W cls d σ H) : WI X cls d σ H := fun a B sI s' pins I nb up sky na os ag =>
  tk _ _ ⟨a, B, sI, pins, σ, H, cls, d, rfl, I, nb, up, sky, na, os, ag, h⟩
/-- what is wished of an exception: its class, the slots as they stand -/
abbrev RX := Addr → En → Prop
def rxOf (X : Cx) (G F0 : Hp) : RX := fun C env => ∀ σ F H, StOk X.K G F0 F H env σ → WI X (.ref C) none σ H
def RX.le (r r' : RX) : Prop := ∀ C e, r C e → r' C e
structure SX (X : Cx) (st : Stmt) (m : RX → RS) : Prop where
  mono : ∀ r r' D D' env, RX.le r r' → DE.le D D' → m r D env → m r' D' env
  ps : ∀ G F0, PS X st (tSt X.K G F0 (m (rxOf X G F0)))
structure SXs (X : Cx) (st : List Stmt) (m : RX → RS) : Prop where
  mono : ∀ r r' D D' env, RX.le r r' → DE.le D D' → m r D env → m r' D' env
  ps : ∀ G F0, PSs X st (tSt X.K G F0 (m (rxOf X G F0)))
theorem RX.le.rfl' {r : RX} : RX.le r r := fun _ _ h => h
section
variable {X : Cx} {st : Stmt} {rest : List Stmt} {m m' : RX → RS} {n : RS} {e : Expr} {pos : Pos}
theorem SS.x (h : SS X st n) : SX X st (fun _ => n) := ⟨fun r r' D D' env _ l q => h.mono D D' env l q, fun G F0 => h.ps G F0⟩
theorem SSs.x (h : SSs X rest n) : SXs X rest (fun _ => n) := ⟨fun r r' D D' env _ l q => h.mono D D' env l q, fun G F0 => h.ps G F0⟩
theorem sxs_cons (h1 : SX X st m) (h2 : SXs X rest m') : SXs X (st :: rest) (fun r => sSeq (m r) (m' r)) where
  mono := fun r r' Z Z' env lr l q => h1.mono r r' { Z with nx := fun e => m' r Z e } { Z' with nx := fun e => m' r' Z' e } env lr ⟨fun e q => h2.mono r r' Z Z' e lr l q, l.rt, l.bk, l.ct⟩ q
  ps := fun G F0 => PSs_imp (pss_cons (h1.ps G F0) (h2.ps G F0)) fun Z σ H ⟨F, env, k, q⟩ => ⟨F, env, k, h1.mono (rxOf X G F0) _ { liftD X.K G F0 Z with nx := fun e => m' (rxOf X G F0) (liftD X.K G F0 Z) e } _ env RX.le.rfl' ⟨fun e q σ' F' H' k' => ⟨F', e, k', q⟩, fun _ q => q, fun _ q => q, fun _ q => q⟩ q⟩
theorem sxs_one (h1 : SX X st m) : SXs X [st] m := ⟨h1.mono, fun G F0 => pss_one (h1.ps G F0)⟩
theorem sx_if {c : Expr} {a b : List Stmt} {tc : RT} (hc : ET X c tc) (ha : SXs X a m) (hb : SXs X b m') : SX X (.If c a b pos) (fun r => sIf tc (m r) (m' r)) where
  mono := fun r r' D D' env lr l q => hc.mono _ _ _ (fun b e q => by
    cases b with
    | true => exact ha.mono _ _ _ _ _ lr l q
    | false => exact hb.mono _ _ _ _ _ lr l q) q
  ps := fun G F0 => PS_imp (ps_if (hc.pe G F0) (ha.ps G F0) (hb.ps G F0)) fun D σ H ⟨F, env, k, q⟩ => ⟨F, env, k, hc.mono _ _ _ (fun b e q F' H' a => by
    cases b with
    | true => exact ⟨F', e, a.ok, q⟩
    | false => exact ⟨F', e, a.ok, q⟩) q⟩
/-- raise C('..') -/
def sRaise (C : Addr) (r : RX) : RS := fun _ env => r C env
theorem sx_raise {C : Addr} (hc : X.calm = true) (hm : PMk X e (fun _ H Q => Q (.ref C) none H)) : SX X (.Raise (some e) none pos) (sRaise C) where
  mono := fun r r' D D' env lr l q => lr _ _ q
  ps := fun G F0 => PS_imp (ps_raise hc (takes_WI (X := X)) hm) fun D σ H ⟨F, env, k, q⟩ => q σ F H k
end
/-! ### expressions that may raise -/
structure EX (X : Cx) (e : Expr) (m : RX → RE) : Prop where
  mono : ∀ r r' env (Q Q' : D → En → Prop), RX.le r r' → (∀ d e, Q d e → Q' d e) → m r env Q → m r' env Q'
  pe : ∀ G F0, PE X e (tM X.K G F0 (m (rxOf X G F0)))
section
variable {X : Cx} {e : Expr} {m : RX → RE} {n : RE} {pos : Pos}
theorem EE.x (h : EE X e n) : EX X e (fun _ => n) := ⟨fun r r' env Q Q' _ i q => h.mono env Q Q' i q, fun G F0 => h.pe G F0⟩
theorem sx_ret (h : EX X e m) : SX X (.Return (some e) pos) (fun r => sRet (m r)) where
  mono := fun r r' D D' env lr l q => h.mono _ _ _ _ _ lr (fun d e q => l.rt _ q) q
  ps := fun G F0 => PS_imp (ps_ret (h.pe G F0)) fun D σ H ⟨F, env, k, q⟩ => ⟨F, env, k, h.mono _ _ _ _ _ RX.le.rfl' (fun d e q v F' H' a r => q v F' H' a.ok.toExt r) q⟩
theorem sx_set {i : Nat} {x : Str} {pos' : Pos} (hN : X.N.Nodup) (hi : X.N[i]? = some x) (hx : Loc X.env.scope x) (he : EX X e m) (hs : swapsWith e (some (.Name x pos')) pos.line X.env = pure false := by rfl)
    (hf : X.fn x = true ∨ X.env.scope.names.lookup x = some .local := by first | exact .inl rfl | exact .inr rfl | assumption) : SX X (.Assign [.Name x pos'] e pos) (fun r => sSet i (m r)) where
  mono := fun r r' D D' env lr l q => he.mono _ _ _ _ _ lr (fun d e q => l.nx _ q) q
  ps := fun G F0 => PS_imp (ps_set hN hi hx (he.pe G F0) hs hf) fun D σ H ⟨F, env, k, q⟩ => ⟨F, env, k, he.mono _ _ _ _ _ RX.le.rfl' (fun d e q v F' H' a r => by
    rw [es_eq] at q
    exact q _ F' H' (a.ok.setV i r)) q⟩
theorem sx_expr (he : EX X e m) (hs : swapsWith e none pos.line X.env = pure false := by rfl) : SX X (.Expr e pos) (fun r => sExpr (m r)) where
  mono := fun r r' D D' env lr l q => he.mono _ _ _ _ _ lr (fun d e q => l.nx _ q) q
  ps := fun G F0 => PS_imp (ps_expr (he.pe G F0) hs) fun D σ H ⟨F, env, k, q⟩ => ⟨F, env, k, he.mono _ _ _ _ _ RX.le.rfl' (fun d e q v F' H' a r => q _ F' H' a.ok) q⟩
end
/-! ### defs that may raise -/
abbrev SpecX := List D → (D → Prop) → (Addr → Prop) → Prop
def MonoX (sp : SpecX) : Prop := ∀ ds (Q Q' : D → Prop) (R R' : Addr → Prop), (∀ d, Q d → Q' d) → (∀ C, R C → R' C) → sp ds Q R → sp ds Q' R'
def WantsX (F H : Hp) (E : XK) (C : Addr) : Prop := ∀ F' H', Ext F H F' H' → E (.ref C) none H'
def spX (K : PySem.W.Frag) (n : Nat) (spec : SpecX) : Sp := fun vs H Q E => vs.length = n ∧ ∃ F ds, Same F H ∧ Reps K F vs ds ∧ spec ds (Wants K F H Q) (WantsX F H E)
def runX (n : Nat) (m : RX → RS) : SpecX := fun ds Q R => m (fun C _ => R C) { nx := fun _ => Q .non, rt := Q } (startD n ds)
theorem runX_mono {n : Nat} {m : RX → RS} (h : ∀ r r' D D' env, RX.le r r' → DE.le D D' → m r D env → m r' D' env) : MonoX (runX n m) := fun ds Q Q' R R' i j q =>
  h _ _ { nx := fun _ => Q .non, rt := Q } _ _ (fun C _ q => j C q) ⟨fun _ q => i _ q, fun _ q => i _ q, fun _ q => q, fun _ q => q⟩ q
section
variable {P : Program} {w : World} {K : PySem.W.Frag} {mg : Str → Option Value} {base : PySem.Heap}
theorem fn_okX {x qual : Str} {st : Stmt} {f : Addr} {fd : FuncData} {N ps : List Str} {k : Nat} {m : RX → RS} (F : Fun K x qual st f fd) (S : FnScope N ps (defScope st))
    (hm : ∀ (cdv : Value) (A : Around) (outer : List PySem.Env) (s : Shared) (H : Hp) (E : XK), Room k (A.deeper (envOfC qual (defScope st) s.heap.objs.size f cdv)) → SXs (cxOf (L2.CX P w) P w K mg base N qual (defScope st) f cdv A outer s H E) (defBody st) m) :
    FnOk P w K mg base (L2.CX P w) (k + 1) f fd ps (spX K ps.length (runX N.length m)) :=
  F.okX S (fun vs H Q E h => h.1) fun cdv A outer s H vs Q E hr ⟨hl, F', ds, hF, r, q⟩ => by
    have M := hm cdv A outer s H E hr
    refine ⟨_, M.ps H F', F', startD N.length ds, start_ok hF r ?_, ?_⟩
    · rw [hl]
      have := congrArg List.length S.pre
      rw [List.length_take] at this
      omega
    · exact M.mono _ _ { nx := fun _ => Wants K F' H Q .non, rt := Wants K F' H Q } _ _ (fun C env qx σ F1 H1 k1 => WI_of (takes_of rfl rfl rfl rfl) (qx F1 H1 k1.toExt)) ⟨fun e q σ F1 H1 k => q .non F1 H1 k.toExt .non, fun d q v F1 H1 x1 r1 => q v F1 H1 x1 r1, fun _ q => q.elim, fun _ q => q.elim⟩ q
end
/-! ### calls that may raise -/
structure CalX (P : Program) (w : World) (K : PySem.W.Frag) (mg : Str → Option Value) (base : PySem.Heap) (x : Str) (k n : Nat) (spec : SpecX) : Prop where
  mono : MonoX spec
  ex : ∃ (f : Addr) (fd : FuncData) (ps : List Str), ps.length = n ∧ FnOk P w K mg base (L2.CX P w) k f fd ps (spX K n spec) ∧ mg x = some (.ref f) ∧ PySem.W.keepIn K (.ref f) = true ∧ Binds K fd ps []
def rUserX (spec : SpecX) (n : Nat) (m : RN) (r : RX) : RE := fun env Q => m env fun ds e => ds.length = n ∧ spec ds (fun d => Q d e) (fun C => r C e)
section
variable {X : Cx} {x : Str} {k n : Nat} {spec : SpecX} {p pos : Pos} {e : Expr} {es : List Expr} {m : RN}
theorem ex_call (c : CalX X.prog X.w X.K X.mg X.base x k n spec) (hr : Room k X.A) (hg : Gl X x) (ha : EA X (e :: es) m) (hdb : (x == ("__debug__" : Str)) = false := by decide)
    (he : starEach (e :: es) X.env = (false, eval e X.env) :: starEach es X.env := by rfl) (hpl : (backTo pos (starEach es X.env)).any (·.1) = false := by rfl) : EX X (.Call (.Name x p) (e :: es) [] pos) (rUserX spec n m) where
  mono := fun r r' env Q Q' lr i q => ha.mono _ _ _ (fun ds e q => ⟨q.1, c.mono _ _ _ _ _ (fun d q => i _ _ q) (fun C q => lr _ _ q) q.2⟩) q
  pe := fun G F0 => by
    obtain ⟨f, fd, ps, hn, F, hm, hk, hb⟩ := c.ex
    refine PE_imp (pe_callS F hr hg hm hk hb (fun σ => passAt (takes_WI (X := X)) σ) (ha.pe G F0) hdb he hpl) fun σ H Q ⟨F, env, k, q⟩ => ⟨F, env, k, ha.mono _ _ _ (fun ds e q vs F1 H1 a1 r1 => ?_) q⟩
    refine ⟨by rw [r1.length]; exact q.1, F1, ds, a1.ok.fh, r1, c.mono _ _ _ _ _ (fun d q v F2 H2 x2 r2 => q v F2 H2 (a1.ext x2) r2) (fun C qx F2 H2 x2 => qx σ F2 H2 (a1.ok.ext x2)) q.2⟩
end
end DL

namespace DL
open PySem PySem.Spec PyProof.Rows L2

/-! ### keywords -/
theorem PK_imp {X : Cx} {kws : List Keyword} {t t' : TA} (h : PK X kws t) (i : ∀ σ H Q, t' σ H Q → t σ H Q) : PK X kws t' := ⟨fun pos pins s σ H Q I q => h.run pos pins s σ H Q I (i σ H Q q)⟩
structure EK (X : Cx) (kws : List Keyword) (m : RN) : Prop where
  mono : MonoQ m
  pk : ∀ G F0, PK X kws (tAr X.K G F0 m)
section
variable {X : Cx} {e : Expr} {kws : List Keyword} {ma : RE} {mr : RN} {nm : Option Str} {kpos : Pos}
theorem ek_nil : EK X [] rNil := ⟨rNil_mono, fun G F0 => PK_imp pk_nil fun σ H Q ⟨F, env, k, q⟩ => q [] F H (Af.refl k) .nil⟩
theorem ek_cons (ha : EE X e ma) (hr : EK X kws mr) : EK X (⟨nm, e, kpos⟩ :: kws) (rCons ma mr) where
  mono := rCons_mono ha.mono hr.mono
  pk := fun G F0 => PK_imp (pk_cons (ha.pe G F0) (hr.pk G F0)) fun σ H Q ⟨F, env, k, q⟩ => ⟨F, env, k, ha.mono _ _ _ (fun d e q v F1 H1 a1 r1 =>
    ⟨F1, e, a1.ok, hr.mono _ _ _ (fun ds e' q vs F2 H2 a2 r2 => q (v :: vs) F2 H2 (a1.trans a2) (.cons (r1.mono a2.fF) r2)) q⟩) q⟩
end
/-! ### __init__ that may raise -/
def mkX (c : Addr) (fs : List Str) (n : Nat) (m : RX → RS) : SpecX := fun ds Q R => ∀ p, m (fun C _ => R C) { nx := fun e => qObj (eg e 0) fun p' C ns xs => p' = p ∧ C = c ∧ ns = fs ∧ Q (.ins c fs xs), rt := fun _ => False } (.own (.o p c [] []) :: (ds.map Sl.v ++ List.replicate (n - 1 - ds.length) Sl.un))
def MonoR (m : RX → RS) : Prop := ∀ r r' D D' env, RX.le r r' → DE.le D D' → m r D env → m r' D' env
theorem mkX_mono {c : Addr} {fs : List Str} {n : Nat} {m : RX → RS} (h : MonoR m) : MonoX (mkX c fs n m) := fun ds Q Q' R R' i j q p =>
  h _ _ { nx := fun e => qObj (eg e 0) fun p' C ns xs => p' = p ∧ C = c ∧ ns = fs ∧ Q (.ins c fs xs), rt := fun _ => False } _ _ (fun C _ q => j C q) ⟨fun e q => qObj_mono (fun p' C ns xs q => ⟨q.1, q.2.1, q.2.2.1, i _ q.2.2.2⟩) q, fun _ q => q, fun _ q => q, fun _ q => q⟩ (q p)
theorem mkX_ins {c : Addr} {fs : List Str} {n : Nat} {m : RX → RS} (h : MonoR m) (ds : List D) (Q : D → Prop) (R : Addr → Prop) (q : mkX c fs n m ds Q R) : mkX c fs n m ds (fun d => (∃ xs, d = .ins c fs xs) ∧ Q d) R := fun p =>
  h _ _ { nx := fun e => qObj (eg e 0) fun p' C ns xs => p' = p ∧ C = c ∧ ns = fs ∧ Q (.ins c fs xs), rt := fun _ => False } _ _ (fun C _ q => q) ⟨fun e q => qObj_mono (fun p' C ns xs q => ⟨q.1, q.2.1, q.2.2.1, ⟨xs, rfl⟩, q.2.2.2⟩) q, fun _ q => q, fun _ q => q, fun _ q => q⟩ (q p)
def spIX (K : PySem.W.Frag) (c : Addr) (fs : List Str) (n : Nat) (spec : SpecX) : Sp := fun vs H Q E => ∃ p dx rest, vs = .ref p :: rest ∧ rest.length = n ∧ H p = some (.ins c dx []) ∧ ∃ F ds, F p = none ∧ Same F H ∧ Reps K F rest ds ∧
  spec ds (fun d => ∀ xs, d = .ins c fs xs → ∀ F' H' dx' (vfs : List (Str × V)), Same F F' → (∀ a o, a ≠ p → H a = some o → H' a = some o) → Same F' H' → F' p = none → (∀ a, a ≠ p → H a ≠ none → F' a = F a) →
    H' p = some (.ins c dx' vfs) → vfs.map (·.1) = fs → Reps K F' (vfs.map (·.2)) xs → Q .non H')
    (fun C => ∀ F' H', Same F F' → (∀ a o, a ≠ p → H a = some o → H' a = some o) → Same F' H' → (∀ a, a ≠ p → H a ≠ none → F' a = F a) → E (.ref C) none H')
section
variable {P : Program} {w : World} {K : PySem.W.Frag} {mg : Str → Option Value} {base : PySem.Heap}
theorem init_okX {x qual : Str} {st : Stmt} {f c : Addr} {fd : FuncData} {N ps fs : List Str} {k : Nat} {m : RX → RS} (F : Fun K x qual st f fd) (S : FnScope N ("self" :: ps) (defScope st))
    (hm : ∀ (cdv : Value) (A : Around) (outer : List PySem.Env) (s : Shared) (H : Hp) (E : XK), Room k (A.deeper (envOfC qual (defScope st) s.heap.objs.size f cdv)) → SXs (cxOf (L2.CX P w) P w K mg base N qual (defScope st) f cdv A outer s H E) (defBody st) m) :
    FnOk P w K mg base (L2.CX P w) (k + 1) f fd ("self" :: ps) (spIX K c fs ps.length (mkX c fs N.length m)) :=
  F.okX S (fun vs H Q E ⟨p, dx, rest, e, hl, _⟩ => by rw [e, List.length_cons, List.length_cons, hl]) fun cdv A outer s H vs Q E hr ⟨p, dx, rest, ev, hl, hp, F', ds, hF, hs, r, q⟩ => by
    subst ev
    have M := hm cdv A outer s H E hr
    refine ⟨_, M.ps (delH H p) F', F', .own (.o p c [] []) :: (ds.map Sl.v ++ List.replicate (N.length - 1 - ds.length) Sl.un), startO_ok hs hF hp r ?_, ?_⟩
    · rw [hl]
      have := congrArg List.length S.pre
      rw [List.length_take, List.length_cons] at this
      omega
    · refine M.mono _ _ { nx := fun e => qObj (eg e 0) fun p' C ns xs => p' = p ∧ C = c ∧ ns = fs ∧ ∀ ys, D.ins c fs xs = .ins c fs ys → ∀ F1 H' dx' (vfs : List (Str × V)), Same F' F1 → (∀ a o, a ≠ p → H a = some o → H' a = some o) → Same F1 H' → F1 p = none → (∀ a, a ≠ p → H a ≠ none → F1 a = F' a) → H' p = some (.ins c dx' vfs) → vfs.map (·.1) = fs → Reps K F1 (vfs.map (·.2)) ys → Q .non H', rt := fun _ => False } _ _
        (fun C env qx σ F1 H1 k1 => WI_of (takes_of rfl rfl rfl rfl) (qx F1 H1 k1.ff (fun b o hb e => k1.gh _ _ (by rw [delH_ne hb]; exact e)) k1.fh (fun b hb n => k1.nw b (by rw [delH_ne hb]; exact n)))) ⟨fun e q σ F1 H1 k => ?_, fun _ q => q.elim, fun _ q => q.elim, fun _ q => q.elim⟩ (q p)
      obtain ⟨p', C, ns, xs, g, rfl, rfl, rfl, q⟩ := qObj_get q
      obtain ⟨a, ho, ea, hF1, hH1, ro⟩ := k.sl 0 _ g
      obtain ⟨dx', vfs, rfl, rfl, e1, e2⟩ := ro.ins
      refine q xs rfl F1 H1 dx' vfs k.ff (fun b o hb e => k.gh _ _ (by rw [delH_ne hb]; exact e)) k.fh hF1 (fun b hb n => k.nw b (by rw [delH_ne hb]; exact n)) hH1 e1 e2
end
end DL

namespace DL
open PySem PySem.Spec PyProof.Rows L2

/-! ### what is never reached -/
def sNo : RS := fun _ _ => False
def rNo : RE := fun _ _ => False
theorem ss_no {X : Cx} {st : Stmt} : SS X st sNo := ⟨fun _ _ _ _ q => q, fun G F0 => ⟨fun pins s σ H D I q => by obtain ⟨F, env, k, q⟩ := q; exact q.elim⟩⟩
theorem ee_no {X : Cx} {e : Expr} : EE X e rNo := ⟨fun _ _ _ _ q => q, fun G F0 => ⟨fun pins s σ H Q I q => by obtain ⟨F, env, k, q⟩ := q; exact q.elim⟩⟩

/-! ### x in xs -/
def asStrs : List D → Option (List Str)
  | [] => some []
  | .str i :: r => (asStrs r).map (i :: ·)
  | _ :: _ => none
theorem asStrs_eq : ∀ {ds : List D} {ns : List Str}, asStrs ds = some ns → ds = ns.map D.str
  | [], ns, h => by cases h; rfl
  | d :: r, ns, h => by
    cases d <;> simp only [asStrs, Option.map_eq_some_iff] at h <;> try cases h
    rename_i i w hw
    obtain ⟨e1, e2⟩ := hw
    subst e2
    rw [asStrs_eq e1]; rfl
@[simp] theorem asStrs_map : ∀ ns : List Str, asStrs (ns.map D.str) = some ns
  | [] => rfl
  | n :: ns => by simp [asStrs, asStrs_map ns]
theorem Reps.strs {K : PySem.W.Frag} {F : Hp} : ∀ {vs : List V} {ns : List Str}, Reps K F vs (ns.map D.str) → vs = ns.map V.str
  | [], [], _ => rfl
  | [], _ :: _, h => by cases h
  | v :: vs, [], h => by cases h
  | v :: vs, n :: ns, h => by
    cases h with | cons r t => cases r; rw [Reps.strs t]; rfl
def dInXs (neg : Bool) (d : D) (xs : List D) (Q : D → Prop) : Prop := match d with
  | .int i => ∃ ns, asInts xs = some ns ∧ Q (.bl (if neg then !ns.contains i else ns.contains i))
  | .str z => ∃ ns, asStrs xs = some ns ∧ Q (.bl (if neg then !ns.contains z else ns.contains z))
  | _ => False
def dIn (neg : Bool) : Op2 := fun d e Q => match e with
  | .tup xs => dInXs neg d xs Q
  | .lst xs => dInXs neg d xs Q
  | .str z => match d with
    | .str y => ∃ c, y = ⟨#[c]⟩ ∧ Q (.bl (if neg then !decide (c ∈ z.cps.toList) else decide (c ∈ z.cps.toList)))
    | _ => False
  | _ => False
theorem dInXs_mono {neg : Bool} {d : D} {xs : List D} {Q Q' : D → Prop} (i : ∀ x, Q x → Q' x) (q : dInXs neg d xs Q) : dInXs neg d xs Q' := by
  cases d <;> first | exact q | (obtain ⟨ns, h1, h2⟩ := q; exact ⟨ns, h1, i _ h2⟩)
theorem dIn_mono {neg : Bool} : Mono2 (dIn neg) := fun d e Q Q' i q => by
  cases e <;> first | exact dInXs_mono i q | exact q | skip
  cases d <;> first | exact q | (obtain ⟨c, h1, h2⟩ := q; exact ⟨c, h1, i _ h2⟩)
theorem inV_ints {i : Int} : ∀ {ns : List Int}, inV (.int i) (ns.map V.int) = ns.contains i
  | [] => rfl
  | n :: ns => by
    have h := inV_ints (i := i) (ns := ns)
    unfold inV at h ⊢
    rw [List.map_cons, List.any_cons, h, List.contains_cons]
    show ((n == i) || _) = _
    rw [show (n == i) = (i == n) from Bool.eq_iff_iff.mpr ⟨fun h => by simpa using (eq_of_beq h).symm, fun h => by simpa using (eq_of_beq h).symm⟩]
theorem inV_strs {i : Str} : ∀ {ns : List Str}, inV (.str i) (ns.map V.str) = ns.contains i
  | [] => rfl
  | n :: ns => by
    have h := inV_strs (i := i) (ns := ns)
    unfold inV at h ⊢
    rw [List.map_cons, List.any_cons, h, List.contains_cons]
    show ((n == i) || _) = _
    rw [show (n == i) = (i == n) from Bool.eq_iff_iff.mpr ⟨fun h => by simpa using (eq_of_beq h).symm, fun h => by simpa using (eq_of_beq h).symm⟩]
theorem flat_ints : ∀ ns : List Int, (ns.map V.int).all flatV = true
  | [] => rfl
  | n :: ns => by rw [List.map_cons, List.all_cons, flat_ints ns]; rfl
theorem flat_strs : ∀ ns : List Str, (ns.map V.str).all flatV = true
  | [] => rfl
  | n :: ns => by rw [List.map_cons, List.all_cons, flat_strs ns]; rfl
section
variable {X : Cx}
theorem rIn_of {K : PySem.W.Frag} {F H : Hp} {neg : Bool} {x : V} {d : D} {a : Addr} {vs : List V} {xs : List D} {Q : VK} (hf : Same F H) (hq : SqL K H a vs ∨ SqT K H a vs) (rx : BRep K F H x d) (r : Reps K F vs xs) (q : dInXs neg d xs (Wants K F H Q)) : rIn K neg x (.ref a) H Q := by
  cases d with
  | int i =>
    obtain ⟨ns, h1, h2⟩ := q
    rw [asInts_eq h1] at r
    rw [r.ints] at hq
    rw [rx.int]
    refine ⟨a, _, rfl, hq, rfl, flat_ints ns, ?_⟩
    rw [inV_ints]; exact h2.bl hf
  | str i =>
    obtain ⟨ns, h1, h2⟩ := q
    rw [asStrs_eq h1] at r
    rw [r.strs] at hq
    rw [rx.str]
    refine ⟨a, _, rfl, hq, rfl, flat_strs ns, ?_⟩
    rw [inV_strs]; exact h2.bl hf
  | _ => exact q.elim
theorem or_in : OpR X (compareOp .In) (rD2 X.K (dIn false)) := fun pins s σ H x y u v Q I rx ry ⟨F, d, e, hf, r1, r2, q⟩ => by
  cases e with
  | tup xs =>
    obtain ⟨a, vs, rfl, h, rs, _⟩ := r2.tup hf
    exact op_in_seq pins s σ H x _ u v Q I rx ry (rIn_of hf (.inr h) r1 rs q)
  | lst xs =>
    obtain ⟨a, vs, rfl, h, rs⟩ := r2.lst hf
    exact op_in_seq pins s σ H x _ u v Q I rx ry (rIn_of hf (.inl (.of h)) r1 rs q)
  | str z =>
    cases d with
    | str y' =>
      obtain ⟨c, rfl, q⟩ := q
      have e2 := r2.str; have e1 := r1.str
      exact op_in_sign pins s σ H x y u v Q I rx ry ⟨c, z, e1, e2, q.bl hf⟩
    | _ => exact q.elim
  | _ => exact q.elim
theorem or_notin : OpR X (compareOp .NotIn) (rD2 X.K (dIn true)) := fun pins s σ H x y u v Q I rx ry ⟨F, d, e, hf, r1, r2, q⟩ => by
  cases e with
  | tup xs =>
    obtain ⟨a, vs, rfl, h, rs, _⟩ := r2.tup hf
    exact op_notIn_seq pins s σ H x _ u v Q I rx ry (rIn_of hf (.inr h) r1 rs q)
  | lst xs =>
    obtain ⟨a, vs, rfl, h, rs⟩ := r2.lst hf
    exact op_notIn_seq pins s σ H x _ u v Q I rx ry (rIn_of hf (.inl (.of h)) r1 rs q)
  | str z =>
    cases d with
    | str y' =>
      obtain ⟨c, rfl, q⟩ := q
      have e2 := r2.str; have e1 := r1.str
      exact op_notIn_sign pins s σ H x y u v Q I rx ry ⟨c, z, e1, e2, q.bl hf⟩
    | _ => exact q.elim
  | _ => exact q.elim
end
theorem nomark_name {x : Str} {p : Pos} {op : CmpOp} : behindInMarks op (.Name x p) = false := rfl

/-! ### chains of three -/
def tChain3 (r r' r'' : R2) (ta tb tc td : TE) : TE := fun σ H Q => ta σ H fun x H1 => tb σ H1 fun y H2 => r x y H2 fun z H3 => ∃ k, z = .bl k ∧
  (if k = true then tc σ H3 fun w' H4 => r' y w' H4 fun z' H5 => ∃ k', z' = .bl k' ∧ (if k' = true then td σ H5 fun u' H6 => r'' w' u' H6 Q else Q (.bl false) H5) else Q (.bl false) H3)
section
variable {X : Cx} {a b c d : Expr} {ta tb tc td : TE} {pos : Pos}
theorem pe_chain3 {op op' op'' : CmpOp} {r r' r'' : R2} (ho : OpR X (compareOp op) r) (ho' : OpR X (compareOp op') r') (ho'' : OpR X (compareOp op'') r'') (ha : PE X a ta) (hb : PE X b tb) (hc : PE X c tc) (hd : PE X d td)
    (hm : lastMarks [op, op', op''] [b, c, d] = false := by with_unfolding_all rfl) : PE X (.Compare a [op, op', op''] [b, c, d] pos) (tChain3 r r' r'' ta tb tc td) := by
  refine ⟨fun pins s σ H Q I h => ?_⟩
  refine Compare_chain (thn (ha.run pins s σ H _ I h) fun v s1 ⟨x, H1, I1, r1, q1⟩ => chain_link (thn (hb.run pins s1 σ H1 _ I1 q1) fun u s2 ⟨y, H2, I2, r2, q2⟩ =>
    thn (ho pins s2 σ H2 x y v u _ I2 r1 r2 q2) fun d s3 ⟨z, H3, I3, r3, k, e, q3⟩ => ?_)) hm
  subst e
  cases r3
  refine wpAny_truthy_bool ?_
  cases k with
  | false => exact ite_ff ⟨.bl false, H3, I3, rfl, q3⟩
  | true =>
    refine ite_tt (chain_link (thn (hc.run pins s3 σ H3 _ I3 q3) fun w' s4 ⟨z', H4, I4, r4, q4⟩ => thn (ho' pins s4 σ H4 y z' u w' _ I4 r2 r4 q4) fun d' s5 ⟨z5, H5, I5, r5, k', e', q5⟩ => ?_))
    subst e'
    cases r5
    refine wpAny_truthy_bool ?_
    cases k' with
    | false => exact ite_ff ⟨.bl false, H5, I5, rfl, q5⟩
    | true => exact ite_tt (chain_last (thn (hd.run pins s5 σ H5 _ I5 q5) fun w6 s6 ⟨z6, H6, I6, r6, q6⟩ => ho'' pins s6 σ H6 z' z6 w' w6 Q I6 r4 r6 q6))
theorem pt_chain3 {op op' op'' : CmpOp} {r r' r'' : R2} (ho : OpR X (compareOp op) r) (ho' : OpR X (compareOp op') r') (ho'' : OpR X (compareOp op'') r'') (ha : PE X a ta) (hb : PE X b tb) (hc : PE X c tc) (hd : PE X d td)
    (hm : lastMarks [op, op', op''] [b, c, d] = false := by with_unfolding_all rfl) : PT X (.Compare a [op, op', op''] [b, c, d] pos) (tTest (tChain3 r r' r'' ta tb tc td)) := by
  refine ⟨fun pins s σ H Q I h => ?_⟩
  refine isTrue_chain (thn (ha.run pins s σ H _ I h) fun v s1 ⟨x, H1, I1, r1, q1⟩ => test_link (thn (hb.run pins s1 σ H1 _ I1 q1) fun u s2 ⟨y, H2, I2, r2, q2⟩ =>
    thn (ho pins s2 σ H2 x y v u _ I2 r1 r2 q2) fun d s3 ⟨z, H3, I3, r3, k, e, q3⟩ => ?_)) hm
  subst e
  cases r3
  refine wpAny_truthy_bool ?_
  cases k with
  | false =>
    obtain ⟨k', e', q'⟩ := q3
    cases e'
    exact ite_ff ⟨H3, I3, q'⟩
  | true =>
    refine ite_tt (test_link (thn (hc.run pins s3 σ H3 _ I3 q3) fun w' s4 ⟨z', H4, I4, r4, q4⟩ => thn (ho' pins s4 σ H4 y z' u w' _ I4 r2 r4 q4) fun d' s5 ⟨z5, H5, I5, r5, k', e', q5⟩ => ?_))
    subst e'
    cases r5
    refine wpAny_truthy_bool ?_
    cases k' with
    | false =>
      obtain ⟨k2, e2, q'⟩ := q5
      cases e2
      exact ite_ff ⟨H5, I5, q'⟩
    | true =>
      refine ite_tt (test_last (thn (hd.run pins s5 σ H5 _ I5 q5) fun w6 s6 ⟨z6, H6, I6, r6, q6⟩ => thn (ho'' pins s6 σ H6 z' z6 w' w6 _ I6 r4 r6 q6) fun d7 s7 ⟨z7, H7, I7, r7, k2, e2, q7⟩ => ?_))
      subst e2
      cases r7
      exact wpAny_truthy_bool ⟨H7, I7, q7⟩
variable {ma mb mc md : RE} {δ δ' δ'' : Op2}
def rChain3 (δ δ' δ'' : Op2) (ma mb mc md : RE) : RE := fun env Q => ma env fun x e1 => mb e1 fun y e2 => δ x y fun d => ∃ k, d = .bl k ∧ (if k = true then mc e2 fun z e3 => δ' y z fun d' => ∃ k', d' = .bl k' ∧ (if k' = true then md e3 fun u e4 => δ'' z u fun d'' => Q d'' e4 else Q (.bl false) e3) else Q (.bl false) e2)
theorem rChain3_mono (hd : Mono2 δ) (hd' : Mono2 δ') (hd'' : Mono2 δ'') (ha : MonoQ ma) (hb : MonoQ mb) (hc : MonoQ mc) (h4 : MonoQ md) : MonoQ (rChain3 δ δ' δ'' ma mb mc md) := fun env Q Q' i q =>
  ha _ _ _ (fun x e1 q => hb _ _ _ (fun y e2 q => hd _ _ _ _ (fun d ⟨k, h1, h2⟩ => ⟨k, h1, by
    cases k with
    | true => exact hc _ _ _ (fun z e3 q => hd' _ _ _ _ (fun d ⟨k', h3, h5⟩ => ⟨k', h3, by
        cases k' with
        | true => exact h4 _ _ _ (fun u e4 q => hd'' _ _ _ _ (fun d q => i _ _ q) q) h5
        | false => exact i _ _ h5⟩) q) h2
    | false => exact i _ _ h2⟩) q) q) q
theorem chain3_core {G F0 : Hp} {σ : L2.St} {H : Hp} {Q : VK} (hd : Mono2 δ) (hd' : Mono2 δ') (hd'' : Mono2 δ'') (ha : EB X a ma) (hb : EB X b mb) (hc : EB X c mc) (h4 : EB X d md) (h : tM X.K G F0 (rChain3 δ δ' δ'' ma mb mc md) σ H Q) :
    tChain3 (rD2 X.K δ) (rD2 X.K δ') (rD2 X.K δ'') (tBo X.K G F0 ma) (tBo X.K G F0 mb) (tBo X.K G F0 mc) (tBo X.K G F0 md) σ H Q := by
  obtain ⟨F, env, k, q⟩ := h
  refine ⟨F, env, k, ha.mono _ _ _ (fun x e1 q v1 F1 H1 a1 r1 => ?_) q⟩
  refine ⟨F1, e1, a1.ok, hb.mono _ _ _ (fun y e2 q v2 F2 H2 a2 r2 => ?_) q⟩
  refine ⟨F2, x, y, a2.ok.fh, r1.ext a2.fF a2.hH, r2, hd _ _ _ _ (fun d ⟨k, h1, h2⟩ v F3 H3 x3 r3 => ?_) q⟩
  subst h1
  cases r3
  refine ⟨k, rfl, ?_⟩
  cases k with
  | false => exact h2 _ F3 H3 ((a1.trans a2).ext x3) (.bl false)
  | true =>
    show tBo X.K G F0 mc σ H3 _
    refine ⟨F3, e2, a2.ok.ext x3, hc.mono _ _ _ (fun z e3 q v4 F4 H4 a4 r4 => ?_) h2⟩
    refine ⟨F4, y, z, a4.ok.fh, (r2.ext x3.fF x3.hH).ext a4.fF a4.hH, r4, hd' _ _ _ _ (fun d ⟨k', h1, h2⟩ v F5 H5 x5 r5 => ?_) q⟩
    subst h1
    cases r5
    refine ⟨k', rfl, ?_⟩
    cases k' with
    | false => exact h2 _ F5 H5 ((((a1.trans a2).ext x3).trans a4).ext x5) (.bl false)
    | true =>
      show tBo X.K G F0 md σ H5 _
      refine ⟨F5, e3, a4.ok.ext x5, h4.mono _ _ _ (fun u e4 q v6 F6 H6 a6 r6 => ?_) h2⟩
      exact ⟨F6, z, u, a6.ok.fh, (r4.ext x5.fF x5.hH).ext a6.fF a6.hH, r6, hd'' _ _ _ _ (fun d q v F7 H7 x7 r7 => q v F7 H7 ((((((a1.trans a2).ext x3).trans a4).ext x5).trans a6).ext x7) r7) q⟩
theorem ee_chain3 {op op' op'' : CmpOp} (ho : OpR X (compareOp op) (rD2 X.K δ)) (ho' : OpR X (compareOp op') (rD2 X.K δ')) (ho'' : OpR X (compareOp op'') (rD2 X.K δ'')) (hd : Mono2 δ) (hd' : Mono2 δ') (hd'' : Mono2 δ'') (ha : EB X a ma) (hb : EB X b mb) (hc : EB X c mc) (h4 : EB X d md)
    (hm : lastMarks [op, op', op''] [b, c, d] = false := by with_unfolding_all rfl) : EE X (.Compare a [op, op', op''] [b, c, d] pos) (rChain3 δ δ' δ'' ma mb mc md) where
  mono := rChain3_mono hd hd' hd'' ha.mono hb.mono hc.mono h4.mono
  pe := fun G F0 => PE_imp (pe_chain3 ho ho' ho'' (ha.pe G F0) (hb.pe G F0) (hc.pe G F0) (h4.pe G F0) hm) fun σ H Q h => chain3_core hd hd' hd'' ha hb hc h4 h
theorem et_chain3 {op op' op'' : CmpOp} (ho : OpR X (compareOp op) (rD2 X.K δ)) (ho' : OpR X (compareOp op') (rD2 X.K δ')) (ho'' : OpR X (compareOp op'') (rD2 X.K δ'')) (hd : Mono2 δ) (hd' : Mono2 δ') (hd'' : Mono2 δ'') (ha : EB X a ma) (hb : EB X b mb) (hc : EB X c mc) (h4 : EB X d md)
    (hm : lastMarks [op, op', op''] [b, c, d] = false := by with_unfolding_all rfl) : ET X (.Compare a [op, op', op''] [b, c, d] pos) (rTest (rChain3 δ δ' δ'' ma mb mc md)) where
  mono := rTest_mono (rChain3_mono hd hd' hd'' ha.mono hb.mono hc.mono h4.mono)
  pe := fun G F0 => PT_imp (pt_chain3 ho ho' ho'' (ha.pe G F0) (hb.pe G F0) (hc.pe G F0) (h4.pe G F0) hm) fun σ H Q h => test_core (rChain3_mono hd hd' hd'' ha.mono hb.mono hc.mono h4.mono) (fun Q h => chain3_core hd hd' hd'' ha hb hc h4 h) h
end

/-! ### x.bit_length(), 1 << k, range with a step -/
section
variable {X : Cx} {o : Expr} {m : RE} {apos pos p : Pos}
def rBits (m : RE) : RE := fun env Q => m env fun d e => match d with
  | .int i => Q (.int (Builtin.Int.intBits i : Nat)) e
  | _ => False
theorem ee_bits (ho : EE X o m) (hbase : attributeBase o "bit_length" X.env (eval o X.env) = eval o X.env := by rfl) (hline : (apos.endLine == pos.line) = true := by rfl) : EE X (.Call (.Attribute o "bit_length" apos) [] [] pos) (rBits m) where
  mono := fun env Q Q' i q => ho.mono _ _ _ (fun d e q => by cases d <;> first | exact i _ _ q | exact q) q
  pe := fun G F0 => PE_imp (pe_bits (ho.pe G F0) hbase hline) fun σ H Q ⟨F, env, k, q⟩ => ⟨F, env, k, ho.mono _ _ _ (fun d e q v F' H' a r => by
    cases r <;> first | exact q.elim | exact ⟨_, rfl, q _ F' H' a (.int _)⟩) q⟩
def dShl : Op2 := fun d e Q => match d, e with
  | .int i, .int j => CShl i j ∧ Q (.int (i * 2 ^ j.toNat))
  | _, _ => False
theorem dShl_mono : Mono2 dShl := fun d e Q Q' i q => by
  unfold dShl at q ⊢
  split at q
  · exact ⟨q.1, i _ q.2⟩
  · exact q
theorem or_shl : OpR X (binaryOp .LShift) (rD2 X.K dShl) := fun pins s σ H x y u v Q I rx ry ⟨F, d, e, hf, r1, r2, q⟩ => by
  unfold dShl at q
  split at q
  · have e1 := r1.int; have e2 := r2.int
    exact op_shlW pins s σ H x y u v Q I rx ry ⟨_, _, e1, e2, q.1, q.2.int hf⟩
  · exact q.elim
/-- i, i + c, .. -/
def rangeC (i c : Int) : Nat → List D
  | 0 => []
  | n + 1 => .int i :: rangeC (i + c) c n
theorem rangeC_get : ∀ (lo c : Int) (n i : Nat), (rangeC lo c n)[i]? = if i < n then some (.int (lo + i * c)) else none
  | lo, c, 0, i => by simp [rangeC]
  | lo, c, n + 1, 0 => by simp [rangeC]
  | lo, c, n + 1, i + 1 => by
    have h := rangeC_get (lo + c) c n i
    simp only [rangeC, List.getElem?_cons_succ, h]
    have e : lo + c + (i : Int) * c = lo + ((i + 1 : Nat) : Int) * c := by push_cast; rw [Int.add_mul]; omega
    rw [e]
    by_cases c : i < n
    · rw [if_pos c, if_pos (by omega)]
    · rw [if_neg c, if_neg (by omega)]
theorem ItOk.rangeC {K : PySem.W.Frag} {F : Hp} {lo c : Int} {n : Nat} : ItOk K F (Itc lo c n) (rangeC lo c n) := fun i F1 H1 s1 s2 => by
  rw [rangeC_get]
  refine ⟨fun d e => ?_, fun e => ?_⟩
  · split at e
    · rename_i hlt
      cases e
      refine ⟨hlt, fun x H2 y => ?_⟩
      obtain ⟨rfl, rfl⟩ := y
      exact ⟨F1, Ext.refl s2, .int _⟩
    · cases e
  · split at e
    · cases e
    · rename_i h; exact Nat.le_of_not_lt h
variable {tg a b c : Expr} {mn : RN}
def iRg3 (m : RN) : RN := fun env Q => m env fun ds e => match ds with
  | [.int i, .int j, .int k] => ∃ n, RgC i j k n ∧ Q (rangeC i k n) e
  | _ => False
theorem ei_range3 (hg : Gl X "range") (hm : X.mg "range" = none) (ha : EA X [a, b, c] mn) (hs : starEach [a, b, c] X.env = (false, eval a X.env) :: starEach [b, c] X.env := by rfl) (hpl : (backTo pos (starEach [b, c] X.env)).any (·.1) = false := by rfl) :
    EI X tg (.Call (.Name "range" p) [a, b, c] [] pos) (iRg3 mn) where
  mono := fun env Q Q' i q => ha.mono _ _ _ (fun ds e q => by
    revert q; split <;> intro q
    · obtain ⟨n, h1, h2⟩ := q; exact ⟨n, h1, i _ _ h2⟩
    · exact q) q
  pi := fun G F0 => PI_imp (pi_range3 hg hm (ha.pe G F0) hs hpl) fun σ H R ⟨F, env, k, q⟩ => ⟨F, env, k, ha.mono _ _ _ (fun ds e q vs F' H' a r => by
    revert q; split <;> intro q
    · obtain ⟨n, h1, q⟩ := q
      cases r with | cons r t => cases t with | cons r' t => cases t with | cons r'' t => cases t; cases r; cases r'; cases r''; exact ⟨_, _, _, n, rfl, h1, q _ F' H' a ItOk.rangeC⟩
    · exact q.elim) q⟩
end

/-! ### C(.., k = v, ..) -/
/-- gd: positional values and keywords' values put in the parameters' order, the lacking ones filled up -/
structure CalMK (P : Program) (w : World) (K : PySem.W.Frag) (mg : Str → Option Value) (base : PySem.Heap) (x : Str) (k : Nat) (c : Addr) (fs : List Str) (n : Nat) (ks : List Str) (gd : List D → List D → List D) (spec : SpecD) : Prop where
  mono : MonoSp spec
  ins : InsK K c fs
  hi : ∀ ds Q, spec ds Q → spec ds fun d => (∃ xs, d = .ins c fs xs) ∧ Q d
  ex : ∃ (f : Addr) (fd : FuncData) (ps : List Str) (g : List Value → List Value → List Value) (gV : List V → List V → List V), FnOk P w K mg base CX0 k f fd ("self" :: ps) (spI K c fs ps.length spec) ∧ Mk K c f ∧ mg x = some (.ref c) ∧ KBn K fd ("self" :: ps) (n + 1) ks g gV ∧
    ∀ (F : Hp) (p : Addr) (vs zs : List V) (ds es : List D), vs.length = n → zs.length = ks.length → Reps K F vs ds → Reps K F zs es → ∃ rest, gV (.ref p :: vs) zs = .ref p :: rest ∧ rest.length = ps.length ∧ Reps K F rest (gd ds es)
def rMakeK (spec : SpecD) (gd : List D → List D → List D) (n kn : Nat) (m mk : RN) : RE := fun env Q => m env fun ds e => mk e fun es e' => ds.length = n ∧ es.length = kn ∧ spec (gd ds es) fun d => Q d e'
section
variable {X : Cx} {x : Str} {k n : Nat} {c : Addr} {fs ks : List Str} {gd : List D → List D → List D} {spec : SpecD} {p pos : Pos} {e : Expr} {es : List Expr} {kws : List Keyword} {m mk : RN}
theorem ee_makeK (cm : CalMK X.prog X.w X.K X.mg X.base x k c fs n ks gd spec) (hr : Room (k + 1) X.A) (hg : Gl X x) (ha : EA X (e :: es) m) (hk : EK X kws mk) {kn : Nat} (hkn : ks.length = kn := by rfl)
    (hall : (backToKw pos (keywordEach kws X.env)).all (·.1.isSome) = true := by rfl) (hks : (backToKw pos (keywordEach kws X.env)).filterMap (·.1) = ks := by rfl) (hdb : (x == ("__debug__" : Str)) = false := by decide)
    (he : starEach (e :: es) X.env = (false, eval e X.env) :: starEach es X.env := by rfl) (hpl : ((backTo pos (starEach (e :: es) X.env)).any (·.1) || (backToKw pos (keywordEach kws X.env)).any (·.1.isNone)) = false := by rfl) : EE X (.Call (.Name x p) (e :: es) kws pos) (rMakeK spec gd n kn m mk) where
  mono := fun env Q Q' i q => ha.mono _ _ _ (fun ds e q => hk.mono _ _ _ (fun es e' q => ⟨q.1, q.2.1, cm.mono _ _ _ (fun d q => i _ _ q) q.2.2⟩) q) q
  pe := fun G F0 => by
    obtain ⟨f, fd, ps, g, gV, F, hM, hm, hb, hgd⟩ := cm.ex
    refine PE_imp (pe_makeK hM F hr hg hm hb pass0 (ha.pe G F0) (hk.pk G F0) hall hks hdb he hpl) fun σ H Q ⟨F, env, k, q⟩ => ⟨F, env, k, ha.mono _ _ _ (fun ds e q vs F1 H1 a1 r1 => ?_) q⟩
    refine ⟨F1, e, a1.ok, hk.mono _ _ _ (fun es e' q zs F2 H2 a2 r2 => ?_) q⟩
    have l1 : vs.length = n := by rw [r1.length]; exact q.1
    have l2 : zs.length = ks.length := by rw [r2.length, hkn]; exact q.2.1
    refine ⟨l1, l2, fun y dx hy hdx hne => ?_⟩
    obtain ⟨rest, e1, e2, r3⟩ := hgd F2 y vs zs ds es l1 l2 (r1.mono a2.fF) r2
    have q2 := cm.hi _ _ q.2.2
    have fy : F2 y = none := a2.ok.fh.at_none hy
    have fd' : F2 dx = none := a2.ok.fh.at_none hdx
    have s2 : Same F2 (upd (upd H2 dx (.own y)) y (.ins c dx [])) := fun b o eb => by
      rw [upd_ne (ne_of_none eb fy), upd_ne (ne_of_none eb fd')]; exact a2.ok.fh _ _ eb
    rw [e1]
    refine ⟨y, dx, rest, rfl, e2, upd_same, F2, _, fy, s2, r3, ?_⟩
    refine cm.mono _ _ _ (fun d ⟨⟨xs, ed⟩, qd⟩ xs' ed' F' H' dx' vfs h1 h2 h3 h4 h5 h6 h7 h8 => ⟨rfl, ?_⟩) q2
    subst ed'
    have old : ∀ b, H2 b ≠ none → b ≠ y ∧ b ≠ dx := fun b hb => ⟨fun z => hb (z ▸ hy), fun z => hb (z ▸ hdx)⟩
    have sF : Same F' (upd F' y (.ins c dx' vfs)) := same_upd h4
    refine qd (.ref y) (upd F' y (.ins c dx' vfs)) H' ((a1.trans a2).ext ⟨h1.trans sF, fun b o eb => ?_, fun b o eb => ?_, fun b hb => ?_⟩) ?_
    · have := old b (by rw [eb]; exact fun z => nomatch z)
      exact h2 b o this.1 (by rw [upd_ne this.1, upd_ne this.2]; exact eb)
    · by_cases hb : b = y
      · subst hb; rw [upd_same] at eb; rw [h6]; exact eb
      · rw [upd_ne hb] at eb; exact h3 _ _ eb
    · have := old b hb
      rw [upd_ne this.1]
      exact h5 b this.1 (by rw [upd_ne this.1, upd_ne this.2]; exact hb)
    · subst h7
      exact .ins cm.ins upd_same (h8.mono sF)
end
/-- all keywords given, in the parameters' order -/
theorem calMK_mk {P : Program} {w : World} {K : PySem.W.Frag} {mg : Str → Option Value} {base : PySem.Heap} {x : Str} {k : Nat} {c : Addr} {fs : List Str} {n : Nat} {ks : List Str} {spec : SpecD} (h1 : MonoSp spec) (h2 : InsK K c fs) (h3 : ∀ ds Q, spec ds Q → spec ds fun d => (∃ xs, d = .ins c fs xs) ∧ Q d)
    {f : Addr} {fd : FuncData} {ps : List Str} (hn : ps.length = n + ks.length) (h4 : FnOk P w K mg base CX0 k f fd ("self" :: ps) (spI K c fs ps.length spec)) (h5 : Mk K c f) (h6 : mg x = some (.ref c))
    (h7 : ∀ (s : Shared) (us ws : List Value), us.length = n + 1 → ws.length = ks.length → BindsTo s fd ⟨us, ks.zip ws⟩ (((("self" : Str) :: ps)).zip (us ++ ws))) : CalMK P w K mg base x k c fs n ks (fun ds es => ds ++ es) spec where
  mono := h1
  ins := h2
  hi := h3
  ex := ⟨f, fd, ps, fun us ws => us ++ ws, fun vs zs => vs ++ zs, h4, h5, h6, ⟨fun s us ws _ l1 l2 => h7 s us ws l1 l2, fun r1 r2 => r1.append r2⟩, fun F p vs zs ds es l1 l2 r1 r2 => ⟨vs ++ zs, rfl, by rw [List.length_append, l1, l2, hn], r1.append r2⟩⟩
/-- the last ones lack, their defaults stand in the dict Dk -/
theorem calMK_mk0 {P : Program} {w : World} {K : PySem.W.Frag} {mg : Str → Option Value} {base : PySem.Heap} {x xf qual : Str} {k : Nat} {c : Addr} {fs : List Str} {n : Nat} {ks : List Str} {spec : SpecD} (h1 : MonoSp spec) (h2 : InsK K c fs) (h3 : ∀ ds Q, spec ds Q → spec ds fun d => (∃ xs, d = .ins c fs xs) ∧ Q d)
    {f : Addr} {fd : FuncData} {ps : List Str} {params : Arguments} {body : List Stmt} {scope : Scope} {ms : List (Str × V)} {md : List D} (hms : ms ≠ []) (hmd : ∀ F, Reps K F (ms.map (·.2)) md) (hn : ps.length = n + ks.length + ms.length) (h4 : FnOk P w K mg base CX0 k f fd ("self" :: ps) (spI K c fs ps.length spec)) (h5 : Mk K c f) (h6 : mg x = some (.ref c))
    (FD : FunD K xf qual params body scope [] ms f fd)
    (h7 : ∀ (D : Addr) (doc pm : Value) (an : Option Addr) (cdv ct : Value) (us mv ws : List Value), us.length = n + 1 → mv.length = ms.length → ws.length = ks.length →
      KwChain D ((ms.map (·.1)).zip mv) (bindArgs (PySem.W.fnOf xf qual params body scope .none (.ref D) doc pm an cdv ct) ⟨us, ks.zip ws⟩) (((("self" : Str) :: ps)).zip (us ++ ws ++ mv))) : CalMK P w K mg base x k c fs n ks (fun ds es => ds ++ es ++ md) spec where
  mono := h1
  ins := h2
  hi := h3
  ex := by
    obtain ⟨mv, kb⟩ := FD.kbinds0 (ps := "self" :: ps) (n + 1) ks ms (fun us mv ws => us ++ ws ++ mv) hms (fun q h => h) (fun r1 r2 r3 => (r1.append r3).append r2) h7
    exact ⟨f, fd, ps, _, _, h4, h5, h6, kb, fun F p vs zs ds es l1 l2 r1 r2 => ⟨vs ++ zs ++ ms.map (·.2), rfl, by rw [List.length_append, List.length_append, l1, l2, List.length_map, hn], (r1.append r2).append (hmd F)⟩⟩
end DL
namespace DL
open PySem PySem.Spec PyProof.Rows L2
/-! ### attributes of written instances -/
theorem fld_ne {n f : Str} {ns : List Str} {x : D} {xs : List D} (h : (f == n) = false) : fldD (n :: ns) (x :: xs) f = fldD ns xs f := by
  show (if (f == n) = true then _ else _) = _
  rw [if_neg (by rw [h]; decide)]
theorem fld_eq {f : Str} {ns : List Str} {x : D} {xs : List D} : fldD (f :: ns) (x :: xs) f = some x := by
  show (if (f == f) = true then _ else _) = _
  rw [if_pos (by simp)]
theorem q_of {C : Addr} {ns : List Str} {xs : List D} {f : Str} {x : D} {Q : D → Prop} (e : fldD ns xs f = some x) : qFld (.ins C ns xs) f Q = Q x := by
  refine propext ⟨fun ⟨z, h, q⟩ => ?_, fun q => ⟨x, e, q⟩⟩
  rw [e] at h; cases h; exact q
theorem and_t {p q : Prop} (h : p) : (p ∧ q) = q := propext ⟨fun x => x.2, fun x => ⟨h, x⟩⟩
end DL

namespace DL
open PySem PySem.Spec PyProof.Rows L2

/-! ### x in NAME, a dict of the module with text keys -/
structure DictK (K : PySem.W.Frag) (w : World) (mg : Str → Option Value) (x : Str) (ks : List Str) : Prop where
  ex : ∃ d es n, mg x = some (.ref d) ∧ KDict K w d es n ∧ ∀ z ∈ ks, ∃ u, PySem.W.nsIn K d z = some (some u)
def rInK (ks : List Str) (m : RE) : RE := fun env Q => m env fun d e => ∃ z, d = .str z ∧ z ∈ ks ∧ Q (.bl true) e
theorem rInK_mono {ks : List Str} {m : RE} (h : MonoQ m) : MonoQ (rInK ks m) := fun env Q Q' i q => h _ _ _ (fun d e ⟨z, h1, h2, q⟩ => ⟨z, h1, h2, i _ _ q⟩) q
section
variable {X : Cx} {a : Expr} {x : Str} {ks : List Str} {m : RE} {p pos : Pos}
theorem inK_core {G F0 : Hp} {σ : L2.St} {H : Hp} {Q : VK} {d : Addr} (hks : ∀ z ∈ ks, ∃ u, PySem.W.nsIn X.K d z = some (some u)) (ha : EB X a m) (h : tM X.K G F0 (rInK ks m) σ H Q) :
    tOp (fun x y H Q => ∃ (z : Str) (r : Option Value), x = .str z ∧ y = .ref d ∧ PySem.W.nsIn X.K d z = some r ∧ Q (.bl r.isSome) H) (tBo X.K G F0 m) (tC (.ref d)) σ H Q := by
  obtain ⟨F, env, k, q⟩ := h
  refine ⟨F, env, k, ha.mono _ _ _ (fun y e ⟨z, h1, h2, q⟩ v F1 H1 a1 r1 => ?_) q⟩
  subst h1
  obtain ⟨u, hu⟩ := hks z h2
  exact ⟨z, some u, r1.str, rfl, hu, q _ F1 H1 a1 (.bl true)⟩
theorem ee_inK (P : DictK X.K X.w X.mg x ks) (hg : Gl X x) (ha : EB X a m) (hd : (x == ("__debug__" : Str)) = false := by decide) : EE X (.Compare a [.In] [.Name x p] pos) (rInK ks m) where
  mono := rInK_mono ha.mono
  pe := fun G F0 => by
    obtain ⟨d, es, n, hm, D, hks⟩ := P.ex
    exact PE_imp (pe_cmpR (op_in_kd D) (ha.pe G F0) (pe_glob (v := .ref d) hg hm rfl hd) rfl) fun σ H Q h => inK_core hks ha h
theorem et_inK (P : DictK X.K X.w X.mg x ks) (hg : Gl X x) (ha : EB X a m) (hd : (x == ("__debug__" : Str)) = false := by decide) : ET X (.Compare a [.In] [.Name x p] pos) (rTest (rInK ks m)) where
  mono := rTest_mono (rInK_mono ha.mono)
  pe := fun G F0 => by
    obtain ⟨d, es, n, hm, D, hks⟩ := P.ex
    exact PT_imp (pt_cmpR (op_in_kd D) (ha.pe G F0) (pe_glob (v := .ref d) hg hm rfl hd) rfl) fun σ H Q h => test_core (rInK_mono ha.mono) (fun Q h => inK_core hks ha h) h
end
end DL

namespace DL
open PySem PySem.Spec PyProof.Rows L2

/-! ### int(text), str(number) -/
def nInt2 : OpN := fun ds Q => match ds with
  | [.str a] => ∃ n, PySem.intText? a = some n ∧ a.length ≤ 640 ∧ Q (.int n)
  | _ => False
theorem nInt2_mono : MonoN nInt2 := by
  unfold nInt2; intro ds Q Q' i q
  split at q
  · obtain ⟨n, h1, h2, h3⟩ := q; exact ⟨n, h1, h2, i _ h3⟩
  · exact q
def nStrI : OpN := fun ds Q => match ds with
  | [.int i] => i.natAbs.log2 < 1920 ∧ Q (.str (toString i))
  | _ => False
theorem nStrI_mono : MonoN nStrI := by
  unfold nStrI; intro ds Q Q' i q
  split at q
  · exact ⟨q.1, i _ q.2⟩
  · exact q
section
variable {X : Cx}
theorem cn_int2 : CallR X (.type "int") (rDc X.K nInt2) := fun pins s σ H xs us Q I r ⟨F, ds, hf, r1, q⟩ => by
  unfold nInt2 at q
  split at q
  · obtain ⟨v, rfl, r2⟩ := r1.one
    obtain ⟨n, h1, h2, q⟩ := q
    rw [r2.str] at r
    exact call_int_str pins s σ H _ us Q I r ⟨_, n, rfl, h1, h2, q.int hf⟩
  · exact q.elim
theorem cn_strI : CallR X (.type "str") (rDc X.K nStrI) := fun pins s σ H xs us Q I r ⟨F, ds, hf, r1, q⟩ => by
  unfold nStrI at q
  split at q
  · obtain ⟨v, rfl, r2⟩ := r1.one
    rw [r2.int] at r
    exact call_str_int pins s σ H _ us Q I r ⟨_, rfl, q.1, q.2.str hf⟩
  · exact q.elim
end
end DL

namespace PySem
open Sem (wp)
open AutoSeq1 (wpAny_loadPart')
/-! ### enumerate of a tuple, at the library's level -/
theorem Draws.tupleX {prog : Program} {w : World} {A : Around} (hh : A.handled = none) (it t : Addr) (hne : t ≠ it) (items : Array Value) :
    Draws prog w A it [it, t] items.size (fun i v => items[i]? = some v) (fun i h => h.IsTupleIter it t i ∧ h.IsTuple t items) where
  live := fun _ _ st => let ⟨⟨o, ho, _⟩, _⟩ := st; ⟨o, ho⟩
  frame := fun _ _ _ st hk => ⟨let ⟨o, ho, r⟩ := st.1; ⟨o, hk it (by simp) o ho, r⟩, let ⟨o, ho, r⟩ := st.2; ⟨o, hk t (by simp) o ho, r⟩⟩
  item := fun i s Q E hi st hQ => by
    refine RZ.nextOf_tuple_item st.1 st.2 (x := items[i]) (Array.getElem?_eq_getElem hi) fun h' hit' hs' => ?_
    exact hQ _ h' s.toks (Array.getElem?_eq_getElem hi) ⟨hit', st.2.extBut hs'.extBut hne⟩ hs'
  done := fun s Q E st hE => RZ.nextOf_tuple_end hh st.1 st.2 (Array.getElem?_eq_none (Nat.le_refl _)) hE
set_option maxHeartbeats 1000000 in
theorem meets_enumerate_newT (l : Addr) (items : Array Value) (n : Nat) (dct : Option Addr) (sl : Array (Option Value)) :
    Meets (Builtin.«enumerate.__new__» ⟨[.type "enumerate", .ref l], []⟩) (fun _ R s => s.heap.get? l = some { cls := .type "tuple", dict := dct, data := .seq items n, slots := sl } ∧
      R (.ok (.ret (.ref (s.heap.push { cls := .type "tuple_iterator", data := .fields #[.ref l, .int 0 0] }).objs.size)))
        { s with heap := (s.heap.push { cls := .type "tuple_iterator", data := .fields #[.ref l, .int 0 0] }).push { cls := .type "enumerate", data := .fields #[.none, .bool false, .ref s.heap.objs.size, rawInt 0, .none, .none] } }) :=
  .of_wp fun prog w A R s h => by
    obtain ⟨hp, g, d, tk, os⟩ := s; obtain ⟨hl, h⟩ := h
    have hsub := sub_enumerate
    have hL : Heap.IsTuple (Shared.heap ⟨hp, g, d, tk, os⟩) l items := ⟨_, hl, rfl, n, rfl⟩
    wp_walk using wpAny_loadPart' hl
    refine wpAny_stack_any fun st => wpAny_pure ?_
    split
    · rename_i c _ _ _ _ _
      cases (c == Value.type "enumerate")
      · wp_walk using wpAny_loadPart' hl, wpAny_pyIter_tuple hL
        exact ⟨_, rfl, h⟩
      · wp_walk using wpAny_loadPart' hl, wpAny_pyIter_tuple hL
        exact ⟨_, rfl, h⟩
    · wp_walk using wpAny_loadPart' hl, wpAny_pyIter_tuple hL
      exact ⟨_, rfl, h⟩
section
variable {prog : Program} {w : World} {A : Around} {E : Value → Shared → Prop} {s : Shared}
theorem call_enumerate_tuple {l : Addr} {items : Array Value} {Q : Value → Shared → Prop} (hL : s.heap.IsTuple l items)
    (h : ∀ h', IsEnum h' (s.heap.objs.size + 1) s.heap.objs.size 0 .none → h'.IsTupleIter s.heap.objs.size l 0 → h'.objs.size = s.heap.objs.size + 2 →
      (∀ b o, s.heap.get? b = some o → h'.get? b = some o) → Q (.ref (s.heap.objs.size + 1)) { s with heap := h' }) :
    wpAny (model prog w) A (call (.type "enumerate") [.ref l]) Q E s := by
  obtain ⟨⟨c, dct, dt, sl⟩, hl, hc, n, hd⟩ := hL
  replace hc : c = .type "tuple" := hc
  replace hd : dt = .seq items n := hd
  subst hc hd
  refine callType_new F.called_enumerate (by decide) (F.typeCall_enumerate_1 _) (F.newCall_enumerate_1 _) (fun obj => F.args_object_init_2 obj _) F.entry_enumerate_new
    (meets_enumerate_newT l items n dct sl) ⟨hl, ?_⟩
  have hz : (s.heap.push { cls := .type "tuple_iterator", data := .fields #[.ref l, .int 0 0] }).objs.size = s.heap.objs.size + 1 := Heap.size_push ..
  show _ ∧ _
  rw [hz]
  have he : IsEnum ((s.heap.push { cls := .type "tuple_iterator", data := .fields #[.ref l, .int 0 0] }).push
      { cls := .type "enumerate", data := .fields #[.none, .bool false, .ref s.heap.objs.size, rawInt 0, .none, .none] }) (s.heap.objs.size + 1) s.heap.objs.size 0 .none := by
    have := Heap.get?_push_size (s.heap.push { cls := .type "tuple_iterator", data := .fields #[.ref l, .int 0 0] })
      (o := { cls := .type "enumerate", data := .fields #[.none, .bool false, .ref s.heap.objs.size, rawInt 0, .none, .none] }) rfl
    rw [hz] at this; exact this
  refine ⟨⟨_, he, rfl⟩, h _ he ⟨_, Heap.get?_push_of_some _ (Heap.get?_push_size _ rfl), rfl, rfl⟩ (by rw [Heap.size_push, hz]) fun b o x => Heap.get?_push_of_some _ (Heap.get?_push_of_some _ x)⟩
end
end PySem
namespace DL
open PySem PySem.Spec PyProof.Rows L2
/-- the tuple at a, each item in a new pair -/
def IteT (K : PySem.W.Frag) (a : Addr) : It :=
  ⟨fun i H => ∃ (xs : List V) (x : V), SqT K H a xs ∧ xs[i]? = some x, fun i H v H' => ∃ T x, v = .ref T ∧ H T = none ∧ H' = upd H T (.tup [.int (i : Nat), x]) ∧ ∀ xs, SqT K H a xs → xs[i]? = some x, fun i H => ∃ xs : List V, SqT K H a xs ∧ xs.length ≤ i⟩
theorem tit_ne {h : Heap} {it a : Addr} {i : Nat} {items : Array Value} (hit : h.IsTupleIter it a i) (ht : h.IsTuple a items) : a ≠ it := fun e => by
  subst e
  obtain ⟨o, ho, hc, _⟩ := hit
  obtain ⟨o', ho', hc', _⟩ := ht
  have z : o = o' := Option.some.inj (ho.symm.trans ho')
  subst z
  rw [hc] at hc'
  exact absurd (Value.type.inj hc') (by decide +kernel)
theorem en_ne {h : Heap} {e it a : Addr} {i : Int} {old : Value} {items : Array Value} (he : IsEnum h e it i old) (ht : h.IsTuple a items) : e ≠ a := fun z => by
  subst z
  obtain ⟨o', ho', hc', _⟩ := ht
  have z := Option.some.inj (he.symm.trans ho')
  subst z
  exact absurd (Value.type.inj hc') (by decide +kernel)
theorem turn_enumT {P : Program} {w : World} {K : PySem.W.Frag} {elts : List Expr} {kk : Nat} {tpos : Pos} (a e it : Addr) :
    Turn P w K (.Tuple elts kk tpos) (IteT K a) [e, it] e (fun i h => (∃ old, IsEnum h e it ((i : Nat) : Int) old) ∧ h.IsTupleIter it a i ∧ e ≠ it) where
  mem := by simp
  obj := fun i h st b hb => by
    obtain ⟨⟨old, he⟩, ⟨o, ho, hc, hd⟩, _⟩ := st
    have e' : b = e ∨ b = it := by simpa using hb
    rcases e' with z | z
    · rw [z]; exact ⟨_, he, fun v q => nomatch q⟩
    · rw [z]; exact ⟨o, ho, fun v q => by rw [hd] at q; cases q⟩
  keep := fun i h h' st k => let ⟨⟨old, he⟩, hi, hne⟩ := st; ⟨⟨old, k e (by simp) _ he⟩, hi.at fun o q => k it (by simp) o q, hne⟩
  item := by
    intro X hP hw hK hc i pins s σ H E I hf st hg
    subst hP hw hK
    obtain ⟨⟨old, he⟩, hit, hne⟩ := st
    obtain ⟨xs, x, hq, hx⟩ := hg
    obtain ⟨its, rv, p, hz⟩ := I.tuple hq
    obtain ⟨u, hu, ru⟩ := rv.get hx
    have hel : e < s.heap.objs.size := Heap.lt_size he
    have hil : it < s.heap.objs.size := by obtain ⟨_, q, _⟩ := hit; exact Heap.lt_size q
    have ht : s.heap.IsTuple a its.toArray := p
    have hai := tit_ne hit ht
    have hea := en_ne he ht
    have hlt : i < its.toArray.size := by
      have hu' : its.toArray[i]? = some u := by simpa using hu
      exact (Array.getElem?_eq_some_iff.mp hu').1
    refine wpAny_pyNext_enum_itemD (Draws.tupleX (prog := X.prog) (w := X.w) (A := X.A.in1) (show X.A.in1.handled = none from I.ok.hd hc) it a hai its.toArray) he ⟨hit, ht⟩ hlt hne (fun z => by rcases List.mem_cons.mp z with z | z; exact hne z; rcases List.mem_cons.mp z with z | z; exact hea z; cases z) fun x' h' tk hx' ho hst' hT hsz hk => ?_
    have hux : x' = u := by
      have hu' : its.toArray[i]? = some u := by simpa using hu
      exact Option.some.inj (hx'.symm.trans hu')
    subst hux
    refine ⟨_, rfl, wpAny_letOwnedTupleGo_enum (s := { s with heap := h', toks := tk + 1 }) ho fun h'' he' sb => ?_⟩
    have hT2 : h''.get? s.heap.objs.size = some { cls := .type "tuple", data := .seq #[.int i tk, x'] } := (sb.2 _ (Nat.ne_of_gt hel)).trans hT
    have new : ObjOk X.prog X.w (upd H s.heap.objs.size (.tup [.int (i : Nat), x])) h'' s.heap.objs.size (.tup [.int (i : Nat), x]) :=
      ⟨by show 2 ≤ sizeLine; decide, [.int i tk, x'], .cons ⟨_, rfl⟩ (.cons ru .nil), ⟨_, hT2, rfl, _, rfl⟩⟩
    have I1 : Inv X pins σ (upd H s.heap.objs.size (.tup [.int (i : Nat), x])) { s with heap := h'', toks := tk + 1 } :=
      I.turnedNew (ch := [e, it]) (fun b ob hb q => (sb.2 b (fun z => hb (by simp [z]))).trans (hk b ob (fun z => hb (by simp [z])) (fun z => hb (by simp [z])) q)) hf (Nat.le_refl _) new
    refine ⟨.ref s.heap.objs.size, _, I1, rfl, ⟨_, x, rfl, I.hok.fresh (Nat.le_refl _), rfl, fun ys hy => by rw [I.tuple_inj hy hq]; exact hx⟩, ⟨⟨x', ?_⟩, hst'.1.at fun o q => (sb.2 it (Ne.symm hne)).trans q, hne⟩, fun b hb => ?_⟩
    · have e1 : ((i + 1 : Nat) : Int) = (i : Int) + 1 := by omega
      rw [e1]; exact he'
    · have hb' : b < s.heap.objs.size := by
        have e' : b = e ∨ b = it := by simpa using hb
        rcases e' with z | z
        · rw [z]; exact hel
        · rw [z]; exact hil
      rw [upd_ne (Nat.ne_of_lt hb')]
      exact (hf b hb).1
  done := by
    intro X hP hw hK hc i pins s σ H E I hf st hg
    subst hP hw hK
    obtain ⟨⟨old, he⟩, hit, hne⟩ := st
    obtain ⟨xs, hq, hx⟩ := hg
    obtain ⟨its, rv, p, hz⟩ := I.tuple hq
    obtain ⟨f0, f1, f2, f3, f4, f5⟩ := hf it (by simp)
    have ht : s.heap.IsTuple a its.toArray := p
    have hl := rv.length
    have D : Draws X.prog X.w X.A.in1 it [it, a] i (fun _ _ => True) (fun k h => k = i ∧ h.IsTupleIter it a i ∧ h.IsTuple a its.toArray) :=
      { live := fun _ _ st => let ⟨_, ⟨o, ho, _⟩, _⟩ := st; ⟨o, ho⟩
        frame := fun _ _ _ st hk => ⟨st.1, let ⟨o, ho, r⟩ := st.2.1; ⟨o, hk it (by simp) o ho, r⟩, let ⟨o, ho, r⟩ := st.2.2; ⟨o, hk a (by simp) o ho, r⟩⟩
        item := fun j s Q E hj st hQ => absurd hj (by rw [st.1]; exact Nat.lt_irrefl _)
        done := fun s Q E st hE => RZ.nextOf_tuple_end (I.ok.hd hc) st.2.1 st.2.2 (Array.getElem?_eq_none (by simp; omega)) hE }
    exact wpAny_pyNext_enum_endD D he ⟨rfl, hit, ht⟩ fun h' eb => ⟨rfl, I.turned (t' := s.toks) (fun b o hb q => eb b o hb q) f0 f1 f3 f4 f5⟩
  self := fun A i s Q E st h => let ⟨⟨_, he⟩, _⟩ := st; wpAny_pyIter_enum he h
def iEnumB (K : PySem.W.Frag) (ta : TA) : TI := fun σ H R => ta σ H fun vs H1 => ∃ a xs, vs = [.ref a] ∧ ((SqL K H1 a xs ∧ R (Ite K a) H1) ∨ (SqT K H1 a xs ∧ R (IteT K a) H1))
theorem pi_enumB {X : Cx} {e : Expr} {ta : TA} {p pos tpos : Pos} {elts : List Expr} {kk : Nat} (hg : Gl X "enumerate") (hm : X.mg "enumerate" = none) (ha : PA X [e] ta) (hs : starEach [e] X.env = [(false, eval e X.env)] := by rfl) :
    PI X (.Tuple elts kk tpos) (.Call (.Name "enumerate" p) [e] [] pos) (iEnumB X.K ta) := by
  refine ⟨fun pins s σ H R I h => ?_⟩
  refine Call_ (ld_blt I hg hm boot_enumerate (PyProof.Rows.callWith_type1 (thn (ha.run pos pins s σ H _ I h) fun us s1 ⟨vs, H1, I1, r1, q1⟩ => ?_) hs rfl))
  obtain ⟨a, xs, ex, q1⟩ := q1
  subst ex
  cases r1 with
  | cons r rr =>
    cases rr
    cases r
    have fr : ∀ b ∈ [s1.heap.objs.size + 1, s1.heap.objs.size], FpOk X pins H1 b := fun b hb => by
      have e' : b = s1.heap.objs.size + 1 ∨ b = s1.heap.objs.size := by simpa using hb
      have hle : s1.heap.objs.size ≤ b := by
        rcases e' with z | z
        · rw [z]; exact Nat.le_add_right _ _
        · rw [z]; exact Nat.le_refl _
      exact I1.fpOk hle (I1.hok.fresh hle)
    rcases q1 with ⟨hq, q⟩ | ⟨hq, q⟩
    · obtain ⟨its, rv, p', hz⟩ := I1.list hq
      refine call_enumerate_list p'.isList fun h' he hit hsz hk => wpAny_pyIter_enum he ?_
      have I2 : Inv X pins σ H1 { s1 with heap := h' } := I1.kept (t' := s1.toks) hk
      exact ⟨s1.heap.objs.size + 1, [s1.heap.objs.size + 1, s1.heap.objs.size], _, _, H1, rfl, I2, turn_enum a (s1.heap.objs.size + 1) s1.heap.objs.size, ⟨⟨.none, he⟩, hit, Nat.succ_ne_self _⟩, fr, q⟩
    · obtain ⟨its, rv, p', hz⟩ := I1.tuple hq
      refine call_enumerate_tuple (show s1.heap.IsTuple a its.toArray from p') fun h' he hit hsz hk => wpAny_pyIter_enum he ?_
      have I2 : Inv X pins σ H1 { s1 with heap := h' } := I1.kept (t' := s1.toks) hk
      exact ⟨s1.heap.objs.size + 1, [s1.heap.objs.size + 1, s1.heap.objs.size], _, _, H1, rfl, I2, turn_enumT a (s1.heap.objs.size + 1) s1.heap.objs.size, ⟨⟨.none, he⟩, hit, Nat.succ_ne_self _⟩, fr, q⟩
theorem ItOk.enumT {K : PySem.W.Frag} {F : Hp} {a : Addr} {vs : List V} {ds : List D} (h : SqT K F a vs) (r : Reps K F vs ds) : ItOk K F (IteT K a) (enumD 0 ds) := fun i F1 H1 s1 s2 => by
  have h1 : SqT K H1 a vs := SqT_mono (s1.trans s2) h
  rw [enumD_get]
  refine ⟨fun d e => ?_, fun e => ?_⟩
  · obtain ⟨d', e', rfl⟩ := Option.map_eq_some_iff.mp e
    obtain ⟨v, ev, rv⟩ := r.get e'
    refine ⟨⟨vs, v, h1, ev⟩, fun x H2 y => ?_⟩
    obtain ⟨T, x', rfl, hT, rfl, y⟩ := y
    have e2 := (y vs h1).symm.trans ev
    cases e2
    have e3 : (0 : Int) + (i : Int) = (i : Int) := by omega
    rw [e3]
    exact pair_new s2 hT (.int _) (rv.mono s1)
  · exact ⟨vs, h1, by rw [r.length]; exact List.getElem?_eq_none_iff.mp (Option.map_eq_none_iff.mp e)⟩
/-- enumerate of a list or a tuple -/
def qEnumA (ds : List D) (Q : List D → Prop) : Prop := match ds with
  | [.lst xs] => Q (enumD 0 xs)
  | [.tup xs] => Q (enumD 0 xs)
  | _ => False
def iEnumA (m : RN) : RN := fun env Q => m env fun ds e => qEnumA ds fun x => Q x e
theorem qEnumA_l {xs : List D} {Q : List D → Prop} : qEnumA [.lst xs] Q = Q (enumD 0 xs) := rfl
theorem qEnumA_t {xs : List D} {Q : List D → Prop} : qEnumA [.tup xs] Q = Q (enumD 0 xs) := rfl
section
variable {X : Cx} {a : Expr} {m : RN} {p pos tpos : Pos} {elts : List Expr} {kk : Nat}
theorem ei_enumA (hg : Gl X "enumerate") (hm : X.mg "enumerate" = none) (ha : EA X [a] m) (hs : starEach [a] X.env = [(false, eval a X.env)] := by rfl) : EI X (.Tuple elts kk tpos) (.Call (.Name "enumerate" p) [a] [] pos) (iEnumA m) where
  mono := fun env Q Q' i q => ha.mono _ _ _ (fun ds e q => by revert q; unfold qEnumA; split <;> intro q <;> first | exact i _ _ q | exact q) q
  pi := fun G F0 => PI_imp (pi_enumB hg hm (ha.pe G F0) hs) fun σ H R ⟨F, env, k, q⟩ => ⟨F, env, k, ha.mono _ _ _ (fun ds e q vs F' H' a r => by
    revert q; unfold qEnumA; split <;> intro q
    · cases r with | cons r t => cases t; cases r with | lst h rs => exact ⟨_, _, rfl, .inl ⟨.of (a.ok.fh _ _ h), q _ F' H' a (ItOk.enum (.of h) rs)⟩⟩
    · cases r with | cons r t => cases t; cases r with | tup h rs => exact ⟨_, _, rfl, .inr ⟨SqT_mono a.ok.fh h, q _ F' H' a (ItOk.enumT h rs)⟩⟩
    · exact q.elim) q⟩
end
/-- tuple(range(n)) -/
def rgI (n : Nat) : List Int := (List.range n).map fun (i : Nat) => (i : Int)
def qTupRg (d : D) (Q : D → Prop) : Prop := match d with
  | .int j => RgOk 0 j ∧ Q (.tup ((rgI j.toNat).map D.int))
  | _ => False
def rTupRg (m : RE) : RE := fun env Q => m env fun d e => qTupRg d fun x => Q x e
theorem qTupRg_i {j : Int} {Q : D → Prop} : qTupRg (.int j) Q = (RgOk 0 j ∧ Q (.tup ((rgI j.toNat).map D.int))) := rfl
section
variable {X : Cx} {a : Expr} {me : RE} {p p2 pos pos2 : Pos}
theorem ee_tupRg (hg : Gl X "tuple") (hm : X.mg "tuple" = none) (hg2 : Gl X "range") (hm2 : X.mg "range" = none) (ha : EE X a me) (hc : X.calm = true := by rfl)
    (na : starEach [a] X.env = (false, eval a X.env) :: starEach [] X.env := by rfl)
    (nb : starEach [.Call (.Name "range" p2) [a] [] pos2] X.env = (false, eval (.Call (.Name "range" p2) [a] [] pos2) X.env) :: starEach [] X.env := by rfl) :
    EE X (.Call (.Name "tuple" p) [.Call (.Name "range" p2) [a] [] pos2] [] pos) (rTupRg me) where
  mono := fun env Q Q' i q => ha.mono _ _ _ (fun d e q => by revert q; unfold qTupRg; split <;> intro q <;> first | exact ⟨q.1, i _ _ q.2⟩ | exact q) q
  pe := fun G F0 => PE_imp (pe_tupRg hc hg hm (prg_1 hg2 hm2 (ha.pe G F0) na) nb) fun σ H Q ⟨F, env, k, q⟩ => ⟨F, env, k, ha.mono _ _ _ (fun d e q v F1 H1 a1 r1 => by
    revert q; unfold qTupRg; split <;> intro q
    · rename_i j
      cases r1
      refine ⟨j, rfl, q.1, fun p hp => ?_⟩
      have x := Ext.alloc (o := .tup (rgV 0 j)) a1.ok.fh hp
      have e1 : rgV 0 j = (rgI j.toNat).map V.int := by
        unfold rgV rgI
        rw [List.map_map, Int.sub_zero]
        exact List.map_congr_left fun i _ => by show V.int (0 + (i : Int)) = V.int (i : Int); rw [Int.zero_add]
      refine q.2 (.ref p) _ _ (a1.ext x) (.tup (.of upd_same) ?_)
      rw [e1]
      exact Reps.of_ints _
    · exact q.elim) q⟩
end
/-! ### x is True, x is not True -/
def dIsB (neg : Bool) : Op2 := fun d e Q => match d, e with
  | .bl a, .bl b => Q (.bl (neg != (a == b)))
  | _, _ => False
theorem dIsB_mono {neg : Bool} : Mono2 (dIsB neg) := fun d e Q Q' i q => by
  unfold dIsB at q ⊢
  split at q <;> first | exact i _ q | exact q
theorem dIsB_b {neg a b : Bool} {Q : D → Prop} : dIsB neg (.bl a) (.bl b) Q = Q (.bl (neg != (a == b))) := rfl
section
variable {X : Cx}
theorem or_isB : OpR X (compareOp .Is) (rD2 X.K (dIsB false)) := fun pins s σ H x y v u Q I rx ry ⟨F, d, e, hf, r1, r2, q⟩ => by
  unfold dIsB at q
  split at q
  · rename_i a b
    rw [r1.bl] at rx; rw [r2.bl] at ry
    cases (show v = Value.bool a from rx)
    cases (show u = Value.bool b from ry)
    refine wpAny_is_plain (by rfl) (fin_bl I (q.bl hf) ?_)
    cases a <;> cases b <;> rfl
  · exact q.elim
theorem or_isnotB : OpR X (compareOp .IsNot) (rD2 X.K (dIsB true)) := fun pins s σ H x y v u Q I rx ry ⟨F, d, e, hf, r1, r2, q⟩ => by
  unfold dIsB at q
  split at q
  · rename_i a b
    rw [r1.bl] at rx; rw [r2.bl] at ry
    cases (show v = Value.bool a from rx)
    cases (show u = Value.bool b from ry)
    refine wpAny_isNot_plain (by rfl) (fin_bl I (q.bl hf) ?_)
    cases a <;> cases b <;> rfl
  · exact q.elim
end
end DL

namespace DL
open PySem PySem.SeqAt
open AutoSeq1 (wpAny_loadPart')
open MeetsSeq MeetsSeq2 MeetsSeq3 SeqRoads2
/-! ### != of two lists whose items are equal one by one (by an own __eq__ too): False -/
section
variable {prog : Program} {w : World} {A : Around} {R : Result → Shared → Prop}
theorem ne_turns (l b : Addr) (N : Nat) (I : Nat → Shared → Prop) (hl : GQ.ListI prog w A (fun e s' => R (.error e) s') l b N I) (fin : ∀ s, I N s → R (.ok (.ret (.bool false))) s) :
    ∀ k i : Nat, N - i = k → i ≤ N → ∀ s, I i s → wpAny (model prog w) A.in1 (Builtin.«list.__eq__.loop» ⟨[.ref l, .ref b, rawInt i, rawInt 3], []⟩) (GQ.FinOf prog w A R) (fun e s' => R (.error e) s') s
  | 0, i, hk, hi, s, h => by
    obtain ⟨xs, ys, n, n2, hx, hy, sx, sy, _⟩ := hl _ _ h
    have eN : i = N := by omega
    have q : R (.ok (.ret (.bool false))) s := fin s (eN ▸ h)
    obtain ⟨hp, g, d, tk, os⟩ := s
    wp_walk using wpAny_loadPart' hx, wpAny_loadPart' hy
    have z1 : xs[((i : Nat) : Int).toNat]? = none := by simp; omega
    have z2 : ys[((i : Nat) : Int).toNat]? = none := by simp; omega
    rw [z1, z2]
    wp_walk using wpAny_loadPart' hx, wpAny_loadPart' hy
    show R (.ok (.ret (.bool (xs.size != ys.size)))) _
    rw [sx, sy]
    simpa using q
  | k + 1, i, hk, hi, s, h => by
    obtain ⟨xs, ys, n, n2, hx, hy, sx, sy, turn⟩ := hl _ _ h
    have l1 : i < xs.size := by omega
    have l2 : i < ys.size := by omega
    have ht := turn l1 l2
    obtain ⟨hp, g, d, tk, os⟩ := s
    wp_walk using wpAny_loadPart' hx, wpAny_loadPart' hy
    have z1 : xs[((i : Nat) : Int).toNat]? = some xs[i] := by simp [l1]
    have z2 : ys[((i : Nat) : Int).toNat]? = some ys[i] := by simp [l2]
    have nx : ((i : Int) + 1) = ((i + 1 : Nat) : Int) := by omega
    rw [z1, z2]
    refine wpAny_bind (wpAny_mono ht (fun r s2 q => ?_) fun _ _ x => x)
    obtain ⟨rfl, q⟩ := q
    have rc1 := ne_turns l b N I hl fin k (i + 1) (by omega) (by omega) s2 q
    obtain ⟨hp2, g2, d2, tk2, os2⟩ := s2
    wp_walk
    rw [nx]
    exact ⟨plainId_quiet plain_eq_loop _, codeAny_builtin entry_eq_loop (by
      rw [Around.under_plainId plain_eq_loop _]
      exact rc1)⟩
theorem list_neG (l b : Addr) (N : Nat) (I : Nat → Shared → Prop) (hl : GQ.ListI prog w A (fun e s' => R (.error e) s') l b N I) (fin : ∀ s, I N s → R (.ok (.ret (.bool false))) s) {s : Shared} (h : I 0 s) :
    wpAny (model prog w) A.in1 (Builtin.«list.__ne__» ⟨[.ref l, .ref b], []⟩) (GQ.FinOf prog w A R) (fun e s' => R (.error e) s') s := by
  obtain ⟨xs, ys, n, n2, hx, hy, sx, sy, _⟩ := hl _ _ h
  have rc1 := ne_turns (A := A) (R := R) l b N I hl fin _ 0 rfl (Nat.zero_le _) s h
  obtain ⟨hp, g, d, tk, os⟩ := s
  have sub := AutoSeq1.sub_list_list
  have eqz : ¬ (xs.size != ys.size) = true := by simp [sx, sy]
  wp_walk using wpAny_loadPart' hx, wpAny_loadPart' hy
  exact ⟨plainId_quiet plain_eq_loop _, codeAny_builtin entry_eq_loop (by
    rw [Around.under_plainId plain_eq_loop _]
    exact rc1)⟩
end
section
variable {prog : Program} {w : World} {A : Around} {E : Value → Shared → Prop} {s : Shared}
theorem rc_neG {l b : Addr} {N : Nat} {Q : Value → Shared → Prop} (hu : A.units < cLine) (I : Nat → Shared → Prop) (hl : GQ.ListI prog w A E l b N I) (fin : ∀ s, I N s → Q (.bool false) s) (h : I 0 s) :
    wpAny (model prog w) A (richCompare .NotEq (.ref l) (.ref b)) Q E s := by
  obtain ⟨xs, ys, n, n2, hx, hy, _, _, _⟩ := hl _ _ h
  refine wpAny_richCompare_same_room (op := .NotEq) ⟨_, hx, rfl⟩ ⟨_, hy, rfl⟩ F.slot_list_ne (GQ.call_here F.slot_list_ne ⟨_, hx, rfl⟩ F.entry_list_ne (F.args_list_ne_2 _ _) ?_) hu
  exact list_neG (R := wants (fun v s' => v ≠ .notImplemented ∧ Q v s') E) l b N I hl (fun s' q => ⟨(fun x => nomatch x), fin s' q⟩) h
end
end DL
namespace DL
open PySem PySem.Spec PyProof.Rows L2
/-! ### data that is equal to itself, instances with an own __eq__ within -/
inductive SelfOk (tbl : List (Addr × SpecD)) : Nat → D → Prop
  | non {n : Nat} : SelfOk tbl n .non
  | bl {n : Nat} {b : Bool} : SelfOk tbl n (.bl b)
  | int {n : Nat} {i : Int} : SelfOk tbl n (.int i)
  | str {n : Nat} {z : Str} : SelfOk tbl n (.str z)
  | tup {n : Nat} {ds : List D} : (∀ d ∈ ds, SelfOk tbl n d) → SelfOk tbl (n + 1) (.tup ds)
  | lst {n : Nat} {ds : List D} : (∀ d ∈ ds, SelfOk tbl n d) → SelfOk tbl (n + 1) (.lst ds)
  | ins {n : Nat} {C : Addr} {ns : List Str} {xs : List D} {sp : SpecD} : (C, sp) ∈ tbl → (∀ R : D → Prop, R (.bl true) → sp [.ins C ns xs, .ins C ns xs] R) → SelfOk tbl n (.ins C ns xs)
def DS (K : PySem.W.Frag) (d : D) : Eqv := fun x y H => Rep K H x d ∧ Rep K H y d
theorem mon_DS {K : PySem.W.Frag} {d : D} : Mon (DS K d) := fun x y H H' e q => ⟨q.1.mono e, q.2.mono e⟩
def DSs (K : PySem.W.Frag) (ds : List D) : Eqv := fun x y H => ∃ d ∈ ds, DS K d x y H
theorem mon_DSs {K : PySem.W.Frag} {ds : List D} : Mon (DSs K ds) := fun x y H H' e ⟨d, h, q⟩ => ⟨d, h, mon_DS x y H H' e q⟩
theorem prs_DSs {K : PySem.W.Frag} {H : Hp} {vs ws : List V} {ds : List D} (r : Reps K H vs ds) (r2 : Reps K H ws ds) : Prs (DSs K ds) vs ws H := by
  refine ⟨by rw [r.length, r2.length], fun i x y hx hy => ?_⟩
  have hi : i < ds.length := by rw [← r.length]; exact (List.getElem?_eq_some_iff.mp hx).1
  obtain ⟨v, ev, rv⟩ := r.get (List.getElem?_eq_getElem hi)
  obtain ⟨u, eu, ru⟩ := r2.get (List.getElem?_eq_getElem hi)
  rw [hx] at ev; rw [hy] at eu
  cases ev; cases eu
  exact ⟨_, List.getElem_mem hi, rv, ru⟩
theorem rep_insx {K : PySem.W.Frag} {H : Hp} {x : V} {C : Addr} {ns : List Str} {xs : List D} (r : Rep K H x (.ins C ns xs)) : ∃ a dx fs, x = .ref a ∧ H a = some (.ins C dx fs) := by
  cases r with | ins ik ha rs => exact ⟨_, _, _, rfl, ha⟩
theorem rep_lstx {K : PySem.W.Frag} {H : Hp} {x : V} {ds : List D} (r : Rep K H x (.lst ds)) : ∃ a vs, x = .ref a ∧ H a = some (.lst vs) ∧ Reps K H vs ds := by
  cases r with | lst h rs => exact ⟨_, _, rfl, h, rs⟩
theorem rep_tupx {K : PySem.W.Frag} {H : Hp} {x : V} {ds : List D} (r : Rep K H x (.tup ds)) : ∃ a vs, x = .ref a ∧ SqT K H a vs ∧ Reps K H vs ds := by
  cases r with | tup h rs => exact ⟨_, _, rfl, h, rs⟩
section
variable {X : Cx} {k : Nat} {tbl : List (Addr × SpecD)} {cs : List Addr}
theorem eqG_flatD {d : D} {v : V} (h : ∀ H x, Rep X.K H x d → x = v) (hf : flatV v = true) (he : eqV v v = true) : EqG X 0 (DS X.K d) := eqG_flat.imp fun x y H q => by
  rw [h H x q.1, h H y q.2]; exact ⟨hf, hf, he⟩
theorem DS_tup {ds : List D} : ∀ x y H, DS X.K (.tup ds) x y H → DTup X.K (DSs X.K ds) x y H := fun x y H q => by
  obtain ⟨a, vs, rfl, h1, r1⟩ := rep_tupx q.1
  obtain ⟨b, ws, rfl, h2, r2⟩ := rep_tupx q.2
  exact ⟨a, b, vs, ws, rfl, rfl, h1, h2, prs_DSs r1 r2⟩
theorem DS_lst {ds : List D} : ∀ x y H, DS X.K (.lst ds) x y H → DList (DSs X.K ds) x y H := fun x y H q => by
  obtain ⟨a, vs, rfl, h1, r1⟩ := rep_lstx q.1
  obtain ⟨b, ws, rfl, h2, r2⟩ := rep_lstx q.2
  exact ⟨a, b, vs, ws, rfl, rfl, h1, h2, prs_DSs r1 r2⟩
theorem eqG_all {n : Nat} {ds : List D} (h : ∀ d ∈ ds, EqG X n (DS X.K d)) : EqG X n (DSs X.K ds) := fun A pins s σ H x y u v sb I rx ry ⟨d, hd, q⟩ => h d hd A pins s σ H x y u v sb I rx ry q
theorem eqG_self (ht : ∀ c sp, (c, sp) ∈ tbl → CalE X.prog X.w X.K X.mg X.base k c cs sp) {n : Nat} {d : D} (h : SelfOk tbl n d) : EqG X (k + n) (DS X.K d) := by
  induction h with
  | non => exact (eqG_flatD (v := .non) (fun H x r => by cases r; rfl) rfl rfl).mono (Nat.zero_le _)
  | @bl n b => exact (eqG_flatD (v := .bl b) (fun H x r => by cases r; rfl) rfl (by cases b <;> rfl)).mono (Nat.zero_le _)
  | @int n i => exact (eqG_flatD (v := .int i) (fun H x r => by cases r; rfl) rfl (by simp [eqV])).mono (Nat.zero_le _)
  | @str n z => exact (eqG_flatD (v := .str z) (fun H x r => by cases r; rfl) rfl (by simp [eqV])).mono (Nat.zero_le _)
  | tup _ ih => exact (eqG_tup mon_DSs (eqG_all ih)).imp DS_tup
  | lst _ ih => exact (eqG_list mon_DSs (eqG_all ih)).imp DS_lst
  | @ins n C ns xs sp hin hsp =>
    have ce := ht _ _ hin
    have hm := ce.mono
    obtain ⟨f, fd, ps, hps, FN, hs, hfn, hb⟩ := ce.ex
    refine EqG.mono (n := k) (EqG.imp (D := DIns C fun a b H => Rep X.K H (.ref a) (.ins C ns xs) ∧ Rep X.K H (.ref b) (.ins C ns xs)) (eqG_ins (CX := CX0) (E := E0) (FN.imp fun vs H Q E q => ?_) hs hfn hb pass0) fun x y H q => ?_) (Nat.le_add_right _ _)
    · obtain ⟨a, b, rfl, ⟨r1, r2⟩, q⟩ := q
      refine ⟨rfl, H, _, Same.refl _, .cons r1 (.cons r2 .nil), hsp _ fun w F2 H2 x2 r => ?_⟩
      cases r
      exact q H2 x2.hH
    · obtain ⟨a, dx, fs, rfl, ha⟩ := rep_insx q.1
      obtain ⟨b, dy, gs, rfl, hb⟩ := rep_insx q.2
      exact ⟨a, b, dx, dy, fs, gs, rfl, rfl, ha, hb, q.1, q.2⟩
/-- == of lists and tuples: by data, or as the same data with instances within -/
def dEqS (tbl : List (Addr × SpecD)) : Op2 := fun d e Q => dEq d e Q ∨ (d = e ∧ (∃ ds, (d = .lst ds ∨ d = .tup ds) ∧ ∀ x ∈ ds, SelfOk tbl 4 x) ∧ Q (.bl true))
def dNeS (tbl : List (Addr × SpecD)) : Op2 := fun d e Q => dNe d e Q ∨ (d = e ∧ (∃ ds, d = .lst ds ∧ ∀ x ∈ ds, SelfOk tbl 4 x) ∧ Q (.bl false))
theorem dEqS_mono : Mono2 (dEqS tbl) := fun d e Q Q' i q => q.elim (fun q => .inl (dEq_mono _ _ _ _ i q)) fun q => .inr ⟨q.1, q.2.1, i _ q.2.2⟩
theorem dNeS_mono : Mono2 (dNeS tbl) := fun d e Q Q' i q => q.elim (fun q => .inl (dNe_mono _ _ _ _ i q)) fun q => .inr ⟨q.1, q.2.1, i _ q.2.2⟩
theorem or_eqS (ho : OpR X (compareOp .Eq) (rD2 X.K dEq)) (hr : Room (k + 5) X.A) (ht : ∀ c sp, (c, sp) ∈ tbl → CalE X.prog X.w X.K X.mg X.base k c cs sp) : OpR X (compareOp .Eq) (rD2 X.K (dEqS tbl)) := fun pins s σ H x y u v Q I rx ry ⟨F, d, e, hf, r1, r2, q⟩ => by
  rcases q with q | ⟨rfl, ⟨ds, hds, hx⟩, q⟩
  · exact ho pins s σ H x y u v Q I rx ry ⟨F, d, e, hf, r1, r2, q⟩
  · have q1 := r1.rep hf
    have q2 := r2.rep hf
    have fin : ∀ H', L2.Ext H H' → Q (.bl true) H' := fun H' ex => q (.bl true) F H' ⟨Same.refl _, ex, hf.trans ex, fun _ _ => rfl⟩ (.bl true)
    have ea := eqG_all (X := X) (n := k + 4) fun d hd => eqG_self ht (hx d hd)
    rcases hds with rfl | rfl
    · exact op_eqG (rcG_list mon_DSs ea) hr pins s σ H x y u v Q I rx ry ⟨DS_lst _ _ _ ⟨q1, q2⟩, fin⟩
    · exact op_eqG (rcG_tup mon_DSs ea) hr pins s σ H x y u v Q I rx ry ⟨DS_tup _ _ _ ⟨q1, q2⟩, fin⟩
theorem or_neS (ho : OpR X (compareOp .NotEq) (rD2 X.K dNe)) (hr : Room (k + 5) X.A) (ht : ∀ c sp, (c, sp) ∈ tbl → CalE X.prog X.w X.K X.mg X.base k c cs sp) : OpR X (compareOp .NotEq) (rD2 X.K (dNeS tbl)) := fun pins s σ H x y u v Q I rx ry ⟨F, d, e, hf, r1, r2, q⟩ => by
  rcases q with q | ⟨rfl, ⟨ds, rfl, hx⟩, q⟩
  · exact ho pins s σ H x y u v Q I rx ry ⟨F, d, e, hf, r1, r2, q⟩
  · have q1 := r1.rep hf
    have q2 := r2.rep hf
    have fin : ∀ H', L2.Ext H H' → Q (.bl false) H' := fun H' ex => q (.bl false) F H' ⟨Same.refl _, ex, hf.trans ex, fun _ _ => rfl⟩ (.bl false)
    have ea := eqG_all (X := X) (n := k + 4) fun d hd => eqG_self ht (hx d hd)
    obtain ⟨a, b, vs, ws, rfl, rfl, ha, hb, p⟩ := DS_lst _ _ _ ⟨q1, q2⟩
    cases rx
    cases ry
    have sb : Sub X (k + 4 + 1) X.A := ⟨hr, rfl⟩
    refine rc_neG (N := vs.length) hr.units0 (fun _ s' => LoopI X pins σ H s') (fun i s' q => ?_) (fun s' ⟨H', I', ex⟩ => ⟨.bl false, H', I', rfl, fin H' ex⟩) ⟨H, I, L2.Ext.rfl'⟩
    obtain ⟨H1, I1, e1⟩ := id q
    obtain ⟨z, its, k', rv, e⟩ := I1.hok a _ (e1 _ _ ha)
    obtain ⟨z2, its2, k2, rv2, e2⟩ := I1.hok b _ (e1 _ _ hb)
    refine ⟨its.toArray, its2.toArray, k', k2, e, e2, by rw [List.size_toArray, ← rv.length], by rw [List.size_toArray, ← rv2.length, ← p.1], fun h1 h2 => ?_⟩
    exact turnG mon_DSs ea sb p rv rv2 i h1 h2 s' q
end
/-! ### while -/
def sWhile (mt : RT) (body : RS) : RS := fun Z env => ∃ W : Nat → En → Prop, (∃ m, W m env) ∧ ∀ m e, W m e → mt e fun b e1 => if b = true then body { Z with nx := fun e' => ∃ m', m' < m ∧ W m' e', ct := fun e' => ∃ m', m' < m ∧ W m' e', bk := Z.nx } e1 else Z.nx e1
section
variable {X : Cx} {c : Expr} {body : List Stmt} {mt : RT} {mb : RS} {pos : Pos}
theorem ss_while (hp : PassesOwn (model X.prog X.w) X.A X.env X.xe) (hc : ET X c mt) (hb : SSs X body mb) : SS X (.While c body [] pos) (sWhile mt mb) where
  mono := fun D D' env l ⟨W, h0, h⟩ => ⟨W, h0, fun m e w => hc.mono _ _ _ (fun b e1 q => by
    cases b with
    | true => exact hb.mono { D with nx := fun e' => ∃ m', m' < m ∧ W m' e', ct := fun e' => ∃ m', m' < m ∧ W m' e', bk := D.nx } _ _ ⟨fun _ x => x, l.rt, l.nx, fun _ x => x⟩ q
    | false => exact l.nx _ q) (h m e w)⟩
  ps := fun G F0 => ⟨fun pins s σ H D I ⟨F, env, k, W, ⟨m0, w0⟩, h⟩ => (ps_while hp (hc.pe G F0) (hb.ps G F0)).run pins s σ H D I ⟨fun m σ H => ∃ F env, StOk X.K G F0 F H env σ ∧ W m env, ⟨m0, F, env, k, w0⟩, fun m σ1 H1 ⟨F1, env1, k1, w⟩ => ⟨F1, env1, k1, hc.mono _ _ _ (fun b e q F' H' a => by
    cases b with
    | true =>
      refine ⟨fun σ' H' => ∃ m', m' < m ∧ ∃ F env, StOk X.K G F0 F H' env σ' ∧ W m' env, fun σ' H' x => x, F', e, a.ok, hb.mono { liftD X.K G F0 D with nx := fun e' => ∃ m', m' < m ∧ W m' e', ct := fun e' => ∃ m', m' < m ∧ W m' e', bk := (liftD X.K G F0 D).nx } _ _ ⟨?_, fun _ x => x, fun _ x => x, ?_⟩ q⟩
      · exact fun e2 ⟨m', hm, w'⟩ σ2 F2 H2 k2 => ⟨m', hm, F2, e2, k2, w'⟩
      · exact fun e2 ⟨m', hm, w'⟩ σ2 F2 H2 k2 => ⟨m', hm, F2, e2, k2, w'⟩
    | false => exact q σ1 F' H' a.ok) (h m env1 w)⟩⟩⟩
end
end DL

namespace DL
open PySem PySem.Spec PyProof.Rows L2
/-! ### f(e, .., k = v, ..): a def with keyword-only parameters -/
/-- gd: positional values and keywords' values put in the parameters' order, the lacking ones filled up -/
structure CalK (P : Program) (w : World) (K : PySem.W.Frag) (mg : Str → Option Value) (base : PySem.Heap) (x : Str) (k n : Nat) (ks : List Str) (gd : List D → List D → List D) (spec : SpecD) : Prop where
  mono : MonoSp spec
  ex : ∃ (f : Addr) (fd : FuncData) (ps : List Str) (g : List Value → List Value → List Value) (gV : List V → List V → List V), FnOk P w K mg base CX0 k f fd ps (spD K ps.length spec) ∧ mg x = some (.ref f) ∧ PySem.W.keepIn K (.ref f) = true ∧ KBn K fd ps n ks g gV ∧
    ∀ (F : Hp) (vs zs : List V) (ds es : List D), vs.length = n → zs.length = ks.length → Reps K F vs ds → Reps K F zs es → (gV vs zs).length = ps.length ∧ Reps K F (gV vs zs) (gd ds es)
section
variable {X : Cx} {x : Str} {k n : Nat} {ks : List Str} {gd : List D → List D → List D} {spec : SpecD} {p pos : Pos} {e : Expr} {es : List Expr} {kws : List Keyword} {m mk : RN}
theorem ee_callK (cm : CalK X.prog X.w X.K X.mg X.base x k n ks gd spec) (hr : Room k X.A) (hg : Gl X x) (ha : EA X (e :: es) m) (hk : EK X kws mk) {kn : Nat} (hkn : ks.length = kn := by rfl)
    (hall : (backToKw pos (keywordEach kws X.env)).all (·.1.isSome) = true := by rfl) (hks : (backToKw pos (keywordEach kws X.env)).filterMap (·.1) = ks := by rfl) (hdb : (x == ("__debug__" : Str)) = false := by decide)
    (he : starEach (e :: es) X.env = (false, eval e X.env) :: starEach es X.env := by rfl) (hpl : ((backTo pos (starEach (e :: es) X.env)).any (·.1) || (backToKw pos (keywordEach kws X.env)).any (·.1.isNone)) = false := by rfl) : EE X (.Call (.Name x p) (e :: es) kws pos) (rMakeK spec gd n kn m mk) where
  mono := fun env Q Q' i q => ha.mono _ _ _ (fun ds e q => hk.mono _ _ _ (fun es e' q => ⟨q.1, q.2.1, cm.mono _ _ _ (fun d q => i _ _ q) q.2.2⟩) q) q
  pe := fun G F0 => by
    obtain ⟨f, fd, ps, g, gV, F, hm, hkp, hb, hgd⟩ := cm.ex
    refine PE_imp (pe_callN F hr hg hm hkp hb pass0 (ha.pe G F0) (hk.pk G F0) hall hks hdb he hpl) fun σ H Q ⟨F, env, k, q⟩ => ⟨F, env, k, ha.mono _ _ _ (fun ds e q vs F1 H1 a1 r1 => ?_) q⟩
    refine ⟨F1, e, a1.ok, hk.mono _ _ _ (fun es e' q zs F2 H2 a2 r2 => ?_) q⟩
    have l1 : vs.length = n := by rw [r1.length]; exact q.1
    have l2 : zs.length = ks.length := by rw [r2.length, hkn]; exact q.2.1
    obtain ⟨e1, r3⟩ := hgd F2 vs zs ds es l1 l2 (r1.mono a2.fF) r2
    exact ⟨l1, l2, e1, F2, _, a2.ok.fh, r3, cm.mono _ _ _ (fun d q v F' H' x' r' => q v F' H' ((a1.trans a2).ext x') r') q.2.2⟩
end
section
variable {P : Program} {w : World} {K : PySem.W.Frag} {mg : Str → Option Value} {base : PySem.Heap} {x xf qual : Str} {k n : Nat} {ks ps : List Str} {spec : SpecD} {f : Addr} {fd : FuncData} {params : Arguments} {body : List Stmt} {scope : Scope} {ms kws : List (Str × V)} {md : List D}
/-- all keywords given, in the parameters' order -/
theorem calK_mk (h1 : MonoSp spec) (hn : ps.length = n + ks.length) (h4 : FnOk P w K mg base CX0 k f fd ps (spD K ps.length spec)) (hm : mg x = some (.ref f)) (kp : PySem.W.keepIn K (.ref f) = true)
    (h7 : ∀ (s : Shared) (us ws : List Value), us.length = n → ws.length = ks.length → BindsTo s fd ⟨us, ks.zip ws⟩ (ps.zip (us ++ ws))) : CalK P w K mg base x k n ks (fun ds es => ds ++ es) spec where
  mono := h1
  ex := ⟨f, fd, ps, fun us ws => us ++ ws, fun vs zs => vs ++ zs, h4, hm, kp, ⟨fun s us ws _ l1 l2 => h7 s us ws l1 l2, fun r1 r2 => r1.append r2⟩, fun F vs zs ds es l1 l2 r1 r2 => ⟨by rw [List.length_append, l1, l2, hn], r1.append r2⟩⟩
/-- those ahead lack, their defaults stand in the dict Dk -/
theorem calK_mk0 (h1 : MonoSp spec) (hw : kws ≠ []) (hms : ∀ q ∈ ms, q ∈ kws) (hmd : ∀ F, Reps K F (ms.map (·.2)) md) (hn : ps.length = n + ms.length + ks.length) (h4 : FnOk P w K mg base CX0 k f fd ps (spD K ps.length spec)) (hm : mg x = some (.ref f)) (kp : PySem.W.keepIn K (.ref f) = true)
    (FD : FunD K xf qual params body scope [] kws f fd)
    (h7 : ∀ (D : Addr) (doc pm : Value) (an : Option Addr) (cdv ct : Value) (us mv ws : List Value), us.length = n → mv.length = ms.length → ws.length = ks.length →
      KwChain D ((ms.map (·.1)).zip mv) (bindArgs (PySem.W.fnOf xf qual params body scope .none (.ref D) doc pm an cdv ct) ⟨us, ks.zip ws⟩) (ps.zip (us ++ mv ++ ws))) : CalK P w K mg base x k n ks (fun ds es => ds ++ md ++ es) spec where
  mono := h1
  ex := by
    obtain ⟨mv, kb⟩ := FD.kbinds0 (ps := ps) n ks ms (fun us mv ws => us ++ mv ++ ws) hw hms (fun r1 r2 r3 => (r1.append r2).append r3) h7
    exact ⟨f, fd, ps, _, _, h4, hm, kp, kb, fun F vs zs ds es l1 l2 r1 r2 => ⟨by rw [List.length_append, List.length_append, l1, l2, List.length_map, hn], (r1.append (hmd F)).append r2⟩⟩
/-- the last ones lack -/
theorem calK_mk1 (h1 : MonoSp spec) (hw : kws ≠ []) (hms : ∀ q ∈ ms, q ∈ kws) (hmd : ∀ F, Reps K F (ms.map (·.2)) md) (hn : ps.length = n + ks.length + ms.length) (h4 : FnOk P w K mg base CX0 k f fd ps (spD K ps.length spec)) (hm : mg x = some (.ref f)) (kp : PySem.W.keepIn K (.ref f) = true)
    (FD : FunD K xf qual params body scope [] kws f fd)
    (h7 : ∀ (D : Addr) (doc pm : Value) (an : Option Addr) (cdv ct : Value) (us mv ws : List Value), us.length = n → mv.length = ms.length → ws.length = ks.length →
      KwChain D ((ms.map (·.1)).zip mv) (bindArgs (PySem.W.fnOf xf qual params body scope .none (.ref D) doc pm an cdv ct) ⟨us, ks.zip ws⟩) (ps.zip (us ++ ws ++ mv))) : CalK P w K mg base x k n ks (fun ds es => ds ++ es ++ md) spec where
  mono := h1
  ex := by
    obtain ⟨mv, kb⟩ := FD.kbinds0 (ps := ps) n ks ms (fun us mv ws => us ++ ws ++ mv) hw hms (fun r1 r2 r3 => (r1.append r3).append r2) h7
    exact ⟨f, fd, ps, _, _, h4, hm, kp, kb, fun F vs zs ds es l1 l2 r1 r2 => ⟨by rw [List.length_append, List.length_append, l1, l2, List.length_map, hn], (r1.append r2).append (hmd F)⟩⟩
end
end DL
namespace DL
open PySem PySem.Spec PyProof.Rows L2
/-- an empty tuple of the module -/
theorem tup_k {K : PySem.W.Frag} {F : Hp} {a : Addr} {od : Option Addr} {n : Nat} {os : Array (Option Value)} (h : K.lookup a = some ⟨.type "tuple", od, .seq #[] n, os⟩) : SqT K F a [] := .inr ⟨_, _, _, h, rfl, rfl, by show 0 ≤ _; omega, .nil⟩
end DL
namespace DL
open PySem PySem.Spec PyProof.Rows L2
/-! ### [x, ..] * k as a new list -/
def qRepN (d e : D) (Q : List D → Prop) : Prop := match d, e with
  | .lst xs, .int k => -(2 ^ 63) ≤ k ∧ k < 2 ^ 63 ∧ xs.length * k.toNat ≤ sizeLine ∧ Q (repD k.toNat xs)
  | _, _ => False
theorem qRepN_li {xs : List D} {k : Int} {Q : List D → Prop} : qRepN (.lst xs) (.int k) Q = (-(2 ^ 63) ≤ k ∧ k < 2 ^ 63 ∧ xs.length * k.toNat ≤ sizeLine ∧ Q (repD k.toNat xs)) := rfl
theorem qRepN_mono {d e : D} {Q Q' : List D → Prop} (i : ∀ x, Q x → Q' x) (q : qRepN d e Q) : qRepN d e Q' := by
  unfold qRepN at q ⊢
  split at q
  · exact ⟨q.1, q.2.1, q.2.2.1, i _ q.2.2.2⟩
  · exact q
def rRepN (ma mb : RE) : RN := fun env Q => ma env fun d e1 => mb e1 fun e e2 => qRepN d e fun xs => Q xs e2
section
variable {X : Cx} {a b : Expr} {ma mb : RE} {pos : Pos}
theorem en_rep (ha : EB X a ma) (hb : EB X b mb) : EN X (.BinOp a .Mult b pos) (rRepN ma mb) where
  mono := fun env Q Q' i q => ha.mono _ _ _ (fun d e1 q => hb.mono _ _ _ (fun e e2 q => qRepN_mono (fun x q => i _ _ q) q) q) q
  pe := fun G F0 => PE_imp (pe_op op_rep (ha.pe G F0) (hb.pe G F0)) fun σ H Q ⟨F, env, k, q⟩ => by
    refine ⟨F, env, k, ha.mono _ _ _ (fun x e1 q v1 F1 H1 a1 r1 => ?_) q⟩
    refine ⟨F1, e1, a1.ok, hb.mono _ _ _ (fun y e2 q v2 F2 H2 a2 r2 => ?_) q⟩
    have r3 := r1.ext a2.fF a2.hH
    unfold qRepN at q
    split at q
    · obtain ⟨p0, vs, rfl, h1, p1⟩ := r3.lst a2.ok.fh
      have e2 := r2.int
      subst e2
      obtain ⟨h2, h3, h4, q⟩ := q
      exact ⟨p0, _, vs, rfl, rfl, h1, h2, h3, by rw [p1.length]; exact h4, fun p hp => by
        obtain ⟨a3, hF, hG, no⟩ := af_new (vs := (List.replicate _ vs).flatten) (a1.trans a2) hp
        exact q p _ F2 _ a3 upd_same hF hG no (p1.rep _)⟩
    · exact q.elim
end
end DL

namespace DL
open PySem PySem.Spec PyProof.Rows L2
/-! ### zip of a list and a tuple -/
theorem sep_of {z TI TO i1 i2 a b : Addr} (D : ZipApart z TI TO i1 i2 a b) : ZipSep2 z TI TO i1 i2 [i1, a] [i2, b] where
  TIz := D.TIz
  TOz := D.TOz
  TITO := D.TITO
  TIi1 := D.TIi1
  mem1 := by simp
  zf1 := by simp [D.i1z.symm, D.l1z.symm]
  Tf1 := by simp [D.TOi1, D.l1TO.symm]
  TIi2 := D.TIi2
  mem2 := by simp
  zf2 := by simp [D.i2z.symm, D.l2z.symm]
  Tf2 := by simp [D.TOi2, D.l2TO.symm]
  sep1_2 := by simp [D.i12, D.l2i1.symm]
  sep2_1 := by simp [D.i12.symm, D.l1i2.symm]
/-- a draw that is at its end, or the whole one -/
theorem draws_l {prog : Program} {w : World} {A : Around} (hh : A.handled = none) {it l : Addr} {i : Nat} {items : Array Value} {h : Heap} (hit : h.IsListIter it l i) (hl : h.IsList l items) (hne : l ≠ it) :
    ∃ (n : Nat) (P : Nat → Value → Prop) (St : Nat → Heap → Prop), Draws prog w A it [it, l] n P St ∧ St i h ∧ i ≤ n ∧ (items.size ≤ i → n = i) := by
  by_cases c : items.size ≤ i
  · refine ⟨i, fun _ _ => True, fun k h => k = i ∧ h.IsListIter it l i ∧ h.IsList l items, ?_, ⟨rfl, hit, hl⟩, Nat.le_refl _, fun _ => rfl⟩
    exact { live := fun _ _ st => let ⟨_, ⟨o, ho, _⟩, _⟩ := st; ⟨o, ho⟩
            frame := fun _ _ _ st hk => ⟨st.1, st.2.1.at fun o e => hk it (by simp) o e, st.2.2.at fun o e => hk l (by simp) o e⟩
            item := fun j s Q E hj st hQ => absurd hj (by rw [st.1]; exact Nat.lt_irrefl _)
            done := fun s Q E st hE => wpAny_nextOf_list_end hh st.2.1 st.2.2 (Array.getElem?_eq_none c) hE }
  · exact ⟨_, _, _, Draws.list hh it l hne items, ⟨hit, hl⟩, by omega, fun q => absurd q c⟩
theorem draws_t {prog : Program} {w : World} {A : Around} (hh : A.handled = none) {it l : Addr} {i : Nat} {items : Array Value} {h : Heap} (hit : h.IsTupleIter it l i) (hl : h.IsTuple l items) (hne : l ≠ it) :
    ∃ (n : Nat) (P : Nat → Value → Prop) (St : Nat → Heap → Prop), Draws prog w A it [it, l] n P St ∧ St i h ∧ i ≤ n ∧ (items.size ≤ i → n = i) := by
  by_cases c : items.size ≤ i
  · refine ⟨i, fun _ _ => True, fun k h => k = i ∧ h.IsTupleIter it l i ∧ h.IsTuple l items, ?_, ⟨rfl, hit, hl⟩, Nat.le_refl _, fun _ => rfl⟩
    exact { live := fun _ _ st => let ⟨_, ⟨o, ho, _⟩, _⟩ := st; ⟨o, ho⟩
            frame := fun _ _ _ st hk => ⟨st.1, st.2.1.at fun o e => hk it (by simp) o e, st.2.2.at fun o e => hk l (by simp) o e⟩
            item := fun j s Q E hj st hQ => absurd hj (by rw [st.1]; exact Nat.lt_irrefl _)
            done := fun s Q E st hE => RZ.nextOf_tuple_end hh st.2.1 st.2.2 (Array.getElem?_eq_none c) hE }
  · exact ⟨_, _, _, Draws.tupleX hh it l hne items, ⟨hit, hl⟩, by omega, fun q => absurd q c⟩
/-- the list at a and the tuple at b, in new pairs -/
def ItzM (K : PySem.W.Frag) (a b : Addr) : It :=
  ⟨fun i H => ∃ (vs ws : List V) (v w : V), SqL K H a vs ∧ SqT K H b ws ∧ vs[i]? = some v ∧ ws[i]? = some w,
    fun i H u H' => ∃ T v w, u = .ref T ∧ H T = none ∧ H' = upd H T (.tup [v, w]) ∧ (∀ vs, SqL K H a vs → vs[i]? = some v) ∧ ∀ ws, SqT K H b ws → ws[i]? = some w,
    fun i H => ∃ vs ws : List V, SqL K H a vs ∧ SqT K H b ws ∧ (vs.length ≤ i ∨ ws.length ≤ i)⟩
theorem turn_zipM {P : Program} {w : World} {K : PySem.W.Frag} {elts : List Expr} {kk : Nat} {tpos : Pos} {a b z TI TO i1 i2 : Addr} (D : ZipApart z TI TO i1 i2 a b) :
    Turn P w K (.Tuple elts kk tpos) (ItzM K a b) [z, TI, TO, i1, i2] z (fun i h => IsZip h z TI TO .none ∧ IsTupOf2 h TI (.ref i1) (.ref i2) ∧ (∃ v u, IsTupOf2 h TO v u) ∧ h.IsListIter i1 a i ∧ h.IsTupleIter i2 b i) where
  mem := by simp
  obj := fun i h st c hc => by
    obtain ⟨gz, gI, ⟨v, u, gO⟩, ⟨o1, e1, _, d1⟩, ⟨o2, e2, _, d2⟩⟩ := st
    rcases (show c = z ∨ c = TI ∨ c = TO ∨ c = i1 ∨ c = i2 by simpa using hc) with q | q | q | q | q
    · rw [q]; exact ⟨_, gz, fun v q => nomatch q⟩
    · rw [q]; exact ⟨_, gI, fun v q => nomatch q⟩
    · rw [q]; exact ⟨_, gO, fun v q => nomatch q⟩
    · rw [q]; exact ⟨o1, e1, fun v q => by rw [d1] at q; cases q⟩
    · rw [q]; exact ⟨o2, e2, fun v q => by rw [d2] at q; cases q⟩
  keep := fun i h h' st k => by
    obtain ⟨gz, gI, ⟨v, u, gO⟩, g1, g2⟩ := st
    exact ⟨k z (by simp) _ gz, k TI (by simp) _ gI, ⟨v, u, k TO (by simp) _ gO⟩, g1.at fun o q => k i1 (by simp) o q, g2.at fun o q => k i2 (by simp) o q⟩
  item := by
    intro X hP hw hK hc i pins s σ H E I hf st hg
    subst hP hw hK
    obtain ⟨gz, gI, ⟨v0, u0, gO⟩, g1, g2⟩ := st
    obtain ⟨vs, ws, v, w, hqx, hqy, hx, hy⟩ := hg
    obtain ⟨its, rv, p, _⟩ := I.list hqx
    obtain ⟨its2, rv2, p2, _⟩ := I.tuple hqy
    obtain ⟨u, hu, ru⟩ := rv.get hx
    obtain ⟨u2, hu2, ru2⟩ := rv2.get hy
    have hzl : z < s.heap.objs.size := Heap.lt_size gz
    have tb : s.heap.IsTuple b its2.toArray := p2
    have lt1 : i < its.toArray.size := by
      have : its.toArray[i]? = some u := by simpa using hu
      exact (Array.getElem?_eq_some_iff.mp this).1
    have lt2 : i < its2.toArray.size := by
      have : its2.toArray[i]? = some u2 := by simpa using hu2
      exact (Array.getElem?_eq_some_iff.mp this).1
    have hhd : X.A.in1.handled = none := I.ok.hd hc
    refine wpAny_pyNext_zipD2_item (sep_of D) (Draws.list (prog := X.prog) (w := X.w) (A := X.A.in1) hhd i1 a D.l1i1 its.toArray) (Draws.tupleX (prog := X.prog) (w := X.w) (A := X.A.in1) hhd i2 b D.l2i2 its2.toArray) gz gI gO ⟨g1, p.isList⟩ ⟨g2, tb⟩ lt1 lt2 fun x1 x2 h' tk y1 y2 z' TO' s1' s2' hT hsz hk => ?_
    have e1 : x1 = u := by
      have q : its.toArray[i]? = some u := by simpa using hu
      exact Option.some.inj (y1.symm.trans q)
    have e2 : x2 = u2 := by
      have q : its2.toArray[i]? = some u2 := by simpa using hu2
      exact Option.some.inj (y2.symm.trans q)
    subst e1 e2
    refine ⟨_, rfl, wpAny_letOwnedTupleGo_zip (s := { s with heap := h', toks := tk }) z' fun h'' z'' sb => ?_⟩
    have hT2 : h''.get? s.heap.objs.size = some { cls := .type "tuple", data := .seq #[x1, x2] } := (sb.2 _ (Nat.ne_of_gt hzl)).trans hT
    have new : ObjOk X.prog X.w (upd H s.heap.objs.size (.tup [v, w])) h'' s.heap.objs.size (.tup [v, w]) :=
      ⟨by show 2 ≤ sizeLine; decide, [x1, x2], .cons ru (.cons ru2 .nil), ⟨_, hT2, rfl, _, rfl⟩⟩
    have I1 : Inv X pins σ (upd H s.heap.objs.size (.tup [v, w])) { s with heap := h'', toks := tk } :=
      I.turnedNew (ch := [z, TI, TO, i1, i2]) (fun c o nb q => (sb.2 c (fun q' => nb (by simp [q']))).trans (hk c o (fun q' => nb (by simp [q'])) (fun q' => nb (by simp [q'])) (fun q' => nb (by simp [q'])) (fun q' => nb (by simp [q'])) q)) hf (Nat.le_refl _) new
    refine ⟨.ref s.heap.objs.size, _, I1, rfl, ⟨_, v, w, rfl, I.hok.fresh (Nat.le_refl _), rfl, fun l hl => by rw [I.list_inj hl hqx]; exact hx, fun l hl => by rw [I.tuple_inj hl hqy]; exact hy⟩, ⟨z'', ?_, ⟨x1, x2, ?_⟩, ?_, ?_⟩, fun c hcm => ?_⟩
    · exact (sb.2 _ D.TIz).trans (hk _ _ D.TIz D.TITO D.TIi1 D.TIi2 gI)
    · exact (sb.2 _ D.TOz).trans TO'
    · exact s1'.1.at fun o q => (sb.2 _ D.i1z).trans q
    · exact s2'.1.at fun o q => (sb.2 _ D.i2z).trans q
    · have hlt : c < s.heap.objs.size := by
        rcases (show c = z ∨ c = TI ∨ c = TO ∨ c = i1 ∨ c = i2 by simpa using hcm) with q | q | q | q | q
        · rw [q]; exact hzl
        · rw [q]; exact Heap.lt_size gI
        · rw [q]; exact Heap.lt_size gO
        · rw [q]; obtain ⟨_, e1, _⟩ := g1; exact Heap.lt_size e1
        · rw [q]; obtain ⟨_, e2, _⟩ := g2; exact Heap.lt_size e2
      rw [upd_ne (Nat.ne_of_lt hlt)]
      exact (hf c hcm).1
  done := by
    intro X hP hw hK hc i pins s σ H E I hf st hg
    subst hP hw hK
    obtain ⟨gz, gI, ⟨v0, u0, gO⟩, g1, g2⟩ := st
    obtain ⟨vs, ws, hqx, hqy, hend⟩ := hg
    obtain ⟨its, rv, p, _⟩ := I.list hqx
    obtain ⟨its2, rv2, p2, _⟩ := I.tuple hqy
    have tb : s.heap.IsTuple b its2.toArray := p2
    have n1 := rv.length
    have n2 := rv2.length
    have hhd : X.A.in1.handled = none := I.ok.hd hc
    obtain ⟨m1, P1, S1, D1, a1, b1, c1⟩ := draws_l (prog := X.prog) (w := X.w) (A := X.A.in1) hhd g1 p.isList D.l1i1
    obtain ⟨m2, P2, S2, D2, a2, b2, c2⟩ := draws_t (prog := X.prog) (w := X.w) (A := X.A.in1) hhd g2 tb D.l2i2
    refine wpAny_pyNext_zipD2_end (sep_of D) D1 D2 gz gI gO a1 a2 b1 b2 (hend.imp (fun q => (c1 (by simp; omega)).symm) fun q => (c2 (by simp; omega)).symm) fun h' tk hk => ⟨rfl, ?_⟩
    exact I.turnedL (t' := tk) (ch := [z, TI, TO, i1, i2]) (fun c o nb q => hk c o (fun q' => nb (by simp [q'])) (fun q' => nb (by simp [q'])) (fun q' => nb (by simp [q'])) (fun q' => nb (by simp [q'])) q) hf
  self := fun A i s Q E st h => wpAny_pyIter_zip st.1 h
def iZipB (K : PySem.W.Frag) (ta : TA) : TI := fun σ H R => ta σ H fun vs H1 => ∃ a b xs ys, vs = [.ref a, .ref b] ∧ ((SqL K H1 a xs ∧ SqL K H1 b ys ∧ R (Itz K a b) H1) ∨ (SqT K H1 a xs ∧ SqT K H1 b ys ∧ R (RZ.ItzT K a b) H1) ∨ (SqL K H1 a xs ∧ SqT K H1 b ys ∧ R (ItzM K a b) H1))
theorem pi_zipB {X : Cx} {e e2 : Expr} {ta : TA} {p pos tpos : Pos} {elts : List Expr} {kk : Nat} (hg : Gl X "zip") (hm : X.mg "zip" = none) (ha : PA X [e, e2] ta)
    (hs : starEach [e, e2] X.env = (false, eval e X.env) :: starEach [e2] X.env := by rfl) (hpl : (backTo pos (starEach [e2] X.env)).any (·.1) = false := by rfl) :
    PI X (.Tuple elts kk tpos) (.Call (.Name "zip" p) [e, e2] [] pos) (iZipB X.K ta) := by
  refine ⟨fun pins s σ H R I h => ?_⟩
  refine Call_ (ld_blt I hg hm PyProof.Rows.boot_zip (PyProof.Rows.callWith_type1 (thn (ha.run pos pins s σ H _ I h) fun us s1 ⟨vs, H1, I1, r1, q1⟩ => ?_) hs hpl))
  obtain ⟨a, b, xs, ys, ex, q1⟩ := q1
  subst ex
  obtain ⟨rfl⟩ : us = [.ref a, .ref b] := by
    cases r1 with | cons r rr => cases rr with | cons r' rr => cases rr; cases r; cases r'; rfl
  have fr : ∀ c, c ∈ [s1.heap.objs.size + 4, s1.heap.objs.size + 2, s1.heap.objs.size + 3, s1.heap.objs.size, s1.heap.objs.size + 1] → FpOk X pins H1 c := fun c hcm => by
    have hle : s1.heap.objs.size ≤ c := by
      rcases (show c = s1.heap.objs.size + 4 ∨ c = s1.heap.objs.size + 2 ∨ c = s1.heap.objs.size + 3 ∨ c = s1.heap.objs.size ∨ c = s1.heap.objs.size + 1 by simpa using hcm) with z | z | z | z | z <;> rw [z]
      · exact Nat.le_add_right _ _
      · exact Nat.le_add_right _ _
      · exact Nat.le_add_right _ _
      · exact Nat.le_refl _
      · exact Nat.le_add_right _ _
    exact I1.fpOk hle (I1.hok.fresh hle)
  rcases q1 with ⟨hqx, hqy, q⟩ | ⟨hqx, hqy, q⟩ | ⟨hqx, hqy, q⟩
  · obtain ⟨its, rv, p1, _⟩ := I1.list hqx
    obtain ⟨its2, rv2, p2, _⟩ := I1.list hqy
    refine call_zip_2 p1.isList p2.isList fun h' hz hTI hTO h1 h2 hsz hk => wpAny_pyIter_zip hz ?_
    have I2 : Inv X pins σ H1 { s1 with heap := h' } := I1.kept (t' := s1.toks) hk
    exact ⟨s1.heap.objs.size + 4, [s1.heap.objs.size + 4, s1.heap.objs.size + 2, s1.heap.objs.size + 3, s1.heap.objs.size, s1.heap.objs.size + 1], _, _, H1, rfl, I2, turn_zip (PySem.W.ktu_apart s1.heap.objs.size a b p1.lt p2.lt), ⟨hz, hTI, ⟨_, _, hTO⟩, h1, h2⟩, fr, q⟩
  · obtain ⟨its, rv, p1, _⟩ := I1.tuple hqx
    obtain ⟨its2, rv2, p2, _⟩ := I1.tuple hqy
    obtain ⟨o1, ho1, _⟩ := id p1
    obtain ⟨o2, ho2, _⟩ := id p2
    refine RZ.call_zipT (show s1.heap.IsTuple a its.toArray from p1) (show s1.heap.IsTuple b its2.toArray from p2) fun h' hz hTI hTO h1 h2 hsz hk => wpAny_pyIter_zip hz ?_
    have I2 : Inv X pins σ H1 { s1 with heap := h' } := I1.kept (t' := s1.toks) hk
    exact ⟨s1.heap.objs.size + 4, [s1.heap.objs.size + 4, s1.heap.objs.size + 2, s1.heap.objs.size + 3, s1.heap.objs.size, s1.heap.objs.size + 1], _, _, H1, rfl, I2, RZ.turn_zipT (PySem.W.ktu_apart s1.heap.objs.size a b (Heap.lt_size ho1) (Heap.lt_size ho2)), ⟨hz, hTI, ⟨_, _, hTO⟩, h1, h2⟩, fr, q⟩
  · obtain ⟨its, rv, p1, _⟩ := I1.list hqx
    obtain ⟨its2, rv2, p2, _⟩ := I1.tuple hqy
    obtain ⟨o2, ho2, _⟩ := id p2
    refine zip_begins2 (begins_list a its.toArray) (begins_tuple b its2.toArray) p1.isList (show s1.heap.IsTuple b its2.toArray from p2) fun h' hz hTI hTO h1 h2 hsz hk => wpAny_pyIter_zip hz ?_
    have I2 : Inv X pins σ H1 { s1 with heap := h' } := I1.kept (t' := s1.toks) hk
    exact ⟨s1.heap.objs.size + 4, [s1.heap.objs.size + 4, s1.heap.objs.size + 2, s1.heap.objs.size + 3, s1.heap.objs.size, s1.heap.objs.size + 1], _, _, H1, rfl, I2, turn_zipM (PySem.W.ktu_apart s1.heap.objs.size a b p1.lt (Heap.lt_size ho2)), ⟨hz, hTI, ⟨_, _, hTO⟩, ⟨_, h1, rfl, rfl⟩, ⟨_, h2, rfl, rfl⟩⟩, fr, q⟩
section
variable {K : PySem.W.Frag} {G F0 F F' H H' : Hp} {env : En} {σ : L2.St}
theorem ItOk.zipLT {a b : Addr} {vs ws : List V} {ds es : List D} (h : SqL K F a vs) (h' : SqT K F b ws) (r : Reps K F vs ds) (r' : Reps K F ws es) : ItOk K F (ItzM K a b) (zipD ds es) := fun i F1 H1 s1 s2 => by
  have h1 : SqL K H1 a vs := (s1.trans s2).seq h
  have h2 : SqT K H1 b ws := SqT_mono (s1.trans s2) h'
  rw [zipD_get]
  refine ⟨fun d e => ?_, fun e => ?_⟩
  · obtain ⟨d', e', e⟩ := Option.bind_eq_some_iff.mp e
    obtain ⟨d2, e2, rfl⟩ := Option.map_eq_some_iff.mp e
    obtain ⟨v, ev, rv⟩ := r.get e'
    obtain ⟨w, ew, rw'⟩ := r'.get e2
    refine ⟨⟨vs, ws, v, w, h1, h2, ev, ew⟩, fun x H2 y => ?_⟩
    obtain ⟨T, x', y', rfl, hT, rfl, y1, y2⟩ := y
    have q1 := (y1 vs h1).symm.trans ev
    have q2 := (y2 ws h2).symm.trans ew
    cases q1; cases q2
    exact pair_new s2 hT (rv.mono s1) (rw'.mono s1)
  · refine ⟨vs, ws, h1, h2, ?_⟩
    rw [r.length, r'.length]
    cases e1 : ds[i]? with
    | none => exact .inl (List.getElem?_eq_none_iff.mp e1)
    | some d =>
      rw [e1] at e
      exact .inr (List.getElem?_eq_none_iff.mp (Option.map_eq_none_iff.mp e))
end
section
variable {X : Cx} {a b : Expr} {m : RN} {p pos tpos : Pos} {elts : List Expr} {kk : Nat}
/-- two lists, two tuples, a list and a tuple -/
def qZipA : List D → (List D → Prop) → Prop := fun ds Q => match ds with
  | [.lst xs, .lst ys] => Q (zipD xs ys)
  | [.tup xs, .tup ys] => Q (zipD xs ys)
  | [.lst xs, .tup ys] => Q (zipD xs ys)
  | _ => False
theorem qZipA_ll {xs ys : List D} {Q : List D → Prop} : qZipA [.lst xs, .lst ys] Q = Q (zipD xs ys) := rfl
theorem qZipA_tt {xs ys : List D} {Q : List D → Prop} : qZipA [.tup xs, .tup ys] Q = Q (zipD xs ys) := rfl
theorem qZipA_lt {xs ys : List D} {Q : List D → Prop} : qZipA [.lst xs, .tup ys] Q = Q (zipD xs ys) := rfl
theorem qZipA_mono {ds : List D} {Q Q' : List D → Prop} (i : ∀ x, Q x → Q' x) (q : qZipA ds Q) : qZipA ds Q' := by
  unfold qZipA at q ⊢; split at q <;> first | exact i _ q | exact q
def iZipX (m : RN) : RN := fun env Q => m env fun ds e => qZipA ds fun xs => Q xs e
theorem ei_zipA (hg : Gl X "zip") (hm : X.mg "zip" = none) (ha : EA X [a, b] m) (hs : starEach [a, b] X.env = (false, eval a X.env) :: starEach [b] X.env := by rfl) (hpl : (backTo pos (starEach [b] X.env)).any (·.1) = false := by rfl) :
    EI X (.Tuple elts kk tpos) (.Call (.Name "zip" p) [a, b] [] pos) (iZipX m) where
  mono := fun env Q Q' i q => ha.mono _ _ _ (fun ds e q => qZipA_mono (fun x q => i _ _ q) q) q
  pi := fun G F0 => PI_imp (pi_zipB hg hm (ha.pe G F0) hs hpl) fun σ H R ⟨F, env, k, q⟩ => ⟨F, env, k, ha.mono _ _ _ (fun ds e q vs F' H' a r => by
    revert q; unfold qZipA; split <;> intro q
    · cases r with | cons r t => cases t with | cons r' t => cases t; cases r with | lst h rs => cases r' with | lst h' rs' => exact ⟨_, _, _, _, rfl, .inl ⟨.of (a.ok.fh _ _ h), .of (a.ok.fh _ _ h'), q _ F' H' a (ItOk.zipLL (.of h) (.of h') rs rs')⟩⟩
    · cases r with | cons r t => cases t with | cons r' t => cases t; cases r with | tup h rs => cases r' with | tup h' rs' => exact ⟨_, _, _, _, rfl, .inr (.inl ⟨SqT_mono a.ok.fh h, SqT_mono a.ok.fh h', q _ F' H' a (ItOk.zipTT h h' rs rs')⟩)⟩
    · cases r with | cons r t => cases t with | cons r' t => cases t; cases r with | lst h rs => cases r' with | tup h' rs' => exact ⟨_, _, _, _, rfl, .inr (.inr ⟨.of (a.ok.fh _ _ h), SqT_mono a.ok.fh h', q _ F' H' a (ItOk.zipLT (.of h) h' rs rs')⟩)⟩
    · exact q.elim) q⟩
end
end DL

namespace L2
open PySem PySem.Spec PyProof.Rows
/-! ### C(.., k = v, ..) of an __init__ that may raise: the slots count -/
def tMakeS (C : Addr) (n m : Nat) (sp : Sp) (gV : List V → List V → List V) (E : St → XK) (t tk : TA) : TE := fun σ H Q => t σ H fun vs H1 => tk σ H1 fun zs H2 => vs.length = n ∧ zs.length = m ∧ ∀ x dx, H2 x = none → H2 dx = none → dx ≠ x →
  sp (gV (.ref x :: vs) zs) (upd (upd H2 dx (.own x)) x (.ins C dx [])) (fun v H3 => v = .non ∧ Q (.ref x) H3) (E σ)
section
variable {X : Cx} {CX : CXT} {k n : Nat} {f C : Addr} {fd : FuncData} {ps ks : List Str} {sp : Sp} {E : St → XK} {x : Str} {p pos : Pos} {e : Expr} {es : List Expr} {kws : List Keyword} {t tk : TA} {g : List Value → List Value → List Value} {gV : List V → List V → List V}
theorem run_makeS {pins : List (Addr × Obj)} {σ : St} {H : Hp} {s : Shared} {Q : VK} {us ws : List Value} {vs zs : List V} (M : Mk X.K C f) (F : FnOk X.prog X.w X.K X.mg X.base CX k f fd ps sp) (hr : Room (k + 1) X.A) (hb : KBn X.K fd ps (n + 1) ks g gV) (hx : PassesAt CX X σ (E σ))
    (I : Inv X pins σ H s) (r : Vals vs us) (rz : Vals zs ws) (l1 : vs.length = n) (l2 : zs.length = ks.length)
    (h : ∀ x dx, H x = none → H dx = none → dx ≠ x → sp (gV (.ref x :: vs) zs) (upd (upd H dx (.own x)) x (.ins C dx [])) (fun v H2 => v = .non ∧ Q (.ref x) H2) (E σ)) :
    wpAny (model X.prog X.w) X.A (call (.ref C) us (ks.zip ws)) (EP X pins σ Q) X.xe s := by
  have q0 := h (s.heap.objs.size + 1) s.heap.objs.size (I.hok.fresh (Nat.le_succ _)) (I.hok.fresh (Nat.le_refl _)) (Nat.ne_of_lt (Nat.lt_succ_self _))
  have J := Inv.made (C := C) I
  have rv : Vals (V.ref (s.heap.objs.size + 1) :: vs) (Value.ref (s.heap.objs.size + 1) :: us) := .cons rfl r
  have rg := hb.rel rv rz
  have nl : (Value.ref (s.heap.objs.size + 1) :: us).length = n + 1 := by
    rw [List.length_cons, ← r.length, l1]
  refine wpAny_call (make_map (f := f) I.kIn M.makes M.init (beq_iff_eq.mp M.fn) (codeAny_mono (F.run _ X.stack _ _ ⟨Value.ref (s.heap.objs.size + 1) :: us, ks.zip ws⟩ (g (Value.ref (s.heap.objs.size + 1) :: us) ws) _ _ (E σ) (hr.make C us (ks.zip ws))
    (J.env0.make C us (ks.zip ws)) (hb.to _ (Value.ref (s.heap.objs.size + 1) :: us) ws J.kIn nl (rz.length.symm.trans l2)) rg q0) fun r s' hq' => ?_))
  cases r with
  | error e => exact hx pins _ _ e s' J hq'
  | ok fl =>
    cases fl with
    | ret u =>
      obtain ⟨v, H', I3, rw1, ev, q3⟩ := J.after hq'
      subst ev
      exact ⟨rw1, ⟨V.ref (s.heap.objs.size + 1), H', I3, rfl, q3⟩⟩
    | next => exact False.elim hq'
    | brk => exact False.elim hq'
    | cont => exact False.elim hq'
theorem pe_makeS (M : Mk X.K C f) (F : FnOk X.prog X.w X.K X.mg X.base CX k f fd ps sp) (hr : Room (k + 1) X.A) (hg : Gl X x) (hm : X.mg x = some (.ref C)) (hb : KBn X.K fd ps (n + 1) ks g gV) (hx : ∀ σ, PassesAt CX X σ (E σ)) (ha : PA X (e :: es) t) (hkw : PK X kws tk)
    (hall : (backToKw pos (keywordEach kws X.env)).all (·.1.isSome) = true := by rfl) (hks : (backToKw pos (keywordEach kws X.env)).filterMap (·.1) = ks := by rfl) (hdb : (x == ("__debug__" : Str)) = false := by decide)
    (he : starEach (e :: es) X.env = (false, eval e X.env) :: starEach es X.env := by rfl) (hpl : ((backTo pos (starEach (e :: es) X.env)).any (·.1) || (backToKw pos (keywordEach kws X.env)).any (·.1.isNone)) = false := by rfl) :
    PE X (.Call (.Name x p) (e :: es) kws pos) (tMakeS C n ks.length sp gV E t tk) := by
  refine ⟨fun pins s σ H Q I h => ?_⟩
  refine wpAny_Call_Name_kw (ld_glob I hg hm ?_ hdb)
  refine PySem.W.callWith_KW (h₀ := X.base) I.ok.mod.kin M.kp hall (thn (ha.run pos pins s σ H _ I h) fun us s1 ⟨vs, H1, I1, r, q⟩ => ?_) hpl he
  refine thn (hkw.run pos pins s1 σ H1 _ I1 q) fun ws s2 ⟨zs, H2, I2, rz, l1, l2, q2⟩ => ⟨I2.kIn, ?_⟩
  rw [hks]
  exact run_makeS M F hr hb (hx σ) I2 r rz l1 l2 q2
end
end L2
namespace DL
open PySem PySem.Spec PyProof.Rows L2
/-- C(..): C's __init__ may raise -/
structure CalMX (P : Program) (w : World) (K : PySem.W.Frag) (mg : Str → Option Value) (base : PySem.Heap) (x : Str) (k : Nat) (c : Addr) (fs : List Str) (n : Nat) (ks : List Str) (gd : List D → List D → List D) (spec : SpecX) : Prop where
  mono : MonoX spec
  ins : InsK K c fs
  hi : ∀ ds Q R, spec ds Q R → spec ds (fun d => (∃ xs, d = .ins c fs xs) ∧ Q d) R
  ex : ∃ (f : Addr) (fd : FuncData) (ps : List Str) (g : List Value → List Value → List Value) (gV : List V → List V → List V), FnOk P w K mg base (L2.CX P w) k f fd ("self" :: ps) (spIX K c fs ps.length spec) ∧ Mk K c f ∧ mg x = some (.ref c) ∧ KBn K fd ("self" :: ps) (n + 1) ks g gV ∧
    ∀ (F : Hp) (p : Addr) (vs zs : List V) (ds es : List D), vs.length = n → zs.length = ks.length → Reps K F vs ds → Reps K F zs es → ∃ rest, gV (.ref p :: vs) zs = .ref p :: rest ∧ rest.length = ps.length ∧ Reps K F rest (gd ds es)
def rMakeX (spec : SpecX) (gd : List D → List D → List D) (n kn : Nat) (m mk : RN) (r : RX) : RE := fun env Q => m env fun ds e => mk e fun es e' => ds.length = n ∧ es.length = kn ∧ spec (gd ds es) (fun d => Q d e') fun C => r C e'
section
variable {X : Cx} {x : Str} {k n : Nat} {c : Addr} {fs ks : List Str} {gd : List D → List D → List D} {spec : SpecX} {p pos : Pos} {e : Expr} {es : List Expr} {kws : List Keyword} {m mk : RN}
theorem ex_makeX (cm : CalMX X.prog X.w X.K X.mg X.base x k c fs n ks gd spec) (hr : Room (k + 1) X.A) (hg : Gl X x) (ha : EA X (e :: es) m) (hk : EK X kws mk) {kn : Nat} (hkn : ks.length = kn := by rfl)
    (hall : (backToKw pos (keywordEach kws X.env)).all (·.1.isSome) = true := by rfl) (hks : (backToKw pos (keywordEach kws X.env)).filterMap (·.1) = ks := by rfl) (hdb : (x == ("__debug__" : Str)) = false := by decide)
    (he : starEach (e :: es) X.env = (false, eval e X.env) :: starEach es X.env := by rfl) (hpl : ((backTo pos (starEach (e :: es) X.env)).any (·.1) || (backToKw pos (keywordEach kws X.env)).any (·.1.isNone)) = false := by rfl) : EX X (.Call (.Name x p) (e :: es) kws pos) (rMakeX spec gd n kn m mk) where
  mono := fun r r' env Q Q' lr i q => ha.mono _ _ _ (fun ds e q => hk.mono _ _ _ (fun es e' q => ⟨q.1, q.2.1, cm.mono _ _ _ _ _ (fun d q => i _ _ q) (fun C q => lr _ _ q) q.2.2⟩) q) q
  pe := fun G F0 => by
    obtain ⟨f, fd, ps, g, gV, F, hM, hm, hb, hgd⟩ := cm.ex
    refine PE_imp (pe_makeS hM F hr hg hm hb (fun σ => passAt (takes_WI (X := X)) σ) (ha.pe G F0) (hk.pk G F0) hall hks hdb he hpl) fun σ H Q ⟨F, env, k, q⟩ => ⟨F, env, k, ha.mono _ _ _ (fun ds e q vs F1 H1 a1 r1 => ?_) q⟩
    refine ⟨F1, e, a1.ok, hk.mono _ _ _ (fun es e' q zs F2 H2 a2 r2 => ?_) q⟩
    have l1 : vs.length = n := by rw [r1.length]; exact q.1
    have l2 : zs.length = ks.length := by rw [r2.length, hkn]; exact q.2.1
    refine ⟨l1, l2, fun y dx hy hdx hne => ?_⟩
    obtain ⟨rest, e1, e2, r3⟩ := hgd F2 y vs zs ds es l1 l2 (r1.mono a2.fF) r2
    have q2 := cm.hi _ _ _ q.2.2
    have fy : F2 y = none := a2.ok.fh.at_none hy
    have fd' : F2 dx = none := a2.ok.fh.at_none hdx
    have s2 : Same F2 (upd (upd H2 dx (.own y)) y (.ins c dx [])) := fun b o eb => by
      rw [upd_ne (ne_of_none eb fy), upd_ne (ne_of_none eb fd')]; exact a2.ok.fh _ _ eb
    have old : ∀ b, H2 b ≠ none → b ≠ y ∧ b ≠ dx := fun b hb => ⟨fun z => hb (z ▸ hy), fun z => hb (z ▸ hdx)⟩
    rw [e1]
    refine ⟨y, dx, rest, rfl, e2, upd_same, F2, _, fy, s2, r3, ?_⟩
    refine cm.mono _ _ _ _ _ (fun d ⟨⟨xs, ed⟩, qd⟩ xs' ed' F' H' dx' vfs h1 h2 h3 h4 h5 h6 h7 h8 => ⟨rfl, ?_⟩) (fun C qC F' H' h1 h2 h3 h5 => ?_) q2
    · refine qC σ F' H' (a2.ok.ext ⟨h1, fun b o eb => ?_, h3, fun b hb => ?_⟩)
      · have := old b (by rw [eb]; exact fun z => nomatch z)
        exact h2 b o this.1 (by rw [upd_ne this.1, upd_ne this.2]; exact eb)
      · have := old b hb
        exact h5 b this.1 (by rw [upd_ne this.1, upd_ne this.2]; exact hb)
    · subst ed'
      have sF : Same F' (upd F' y (.ins c dx' vfs)) := same_upd h4
      refine qd (.ref y) (upd F' y (.ins c dx' vfs)) H' ((a1.trans a2).ext ⟨h1.trans sF, fun b o eb => ?_, fun b o eb => ?_, fun b hb => ?_⟩) ?_
      · have := old b (by rw [eb]; exact fun z => nomatch z)
        exact h2 b o this.1 (by rw [upd_ne this.1, upd_ne this.2]; exact eb)
      · by_cases hb : b = y
        · subst hb; rw [upd_same] at eb; rw [h6]; exact eb
        · rw [upd_ne hb] at eb; exact h3 _ _ eb
      · have := old b hb
        rw [upd_ne this.1]
        exact h5 b this.1 (by rw [upd_ne this.1, upd_ne this.2]; exact hb)
      · subst h7
        exact .ins cm.ins upd_same (h8.mono sF)
/-- where nothing is raised -/
theorem EX.e0 {e : Expr} {m : RX → RE} (h : EX X e m) : EE X e (m fun _ _ => False) where
  mono := fun env Q Q' i q => h.mono _ _ _ _ _ RX.le.rfl' i q
  pe := fun G F0 => PE_imp (h.pe G F0) fun σ H Q ⟨F, env, k, q⟩ => ⟨F, env, k, h.mono _ _ _ _ _ (fun _ _ q => q.elim) (fun _ _ q => q) q⟩
theorem SX.s0 {st : Stmt} {m : RX → RS} (h : SX X st m) : SS X st (m fun _ _ => False) where
  mono := fun D D' env l q => h.mono _ _ _ _ _ RX.le.rfl' l q
  ps := fun G F0 => PS_imp (h.ps G F0) fun D σ H ⟨F, env, k, q⟩ => ⟨F, env, k, h.mono _ _ _ _ _ (fun _ _ q => q.elim) (DE.le.refl _) q⟩
end
/-- all keywords given, in the parameters' order -/
theorem calMX_mk {P : Program} {w : World} {K : PySem.W.Frag} {mg : Str → Option Value} {base : PySem.Heap} {x : Str} {k : Nat} {c : Addr} {fs : List Str} {n : Nat} {ks : List Str} {spec : SpecX} (h1 : MonoX spec) (h2 : InsK K c fs) (h3 : ∀ ds Q R, spec ds Q R → spec ds (fun d => (∃ xs, d = .ins c fs xs) ∧ Q d) R)
    {f : Addr} {fd : FuncData} {ps : List Str} (hn : ps.length = n + ks.length) (h4 : FnOk P w K mg base (L2.CX P w) k f fd ("self" :: ps) (spIX K c fs ps.length spec)) (h5 : Mk K c f) (h6 : mg x = some (.ref c))
    (h7 : ∀ (s : Shared) (us ws : List Value), us.length = n + 1 → ws.length = ks.length → BindsTo s fd ⟨us, ks.zip ws⟩ (((("self" : Str) :: ps)).zip (us ++ ws))) : CalMX P w K mg base x k c fs n ks (fun ds es => ds ++ es) spec where
  mono := h1
  ins := h2
  hi := h3
  ex := ⟨f, fd, ps, fun us ws => us ++ ws, fun vs zs => vs ++ zs, h4, h5, h6, ⟨fun s us ws _ l1 l2 => h7 s us ws l1 l2, fun r1 r2 => r1.append r2⟩, fun F p vs zs ds es l1 l2 r1 r2 => ⟨vs ++ zs, rfl, by rw [List.length_append, l1, l2, hn], r1.append r2⟩⟩
/-- the last ones lack -/
theorem calMX_mk0 {P : Program} {w : World} {K : PySem.W.Frag} {mg : Str → Option Value} {base : PySem.Heap} {x xf qual : Str} {k : Nat} {c : Addr} {fs : List Str} {n : Nat} {ks : List Str} {spec : SpecX} (h1 : MonoX spec) (h2 : InsK K c fs) (h3 : ∀ ds Q R, spec ds Q R → spec ds (fun d => (∃ xs, d = .ins c fs xs) ∧ Q d) R)
    {f : Addr} {fd : FuncData} {ps : List Str} {params : Arguments} {body : List Stmt} {scope : Scope} {ms kws : List (Str × V)} {md : List D} (hw : kws ≠ []) (hms : ∀ q ∈ ms, q ∈ kws) (hmd : ∀ F, Reps K F (ms.map (·.2)) md) (hn : ps.length = n + ks.length + ms.length) (h4 : FnOk P w K mg base (L2.CX P w) k f fd ("self" :: ps) (spIX K c fs ps.length spec)) (h5 : Mk K c f) (h6 : mg x = some (.ref c))
    (FD : FunD K xf qual params body scope [] kws f fd)
    (h7 : ∀ (D : Addr) (doc pm : Value) (an : Option Addr) (cdv ct : Value) (us mv ws : List Value), us.length = n + 1 → mv.length = ms.length → ws.length = ks.length →
      KwChain D ((ms.map (·.1)).zip mv) (bindArgs (PySem.W.fnOf xf qual params body scope .none (.ref D) doc pm an cdv ct) ⟨us, ks.zip ws⟩) (((("self" : Str) :: ps)).zip (us ++ ws ++ mv))) : CalMX P w K mg base x k c fs n ks (fun ds es => ds ++ es ++ md) spec where
  mono := h1
  ins := h2
  hi := h3
  ex := by
    obtain ⟨mv, kb⟩ := FD.kbinds0 (ps := "self" :: ps) (n + 1) ks ms (fun us mv ws => us ++ ws ++ mv) hw hms (fun r1 r2 r3 => (r1.append r3).append r2) h7
    exact ⟨f, fd, ps, _, _, h4, h5, h6, kb, fun F p vs zs ds es l1 l2 r1 r2 => ⟨vs ++ zs ++ ms.map (·.2), rfl, by rw [List.length_append, List.length_append, l1, l2, List.length_map, hn], (r1.append r2).append (hmd F)⟩⟩
/-! ### raise C('..') -/
structure ErrK (K : PySem.W.Frag) (C : Addr) : Prop where
  q : PySem.W.excIn K C [.type "ValueError", .type "Exception", .type "BaseException", .type "object"] "ValueError.__new__" = true
  kp : PySem.W.keepIn K (.ref C) = true
  ty : PySem.W.typeIn K (.ref C) = some (.type "type")
  ex : ExcC K C
section
variable {X : Cx} {C : Addr} {x m : Str} {j : Nat} {p p2 cpos pos : Pos}
theorem sx_raiseC (k : ErrK X.K C) (g : X.mg x = some (.ref C)) (hg : Gl X x) (hc : X.calm = true := by rfl) (hdb : (x == ("__debug__" : Str)) = false := by decide) : SX X (.Raise (some (.Call (.Name x p) [.Constant (.str m) j p2] [] cpos)) none pos) (sRaise C) :=
  sx_raise hc (pmk_own PySem.F.excBase_ValueError k.q g k.kp (raises_own k.ex.hs k.ty) hg hdb)
end
/-! ### try: .. except x as n: .. -/
abbrev TbE := List (D × Bool)
/-- the name of an except clause goes -/
def unD (i : Nat) (Z : DE) : DE := { nx := fun e => Z.nx (es e i .un), rt := Z.rt, bk := fun e => Z.bk (es e i .un), ct := fun e => Z.ct (es e i .un) }
/-- ct: the classes, whether the clause catches them, what isinstance tells of them -/
def sTry (i : Nat) (ct : List (Addr × Bool × TbE)) (mb : RX → RS) (hand : TbE → Addr → RS) (r : RX) : RS := fun Z env =>
  mb (fun C env' => ∃ b tb, (C, b, tb) ∈ ct ∧ (b = true → ∀ a, hand tb a (unD i Z) (es env' i (.v (.cls a)))) ∧ (b = false → r C env')) Z env
def TbOk (K : PySem.W.Frag) (C : Addr) (tb : TbE) : Prop := ∀ t b, (t, b) ∈ tb → (∃ T, t = .cls T ∧ PySem.W.kitOne K (.ref C) (.ref T) = some b) ∨ ∃ n, t = .ty n ∧ PySem.W.kitOne K (.ref C) (.type n) = some b
def nIsE (tb : TbE) (a : Addr) : OpN := fun ds Q => match ds with
  | [.cls a', t] => a' = a ∧ ∃ b, (t, b) ∈ tb ∧ Q (.bl b)
  | _ => False
theorem nIsE_mono {tb : TbE} {a : Addr} : MonoN (nIsE tb a) := by
  intro ds Q Q' i q; unfold nIsE at q ⊢
  split at q
  · obtain ⟨h, b, h1, h2⟩ := q; exact ⟨h, b, h1, i _ h2⟩
  · exact q.elim
theorem cn_isE {X : Cx} {a C : Addr} {oe : Obj} {pn : List (Addr × Obj)} {tb : TbE} (k : ExcC X.K C) (hz : Zc (.ref C) none oe) (hf : ∃ vs, oe.data = .fields vs) (ht : TbOk X.K C tb) : CallR (X.suite a ((a, oe) :: pn)) (.builtin "isinstance") (rDc X.K (nIsE tb a)) := fun pins s σ H xs us Q I r ⟨F, ds, hfh, r1, q⟩ => by
  unfold nIsE at q
  split at q
  · rename_i a' t
    obtain ⟨rfl, b, h1, q⟩ := q
    obtain ⟨v, v', rfl, r2, r3⟩ := r1.two
    have ev : v = .ref a' := by
      rcases r2 with r2 | ⟨_, _, _, _, z, _⟩
      · cases r2; rfl
      · cases z
    subst ev
    rcases ht t b h1 with ⟨T, rfl, e⟩ | ⟨n, rfl, e⟩
    · have ev : v' = .ref T := by
        rcases r3 with r3 | ⟨_, _, _, _, z, _⟩
        · cases r3; rfl
        · cases z
      subst ev
      exact call_isE k hz hf pins s σ H _ us Q I r ⟨_, _, b, rfl, (fun u h => by cases h; rfl), e, q.bl hfh⟩
    · have ev : v' = .ty n := by
        rcases r3 with r3 | ⟨_, _, _, _, z, _⟩
        · cases r3; rfl
        · cases z
      subst ev
      exact call_isE k hz hf pins s σ H _ us Q I r ⟨_, _, b, rfl, (fun u h => by cases h; rfl), e, q.bl hfh⟩
  · exact q.elim
theorem StOk.unAt {K : PySem.W.Frag} {G F0 F H : Hp} {env : En} {σ : L2.St} (k : StOk K G F0 F H env σ) (i : Nat) : StOk K G F0 F H (es env i .un) (σ.set i none) := k.wipes [i]
section
variable {X : Cx} {x n : Str} {c : Value} {i : Nat} {body suite : List Stmt} {b₀ : Stmt} {np pos pos' : Pos} {ct : List (Addr × Bool × TbE)} {mb : RX → RS} {hand : TbE → Addr → RS}
theorem sx_try (hN : X.N.Nodup) (hi : X.N[i]? = some n) (hln : X.env.kindOf n = some .local) (hc : Names X x c) (hct : ∀ C b tb, (C, b, tb) ∈ ct → PySem.W.exmOne X.K (.ref C) c = some b)
    (hb : ∀ pn xe, SXs (X.tr pn xe) body mb)
    (hh : ∀ C tb, (C, true, tb) ∈ ct → ∀ a oe pn, Zc (.ref C) none oe → (∃ vs, oe.data = .fields vs) → SSs (X.suite a ((a, oe) :: pn)) (b₀ :: suite) (hand tb a))
    (hs : X.stack = X.env :: X.outer := by rfl) (hf : X.env.frame = some X.env.locals := by rfl) :
    SX X (.Try body [.ExceptHandler (some (.Name x np)) (some n) (b₀ :: suite) pos'] [] [] pos) (sTry i ct mb hand) where
  mono := fun r r' Z Z' env lr l q => by
    refine (hb [] (fun _ _ => True)).mono _ _ _ _ _ (fun C env' ⟨b, tb, h1, h2, h3⟩ => ⟨b, tb, h1, fun e a => ?_, fun e => lr _ _ (h3 e)⟩) l q
    subst e
    exact (hh C tb h1 a ⟨.ref C, none, .fields #[], #[]⟩ [] ⟨rfl, rfl⟩ ⟨_, rfl⟩).mono (unD i Z) (unD i Z') _ ⟨fun e (q : Z.nx (es e i .un)) => l.nx _ q, l.rt, fun e (q : Z.bk (es e i .un)) => l.bk _ q, fun e (q : Z.ct (es e i .un)) => l.ct _ q⟩ (h2 rfl a)
  ps := fun G F0 => by
    refine PS_imp (ps_try_as hs hf hN hi hln hc (takes_WI (X := X)) (tb := fun W Z σ H => ∃ F env, StOk X.K G F0 F H env σ ∧ mb (fun C env' => ∀ σ F H, StOk X.K G F0 F H env' σ → W (.ref C) none σ H) (liftD X.K G F0 Z) env)
      (ts := fun a cls d Z σ H => ∃ C tb, cls = .ref C ∧ d = none ∧ (C, true, tb) ∈ ct ∧ ∃ F env, StOk X.K G F0 F H env σ ∧ hand tb a (liftD X.K G F0 Z) env)
      (fun W pn xe tk pw => PSs_imp ((hb pn xe).ps G F0) fun Z σ H ⟨F, env, k, q⟩ => ⟨F, env, k, (hb pn xe).mono _ _ _ _ _ (fun C env' h σ F H k => WI_of tk (h σ F H k)) (DE.le.refl _) q⟩)
      (fun a oe cls d pn hz hfd => ⟨fun pins s σ H Z I ⟨C, tb, e1, e2, h1, h2⟩ => ?_⟩)) fun Z σ H ⟨F, env, k, q⟩ => ?_
    · subst e1; subst e2
      exact ((hh C tb h1 a oe pn hz hfd).ps G F0).run pins s σ H Z I h2
    · refine ⟨F, env, k, (hb [] (fun _ _ => True)).mono _ _ _ _ _ (fun C env' ⟨b, tb, h1, h2, h3⟩ σ' F' H' k' => ⟨b, hct _ _ _ h1, fun e a na => ?_, fun e => h3 e σ' F' H' k'⟩) (DE.le.refl _) q⟩
      subst e
      refine ⟨C, tb, rfl, rfl, h1, F', es env' i (.v (.cls a)), by rw [es_eq]; exact k'.setV i (.cls a), ?_⟩
      exact (hh C tb h1 a ⟨.ref C, none, .fields #[], #[]⟩ [] ⟨rfl, rfl⟩ ⟨_, rfl⟩).mono (unD i (liftD X.K G F0 Z)) _ _ ⟨fun e (q : (liftD X.K G F0 Z).nx (es e i .un)) σ2 F2 H2 k2 => q _ _ _ (k2.unAt i), fun d q => q, fun e (q : (liftD X.K G F0 Z).bk (es e i .un)) σ2 F2 H2 k2 => q _ _ _ (k2.unAt i), fun e (q : (liftD X.K G F0 Z).ct (es e i .un)) σ2 F2 H2 k2 => q _ _ _ (k2.unAt i)⟩ (h2 rfl a)
end
/-! facts of the classes -/
def CtOk (K : PySem.W.Frag) (c : Value) (ct : List (Addr × Bool × TbE)) : Prop := ∀ C b tb, (C, b, tb) ∈ ct → PySem.W.exmOne K (.ref C) c = some b ∧ ExcC K C ∧ TbOk K C tb
section
variable {K : PySem.W.Frag} {c : Value} {C S T : Addr} {b : Bool} {tb : TbE} {ct : List (Addr × Bool × TbE)} {n : String}
theorem ct_nil : CtOk K c [] := fun C b tb h => nomatch h
theorem ct_cons (h1 : PySem.W.exmOne K (.ref C) c = some b) (h2 : ExcC K C) (h3 : TbOk K C tb) (t : CtOk K c ct) : CtOk K c ((C, b, tb) :: ct) := fun C' b' tb' h => by
  rcases List.mem_cons.mp h with e | h
  · cases e; exact ⟨h1, h2, h3⟩
  · exact t _ _ _ h
theorem te_nil : TbOk K C [] := fun t b h => nomatch h
theorem te_own (h1 : PySem.W.kitOne K (.ref C) (.ref T) = some b) (t : TbOk K C tb) : TbOk K C ((.cls T, b) :: tb) := fun t' b' h => by
  rcases List.mem_cons.mp h with e | h
  · cases e; exact .inl ⟨_, rfl, h1⟩
  · exact t _ _ h
theorem te_ty (h1 : PySem.W.kitOne K (.ref C) (.type n) = some b) (t : TbOk K C tb) : TbOk K C ((.ty n, b) :: tb) := fun t' b' h => by
  rcases List.mem_cons.mp h with e | h
  · cases e; exact .inr ⟨_, rfl, h1⟩
  · exact t _ _ h
theorem kit_ty (hm : PySem.W.kitMeta n = true) (h : PySem.W.subIn K (.ref C) (.type n) = some b) : PySem.W.kitOne K (.ref C) (.type n) = some b := by
  unfold PySem.W.kitOne
  rw [if_neg (by show ¬ ((Value.ref C == Value.type n) = true); exact fun z => nomatch (beq_iff_eq.mp z))]
  show (if PySem.W.kitMeta n = true then _ else none) = _
  rw [if_pos hm]; exact h
end
end DL

namespace DL
open PySem PySem.Spec PyProof.Rows L2
/-! ### xs + ys as a new list -/
def qCatN (d e : D) (Q : List D → Prop) : Prop := match d, e with
  | .lst xs, .lst ys => xs.length + ys.length ≤ sizeLine ∧ Q (xs ++ ys)
  | _, _ => False
theorem qCatN_l {xs ys : List D} {Q : List D → Prop} : qCatN (.lst xs) (.lst ys) Q = (xs.length + ys.length ≤ sizeLine ∧ Q (xs ++ ys)) := rfl
theorem qCatN_mono {d e : D} {Q Q' : List D → Prop} (i : ∀ x, Q x → Q' x) (q : qCatN d e Q) : qCatN d e Q' := by
  unfold qCatN at q ⊢
  split at q
  · exact ⟨q.1, i _ q.2⟩
  · exact q
def rCatN (ma mb : RE) : RN := fun env Q => ma env fun d e1 => mb e1 fun e e2 => qCatN d e fun xs => Q xs e2
section
variable {X : Cx} {a b : Expr} {ma mb : RE} {pos : Pos}
theorem en_cat (ha : EB X a ma) (hb : EB X b mb) : EN X (.BinOp a .Add b pos) (rCatN ma mb) where
  mono := fun env Q Q' i q => ha.mono _ _ _ (fun d e1 q => hb.mono _ _ _ (fun e e2 q => qCatN_mono (fun x q => i _ _ q) q) q) q
  pe := fun G F0 => PE_imp (pe_op op_cat (ha.pe G F0) (hb.pe G F0)) fun σ H Q ⟨F, env, k, q⟩ => by
    refine ⟨F, env, k, ha.mono _ _ _ (fun x e1 q v1 F1 H1 a1 r1 => ?_) q⟩
    refine ⟨F1, e1, a1.ok, hb.mono _ _ _ (fun y e2 q v2 F2 H2 a2 r2 => ?_) q⟩
    have r3 := r1.ext a2.fF a2.hH
    unfold qCatN at q
    split at q
    · obtain ⟨p0, vs, rfl, h1, p1⟩ := r3.lst a2.ok.fh
      obtain ⟨p2, ws, rfl, h2, p3⟩ := r2.lst a2.ok.fh
      obtain ⟨h4, q⟩ := q
      exact ⟨p0, p2, vs, ws, rfl, rfl, h1, h2, by rw [p1.length, p3.length]; exact h4, fun p hp => by
        obtain ⟨a3, hF, hG, no⟩ := af_new (vs := vs ++ ws) (a1.trans a2) hp
        exact q p _ F2 _ a3 upd_same hF hG no (p1.append p3)⟩
    · exact q.elim
end
end DL

namespace DL
open PySem PySem.Spec PyProof.Rows L2
/-! ### a comprehension over a list of one's own, which stays one's own -/
def ItOkH (K : PySem.W.Frag) (F H : Hp) (J : It) (ds : List D) : Prop := ∀ (i : Nat) (F1 H1 : Hp), Same F F1 → Same F1 H1 → Same H H1 →
  (∀ d, ds[i]? = some d → J.go i H1 ∧ ∀ x H2, J.yld i H1 x H2 → ∃ F2, Ext F1 H1 F2 H2 ∧ Rep K F2 x d) ∧ (ds[i]? = none → J.stop i H1)
def tIth (K : PySem.W.Frag) (G F0 : Hp) (m : RN) : TI := fun σ H R => ∃ F env, StOk K G F0 F H env σ ∧ m env fun ds env' => ∀ J F' H', Af K G F0 F H σ F' H' env' → ItOkH K F' H J ds → R J H'
structure EIh (X : Cx) (tg iter : Expr) (m : RN) : Prop where
  mono : MonoQ m
  pi : ∀ G F0, PI X tg iter (tIth X.K G F0 m)
section
variable {X : Cx}
theorem lc_core2h {G F0 : Hp} {σ : L2.St} {H : Hp} {Q : VK} {tg iter : Expr} {mi : RN} {g : RG} {tt : RT} {me : RE} {fz vs : List Nat} (hi : EIh X tg iter mi) (hg : MonoG g) (ht : MonoQ tt) (hm : MonoQ me) (h : tN X.K G F0 (rLc fz vs mi g tt me) σ H Q) :
    tLc (tIth X.K G F0 mi) (fun v σ H Q => ∃ G F0, tG X.K G F0 vs g v σ H Q) (fun σ H Q => ∃ G F0, tTe X.K G F0 tt σ H Q) (fun σ H Q => ∃ G F0, tM X.K G F0 me σ H Q) vs σ H Q := by
  obtain ⟨F, env, k, q⟩ := h
  refine ⟨F, env, k, hi.mono _ _ _ (fun ds e0 ⟨no, q⟩ J F1 H1 af0 io => fun Dd hD => ?_) q⟩
  obtain ⟨F', sF', kf⟩ := StOk.frzE fz af0.ok
  generalize frzE e0 fz = e at no q kf
  have af : Af X.K G F0 F H σ F' H1 e := ⟨af0.hH, af0.fF.trans sF', kf⟩
  obtain ⟨a1, hF, hG, nd⟩ := af_new (vs := []) af hD
  -- the state between two turns
  refine ⟨fun i m Hx => m = ds.length - i ∧ ∃ Fx acc accD, StOk X.K G F0 Fx Hx e σ ∧ Same F' Fx ∧ Same H Hx ∧ Hx Dd = some (.lst acc) ∧ Fx Dd = none ∧ Reps X.K Fx acc accD ∧ lcL vs g tt me e (fun acc => ∀ a vs' F'' H'', Af X.K G F0 F H σ F'' H'' e → H'' a = some (.lst vs') → F'' a = none → G a = none → NotOwn e σ a → Reps X.K F'' vs' acc → Q (.ref a) H'') (ds.drop i) accD,
    ⟨ds.length, by simp, F', [], [], a1.ok, Same.refl _, a1.hH, upd_same, hF, .nil, by simpa using q⟩, ?_⟩
  rintro i m Hx ⟨rfl, Fx, acc, accD, kx, sx, hx, hDx, fDx, ra, qx⟩
  have io1 := io i Fx Hx (sF'.trans sx) kx.fh hx
  cases e1 : ds[i]? with
  | none =>
    refine .inl ⟨io1.2 e1, ?_⟩
    rw [List.drop_eq_nil_of_le (List.getElem?_eq_none_iff.mp e1)] at qx
    exact qx Dd acc Fx Hx ⟨hx, af.fF.trans sx, kx⟩ hDx fDx hG nd ra
  | some d =>
    have hlt : i < ds.length := by
      rcases Nat.lt_or_ge i ds.length with h | h
      · exact h
      · rw [List.getElem?_eq_none h] at e1; cases e1
    have ed : ds.drop i = d :: ds.drop (i + 1) := by
      rw [List.drop_eq_getElem_cons hlt]
      rw [List.getElem?_eq_getElem hlt] at e1
      rw [Option.some.inj e1]
    rw [ed] at qx
    obtain ⟨go, yl⟩ := io1.1 d e1
    refine .inr ⟨go, fun Hy => ∃ Fx acc accD, StOk X.K G F0 Fx Hy e σ ∧ Same F' Fx ∧ Same H Hy ∧ Hy Dd = some (.lst acc) ∧ Fx Dd = none ∧ Reps X.K Fx acc accD ∧ lcL vs g tt me e (fun acc => ∀ a vs' F'' H'', Af X.K G F0 F H σ F'' H'' e → H'' a = some (.lst vs') → F'' a = none → G a = none → NotOwn e σ a → Reps X.K F'' vs' acc → Q (.ref a) H'') (ds.drop (i + 1)) accD,
      fun H' ⟨Fx, acc, accD, w⟩ => ⟨ds.length - (i + 1), by omega, rfl, Fx, acc, accD, w⟩, fun x H2 y => ?_⟩
    obtain ⟨F2, x2, r2⟩ := yl x H2 y
    -- the turn runs with the new list's cell among what stays
    have hD2 : H2 Dd = some (.lst acc) := x2.hH _ _ hDx
    have f2D : F2 Dd = none := by rw [x2.nw Dd (by rw [hDx]; exact fun z => nomatch z)]; exact fDx
    have k2 : StOk X.K G F0 F2 H2 e σ := kx.ext x2
    have kw := k2.wipes vs
    have noD : NotOwn (wipeE e vs) (wipe σ vs) Dd := fun j es' ej => by
      intro z
      by_cases hj : j ∈ vs
      · have this := wipe_none (σ := σ) hj
        rw [this] at z; cases z
      · rw [wipe_at hj] at z
        rw [wipeE_get hj] at ej
        exact nd j es' ej z
    have kG : StOk X.K (upd G Dd (.lst acc)) F2 F2 H2 (wipeE e vs) (wipe σ vs) := by
      refine ⟨kw.fh, fun b o eb => ?_, Same.refl _, fun _ _ => rfl, kw.len, kw.sl, fun j ds' a ej ea => ?_, kw.inj⟩
      · by_cases hb : b = Dd
        · subst hb; rw [upd_same] at eb; rw [hD2]; exact eb
        · rw [upd_ne hb] at eb; exact kw.gh _ _ eb
      · have : a ≠ Dd := fun z => noD j ds' ej (by rw [ea, z])
        rw [upd_ne this]; exact kw.og j ds' a ej ea
    -- back to the slots ahead of the turn
    have back : ∀ {F4 H4 : Hp} {e4 : En} {σ2 : L2.St} {acc' : List V}, StOk X.K (upd G Dd (.lst acc)) F2 F4 H4 e4 σ2 → Same H2 H4 → wipeE e4 vs = wipeE e vs → wipe σ2 vs = wipe σ vs → F4 Dd = none ∧ Same F2 F4 ∧ StOk X.K G F0 F4 (upd H4 Dd (.lst acc')) e σ := by
      intro F4 H4 e4 σ2 acc' k4 s4 we ws
      have f4D : F4 Dd = none := by rw [k4.nw Dd (by rw [upd_same]; exact fun z => nomatch z)]; exact f2D
      have gne : ∀ a, G a ≠ none → a ≠ Dd := fun a n z => n (z ▸ hG)
      refine ⟨f4D, k4.ff, fun b o q => ?_, fun b o q => ?_, k2.ff.trans k4.ff, fun b n => ?_, k2.len, fun j s ej => ?_, k2.og, k2.inj⟩
      · rw [upd_ne (ne_of_none q f4D)]; exact k4.fh _ _ q
      · have : b ≠ Dd := ne_of_none q hG
        rw [upd_ne this]; exact s4 _ _ (k2.gh _ _ q)
      · have : b ≠ Dd := gne b n
        rw [k4.nw b (by rw [upd_ne this]; exact n)]; exact k2.nw b n
      · have old := k2.sl j s ej
        cases s with
        | un => trivial
        | v d' => obtain ⟨v, ev, rv⟩ := old; exact ⟨v, ev, rv.mono k4.ff⟩
        | own ys =>
          by_cases hj : j ∈ vs
          · exfalso
            have := no j hj ys
            apply this
            exact eg_of ej
          · obtain ⟨b, vs', eb, _, hb, rb⟩ := old
            have e4j : e4[j]? = some (Sl.own ys) := by rw [← wipeE_get (env := e4) hj, we, wipeE_get hj]; exact ej
            obtain ⟨b', vs2, eb', n4, hb', rb'⟩ := k4.sl j _ e4j
            rw [← wipe_at (σ := σ2) hj, ws, wipe_at hj, eb] at eb'
            cases eb'
            have : b ≠ Dd := fun z => nd j ys ej (by rw [eb, z])
            exact ⟨b, vs2, eb, n4, by rw [upd_ne this]; exact hb', rb'⟩
    refine ⟨upd G Dd (.lst acc), F2, F2, wipeE e vs, d, kG, r2, hg _ _ _ _ (fun e2 ⟨we2, q3⟩ σ3 b3 k3 => ?_) qx⟩
    have wσ3 : wipe σ3 vs = wipe σ vs := wipe_but b3
    · refine ⟨wσ3, upd G Dd (.lst acc), F2, F2, e2, k3, ht _ _ _ (fun b e3 q4 F4 H4 a4 => ?_) q3⟩
      cases b with
      | true =>
        rw [if_pos rfl]
        rw [if_pos rfl] at q4
        refine ⟨upd G Dd (.lst acc), F2, F4, e3, a4.ok, hm _ _ _ (fun d5 e5 ⟨we5, hz, q5⟩ y F5 H5 a5 r5 => ?_) q4⟩
        obtain ⟨f5D, s25, k5⟩ := back (acc' := acc ++ [y]) a5.ok (a4.hH.trans a5.hH) we5 wσ3
        refine ⟨acc, a5.hH _ _ (a4.hH _ _ hD2), by rw [ra.length]; exact hz, F5, acc ++ [y], accD ++ [d5], k5, sx.trans (x2.fF.trans s25), fun b o eb => ?_, upd_same, f5D, (ra.mono (x2.fF.trans s25)).append (Reps.one r5), q5⟩
        have : b ≠ Dd := ne_of_none eb (af0.hH.at_none hD)
        rw [upd_ne this]; exact a5.hH _ _ (a4.hH _ _ (x2.hH _ _ (hx _ _ eb)))
      | false =>
        rw [if_neg (by decide)]
        rw [if_neg (by decide)] at q4
        obtain ⟨we4, q4⟩ := q4
        obtain ⟨f4D, s24, k4⟩ := back (acc' := acc) a4.ok a4.hH we4 wσ3
        have h4D : H4 Dd = some (.lst acc) := a4.hH _ _ hD2
        have eU : upd H4 Dd (.lst acc) = H4 := by
          funext b
          by_cases hb : b = Dd
          · subst hb; rw [upd_same, h4D]
          · rw [upd_ne hb]
        rw [eU] at k4
        exact ⟨F4, acc, accD, k4, sx.trans (x2.fF.trans s24), hx.trans (x2.hH.trans a4.hH), h4D, f4D, ra.mono (x2.fF.trans s24), q4⟩
theorem en_lcH {elt tg iter : Expr} {ifs : List Expr} {scope : Scope} {own : List (Str × Nat)} {pos : Pos} {mi : RN} {g : RG} {tt : RT} {me : RE} (fz : List Nat) (hc : X.calm = true) (hN : X.N.Nodup) (hi : EIh X tg iter mi) (ok : BlkOk X.N X.env.scope scope own)
    (hg : ∀ (s : Shared) (H : Hp) (C : Addr) (cl : List (Str × Addr)) (fp : List Addr), EG (X.blk s H scope (compEnvC scope cl C X.env) fp) tg (own.map (·.2)) g)
    (ht : ∀ (s : Shared) (H : Hp) (C : Addr) (cl : List (Str × Addr)) (fp : List Addr), ETs (X.blk s H scope (compEnvC scope cl C X.env) fp) ifs tt)
    (he : ∀ (s : Shared) (H : Hp) (C : Addr) (cl : List (Str × Addr)) (fp : List Addr), EE (X.blk s H scope (compEnvC scope cl C X.env) fp) elt me) (hs : ∀ x, foldedSetIterable iter X.env x = pure x := by intro _; rfl) :
    EN X (.ListComp elt [⟨tg, iter, ifs, 0⟩] scope pos) (rLc fz (own.map (·.2)) mi g tt me) :=
  { mono := fun env Q Q' i q => by
      have m1 : MonoG g := (hg X.s_0 X.H_0 0 [] []).mono
      have m2 : MonoQ tt := (ht X.s_0 X.H_0 0 [] []).mono
      have m3 : MonoQ me := (he X.s_0 X.H_0 0 [] []).mono
      exact rLc_mono hi.mono m1 m2 m3 env Q Q' i q
    pe := fun G F0 => by
      refine PE_of_run fun pins s σ H Q I h => ?_
      have m1 : MonoG g := (hg s H 0 [] []).mono
      have m2 : MonoQ tt := (ht s H 0 [] []).mono
      have m3 : MonoQ me := (he s H 0 [] []).mono
      exact (pe_lc hc hN (hi.pi G F0) ok (fun s H C cl fp => PG_of (t := fun G F0 => tG X.K G F0 (own.map (·.2)) g) fun G F0 => (hg s H C cl fp).pg G F0) (fun s H C cl fp => PTs_of (t := fun G F0 => tTe X.K G F0 tt) fun G F0 => (ht s H C cl fp).pe G F0) (fun s H C cl fp => PE_of (t := fun G F0 => tM X.K G F0 me) fun G F0 => (he s H C cl fp).pe G F0) hs).run pins s σ H Q I (lc_core2h hi m1 m2 m3 h) }
/-- the list in slot i, one's own or not -/
theorem ei_varB {tg : Expr} {x : Str} {p : Pos} {i : Nat} (hp : PE X (.Name x p) (tVar i)) : EIh X tg (.Name x p) (iSeq (rVarB i)) where
  mono := iSeq_mono (rVarB_mono i)
  pi := fun G F0 => PI_imp (pi_seqV hp) fun σ H R ⟨F, env, k, q⟩ => by
    have up : ∀ {J : It} {ds : List D} {F' : Hp}, ItOk X.K F' J ds → ItOkH X.K F' H J ds := fun h i F1 H1 s1 s2 _ => h i F1 H1 s1 s2
    unfold iSeq rVarB at q
    split at q
    · rename_i d e
      have g := eg_get (env := env) (i := i) (by rw [e]; exact fun z => nomatch z)
      rw [e] at g
      obtain ⟨v, ev, r⟩ := k.sl i _ g
      refine ⟨v, at_some ev, ?_⟩
      cases r <;> first | exact q.elim | skip
      · exact .inr (.inr ⟨_, rfl, q _ F H (Af.refl k) (up ItOk.str)⟩)
      · rename_i vs ds h rs
        exact .inr (.inl ⟨_, vs, rfl, SqT_mono k.fh h, q _ F H (Af.refl k) (up (ItOk.tup h rs))⟩)
      · rename_i vs ds h rs
        exact .inl ⟨_, vs, rfl, .of (k.fh _ _ h), q _ F H (Af.refl k) (up (ItOk.list (.of h) rs))⟩
      · rename_i ns h
        exact .inl ⟨_, _, rfl, k.fh.seq h, q _ F H (Af.refl k) (up (ItOk.list h (Reps.of_ints _)))⟩
    · rename_i ds e
      have g := eg_get (env := env) (i := i) (by rw [e]; exact fun z => nomatch z)
      rw [e] at g
      obtain ⟨a, ho, ea, hF, hH, r⟩ := k.sl i _ g
      obtain ⟨vs, rfl, r⟩ := r.lst
      refine ⟨.ref a, at_some ea, .inl ⟨a, vs, rfl, .of hH, q _ F H (Af.refl k) fun j F1 H1 s1 s2 s3 => ?_⟩⟩
      have h1 : SqL X.K H1 a vs := .of (s3 _ _ hH)
      refine ⟨fun d e' => ?_, fun e' => ?_⟩
      · obtain ⟨w, ew, rw'⟩ := r.get e'
        refine ⟨⟨vs, w, h1, ew⟩, fun y H2 z => ?_⟩
        obtain ⟨rfl, z⟩ := z
        have e2 := (z vs h1).symm.trans ew
        cases e2
        exact ⟨F1, Ext.refl s2, rw'.mono s1⟩
      · exact ⟨vs, h1, by rw [r.length]; exact List.getElem?_eq_none_iff.mp e'⟩
    · exact q.elim
end
end DL

namespace DL
open PySem PySem.Spec PyProof.Rows L2

/-! ### x in NAME, also for keys that are not there -/
structure DictN (K : PySem.W.Frag) (w : World) (mg : Str → Option Value) (x : Str) (ks bs : List Str) : Prop where
  ex : ∃ d es n, mg x = some (.ref d) ∧ KDict K w d es n ∧ (∀ z ∈ ks, ∃ u, PySem.W.nsIn K d z = some (some u)) ∧ ∀ z ∈ bs, PySem.W.nsIn K d z = some none
def rInN (ks bs : List Str) (m : RE) : RE := fun env Q => m env fun d e => ∃ z b, d = .str z ∧ ((z ∈ ks ∧ b = true) ∨ (z ∈ bs ∧ b = false)) ∧ Q (.bl b) e
theorem rInN_mono {ks bs : List Str} {m : RE} (h : MonoQ m) : MonoQ (rInN ks bs m) := fun env Q Q' i q => h _ _ _ (fun d e ⟨z, b, h1, h2, q⟩ => ⟨z, b, h1, h2, i _ _ q⟩) q
section
variable {X : Cx} {a : Expr} {x : Str} {ks bs : List Str} {m : RE} {p pos : Pos}
theorem inN_core {G F0 : Hp} {σ : L2.St} {H : Hp} {Q : VK} {d : Addr} (hks : ∀ z ∈ ks, ∃ u, PySem.W.nsIn X.K d z = some (some u)) (hbs : ∀ z ∈ bs, PySem.W.nsIn X.K d z = some none) (ha : EB X a m) (h : tM X.K G F0 (rInN ks bs m) σ H Q) :
    tOp (fun x y H Q => ∃ (z : Str) (r : Option Value), x = .str z ∧ y = .ref d ∧ PySem.W.nsIn X.K d z = some r ∧ Q (.bl r.isSome) H) (tBo X.K G F0 m) (tC (.ref d)) σ H Q := by
  obtain ⟨F, env, k, q⟩ := h
  refine ⟨F, env, k, ha.mono _ _ _ (fun y e ⟨z, b, h1, h2, q⟩ v F1 H1 a1 r1 => ?_) q⟩
  subst h1
  rcases h2 with ⟨h2, rfl⟩ | ⟨h2, rfl⟩
  · obtain ⟨u, hu⟩ := hks z h2
    exact ⟨z, some u, r1.str, rfl, hu, q _ F1 H1 a1 (.bl true)⟩
  · exact ⟨z, none, r1.str, rfl, hbs z h2, q _ F1 H1 a1 (.bl false)⟩
theorem ee_inN (P : DictN X.K X.w X.mg x ks bs) (hg : Gl X x) (ha : EB X a m) (hd : (x == ("__debug__" : Str)) = false := by decide) : EE X (.Compare a [.In] [.Name x p] pos) (rInN ks bs m) where
  mono := rInN_mono ha.mono
  pe := fun G F0 => by
    obtain ⟨d, es, n, hm, D, hks, hbs⟩ := P.ex
    exact PE_imp (pe_cmpR (op_in_kd D) (ha.pe G F0) (pe_glob (v := .ref d) hg hm rfl hd) rfl) fun σ H Q h => inN_core hks hbs ha h
end

/-! ### a text written k times -/
def repS (k : Nat) (z : Str) : Str := ⟨(List.replicate k z.cps).foldl (· ++ ·) #[]⟩
def dMulS : Op2 := fun d e Q => match d, e with
  | .str z, .int k => 2 ≤ k ∧ k ≤ 1000 ∧ 1 ≤ z.length ∧ z.length ≤ 1000 ∧ (repS k.toNat z).length ≤ sizeLine ∧ Q (.str (repS k.toNat z))
  | _, _ => False
theorem dMulS_mono : Mono2 dMulS := fun d e Q Q' i q => by
  unfold dMulS at q ⊢
  split at q <;> first | exact ⟨q.1, q.2.1, q.2.2.1, q.2.2.2.1, q.2.2.2.2.1, i _ q.2.2.2.2.2⟩ | exact q
theorem or_mulS {X : Cx} : OpR X (binaryOp .Mult) (rD2 X.K dMulS) := fun pins s σ H x y v u Q I rx ry ⟨F, d, e, hf, r1, r2, q⟩ => by
  unfold dMulS at q
  split at q
  · rename_i z k
    rw [r1.str] at rx; rw [r2.int] at ry
    obtain ⟨t, rfl⟩ := rx
    obtain ⟨t', rfl⟩ := ry
    obtain ⟨h2, h3, h4, h5, h6, q⟩ := q
    have c1 : (k == 1) = false := by rw [beq_eq_false_iff_ne]; omega
    have c2 : (z.length == 0) = false := by rw [beq_eq_false_iff_ne]; omega
    refine P.mul_str ?_ (fun _ _ h => ?_) (fun _ _ => ?_) ?_
    · rw [decide_eq_false (by omega), decide_eq_false (by omega)]; rfl
    · have hd : (2 ^ 63 - 1 : Int) / 1000 ≤ (2 ^ 63 - 1) / k := by
        refine (Int.le_ediv_iff_mul_le (by omega)).mpr ?_
        have e1 : ((2 : Int) ^ 63 - 1) / 1000 = 9223372036854775 := by decide
        rw [e1]
        have : (9223372036854775 : Int) * k ≤ 9223372036854775 * 1000 := Int.mul_le_mul_of_nonneg_left (by omega) (by omega)
        omega
      have e1 : ((2 : Int) ^ 63 - 1) / 1000 = 9223372036854775 := by decide
      rw [e1] at hd
      omega
    · unfold PySem.Builtin.Str.tooLong
      refine decide_eq_false fun h => ?_
      have h' : z.length * k.toNat > 16777216 := h
      have := Nat.mul_le_mul (show z.length ≤ 1000 by omega) (show k.toNat ≤ 1000 by omega)
      omega
    · rw [if_neg (by omega), c1, c2]
      exact ⟨h6, ⟨.str (repS k.toNat z), H, I.tok _, ⟨_, rfl⟩, q.str hf⟩⟩
  · exact q.elim
end DL

namespace DL
open PySem PySem.Spec PyProof.Rows L2

/-! ### defs whose result is a new list that stays one's own -/
def liftN (K : PySem.W.Frag) (G F0 : Hp) (D : Ends) : DE where
  nx := fun env => ∀ σ F H, StOk K G F0 F H env σ → D.nx σ H
  rt := fun d => ∃ es, d = .lst es ∧ ∀ a vs F H, Ext F0 G F H → H a = some (.lst vs) → F a = none → G a = none → Reps K F vs es → D.rt (.ref a) H
  bk := fun env => ∀ σ F H, StOk K G F0 F H env σ → D.bk σ H
  ct := fun env => ∀ σ F H, StOk K G F0 F H env σ → D.ct σ H
def tStN (K : PySem.W.Frag) (G F0 : Hp) (m : RS) : TS := fun D σ H => ∃ F env, StOk K G F0 F H env σ ∧ m (liftN K G F0 D) env
structure SNs (X : Cx) (st : List Stmt) (m : RS) : Prop where
  mono : MonoS m
  ps : ∀ G F0, PSs X st (tStN X.K G F0 m)
def sRetO (mn : RN) : RS := fun D env => mn env fun ds _ => D.rt (.lst ds)
def sSeqN (m m' : RS) : RS := fun D env => m { D with rt := fun _ => False, nx := fun e => m' D e } env
section
variable {X : Cx} {st : Stmt} {rest : List Stmt} {m m' : RS} {e : Expr} {mn : RN} {pos : Pos}
theorem sn_ret (h : EN X e mn) : SNs X [.Return (some e) pos] (sRetO mn) where
  mono := fun D D' env l q => h.mono _ _ _ (fun d e q => l.rt _ q) q
  ps := fun G F0 => pss_one (PS_imp (ps_ret (h.pe G F0)) fun D σ H ⟨F, env, k, q⟩ => ⟨F, env, k, h.mono _ _ _ (fun ds e ⟨es, h1, q⟩ a vs F' H' af h2 h3 h4 _ r => by
    cases h1
    exact q a vs F' H' af.ok.toExt h2 h3 h4 r) q⟩)
theorem sn_cons (h1 : SS X st m) (h2 : SNs X rest m') : SNs X (st :: rest) (sSeqN m m') where
  mono := fun Z Z' env l q => h1.mono { Z with rt := fun _ => False, nx := fun e => m' Z e } { Z' with rt := fun _ => False, nx := fun e => m' Z' e } env ⟨fun e q => h2.mono Z Z' e l q, fun _ q => q, l.bk, l.ct⟩ q
  ps := fun G F0 => PSs_imp (pss_cons (h1.ps G F0) (h2.ps G F0)) fun Z σ H ⟨F, env, k, q⟩ => ⟨F, env, k, h1.mono { liftN X.K G F0 Z with rt := fun _ => False, nx := fun e => m' (liftN X.K G F0 Z) e } _ env ⟨fun e q σ' F' H' k' => ⟨F', e, k', q⟩, fun _ q => q.elim, fun _ q => q, fun _ q => q⟩ q⟩
/-- an own list by its name: it is handed on -/
def rOwnV (i : Nat) : RN := fun env Q => ∃ ds, env[i]? = some (.own (.l ds)) ∧ Q ds (es env i .un)
theorem rOwnV_mono {i : Nat} : MonoQ (rOwnV i) := fun env Q Q' j q => by
  obtain ⟨ds, h, q⟩ := q
  exact ⟨ds, h, j _ _ q⟩
end
def WantsN (K : PySem.W.Frag) (F H : Hp) (Q : VK) (d : D) : Prop := ∃ es, d = .lst es ∧ ∀ a ws F' H', Ext F H F' H' → H' a = some (.lst ws) → F' a = none → H a = none → Reps K F' ws es → Q (.ref a) H'
def spN (K : PySem.W.Frag) (n : Nat) (spec : SpecD) : Sp := fun vs H Q _ => vs.length = n ∧ ∃ F ds, Same F H ∧ Reps K F vs ds ∧ spec ds (WantsN K F H Q)
section
variable {P : Program} {w : World} {K : PySem.W.Frag} {mg : Str → Option Value} {base : Heap}
theorem fn_okN {x qual : Str} {st : Stmt} {f : Addr} {fd : FuncData} {N ps : List Str} {k : Nat} {m : RS} (F : Fun K x qual st f fd) (S : FnScope N ps (defScope st))
    (hm : ∀ (cdv : Value) (A : Around) (outer : List Env) (s : Shared) (H : Hp) (E : XK), Room k (A.deeper (envOfC qual (defScope st) s.heap.objs.size f cdv)) → SNs (cxOf CX0 P w K mg base N qual (defScope st) f cdv A outer s H E).nox (defBody st) m) :
    FnOk P w K mg base CX0 (k + 1) f fd ps (spN K ps.length (runD N.length m)) :=
  F.ok S (fun vs H Q E h => h.1) fun cdv A outer s H vs Q E hr ⟨hl, F', ds, hF, r, q⟩ => by
    have M := hm cdv A outer s H E hr
    refine ⟨_, M.ps H F', F', startD N.length ds, start_ok hF r ?_, ?_⟩
    · rw [hl]
      have := congrArg List.length S.pre
      rw [List.length_take] at this
      omega
    · have h1 : ∀ e, WantsN K F' H Q .non → ∀ σ F1 H1, StOk K H F' F1 H1 e σ → Q .non H1 := fun e q => by
        obtain ⟨es, h, _⟩ := q
        exact nomatch h
      exact M.mono { nx := fun _ => WantsN K F' H Q .non, rt := WantsN K F' H Q } _ _ ⟨fun e q => h1 e q, fun d q => q, fun _ q => q.elim, fun _ q => q.elim⟩ q
structure CalN (P : Program) (w : World) (K : PySem.W.Frag) (mg : Str → Option Value) (base : Heap) (x : Str) (k : Nat) (ps : List Str) (spec : SpecD) : Prop where
  mono : MonoSp spec
  ex : ∃ (f : Addr) (fd : FuncData), FnOk P w K mg base CX0 k f fd ps (spN K ps.length spec) ∧ mg x = some (.ref f) ∧ PySem.W.keepIn K (.ref f) = true ∧ Binds K fd ps []
theorem calN_mk {x qual : Str} {st : Stmt} {f : Addr} {fd : FuncData} {N ps : List Str} {k : Nat} {m : RS} (F : Fun K x qual st f fd) (S : FnScope N ps (defScope st)) (hg : mg x = some (.ref f)) (hb : Binds K fd ps [])
    (hm : ∀ (cdv : Value) (A : Around) (outer : List Env) (s : Shared) (H : Hp) (E : XK), Room k (A.deeper (envOfC qual (defScope st) s.heap.objs.size f cdv)) → SNs (cxOf CX0 P w K mg base N qual (defScope st) f cdv A outer s H E).nox (defBody st) m)
    (hr0 : Room (k + 1) callerA) : CalN P w K mg base x (k + 1) ps (runD N.length m) where
  mono := runD_mono (hm .none callerA [] {} (fun _ => none) (fun _ _ _ => False) (hr0.deeper _)).mono
  ex := ⟨f, fd, fn_okN F S hm, hg, F.kp, hb⟩
end
def rUserN (spec : SpecD) (n : Nat) (m : RN) : RN := fun env Q => m env fun ds e => ds.length = n ∧ spec ds fun d => ∃ es, d = .lst es ∧ Q es e
section
variable {X : Cx} {x : Str} {k : Nat} {ps : List Str} {spec : SpecD} {p pos : Pos} {e : Expr} {es : List Expr} {m : RN}
theorem en_call (c : CalN X.prog X.w X.K X.mg X.base x k ps spec) (hr : Room k X.A) (hg : Gl X x) (ha : EA X (e :: es) m) {n : Nat} (hn : ps.length = n := by rfl) (hdb : (x == ("__debug__" : Str)) = false := by decide)
    (he : starEach (e :: es) X.env = (false, eval e X.env) :: starEach es X.env := by rfl) (hpl : (backTo pos (starEach es X.env)).any (·.1) = false := by rfl) : EN X (.Call (.Name x p) (e :: es) [] pos) (rUserN spec n m) where
  mono := fun env Q Q' i q => ha.mono _ _ _ (fun ds e q => ⟨q.1, c.mono _ _ _ (fun d ⟨es, h, q⟩ => ⟨es, h, i _ _ q⟩) q.2⟩) q
  pe := fun G F0 => by
    obtain ⟨f, fd, F, hm, hk, hb⟩ := c.ex
    refine PE_imp (pe_call F hr hg hm hk hb .nil pass0 (ha.pe G F0) hdb he hpl) fun σ H Q ⟨F, env, k, q⟩ => ⟨F, env, k, ha.mono _ _ _ (fun ds e q vs F1 H1 a1 r1 => ?_) q⟩
    refine ⟨by rw [List.append_nil, r1.length, hn]; exact q.1, F1, ds, a1.ok.fh, by rw [List.append_nil]; exact r1, c.mono _ _ _ (fun d q => ?_) q.2⟩
    obtain ⟨es', h, q⟩ := q
    exact ⟨es', h, fun a ws F2 H2 x2 h1 h2 h3 r2 => q a ws F2 H2 (a1.ext x2) h1 h2 (a1.ok.gh.at_none h3) (a1.ok.notOwn_new h3) r2⟩
end
end DL

namespace DL
open PySem PySem.Spec PyProof.Rows L2

/-! ### x = xs.pop(), a, b = xs.pop(): the last item of a list of one's own -/
def sPop (j : Nat) (g : RG) : RS := fun D env => ownAt env j fun ds => ∃ ys d, ds = ys ++ [d] ∧ g d (es env j (.own (.l ys))) fun e => D.nx e
def sPop1 (i j : Nat) : RS := fun D env => ownAt env j fun ds => ∃ ys d, ds = ys ++ [d] ∧ D.nx (es (es env j (.own (.l ys))) i (.v d))
section
variable {X : Cx} {pos : Pos}
theorem pop_core {G F0 F : Hp} {H : Hp} {σ : L2.St} {env : En} {j : Nat} {ys : List D} {d : D} {Q : VK} (k : StOk X.K G F0 F H env σ) (g0 : env[j]? = some (Sl.own (.l (ys ++ [d]))))
    (h : ∀ v H', StOk X.K G F0 F H' (es env j (.own (.l ys))) σ → Rep X.K F v d → Q v H') : tBM0 X.K "list" rPop (tVar j) σ H Q := by
  obtain ⟨a, ho, ea, hF, hH, r⟩ := k.sl j _ g0
  obtain ⟨vs, rfl, r⟩ := r.lst
  have hl := r.length
  rw [List.length_append] at hl
  simp only [List.length_cons, List.length_nil] at hl
  have e1 : vs = vs.take ys.length ++ vs.drop ys.length := (List.take_append_drop ..).symm
  obtain ⟨y, hy, ry⟩ := r.get (i := ys.length) (d := d) (by simp)
  refine ⟨.ref a, at_some ea, .inl ⟨rfl, vs, .of hH⟩, ?_⟩
  refine ⟨a, vs, y, rfl, rfl, hH, by rw [show vs.length - 1 = ys.length by omega]; exact hy, ?_⟩
  refine h y _ ?_ ry
  rw [es_eq]
  refine k.write g0 ea ?_
  have e2 : vs.dropLast = vs.take ys.length := by rw [List.dropLast_eq_take]; congr 1; omega
  rw [e2]
  have := r.take ys.length
  rw [List.take_left] at this
  exact this
theorem ss_pop {j : Nat} {o tg : Expr} {apos cpos : Pos} {g : RG} {sl : List Nat} (hp : PE X o (tVar j)) (hg : EG X tg sl g)
    (hs : swapsWithSole [tg] (.Call (.Attribute o "pop" apos) [] [] cpos) pos.line X.env = pure false := by rfl) (hw : swappedStores [tg] (.Call (.Attribute o "pop" apos) [] [] cpos) X.env = pure none := by rfl)
    (h1 : (assignEach [tg] X.env).map (·.2) = [assign tg X.env] := by rfl)
    (hbase : attributeBase o "pop" X.env (eval o X.env) = eval o X.env := by rfl) (hline : (apos.endLine == cpos.line) = true := by rfl) :
    SS X (.Assign [tg] (.Call (.Attribute o "pop" apos) [] [] cpos) pos) (sPop j g) where
  mono := fun D D' env l q => ownAt_mono (fun ds ⟨ys, d, h, q⟩ => ⟨ys, d, h, hg.mono _ _ _ _ (fun e q => l.nx _ q) q⟩) q
  ps := fun G F0 => PS_imp (ps_asg (pe_bm0 PySem.F.plainAttrs_list PySem.F.slot_list_pop PySem.F.type_list_pop mt_pop hp hbase hline) (hg.pg G F0) hs hw h1) fun D σ H ⟨F, env, k, q⟩ => by
    obtain ⟨ds, g0, ys, d, rfl, q⟩ := ownAt_get q
    exact pop_core k g0 fun v H' k' r => ⟨F, _, d, k', r, hg.mono _ _ _ _ (fun e q σ' _ k2 => q σ' F _ k2) q⟩
theorem ss_pop1 {i j : Nat} {o : Expr} {x : Str} {apos cpos pos' : Pos} (hN : X.N.Nodup) (hi : X.N[i]? = some x) (hx : Loc X.env.scope x) (hp : PE X o (tVar j))
    (hs : swapsWith (.Call (.Attribute o "pop" apos) [] [] cpos) (some (.Name x pos')) pos.line X.env = pure false := by rfl)
    (hf : X.fn x = true ∨ X.env.scope.names.lookup x = some .local := by first | exact .inl rfl | exact .inr rfl | assumption)
    (hbase : attributeBase o "pop" X.env (eval o X.env) = eval o X.env := by rfl) (hline : (apos.endLine == cpos.line) = true := by rfl) :
    SS X (.Assign [.Name x pos'] (.Call (.Attribute o "pop" apos) [] [] cpos) pos) (sPop1 i j) where
  mono := fun D D' env l q => ownAt_mono (fun ds ⟨ys, d, h, q⟩ => ⟨ys, d, h, l.nx _ q⟩) q
  ps := fun G F0 => PS_imp (ps_set hN hi hx (pe_bm0 PySem.F.plainAttrs_list PySem.F.slot_list_pop PySem.F.type_list_pop mt_pop hp hbase hline) hs hf) fun D σ H ⟨F, env, k, q⟩ => by
    obtain ⟨ds, g0, ys, d, rfl, q⟩ := ownAt_get q
    refine pop_core k g0 fun v H' k' r => ?_
    rw [es_eq (i := i)] at q
    exact q _ F H' (k'.setV i r)
theorem sPop_mono {j : Nat} {g : RG} (hg : MonoG g) : MonoS (sPop j g) := fun D D' env l q => ownAt_mono (fun ds ⟨ys, d, h, q⟩ => ⟨ys, d, h, hg _ _ _ _ (fun e q => l.nx _ q) q⟩) q
end
end DL

namespace DL
open PySem PySem.Spec PyProof.Rows L2

/-! ### calls with lists of one's own, whose result holds no list -/
inductive NoL : D → Prop
  | non : NoL .non
  | bl {b : Bool} : NoL (.bl b)
  | int {i : Int} : NoL (.int i)
  | str {x : Str} : NoL (.str x)
  | tup {ds : List D} : (∀ d ∈ ds, NoL d) → NoL (.tup ds)
  | ins {C : Addr} {ns : List Str} {xs : List D} : (∀ d ∈ xs, NoL d) → NoL (.ins C ns xs)
theorem Rep.noL {K : PySem.W.Frag} {F F' : Hp} (h : ∀ a o, F a = some o → (∀ vs, o ≠ .lst vs) → F' a = some o) {v : V} {d : D} (r : Rep K F v d) : NoL d → Rep K F' v d :=
  Rep.rec (motive_1 := fun v d _ => NoL d → Rep K F' v d) (motive_2 := fun vs ds _ => (∀ d ∈ ds, NoL d) → Reps K F' vs ds)
    (fun _ => .non) (fun b _ => .bl b) (fun i _ => .int i) (fun x _ => .str x)
    (fun q _ ih n => .tup (by
      rcases q with (q | ⟨o, q⟩) | q
      · exact .inl (.inl (h _ _ q fun vs z => nomatch z))
      · exact .inl (.inr ⟨o, h _ _ q fun vs z => nomatch z⟩)
      · exact .inr q) (ih (by cases n with | tup n => exact n)))
    (fun _ _ _ n => nomatch n) (fun _ n => nomatch n)
    (fun k q _ ih n => .ins k (h _ _ q fun vs z => nomatch z) (ih (by cases n with | ins n => exact n)))
    (fun _ n => nomatch n) (fun _ n => nomatch n) (fun _ n => nomatch n)
    (fun _ => .nil) (fun _ _ i1 i2 n => .cons (i1 (n _ (List.mem_cons_self ..))) (i2 fun d hd => n d (List.mem_cons_of_mem _ hd))) r
open Classical in
/-- the tracked heap and the lists among the arguments -/
noncomputable def addL (F H : Hp) (vs : List V) : Hp := fun a => match F a with
  | some o => some o
  | none => if V.ref a ∈ vs ∧ ∃ ws, H a = some (.lst ws) then H a else none
section
variable {K : PySem.W.Frag} {F H : Hp} {vs : List V}
theorem addL_some {a : Addr} {o : HO} (h : F a = some o) : addL F H vs a = some o := by unfold addL; rw [h]
open Classical in
theorem addL_none {a : Addr} (h : F a = none) : addL F H vs a = none ∨ ∃ ws, addL F H vs a = some (.lst ws) ∧ H a = some (.lst ws) := by
  unfold addL
  rw [h]
  by_cases c : V.ref a ∈ vs ∧ ∃ ws, H a = some (.lst ws)
  · obtain ⟨h1, ws, h2⟩ := c
    have c : V.ref a ∈ vs ∧ ∃ ws, H a = some (.lst ws) := ⟨h1, ws, h2⟩
    refine .inr ⟨ws, ?_, h2⟩
    show (if V.ref a ∈ vs ∧ ∃ ws, H a = some (.lst ws) then H a else none) = _
    rw [if_pos c]; exact h2
  · refine .inl ?_
    show (if V.ref a ∈ vs ∧ ∃ ws, H a = some (.lst ws) then H a else none) = _
    rw [if_neg c]
open Classical in
theorem addL_lst {a : Addr} {ws : List V} (hf : Same F H) (h1 : V.ref a ∈ vs) (h2 : H a = some (.lst ws)) : addL F H vs a = some (.lst ws) := by
  unfold addL
  cases e : F a with
  | some o =>
    have := hf _ _ e
    rw [h2] at this; exact this.symm
  | none =>
    show (if V.ref a ∈ vs ∧ ∃ ws, H a = some (.lst ws) then H a else none) = _
    rw [if_pos ⟨h1, ws, h2⟩]; exact h2
theorem addL_same : Same F (addL F H vs) := fun a o h => addL_some h
theorem addL_fh (hf : Same F H) : Same (addL F H vs) H := fun a o h => by
  cases e : F a with
  | some o' =>
    rw [addL_some e] at h; cases h; exact hf _ _ e
  | none =>
    rcases addL_none (H := H) (vs := vs) e with z | ⟨ws, z1, z2⟩
    · rw [z] at h; cases h
    · rw [z1] at h; cases h; exact z2
theorem addL_reps (hf : Same F H) {us : List V} {ds : List D} (r : BReps K F H us ds) : (∀ u ∈ us, u ∈ vs) → Reps K (addL F H vs) us ds := by
  induction r with
  | nil => exact fun _ => .nil
  | cons r _ ih =>
    intro hm
    refine .cons ?_ (ih fun u hu => hm u (List.mem_cons_of_mem _ hu))
    rcases r with r | ⟨a, ws, es, rfl, rfl, h1, h2⟩
    · exact r.mono addL_same
    · exact .lst (addL_lst hf (hm _ (List.mem_cons_self ..)) h1) (h2.mono addL_same)
open Classical in
noncomputable def dropL (F1 H1 F2 : Hp) : Hp := fun a => if F1 a = none ∧ H1 a ≠ none then none else F2 a
theorem dropL_ext {F1 H1 F2 H2 : Hp} (hf : Same F1 H1) (x : Ext (addL F1 H1 vs) H1 F2 H2) : Ext F1 H1 (dropL F1 H1 F2) H2 where
  fF := fun a o h => by
    unfold dropL
    rw [if_neg (fun z => by rw [h] at z; cases z.1)]
    exact x.fF _ _ (addL_some h)
  hH := x.hH
  fh := fun a o h => by
    unfold dropL at h
    split at h
    · cases h
    · exact x.fh _ _ h
  nw := fun a n => by
    unfold dropL
    cases e : F1 a with
    | none => rw [if_pos ⟨rfl, n⟩]
    | some o =>
      rw [if_neg (fun z => nomatch z.1), x.nw a n]
      exact addL_some e
theorem dropL_rep {F1 H1 F2 H2 : Hp} (x : Ext (addL F1 H1 vs) H1 F2 H2) {v : V} {d : D} (n : NoL d) (r : Rep K F2 v d) : Rep K (dropL F1 H1 F2) v d := r.noL (fun a o h nl => by
  unfold dropL
  by_cases c : F1 a = none ∧ H1 a ≠ none
  · rw [x.nw a c.2] at h
    rcases addL_none (H := H1) (vs := vs) c.1 with z | ⟨ws, z1, _⟩
    · rw [z] at h; cases h
    · rw [z1] at h; cases h; exact absurd rfl (nl ws)
  · rw [if_neg c]; exact h) n
end
def rUserL (spec : SpecD) (nd : List D) (n : Nat) (m : RN) : RE := fun env Q => m env fun ds e => (ds ++ nd).length = n ∧ spec (ds ++ nd) fun d => NoL d ∧ Q d e
section
variable {X : Cx} {x : Str} {k : Nat} {ps : List Str} {nd : List D} {spec : SpecD} {p pos : Pos} {e : Expr} {es : List Expr} {m : RN}
theorem ee_callL (c : Cal X.prog X.w X.K X.mg X.base x k ps nd spec) (hr : Room k X.A) (hg : Gl X x) (ha : EAb X (e :: es) m) {n : Nat} (hn : ps.length = n := by rfl) (hdb : (x == ("__debug__" : Str)) = false := by decide)
    (he : starEach (e :: es) X.env = (false, eval e X.env) :: starEach es X.env := by rfl) (hpl : (backTo pos (starEach es X.env)).any (·.1) = false := by rfl) : EE X (.Call (.Name x p) (e :: es) [] pos) (rUserL spec nd n m) where
  mono := fun env Q Q' i q => ha.mono _ _ _ (fun ds e q => ⟨q.1, c.mono _ _ _ (fun d q => ⟨q.1, i _ _ q.2⟩) q.2⟩) q
  pe := fun G F0 => by
    obtain ⟨f, fd, dvs, ds, F, hm, hk, hb, hd, rd, hl⟩ := c.ex
    refine PE_imp (pe_call F hr hg hm hk hb hd pass0 (ha.pe G F0) hdb he hpl) fun σ H Q ⟨F, env, k, q⟩ => ⟨F, env, k, ha.mono _ _ _ (fun es e q vs F1 H1 a1 r1 => ?_) q⟩
    have r2 := (addL_reps (vs := vs) a1.ok.fh r1 fun u hu => hu).append (rd (addL F1 H1 vs))
    refine ⟨by rw [r2.length, hn]; exact q.1, addL F1 H1 vs, _, addL_fh a1.ok.fh, r2, c.mono _ _ _ (fun d q v F2 H2 x2 r2 => ?_) q.2⟩
    exact q.2 v (dropL F1 H1 F2) H2 (a1.ext (dropL_ext a1.ok.fh x2)) (dropL_rep x2 q.1 r2)
end
end DL

namespace DL
open PySem PySem.Spec PyProof.Rows L2
/-! ### a def with keyword-only parameters called without them; two keywords the other way round -/
section
variable {P : Program} {w : World} {K : PySem.W.Frag} {mg : Str → Option Value} {base : PySem.Heap} {x xf qual : Str} {k n : Nat} {ks ps : List Str} {spec : SpecD} {f : Addr} {fd : FuncData} {params : Arguments} {body : List Stmt} {scope : Scope} {ms kws : List (Str × V)} {md : List D}
theorem cal_mkD0 (h1 : MonoSp spec) (hw : kws ≠ []) (hmd : ∀ F, Reps K F (kws.map (·.2)) md) (hn : n + kws.length = ps.length) (h4 : FnOk P w K mg base CX0 k f fd ps (spD K ps.length spec)) (hm : mg x = some (.ref f)) (kp : PySem.W.keepIn K (.ref f) = true)
    (FD : FunD K xf qual params body scope [] kws f fd)
    (h7 : ∀ (D : Addr) (doc pm : Value) (an : Option Addr) (cdv ct : Value) (us mv : List Value), us.length = n → mv.length = kws.length →
      KwChain D ((kws.map (·.1)).zip mv) (bindArgs (PySem.W.fnOf xf qual params body scope .none (.ref D) doc pm an cdv ct) ⟨us, []⟩) (ps.zip (us ++ mv))) : Cal P w K mg base x k ps md spec where
  mono := h1
  ex := by
    obtain ⟨ds, hv, hb⟩ := FD.binds0 (ps := ps) n hw hn h7
    exact ⟨f, fd, _, ds, h4, hm, kp, hb, hv, hmd, by rw [← (hmd fun _ => none).length, List.length_map]; omega⟩
theorem calK_mkR (h1 : MonoSp spec) (hn : ps.length = n + ks.length) (h4 : FnOk P w K mg base CX0 k f fd ps (spD K ps.length spec)) (hm : mg x = some (.ref f)) (kp : PySem.W.keepIn K (.ref f) = true)
    (h7 : ∀ (s : Shared) (us ws : List Value), us.length = n → ws.length = ks.length → BindsTo s fd ⟨us, ks.zip ws⟩ (ps.zip (us ++ ws.reverse))) : CalK P w K mg base x k n ks (fun ds es => ds ++ es.reverse) spec where
  mono := h1
  ex := ⟨f, fd, ps, fun us ws => us ++ ws.reverse, fun vs zs => vs ++ zs.reverse, h4, hm, kp, ⟨fun s us ws _ l1 l2 => h7 s us ws l1 l2, fun r1 r2 => r1.append r2.reverse⟩, fun F vs zs ds es l1 l2 r1 r2 => ⟨by rw [List.length_append, List.length_reverse, l1, l2, hn], r1.append r2.reverse⟩⟩
end
end DL

namespace DL
open PySem PySem.Spec PyProof.Rows L2
/-! ### defs that answer with something flat or with a new list, called with lists of one's own -/
section
variable {X : Cx} {i : Nat} {x : Str} {p : Pos}
theorem StOk.giveUp {K : PySem.W.Frag} {G F0 F H : Hp} {env : En} {σ : L2.St} (k : StOk K G F0 F H env σ) {ds : List D} (e : env[i]? = some (Sl.own (.l ds))) :
    ∃ a vs, L2.St.at σ i = some (V.ref a) ∧ H a = some (.lst vs) ∧ F a = none ∧ G a = none ∧ Reps K F vs ds ∧ StOk K G F0 F H (env.set i .un) σ ∧ NotOwn (env.set i .un) σ a := by
  obtain ⟨a, ho, ea, hF, hH, r⟩ := k.sl i _ e
  obtain ⟨vs, rfl, r⟩ := r.lst
  have hi : i < env.length := (List.getElem?_eq_some_iff.mp e).1
  have nt : ∀ (j : Nat) (c : OC), (env.set i Sl.un)[j]? = some (Sl.own c) → j ≠ i ∧ env[j]? = some (Sl.own c) := fun j c h => by
    rcases getElem?_set_some h with ⟨_, z, _⟩ | ⟨h1, h2⟩
    · cases z
    · exact ⟨h1, h2⟩
  refine ⟨a, vs, ea, hH, hF, k.og i _ a e ea, r, ⟨k.fh, k.gh, k.ff, k.nw, by rw [List.length_set]; exact k.len, fun j s h => ?_, fun j c b h => k.og j c b (nt j c h).2, fun j j' c c' b h h' => k.inj j j' c c' b (nt j c h).2 (nt j' c' h').2⟩, fun j c h z => (nt j c h).1 (k.inj j i c _ a (nt j c h).2 e z ea)⟩
  rcases getElem?_set_some h with ⟨_, rfl, _⟩ | ⟨_, h2⟩
  · trivial
  · exact k.sl j s h2
theorem en_own (hp : PE X (.Name x p) (tVar i)) : EN X (.Name x p) (rOwnV i) where
  mono := rOwnV_mono
  pe := fun G F0 => PE_imp hp fun σ H Q ⟨F, env, k, ds, h, q⟩ => by
    obtain ⟨a, vs, ea, hH, hF, hG, r, k2, no⟩ := k.giveUp h
    refine ⟨.ref a, at_some ea, ?_⟩
    rw [es_eq] at q
    exact q a vs F H ⟨Same.refl _, Same.refl _, k2⟩ hH hF hG no r
end
def liftV (K : PySem.W.Frag) (G F0 : Hp) (D : Ends) : DE where
  nx := fun env => ∀ σ F H, StOk K G F0 F H env σ → D.nx σ H
  rt := fun d => (flat d ∧ ∀ v F H, Ext F0 G F H → Rep K F v d → D.rt v H) ∨ ∃ es, d = .lst es ∧ ∀ a vs F H, Ext F0 G F H → H a = some (.lst vs) → F a = none → G a = none → Reps K F vs es → D.rt (.ref a) H
  bk := fun env => ∀ σ F H, StOk K G F0 F H env σ → D.bk σ H
  ct := fun env => ∀ σ F H, StOk K G F0 F H env σ → D.ct σ H
def tStV (K : PySem.W.Frag) (G F0 : Hp) (m : RS) : TS := fun D σ H => ∃ F env, StOk K G F0 F H env σ ∧ m (liftV K G F0 D) env
structure SVs (X : Cx) (st : List Stmt) (m : RS) : Prop where
  mono : MonoS m
  ps : ∀ G F0, PSs X st (tStV X.K G F0 m)
def sSeqV (m m' : RS) : RS := fun D env => m { D with rt := fun d => flat d ∧ D.rt d, nx := fun e => m' D e } env
section
variable {X : Cx} {st : Stmt} {rest : List Stmt} {m m' : RS} {e : Expr} {mn : RN} {pos : Pos}
theorem sv_ret (h : EN X e mn) : SVs X [.Return (some e) pos] (sRetO mn) where
  mono := fun D D' env l q => h.mono _ _ _ (fun d e q => l.rt _ q) q
  ps := fun G F0 => pss_one (PS_imp (ps_ret (h.pe G F0)) fun D σ H ⟨F, env, k, q⟩ => ⟨F, env, k, h.mono _ _ _ (fun ds e q a vs F' H' af h2 h3 h4 _ r => by
    rcases q with ⟨z, _⟩ | ⟨es, h1, q⟩
    · exact z.elim
    · cases h1
      exact q a vs F' H' af.ok.toExt h2 h3 h4 r) q⟩)
theorem sv_cons (h1 : SS X st m) (h2 : SVs X rest m') : SVs X (st :: rest) (sSeqV m m') where
  mono := fun Z Z' env l q => h1.mono { Z with rt := fun d => flat d ∧ Z.rt d, nx := fun e => m' Z e } { Z' with rt := fun d => flat d ∧ Z'.rt d, nx := fun e => m' Z' e } env ⟨fun e q => h2.mono Z Z' e l q, fun d q => ⟨q.1, l.rt d q.2⟩, l.bk, l.ct⟩ q
  ps := fun G F0 => PSs_imp (pss_cons (h1.ps G F0) (h2.ps G F0)) fun Z σ H ⟨F, env, k, q⟩ => ⟨F, env, k, h1.mono { liftV X.K G F0 Z with rt := fun d => flat d ∧ (liftV X.K G F0 Z).rt d, nx := fun e => m' (liftV X.K G F0 Z) e } _ env ⟨fun e q σ' F' H' k' => ⟨F', e, k', q⟩, fun d ⟨hf, q⟩ v F' H' x r => by
    rcases q with ⟨_, q⟩ | ⟨es, h, _⟩
    · exact q v F' H' x r
    · subst h; exact hf.elim, fun _ q => q, fun _ q => q⟩ q⟩
end
def WantsV (K : PySem.W.Frag) (F H : Hp) (Q : VK) (d : D) : Prop := (flat d ∧ ∀ v F' H', Ext F H F' H' → Rep K F' v d → Q v H') ∨ ∃ es, d = .lst es ∧ ∀ a ws F' H', Ext F H F' H' → H' a = some (.lst ws) → F' a = none → H a = none → Reps K F' ws es → Q (.ref a) H'
def spV (K : PySem.W.Frag) (n : Nat) (spec : SpecD) : Sp := fun vs H Q _ => vs.length = n ∧ ∃ F ds, Same F H ∧ Reps K F vs ds ∧ spec ds (WantsV K F H Q)
section
variable {P : Program} {w : World} {K : PySem.W.Frag} {mg : Str → Option Value} {base : Heap}
theorem fn_okV {x qual : Str} {st : Stmt} {f : Addr} {fd : FuncData} {N ps : List Str} {k : Nat} {m : RS} (F : Fun K x qual st f fd) (S : FnScope N ps (defScope st))
    (hm : ∀ (cdv : Value) (A : Around) (outer : List Env) (s : Shared) (H : Hp) (E : XK), Room k (A.deeper (envOfC qual (defScope st) s.heap.objs.size f cdv)) → SVs (cxOf CX0 P w K mg base N qual (defScope st) f cdv A outer s H E).nox (defBody st) m) :
    FnOk P w K mg base CX0 (k + 1) f fd ps (spV K ps.length (runD N.length m)) :=
  F.ok S (fun vs H Q E h => h.1) fun cdv A outer s H vs Q E hr ⟨hl, F', ds, hF, r, q⟩ => by
    have M := hm cdv A outer s H E hr
    refine ⟨_, M.ps H F', F', startD N.length ds, start_ok hF r ?_, ?_⟩
    · rw [hl]
      have := congrArg List.length S.pre
      rw [List.length_take] at this
      omega
    · have h1 : ∀ e, WantsV K F' H Q .non → ∀ σ F1 H1, StOk K H F' F1 H1 e σ → Q .non H1 := fun e q σ F1 H1 k => by
        rcases q with ⟨_, q⟩ | ⟨es, h, _⟩
        · exact q .non F1 H1 k.toExt .non
        · exact nomatch h
      exact M.mono { nx := fun _ => WantsV K F' H Q .non, rt := WantsV K F' H Q } _ _ ⟨fun e q => h1 e q, fun d q => q, fun _ q => q.elim, fun _ q => q.elim⟩ q
structure CalV (P : Program) (w : World) (K : PySem.W.Frag) (mg : Str → Option Value) (base : Heap) (x : Str) (k : Nat) (ps : List Str) (spec : SpecD) : Prop where
  mono : MonoSp spec
  ex : ∃ (f : Addr) (fd : FuncData), FnOk P w K mg base CX0 k f fd ps (spV K ps.length spec) ∧ mg x = some (.ref f) ∧ PySem.W.keepIn K (.ref f) = true ∧ Binds K fd ps []
theorem calV_mk {x qual : Str} {st : Stmt} {f : Addr} {fd : FuncData} {N ps : List Str} {k : Nat} {m : RS} (F : Fun K x qual st f fd) (S : FnScope N ps (defScope st)) (hg : mg x = some (.ref f)) (hb : Binds K fd ps [])
    (hm : ∀ (cdv : Value) (A : Around) (outer : List Env) (s : Shared) (H : Hp) (E : XK), Room k (A.deeper (envOfC qual (defScope st) s.heap.objs.size f cdv)) → SVs (cxOf CX0 P w K mg base N qual (defScope st) f cdv A outer s H E).nox (defBody st) m)
    (hr0 : Room (k + 1) callerA) : CalV P w K mg base x (k + 1) ps (runD N.length m) where
  mono := runD_mono (hm .none callerA [] {} (fun _ => none) (fun _ _ _ => False) (hr0.deeper _)).mono
  ex := ⟨f, fd, fn_okV F S hm, hg, F.kp, hb⟩
end
/-- flat, or a list of things that hold no list -/
def OkV (d : D) : Prop := flat d ∨ ∃ es, d = .lst es ∧ ∀ x ∈ es, NoL x
def rUserV (spec : SpecD) (n : Nat) (m : RN) : RE := fun env Q => m env fun ds e => ds.length = n ∧ spec ds fun d => OkV d ∧ Q d e
theorem Reps.noLs {K : PySem.W.Frag} {F F' : Hp} (h : ∀ a o, F a = some o → (∀ vs, o ≠ .lst vs) → F' a = some o) : ∀ {vs : List V} {ds : List D}, Reps K F vs ds → (∀ d ∈ ds, NoL d) → Reps K F' vs ds
  | _, _, .nil, _ => .nil
  | _, _, .cons r t, n => .cons (Rep.noL h r (n _ (List.mem_cons_self ..))) (Reps.noLs h t fun d hd => n d (List.mem_cons_of_mem _ hd))
section
variable {X : Cx} {x : Str} {k : Nat} {ps : List Str} {spec : SpecD} {p pos : Pos} {e : Expr} {es : List Expr} {m : RN}
theorem ee_callV (c : CalV X.prog X.w X.K X.mg X.base x k ps spec) (hr : Room k X.A) (hg : Gl X x) (ha : EAb X (e :: es) m) {n : Nat} (hn : ps.length = n := by rfl) (hdb : (x == ("__debug__" : Str)) = false := by decide)
    (he : starEach (e :: es) X.env = (false, eval e X.env) :: starEach es X.env := by rfl) (hpl : (backTo pos (starEach es X.env)).any (·.1) = false := by rfl) : EE X (.Call (.Name x p) (e :: es) [] pos) (rUserV spec n m) where
  mono := fun env Q Q' i q => ha.mono _ _ _ (fun ds e q => ⟨q.1, c.mono _ _ _ (fun d q => ⟨q.1, i _ _ q.2⟩) q.2⟩) q
  pe := fun G F0 => by
    obtain ⟨f, fd, F, hm, hk, hb⟩ := c.ex
    refine PE_imp (pe_call F hr hg hm hk hb .nil pass0 (ha.pe G F0) hdb he hpl) fun σ H Q ⟨F, env, k, q⟩ => ⟨F, env, k, ha.mono _ _ _ (fun es e q vs F1 H1 a1 r1 => ?_) q⟩
    have r2 := addL_reps (vs := vs) a1.ok.fh r1 fun u hu => hu
    refine ⟨by rw [List.append_nil, r2.length, hn]; exact q.1, addL F1 H1 vs, _, addL_fh a1.ok.fh, by rw [List.append_nil]; exact r2, c.mono _ _ _ (fun d q => ?_) q.2⟩
    obtain ⟨ov, q⟩ := q
    rcases ov with hf | ⟨ls, rfl, hn⟩
    · exact .inl ⟨hf, fun v F2 H2 x2 r2 => q v (dropL F1 H1 F2) H2 (a1.ext (dropL_ext a1.ok.fh x2)) (r2.flat_any hf)⟩
    · refine .inr ⟨ls, rfl, fun a ws F2 H2 x2 hH hF hN r2 => ?_⟩
      have dx := dropL_ext a1.ok.fh x2
      have da : dropL F1 H1 F2 a = none := by
        unfold dropL
        split
        · rfl
        · exact hF
      have rr : Reps X.K (dropL F1 H1 F2) ws ls := r2.noLs (fun b o h nl => by
        unfold dropL
        by_cases c : F1 b = none ∧ H1 b ≠ none
        · rw [x2.nw b c.2] at h
          rcases addL_none (H := H1) (vs := vs) c.1 with z | ⟨ws, z1, _⟩
          · rw [z] at h; cases h
          · rw [z1] at h; cases h; exact absurd rfl (nl ws)
        · rw [if_neg c]; exact h) hn
      have sd : Same (dropL F1 H1 F2) (upd (dropL F1 H1 F2) a (.lst ws)) := same_upd da
      refine q (.ref a) (upd (dropL F1 H1 F2) a (.lst ws)) H2 (a1.ext ⟨dx.fF.trans sd, dx.hH, fun b o hb => ?_, fun b nb => ?_⟩) (.lst upd_same (rr.mono sd))
      · by_cases c : b = a
        · subst c; rw [upd_same] at hb; rw [hH]; exact hb
        · rw [upd_ne c] at hb; exact dx.fh _ _ hb
      · have : b ≠ a := fun z => nb (z ▸ hN)
        rw [upd_ne this]; exact dx.nw b nb
end
end DL

namespace DL
open PySem PySem.Spec PyProof.Rows L2
/-! ### x.insert(k, e), x a list of one's own -/
def sIns (i : Nat) (mk me : RE) : RS := fun D env => ownAt env i fun _ => mk env fun k e1 => me e1 fun d e2 => match k with
  | .int j => ownAt e2 i fun ds => ds.length < sizeLine ∧ 0 ≤ j ∧ j < 2 ^ 63 ∧ D.nx (es e2 i (.own (.l (ds.take j.toNat ++ [d] ++ ds.drop j.toNat))))
  | _ => False
section
variable {X : Cx} {e o ix : Expr} {me mk : RE} {pos apos cpos : Pos} {i : Nat}
theorem sIns_mono (hk : MonoQ mk) (h : MonoQ me) : MonoS (sIns i mk me) := fun D D' env l q => ownAt_mono (fun ds q => hk _ _ _ (fun k e1 q => h _ _ _ (fun d e q => by
  cases k <;> first | exact q | exact ownAt_mono (fun ds q => ⟨q.1, q.2.1, q.2.2.1, l.nx _ q.2.2.2⟩) q) q) q) q
theorem ss_insert (hp : PE X o (tVar i)) (hk : EE X ix mk) (he : EE X e me)
    (hs : swapsWith (.Call (.Attribute o "insert" apos) [ix, e] [] cpos) none pos.line X.env = pure false := by rfl)
    (hbase : attributeBase o "insert" X.env (eval o X.env) = eval o X.env := by rfl)
    (hfew : ((backTo cpos (starEach [ix, e] X.env)).all (fun x => !x.1) && (backToKw cpos (keywordEach [] X.env)).all (fun x => x.1.isSome)
      && decide (([ix, e] : List Expr).length + ([] : List Keyword).length + (if ([] : List Keyword).isEmpty then 0 else 1) < 30)) = true := by rfl)
    (hline : (apos.endLine == cpos.line) = true := by rfl) (hst : starEach [ix, e] X.env = (false, eval ix X.env) :: starEach [e] X.env := by rfl) (hst2 : starEach [e] X.env = (false, eval e X.env) :: starEach [] X.env := by rfl) (hpl : (backTo cpos (starEach [e] X.env)).any (·.1) = false := by rfl) :
    SS X (.Expr (.Call (.Attribute o "insert" apos) [ix, e] [] cpos) pos) (sIns i mk me) where
  mono := sIns_mono hk.mono he.mono
  ps := fun G F0 => PS_imp (ps_expr (pe_bm PySem.F.plainAttrs_list PySem.F.slot_list_insert PySem.F.type_list_insert mt_insert hp (pa_cons (hk.pe G F0) (pa_cons (he.pe G F0) pa_nil hst2) hst) hbase hfew hline hst hpl) hs) fun D σ H ⟨F, env, k, q⟩ => by
    obtain ⟨ds0, g0, q⟩ := ownAt_get q
    obtain ⟨a, ho, ea, hF, hH, r⟩ := k.sl i _ g0
    obtain ⟨vs, rfl, r⟩ := r.lst
    refine ⟨.ref a, at_some ea, .inl ⟨rfl, vs, .of hH⟩, ?_⟩
    refine ⟨F, env, k, hk.mono _ _ _ (fun kd e0 q kv F0' H0 a0 r0 => ?_) q⟩
    refine ⟨F0', e0, a0.ok, he.mono _ _ _ (fun d e q v F1 H1 a1 r1 => ?_) q⟩
    cases r0 <;> first | exact q.elim | skip
    obtain ⟨ds, g, hz, j0, j1, q⟩ := ownAt_get q
    obtain ⟨b, ho', eb, hF', hH', r'⟩ := a1.ok.sl i _ g
    obtain ⟨vs', rfl, r'⟩ := r'.lst
    rw [ea] at eb; cases eb
    refine ⟨a, vs', _, v, rfl, rfl, hH', by rw [r'.length]; exact hz, j0, j1, ?_⟩
    rw [es_eq] at q
    exact q σ F1 _ (a1.ok.write g ea (((r'.take _).append (Reps.one r1)).append (r'.drop _)))
end
end DL

namespace DL
open PySem PySem.Spec PyProof.Rows L2
/-! ### set(list of ints) and its length -/
def nubI (ns : List Int) : List Int := PyProof.Rows.firstMet (fun i => ns.getD i 0) ns.length
def nSetI : OpN := fun ds Q => match ds with
  | [.lst xs] => ∃ ns : List Int, xs = ns.map D.int ∧ ns.length < 1000 ∧ Q (.sz (nubI ns).length)
  | _ => False
def nLenS : OpN := fun ds Q => match ds with
  | [.sz n] => n < 1000 ∧ Q (.int n)
  | _ => False
theorem nSetI_mono : MonoN nSetI := by unfold nSetI; intro ds Q Q' i q; revert q; split <;> intro q <;> first | exact q.elim | (obtain ⟨ns, h1, h2, h3⟩ := q; exact ⟨ns, h1, h2, i _ h3⟩)
theorem nLenS_mono : MonoN nLenS := by unfold nLenS; intro ds Q Q' i q; revert q; split <;> intro q <;> first | exact q.elim | exact ⟨q.1, i _ q.2⟩
theorem Wants.newS {K : PySem.W.Frag} {F H : Hp} {Q : VK} {S : Int → Bool} {n : Nat} {p : Addr} (hf : Same F H) (hp : H p = none) (h : Wants K F H Q (.sz n)) : Q (.ref p) (upd H p (.set S n)) := by
  have x := Ext.alloc (o := .set S n) hf hp
  exact h _ _ _ x (.sz upd_same)
theorem intsAre_vals : ∀ {ns : List Int} {us : List Value}, Vals (ns.map V.int) us → PyProof.Rows.IntsAre us ns
  | [], _, .nil => .nil
  | n :: ns, _, .cons r t => by
    obtain ⟨k, rfl⟩ := r
    exact .cons n k (intsAre_vals t)
section
variable {X : Cx}
theorem cn_setI (hc : X.calm = true) : CallR X (.type "set") (rDc X.K nSetI) := fun pins s σ H xs us Q I r ⟨F, ds, hf, r1, q⟩ => by
  unfold nSetI at q
  split at q
  · obtain ⟨v, rfl, r2⟩ := r1.one
    obtain ⟨ns, rfl, hl, q⟩ := q
    obtain ⟨a, vs, rfl, h, rs⟩ := r2.lst hf
    have ev := rs.ints
    subst ev
    obtain ⟨u, rfl, ru⟩ := vals1 r
    cases ru
    obtain ⟨its, rv, pl, hz⟩ := I.list (.of h)
    have hlen : its.toArray.size = ns.length := by rw [List.size_toArray, ← rv.length, List.length_map]
    refine call_set_list (I.ok.hd hc) pl.isList (by simpa using intsAre_vals rv) (by rw [hlen]; unfold scanBound; omega) fun h' tk hS hk => ?_
    rw [hlen] at hS
    have I2 := I.laid (t' := tk) (fun b o e => hk b o (Heap.lt_size e) e) (Nat.le_refl _) (show ObjOk X.prog X.w _ _ _ (.set _ _) from hS)
    exact ⟨.ref s.heap.objs.size, _, I2, rfl, q.newS hf (I.hok.fresh (Nat.le_refl _))⟩
  · exact q.elim
theorem cn_lenS : CallR X (.builtin "len") (rDc X.K nLenS) := fun pins s σ H xs us Q I r ⟨F, ds, hf, r1, q⟩ => by
  unfold nLenS at q
  split at q
  · obtain ⟨v, rfl, r2⟩ := r1.one
    rcases r2 with r2 | ⟨_, _, _, _, z, _⟩
    · cases r2 with
      | sz hF =>
        obtain ⟨u, rfl, ru⟩ := vals1 r
        cases ru
        have hS := I.hok _ _ (hf _ _ hF)
        obtain ⟨o, es, ep, t, ho, hex, hd, _, _, _, hft, hn⟩ := hS
        exact call_len_set ho hex hd hft (by rw [hn]; have := q.1; omega) ⟨.int _, H, I.tok _, ⟨_, by rw [hn]⟩, q.2.int hf⟩
    · cases z
  · exact q.elim
end
end DL

namespace PySem
/-! ### max(t) of a tuple of ints -/
section
variable {prog : Program} {w : World} {A : Around} {E : Value → Shared → Prop} {s : Shared} {l : Addr} {xs : Array (Int × Tok)}
theorem iter_intTup {Q : Value → Shared → Prop} (hl : s.heap.IsTuple l (intItems xs))
    (h : ∀ s₂ : Shared, s₂ = { s with heap := s.heap.push { cls := .type "tuple_iterator", data := .fields #[.ref l, .int 0 0] } } →
      (s₂.heap.IsTupleIter s.heap.objs.size l 0 ∧ s₂.heap.IsTuple l (intItems xs)) → (∀ b ∈ [s.heap.objs.size, l], b < s₂.heap.objs.size) → l ≠ s.heap.objs.size → Q (.ref s.heap.objs.size) s₂) :
    wpAny (model prog w) A (pyIter (.ref l)) Q E s := by
  have hlt : l < s.heap.objs.size := by obtain ⟨_, e, _⟩ := id hl; exact Heap.lt_size e
  refine wpAny_pyIter_tuple hl (h _ rfl ⟨⟨_, Heap.get?_push_size _ rfl, rfl, rfl⟩, hl.push _⟩ (fun b hb => ?_) (Nat.ne_of_lt hlt))
  show b < (s.heap.push _).objs.size
  rw [Heap.size_push]
  rcases List.mem_cons.mp hb with rfl | hb
  · exact Nat.lt_succ_self _
  · rcases List.mem_cons.mp hb with rfl | hb
    · exact Nat.lt_succ_of_lt hlt
    · cases hb
theorem old_keptT {h' : Heap} (hk : ∀ b o, b ∉ [s.heap.objs.size] → (s.heap.push { cls := .type "tuple_iterator", data := .fields #[.ref l, .int 0 0] }).get? b = some o → h'.get? b = some o) :
    ∀ b o, s.heap.get? b = some o → h'.get? b = some o := fun b o e => by
  refine hk b o (fun hm => ?_) (Heap.get?_push_of_some _ e)
  rcases List.mem_cons.mp hm with e1 | hm
  · exact absurd (e1 ▸ Heap.lt_size e) (Nat.lt_irrefl _)
  · cases hm
theorem max_intTup {Q : Value → Shared → Prop} (hh : A.handled = none) (hl : s.heap.IsTuple l (intItems xs)) (hne : 0 < xs.size)
    (h : ∀ v h' tk, (intItems xs)[argBest (fun i j => decide (numAt xs i > numAt xs j)) (xs.size - 1)]? = some v → (∀ b o, s.heap.get? b = some o → h'.get? b = some o) → Q v { s with heap := h', toks := tk }) :
    wpAny (model prog w) A (call (.builtin "max") [.ref l]) Q E s := by
  refine call_max_walk (iter_intTup hl fun s₂ e st hfp hlI => ?_)
  subst e
  refine ⟨_, _, _, _, _, _, _, rfl, Walks.tuple (A := A.in1) hh _ l hlI (intItems xs), st, hfp, by simpa [intItems] using hne, CmpOf.ints_gt (numAt xs) (fun _ _ => intItems_at), fun v h' tk hP hk => ?_⟩
  exact h v h' tk (by simpa [intItems] using hP) (old_keptT hk)
end
end PySem
namespace L2
open PySem PySem.Spec PyProof.Rows
section
variable {prog : Program} {w : World} {A : Around} {E : Value → Shared → Prop} {s : Shared} {l : Addr} {its : List Value} {ns : List Int}
theorem max_rawT {Q : Value → Shared → Prop} (hh : A.handled = none) (hl : s.heap.IsTuple l its.toArray) (hi : IntsAre its ns) (hne : 0 < ns.length)
    (h : ∀ h' tk M t', (∀ b o, s.heap.get? b = some o → h'.get? b = some o) → M ∈ ns → (∀ a, a ∈ ns → a ≤ M) → Q (.int M t') { s with heap := h', toks := tk }) : wpAny (model prog w) A (call (.builtin "max") [.ref l]) Q E s := by
  obtain ⟨xs, e⟩ := hi.allInts.items
  have hn : numsOf (intItems xs).toList = ns := by rw [← e]; exact hi.numsOf
  rw [nums_intItems] at hn
  subst hn
  rw [e] at hl
  have hsz : 0 < xs.size := by simpa using hne
  refine PySem.max_intTup hh hl hsz fun v h' tk hv hk => ?_
  obtain ⟨t, rfl⟩ := intItems_at hv
  obtain ⟨h1, h2⟩ := argBest_gt (numAt xs) (xs.size - 1)
  refine h h' tk _ t hk ?_ fun a ha => ?_
  · rw [numAt_eq]; exact PySem.getD_mem (by rw [List.length_map, Array.length_toList]; omega)
  · obtain ⟨j, hj, rfl⟩ := mem_getD ha
    rw [List.length_map, Array.length_toList] at hj
    rw [← numAt_eq]; exact h2 j (by omega)
end
end L2
namespace DL
open PySem PySem.Spec PyProof.Rows L2
def nMaxT : OpN := fun ds Q => match ds with
  | [.tup xs] => ∃ ns, asInts xs = some ns ∧ 0 < ns.length ∧ ∀ m, m ∈ ns → (∀ y, y ∈ ns → y ≤ m) → Q (.int m)
  | _ => False
theorem nMaxT_mono : MonoN nMaxT := by unfold nMaxT; intro ds Q Q' i q; revert q; split <;> intro q <;> first | exact q.elim | (obtain ⟨ns, h1, h2, h3⟩ := q; exact ⟨ns, h1, h2, fun m a b => i _ (h3 m a b)⟩)
theorem cn_maxT {X : Cx} (hc : X.calm = true) : CallR X (.builtin "max") (rDc X.K nMaxT) := fun pins s σ H xs us Q I r ⟨F, ds, hf, r1, q⟩ => by
  unfold nMaxT at q
  split at q
  · obtain ⟨v, rfl, r2⟩ := r1.one
    obtain ⟨a, vs, rfl, h, rs, _⟩ := r2.tup hf
    obtain ⟨ns, e, h0, q⟩ := q
    rw [asInts_eq e] at rs
    rw [rs.ints] at h
    obtain ⟨its, rv, pt, hz⟩ := I.tuple h
    rw [Vals.ref1 r]
    exact max_rawT (I.ok.hd hc) (show s.heap.IsTuple a its.toArray from pt) (intsAre_vals rv) h0 fun h' tk m t' hk h1 h2 => ⟨.int _, H, I.kept hk, ⟨_, rfl⟩, (q m h1 h2).int hf⟩
  · exact q.elim
end DL

namespace DL
open PySem PySem.Spec PyProof.Rows L2

/-! ### sorted(xs): a new list, of ints or of texts -/
theorem Reps.of_strs {K : PySem.W.Frag} {F : Hp} : ∀ (ns : List Str), Reps K F (ns.map V.str) (ns.map D.str)
  | [] => .nil
  | n :: ns => .cons (.str n) (Reps.of_strs ns)
def nSortI : OpNL := fun ds Q => match ds with
  | [.lst xs] => ∃ ns, asInts xs = some ns ∧ ∀ ms : List Int, ms.Perm ns → ms.Pairwise (· ≤ ·) → Q (ms.map D.int)
  | _ => False
def nSortS : OpNL := fun ds Q => match ds with
  | [.lst xs] => ∃ ns, asStrs xs = some ns ∧ ns.length < 64 ∧ ∀ ms : List Str, ms.Perm ns → sortedS ms = true → Q (ms.map D.str)
  | _ => False
theorem nSortI_mono : ∀ ds (Q Q' : List D → Prop), (∀ x, Q x → Q' x) → nSortI ds Q → nSortI ds Q' := by
  unfold nSortI; intro ds Q Q' i q; revert q; split <;> intro q <;> first | exact q.elim | (obtain ⟨ns, h1, h2⟩ := q; exact ⟨ns, h1, fun m a b => i _ (h2 m a b)⟩)
theorem nSortS_mono : ∀ ds (Q Q' : List D → Prop), (∀ x, Q x → Q' x) → nSortS ds Q → nSortS ds Q' := by
  unfold nSortS; intro ds Q Q' i q; revert q; split <;> intro q <;> first | exact q.elim | (obtain ⟨ns, h1, h0, h2⟩ := q; exact ⟨ns, h1, h0, fun m a b => i _ (h2 m a b)⟩)
section
variable {X : Cx} {x : Str} {p pos : Pos} {e : Expr} {es : List Expr} {m : RN} {id : String} {δ : OpNL}
theorem cn_sortI : CallR X (.builtin "sorted") (rDcN X.K nSortI) := fun pins s σ H xs us Q I r ⟨F, ds, hf, r1, q⟩ => by
  unfold nSortI at q
  split at q
  · obtain ⟨v, rfl, r2⟩ := r1.one
    obtain ⟨a, vs, rfl, h, rs⟩ := r2.lst hf
    obtain ⟨ns, e, q⟩ := q
    rw [asInts_eq e] at rs
    rw [rs.ints] at h
    exact cr_sortedI pins s σ H _ us Q I r ⟨a, ns, rfl, .of h, fun ms p h1 h2 hp => q ms h1 h2 p _ hp (Reps.of_ints _)⟩
  · exact q.elim
theorem cn_sortS : CallR X (.builtin "sorted") (rDcN X.K nSortS) := fun pins s σ H xs us Q I r ⟨F, ds, hf, r1, q⟩ => by
  unfold nSortS at q
  split at q
  · obtain ⟨v, rfl, r2⟩ := r1.one
    obtain ⟨a, vs, rfl, h, rs⟩ := r2.lst hf
    obtain ⟨ns, e, h0, q⟩ := q
    rw [asStrs_eq e] at rs
    rw [rs.strs] at h
    exact cr_sortedS pins s σ H _ us Q I r ⟨a, ns, rfl, .of h, h0, fun ms p h1 h2 hp => q ms h1 h2 p _ hp (Reps.of_strs _)⟩
  · exact q.elim
theorem en_callB (hd : ∀ ds (Q Q' : List D → Prop), (∀ x, Q x → Q' x) → δ ds Q → δ ds Q') (hc : CallR X (.builtin id) (rDcN X.K δ)) (hg : Gl X x) (hm : X.mg x = none) (hv : bootBuiltins x = some (.builtin id)) (ha : EAb X (e :: es) m) (hn : x ≠ "__name__" := by decide) (hdb : (x == ("__debug__" : Str)) = false := by decide)
    (he : starEach (e :: es) X.env = (false, eval e X.env) :: starEach es X.env := by rfl) (hpl : (backTo pos (starEach es X.env)).any (·.1) = false := by rfl) : EN X (.Call (.Name x p) (e :: es) [] pos) (rCallN δ m) where
  mono := fun env Q Q' i q => ha.mono _ _ _ (fun ds e q => hd _ _ _ (fun xs q => i _ _ q) q) q
  pe := fun G F0 => PE_imp (pe_callB hc hg hm hv (ha.pe G F0) hn hdb he hpl) fun σ H Q ⟨F, env, k, q⟩ => ⟨F, env, k, ha.mono _ _ _ (fun ds e q vs F1 H1 a1 r1 =>
    ⟨F1, ds, a1.ok.fh, r1, hd _ _ _ (fun es' q p ws hp rw' => by
      obtain ⟨a2, hF, hG, no⟩ := af_new (vs := ws) a1 hp
      exact q p ws F1 _ a2 upd_same hF hG no rw') q⟩) q⟩
end
end DL

namespace DL
open PySem PySem.Spec PyProof.Rows L2

/-! ### regions: cells that are one's own, by their addresses -/
abbrev Rg := Addr → Option OC
def rg0 : Rg := fun _ => none
def updR (R : Rg) (a : Addr) (c : OC) : Rg := fun b => if b = a then some c else R b
theorem updR_same {R : Rg} {a : Addr} {c : OC} : updR R a c a = some c := if_pos rfl
theorem updR_ne {R : Rg} {a b : Addr} {c : OC} (h : b ≠ a) : updR R a c b = R b := if_neg h
/-- what a callee may not touch: all but the region -/
def gR (G H : Hp) (R : Rg) : Hp := fun a => match R a with | some _ => H a | none => G a
def hU (H : Hp) (R : Rg) : Hp := fun a => match R a with | some _ => none | none => H a
theorem gR_in {G H : Hp} {R : Rg} {a : Addr} {c : OC} (h : R a = some c) : gR G H R a = H a := by unfold gR; rw [h]
theorem gR_out {G H : Hp} {R : Rg} {a : Addr} (h : R a = none) : gR G H R a = G a := by unfold gR; rw [h]
theorem hU_in {H : Hp} {R : Rg} {a : Addr} {c : OC} (h : R a = some c) : hU H R a = none := by unfold hU; rw [h]
theorem hU_out {H : Hp} {R : Rg} {a : Addr} (h : R a = none) : hU H R a = H a := by unfold hU; rw [h]
structure RegOk (K : PySem.W.Frag) (G F H : Hp) (R : Rg) : Prop where
  f0 : ∀ a c, R a = some c → F a = none
  g0 : ∀ a c, R a = some c → G a = none
  h0 : ∀ a c, R a = some c → ∃ ho, H a = some ho ∧ OcR K F a c ho
  k0 : ∀ a p C ns xs, R a = some (.o p C ns xs) → InsK K C ns
/-- the state: what is there, and the region -/
structure GSt (K : PySem.W.Frag) (G F0 F H : Hp) (env : En) (σ : L2.St) (R : Rg) : Prop where
  st : StOk K (gR G H R) F0 F H env σ
  rg : RegOk K G F H R
/-- what is there at a return -/
structure ExtU (K : PySem.W.Frag) (F0 G F H : Hp) (R : Rg) : Prop where
  ff : Same F0 F
  gh : Same G H
  fh : Same F H
  nw : ∀ a, G a ≠ none → F a = F0 a
  rg : RegOk K G F H R
section
variable {K : PySem.W.Frag} {G F0 F F1 H H1 : Hp} {env env1 : En} {σ σ1 : L2.St} {R : Rg}
theorem opt_ne {α : Type} {o : Option α} {x : α} (h : o = some x) : o ≠ none := by rw [h]; exact fun z => nomatch z
theorem RegOk.ne {a : Addr} {c : OC} (r : RegOk K G F H R) (h : R a = some c) : H a ≠ none := by
  obtain ⟨ho, e, _⟩ := r.h0 a c h
  exact opt_ne e
theorem RegOk.out {a : Addr} (r : RegOk K G F H R) (h : G a ≠ none) : R a = none := by
  cases e : R a with
  | none => rfl
  | some c => exact absurd (r.g0 a c e) h
theorem RegOk.outF {a : Addr} {o : HO} (r : RegOk K G F H R) (h : F a = some o) : R a = none := by
  cases e : R a with
  | none => rfl
  | some c => rw [r.f0 a c e] at h; cases h
theorem gR_keep (h : ∀ a c, R a = some c → H1 a = H a) : gR G H1 R = gR G H R := funext fun a => by
  cases e : R a with
  | none => rw [gR_out e, gR_out e]
  | some c => rw [gR_in e, gR_in e, h a c e]
theorem RegOk.gRne {a : Addr} (r : RegOk K G F H R) (h : G a ≠ none) : gR G H R a = G a := gR_out (r.out h)
theorem RegOk.cells (r : RegOk K G F H R) (h : Same (gR G H R) H1) : ∀ a c, R a = some c → H1 a = H a := fun a c e => by
  obtain ⟨ho, e1, _⟩ := r.h0 a c e
  rw [h a ho (by rw [gR_in e]; exact e1), e1]
theorem RegOk.keep (r : RegOk K G F H R) (hc : ∀ a c, R a = some c → H1 a = H a) (hf : Same F F1) (h0 : ∀ a c, R a = some c → F1 a = none) : RegOk K G F1 H1 R where
  f0 := h0
  g0 := r.g0
  h0 := fun a c e => by
    obtain ⟨ho, e1, e2⟩ := r.h0 a c e
    exact ⟨ho, by rw [hc a c e, e1], e2.mono hf⟩
  k0 := r.k0
/-- behind a part that leaves the region alone -/
theorem GSt.back (k : GSt K G F0 F H env σ R) (k1 : StOk K (gR G H R) F F1 H1 env1 σ1) : GSt K G F0 F1 H1 env1 σ1 R := by
  have hc := k.rg.cells k1.gh
  refine ⟨by rw [gR_keep hc]; exact k.st.unF k1, k.rg.keep hc k1.ff fun a c e => ?_⟩
  rw [k1.nw a (by rw [gR_in e]; exact k.rg.ne e)]
  exact k.rg.f0 a c e
theorem RegOk.sameG (r : RegOk K G F H R) (h : Same (gR G H R) H1) : Same G H1 := fun a o e => h a o (by rw [r.gRne (opt_ne e)]; exact e)
theorem GSt.ext (k : GSt K G F0 F H env σ R) : ExtU K F0 G F H R where
  ff := k.st.ff
  gh := k.rg.sameG k.st.gh
  fh := k.st.fh
  nw := fun a n => k.st.nw a (by rw [k.rg.gRne n]; exact n)
  rg := k.rg
end

/-! ### statements over a region -/
structure DG where
  nx : En → Rg → Prop
  rt : D → Rg → Prop
  bk : En → Rg → Prop := fun _ _ => False
  ct : En → Rg → Prop := fun _ _ => False
abbrev RQ := DG → En → Rg → Prop
structure DG.le (D D' : DG) : Prop where
  nx : ∀ e r, D.nx e r → D'.nx e r
  rt : ∀ d r, D.rt d r → D'.rt d r
  bk : ∀ e r, D.bk e r → D'.bk e r
  ct : ∀ e r, D.ct e r → D'.ct e r
theorem DG.le.refl (D : DG) : D.le D := ⟨fun _ _ h => h, fun _ _ h => h, fun _ _ h => h, fun _ _ h => h⟩
def MonoU (m : RQ) : Prop := ∀ (D D' : DG) (env : En) (R : Rg), D.le D' → m D env R → m D' env R
def liftU (K : PySem.W.Frag) (G F0 : Hp) (D : Ends) : DG where
  nx := fun env R => ∀ σ F H, GSt K G F0 F H env σ R → D.nx σ H
  rt := fun d R => ∀ v F H, ExtU K F0 G F H R → Rep K F v d → D.rt v H
  bk := fun env R => ∀ σ F H, GSt K G F0 F H env σ R → D.bk σ H
  ct := fun env R => ∀ σ F H, GSt K G F0 F H env σ R → D.ct σ H
def tSU (K : PySem.W.Frag) (G F0 : Hp) (m : RQ) : TS := fun D σ H => ∃ F env R, GSt K G F0 F H env σ R ∧ m (liftU K G F0 D) env R
structure US (X : Cx) (st : Stmt) (m : RQ) : Prop where
  mono : MonoU m
  ps : ∀ G F0, PS X st (tSU X.K G F0 m)
structure USs (X : Cx) (st : List Stmt) (m : RQ) : Prop where
  mono : MonoU m
  ps : ∀ G F0, PSs X st (tSU X.K G F0 m)
def uNext : RQ := fun D env R => D.nx env R
def uSeq (m m' : RQ) : RQ := fun D env R => m { D with nx := fun e r => m' D e r } env R
theorem uSeq_mono {m m' : RQ} (h : MonoU m) (h' : MonoU m') : MonoU (uSeq m m') := fun Z Z' env R l q =>
  h { Z with nx := fun e r => m' Z e r } { Z' with nx := fun e r => m' Z' e r } env R ⟨fun e r q => h' Z Z' e r l q, l.rt, l.bk, l.ct⟩ q
section
variable {X : Cx} {st : Stmt} {rest : List Stmt} {m m' : RQ} {pos : Pos}
theorem uss_nil : USs X [] uNext := ⟨fun D D' env R l q => l.nx _ _ q, fun G F0 => PSs_imp pss_nil fun D σ H ⟨F, env, R, k, q⟩ => q σ F H k⟩
theorem uss_cons (h1 : US X st m) (h2 : USs X rest m') : USs X (st :: rest) (uSeq m m') where
  mono := uSeq_mono h1.mono h2.mono
  ps := fun G F0 => PSs_imp (pss_cons (h1.ps G F0) (h2.ps G F0)) fun Z σ H ⟨F, env, R, k, q⟩ => ⟨F, env, R, k, h1.mono { liftU X.K G F0 Z with nx := fun e r => m' (liftU X.K G F0 Z) e r } _ env R ⟨fun e r q σ' F' H' k' => ⟨F', e, r, k', q⟩, fun _ _ q => q, fun _ _ q => q, fun _ _ q => q⟩ q⟩
theorem uss_one (h1 : US X st m) : USs X [st] m := ⟨h1.mono, fun G F0 => pss_one (h1.ps G F0)⟩
/-- a statement that leaves the region alone -/
def uPure (m : RS) : RQ := fun D env R => m { nx := fun e => D.nx e R, rt := fun d => D.rt d R, bk := fun e => D.bk e R, ct := fun e => D.ct e R } env
theorem us_pure {ms : RS} (h : SS X st ms) : US X st (uPure ms) where
  mono := fun D D' env R l q => h.mono { nx := fun e => D.nx e R, rt := fun d => D.rt d R, bk := fun e => D.bk e R, ct := fun e => D.ct e R } _ env ⟨fun e q => l.nx _ _ q, fun e q => l.rt _ _ q, fun e q => l.bk _ _ q, fun e q => l.ct _ _ q⟩ q
  ps := fun G F0 => ⟨fun pins s σ H D I ⟨F, env, R, k, q⟩ => (h.ps (gR G H R) F).run pins s σ H D I ⟨F, env, k.st.reF, h.mono { nx := fun e => (liftU X.K G F0 D).nx e R, rt := fun d => (liftU X.K G F0 D).rt d R, bk := fun e => (liftU X.K G F0 D).bk e R, ct := fun e => (liftU X.K G F0 D).ct e R } _ env ⟨fun e q σ1 F1 H1 k1 => q σ1 F1 H1 (k.back k1), fun d q v F1 H1 x r => q v F1 H1 (by
    have hc := k.rg.cells x.hH
    refine ⟨k.st.ff.trans x.fF, k.rg.sameG x.hH, x.fh, fun a n => ?_, k.rg.keep hc x.fF fun a c e => ?_⟩
    · have n' : gR G H R a ≠ none := by rw [k.rg.gRne n]; exact n
      rw [x.nw a n']; exact k.st.nw a n'
    · rw [x.nw a (by rw [gR_in e]; exact k.rg.ne e)]
      exact k.rg.f0 a c e) r, fun e q σ1 F1 H1 k1 => q σ1 F1 H1 (k.back k1), fun e q σ1 F1 H1 k1 => q σ1 F1 H1 (k.back k1)⟩ q⟩⟩
end

/-! ### a region as data -/
mutual
inductive ResD (R : Rg) : D → D → Prop
  | rfl (d : D) : ResD R d d
  | lst {a : Addr} {ds es : List D} : R a = some (.l ds) → ResDs R ds es → ResD R (.cls a) (.lst es)
  | obj {a p C : Addr} {ns : List Str} {xs ys : List D} : R a = some (.o p C ns xs) → ResDs R xs ys → ResD R (.cls a) (.ins C ns ys)
  | tup {xs ys : List D} : ResDs R xs ys → ResD R (.tup xs) (.tup ys)
  | lsts {xs ys : List D} : ResDs R xs ys → ResD R (.lst xs) (.lst ys)
inductive ResDs (R : Rg) : List D → List D → Prop
  | nil : ResDs R [] []
  | cons {d e : D} {ds es : List D} : ResD R d e → ResDs R ds es → ResDs R (d :: ds) (e :: es)
end
/-- the region frozen; the region taken out -/
def frU (F H : Hp) (R : Rg) : Hp := gR F H R
def dlU (F : Hp) (R : Rg) : Hp := hU F R
section
variable {K : PySem.W.Frag} {G F0 F F1 H H1 : Hp} {env env1 : En} {σ σ1 : L2.St} {R : Rg}
theorem frU_same (r : RegOk K G F H R) : Same F (frU F H R) := fun a o e => by unfold frU; rw [gR_out (r.outF e)]; exact e
theorem frU_H (r : RegOk K G F H R) (hf : Same F H) : Same (frU F H R) H := fun a o e => by
  unfold frU at e
  cases h : R a with
  | none => rw [gR_out h] at e; exact hf _ _ e
  | some c => rw [gR_in h] at e; exact e
theorem rep_res (r : RegOk K G F H R) {d d' : D} (h : ResD R d d') : ∀ v, Rep K F v d → Rep K (frU F H R) v d' :=
  ResD.rec (motive_1 := fun d d' _ => ∀ v, Rep K F v d → Rep K (frU F H R) v d') (motive_2 := fun ds es _ => ∀ vs, Reps K F vs ds → Reps K (frU F H R) vs es)
    (fun d v q => q.mono (frU_same r))
    (fun {a ds es} e _ ih v q => by
      cases q
      obtain ⟨ho, e1, e2⟩ := r.h0 _ _ e
      obtain ⟨vs, rfl, e3⟩ := e2.lst
      exact .lst (by unfold frU; rw [gR_in e]; exact e1) (ih _ e3))
    (fun {a p C ns xs ys} e _ ih v q => by
      cases q
      obtain ⟨ho, e1, e2⟩ := r.h0 _ _ e
      have ik := r.k0 _ _ _ _ _ e
      cases ho <;> first | exact e2.elim | skip
      obtain ⟨_, h2, h3, h4⟩ := e2
      subst h2 h3
      exact .ins ik (by unfold frU; rw [gR_in e]; exact e1) (ih _ h4))
    (fun _ ih v q => by cases q with | tup h rs => exact .tup (SqT_mono (frU_same r) h) (ih _ rs))
    (fun _ ih v q => by cases q with | lst h rs => exact .lst (frU_same r _ _ h) (ih _ rs))
    (fun vs q => by cases q; exact .nil)
    (fun _ _ i1 i2 vs q => by cases q with | cons q1 q2 => exact .cons (i1 _ q1) (i2 _ q2)) h
/-- data that holds nothing of the region -/
def noC (R : Rg) (C : Addr) : Prop := ∀ a p C' ns xs, R a = some (.o p C' ns xs) → C' ≠ C
mutual
def noM (R : Rg) : D → Prop
  | .non => True | .bl _ => True | .int _ => True | .str _ => True
  | .tup xs => noMs R xs
  | .lst _ => False | .scr _ => False
  | .ins C _ xs => noC R C ∧ noMs R xs
  | .ty _ => True | .cls _ => True | .sz _ => True
def noMs (R : Rg) : List D → Prop
  | [] => True
  | d :: ds => noM R d ∧ noMs R ds
end
/-- the region's cells are what they are -/
def Cells (K : PySem.W.Frag) (F1 : Hp) (R : Rg) : Prop := ∀ a c, R a = some c → ∃ ho F, F1 a = some ho ∧ OcR K F a c ho
theorem dlU_out (hc : Cells K F1 R) {a : Addr} {o : HO} (h : F1 a = some o) (hl : ∀ vs, o ≠ .lst vs) (hi : ∀ C dx fs, o = .ins C dx fs → noC R C) : dlU F1 R a = some o := by
  unfold dlU
  cases e : R a with
  | none => rw [hU_out e]; exact h
  | some c =>
    exfalso
    obtain ⟨ho, F, e1, e2⟩ := hc a c e
    rw [h] at e1
    cases e1
    cases c with
    | l ds => obtain ⟨vs, rfl, _⟩ := e2.lst; exact hl vs rfl
    | o p C ns xs =>
      cases o <;> first | exact e2.elim | skip
      exact hi _ _ _ rfl a p C ns xs e e2.2.1.symm
theorem rep_noM (hc : Cells K F1 R) {v : V} {d : D} (q : Rep K F1 v d) : noM R d → Rep K (dlU F1 R) v d :=
  Rep.rec (motive_1 := fun v d _ => noM R d → Rep K (dlU F1 R) v d) (motive_2 := fun vs ds _ => noMs R ds → Reps K (dlU F1 R) vs ds)
    (fun _ => .non) (fun b _ => .bl b) (fun i _ => .int i) (fun x _ => .str x)
    (fun q _ ih n => .tup (by
      rcases q with (q | ⟨o, q⟩) | q
      · exact .inl (.inl (dlU_out hc q (fun _ z => nomatch z) fun _ _ _ z => nomatch z))
      · exact .inl (.inr ⟨o, dlU_out hc q (fun _ z => nomatch z) fun _ _ _ z => nomatch z⟩)
      · exact .inr q) (ih n))
    (fun _ _ _ n => n.elim) (fun _ n => n.elim)
    (fun k q _ ih n => .ins k (dlU_out hc q (fun _ z => nomatch z) fun _ _ _ z => by cases z; exact n.1) (ih n.2))
    (fun n _ => .ty n) (fun C _ => .cls C) (fun q _ => .sz (dlU_out hc q (fun _ z => nomatch z) fun _ _ _ z => nomatch z))
    (fun _ => .nil) (fun _ _ i1 i2 n => .cons (i1 n.1) (i2 n.2)) q
theorem reps_noM (hc : Cells K F1 R) : ∀ {vs : List V} {ds : List D}, Reps K F1 vs ds → noMs R ds → Reps K (dlU F1 R) vs ds
  | [], _, h, _ => by cases h; exact .nil
  | v :: vs, _, h, n => by cases h with | cons r t => exact .cons (rep_noM hc r n.1) (reps_noM hc t n.2)
/-- slots that hold data of the region instead of its addresses -/
def putE (env : En) : List Nat → List D → En
  | i :: is, d :: ds => putE (es env i (.v d)) is ds
  | _, _ => env
def resS (R : Rg) (s : Sl) (d : D) : Prop := match s with
  | .v d0 => ResD R d0 d
  | _ => False
def resE (R : Rg) (env : En) : List Nat → List D → Prop
  | [], [] => True
  | i :: is, d :: ds => resS R (eg env i) d ∧ resE R env is ds
  | _, _ => False
/-- the slots of env' are those of env, but for the data that addresses stand for -/
structure ViewE (R : Rg) (env env' : En) : Prop where
  len : env'.length = env.length
  at_ : ∀ (i : Nat) (s : Sl), env'[i]? = some s → env[i]? = some s ∨ ∃ d0 d, env[i]? = some (.v d0) ∧ s = .v d ∧ ∀ (K : PySem.W.Frag) (G F H : Hp), RegOk K G F H R → ∀ v, Rep K F v d0 → Rep K (frU F H R) v d
  ow : ∀ (i : Nat) (c : OC), env[i]? = some (.own c) → env'[i]? = some (.own c)
theorem ViewE.refl (R : Rg) (env : En) : ViewE R env env := ⟨rfl, fun i s e => .inl e, fun i c e => e⟩
theorem ViewE.put {env0 : En} : ∀ {is : List Nat} {ds : List D} {env : En}, ViewE R env0 env → resE R env0 is ds → ViewE R env0 (putE env is ds)
  | [], [], _, h, _ => h
  | [], _ :: _, _, _, r => r.elim
  | _ :: _, [], _, _, r => r.elim
  | i :: is, d :: ds, env, h, r => by
    obtain ⟨r1, r2⟩ := r
    unfold resS at r1
    split at r1
    · rename_i d0 e0
      have g := eg_get (env := env0) (i := i) (by rw [e0]; exact fun z => nomatch z)
      rw [e0] at g
      refine ViewE.put (is := is) (ds := ds) (env := es env i (.v d)) ⟨by rw [es_eq, List.length_set]; exact h.len, fun j s e => ?_, fun j c e => ?_⟩ r2
      · rw [es_eq] at e
        rcases getElem?_set_some e with ⟨rfl, rfl, _⟩ | ⟨_, e⟩
        · exact .inr ⟨d0, d, g, rfl, fun K G F H ok v q => rep_res ok r1 v q⟩
        · exact h.at_ j s e
      · rw [es_eq]
        have : j ≠ i := fun z => by rw [z, g] at e; cases e
        rw [set_none this]; exact h.ow j c e
    · exact r1.elim
theorem ViewE.own' {env' : En} (h : ViewE R env env') {i : Nat} {c : OC} (e : env'[i]? = some (.own c)) : env[i]? = some (.own c) := by
  rcases h.at_ i _ e with z | ⟨_, _, _, z, _⟩
  · exact z
  · cases z
theorem GSt.view {env' : En} (k : GSt K G F0 F H env σ R) (h : ViewE R env env') : StOk K (gR G H R) (frU F H R) (frU F H R) H env' σ where
  fh := frU_H k.rg k.st.fh
  gh := k.st.gh
  ff := Same.refl _
  nw := fun _ _ => rfl
  len := by rw [h.len, k.st.len]
  sl := fun i s e => by
    have sF := frU_same (R := R) k.rg
    rcases h.at_ i s e with z | ⟨d0, d, e0, rfl, hr⟩
    · have g := k.st.sl i s z
      cases s with
      | un => trivial
      | v d => obtain ⟨v, e1, r⟩ := g; exact ⟨v, e1, r.mono sF⟩
      | own c =>
        obtain ⟨a, ho, e1, e2, e3, e4⟩ := g
        refine ⟨a, ho, e1, ?_, e3, e4.mono sF⟩
        have g0 := k.st.og i c a z e1
        have : R a = none := by
          cases er : R a with
          | none => rfl
          | some c' => rw [gR_in er, e3] at g0; cases g0
        unfold frU
        rw [gR_out this]; exact e2
    · obtain ⟨v, e1, r⟩ := k.st.sl i _ e0
      exact ⟨v, e1, hr K G F H k.rg v r⟩
  og := fun i c a e => k.st.og i c a (h.own' e)
  inj := fun i j c c' a e e' => k.st.inj i j c c' a (h.own' e) (h.own' e')
/-- back from the view: the region is out of what is frozen -/
theorem GSt.unview {env' env1 : En} (k : GSt K G F0 F H env σ R) (h : ViewE R env env') (hH : Same H H1) (k1 : StOk K (gR G H R) (frU F H R) F1 H1 env1 σ) (he : env1 = env') :
    GSt K G F0 (dlU F1 R) H1 env σ R ∧ Same F (dlU F1 R) ∧ Cells K F1 R := by
  subst he
  have hc := k.rg.cells k1.gh
  have sF : Same F (dlU F1 R) := fun a o e => by
    have n := k.rg.outF e
    unfold dlU
    rw [hU_out n]
    exact k1.ff _ _ (by unfold frU; rw [gR_out n]; exact e)
  have ce : Cells K F1 R := fun a c e => by
    obtain ⟨ho, e1, e2⟩ := k.rg.h0 a c e
    exact ⟨ho, F, k1.ff _ _ (by unfold frU; rw [gR_in e]; exact e1), e2⟩
  refine ⟨⟨?_, k.rg.keep hc sF fun a c e => by unfold dlU; exact hU_in e⟩, sF, ce⟩
  rw [gR_keep hc]
  refine ⟨fun a o e => ?_, k1.gh, k.st.ff.trans sF, fun a n => ?_, k.st.len, fun i s e => ?_, k.st.og, k.st.inj⟩
  · unfold dlU at e
    cases er : R a with
    | none => rw [hU_out er] at e; exact k1.fh _ _ e
    | some c => rw [hU_in er] at e; cases e
  · unfold dlU
    cases er : R a with
    | none =>
      rw [hU_out er, k1.nw a n]
      have := k.st.nw a n
      unfold frU
      rw [gR_out er]; exact this
    | some c =>
      rw [hU_in er]
      have := k.st.nw a n
      rw [← this]; exact (k.rg.f0 a c er).symm
  · have g := k.st.sl i s e
    cases s with
    | un => trivial
    | v d => obtain ⟨v, e1, r⟩ := g; exact ⟨v, e1, r.mono sF⟩
    | own c =>
      obtain ⟨a, ho, e1, e2, e3, e4⟩ := g
      obtain ⟨a', ho', e1', e2', e3', _⟩ := k1.sl i _ (h.ow i c e)
      rw [e1] at e1'; cases e1'
      have g0 := k.st.og i c a e e1
      have n : R a = none := by
        cases er : R a with
        | none => rfl
        | some c' => rw [gR_in er, e3] at g0; cases g0
      refine ⟨a, ho, e1, ?_, ?_, e4.mono sF⟩
      · unfold dlU; rw [hU_out n]; exact e2'
      · exact hH _ _ e3
end

/-! ### expressions over a region -/
abbrev RV := En → Rg → (D → En → Rg → Prop) → Prop
abbrev RVs := En → Rg → (List D → En → Rg → Prop) → Prop
abbrev RVt := En → Rg → (Bool → En → Rg → Prop) → Prop
def MonoV {α : Type} (m : En → Rg → (α → En → Rg → Prop) → Prop) : Prop := ∀ (env : En) (R : Rg) (Q Q' : α → En → Rg → Prop), (∀ d e r, Q d e r → Q' d e r) → m env R Q → m env R Q'
def tVU (K : PySem.W.Frag) (G F0 : Hp) (m : RV) : TE := fun σ H Q => ∃ F env R, GSt K G F0 F H env σ R ∧ m env R fun d env' R' => ∀ v F' H', GSt K G F0 F' H' env' σ R' → Same F F' → Rep K F' v d → Q v H'
def tAU (K : PySem.W.Frag) (G F0 : Hp) (m : RVs) : TA := fun σ H Q => ∃ F env R, GSt K G F0 F H env σ R ∧ m env R fun ds env' R' => ∀ vs F' H', GSt K G F0 F' H' env' σ R' → Same F F' → Reps K F' vs ds → Q vs H'
def tTU (K : PySem.W.Frag) (G F0 : Hp) (m : RVt) : TT := fun σ H Q => ∃ F env R, GSt K G F0 F H env σ R ∧ m env R fun b env' R' => ∀ F' H', GSt K G F0 F' H' env' σ R' → Same F F' → Q b H'
structure UV (X : Cx) (e : Expr) (m : RV) : Prop where
  mono : MonoV m
  pe : ∀ G F0, PE X e (tVU X.K G F0 m)
structure UA (X : Cx) (es : List Expr) (m : RVs) : Prop where
  mono : MonoV m
  pe : ∀ G F0, PA X es (tAU X.K G F0 m)
structure UT (X : Cx) (e : Expr) (m : RVt) : Prop where
  mono : MonoV m
  pe : ∀ G F0, PT X e (tTU X.K G F0 m)
/-- an expression that knows nothing of the region -/
def vPure (m : RE) : RV := fun env R Q => m env fun d e => Q d e R
/-- an expression that reads the region as data: the slots is are seen so -/
def vView (is : List Nat) (m : RE) : RV := fun env R Q => ∃ ds, resE R env is ds ∧ m (putE env is ds) fun d e => e = putE env is ds ∧ noM R d ∧ Q d env R
def vViewT (is : List Nat) (m : RT) : RVt := fun env R Q => ∃ ds, resE R env is ds ∧ m (putE env is ds) fun b e => e = putE env is ds ∧ Q b env R
def vPureT (m : RT) : RVt := fun env R Q => m env fun d e => Q d e R
/-- a new list of data, frozen; as a cell of the region -/
def vNew (is : List Nat) (m : RN) : RV := fun env R Q => ∃ ds, resE R env is ds ∧ m (putE env is ds) fun xs e => e = putE env is ds ∧ noMs R xs ∧ Q (.lst xs) env R
def vCell (is : List Nat) (m : RN) : RV := fun env R Q => ∃ ds, resE R env is ds ∧ m (putE env is ds) fun xs e => e = putE env is ds ∧ noMs R xs ∧ ∀ b, R b = none → Q (.cls b) env (updR R b (.l xs))
section
variable {X : Cx} {e : Expr} {is : List Nat}
theorem uv_pure {m : RE} (h : EE X e m) : UV X e (vPure m) where
  mono := fun env R Q Q' i q => h.mono _ _ _ (fun d e q => i _ _ _ q) q
  pe := fun G F0 => ⟨fun pins s σ H Q I ⟨F, env, R, k, q⟩ => (h.pe (gR G H R) F).run pins s σ H Q I ⟨F, env, k.st.reF, h.mono _ _ _ (fun d e q v F1 H1 a r => q v F1 H1 (k.back a.ok) a.ok.ff r) q⟩⟩
theorem ut_pure {m : RT} (h : ET X e m) : UT X e (vPureT m) where
  mono := fun env R Q Q' i q => h.mono _ _ _ (fun d e q => i _ _ _ q) q
  pe := fun G F0 => ⟨fun pins s σ H Q I ⟨F, env, R, k, q⟩ => (h.pe (gR G H R) F).run pins s σ H Q I ⟨F, env, k.st.reF, h.mono _ _ _ (fun d e q F1 H1 a => q F1 H1 (k.back a.ok) a.ok.ff) q⟩⟩
theorem uv_view {m : RE} (h : EE X e m) : UV X e (vView is m) where
  mono := fun env R Q Q' i ⟨ds, h1, q⟩ => ⟨ds, h1, h.mono _ _ _ (fun d e q => ⟨q.1, q.2.1, i _ _ _ q.2.2⟩) q⟩
  pe := fun G F0 => ⟨fun pins s σ H Q I ⟨F, env, R, k, ds, hr, q⟩ => (h.pe (gR G H R) (frU F H R)).run pins s σ H Q I ⟨frU F H R, putE env is ds, k.view ((ViewE.refl R env).put hr), h.mono _ _ _ (fun d e q v F1 H1 a r => by
    obtain ⟨he, hn, q⟩ := q
    obtain ⟨k', sF, ce⟩ := k.unview ((ViewE.refl R env).put hr) a.hH a.ok he
    exact q v _ H1 k' sF (rep_noM ce r hn)) q⟩⟩
theorem ut_view {m : RT} (h : ET X e m) : UT X e (vViewT is m) where
  mono := fun env R Q Q' i ⟨ds, h1, q⟩ => ⟨ds, h1, h.mono _ _ _ (fun d e q => ⟨q.1, i _ _ _ q.2⟩) q⟩
  pe := fun G F0 => ⟨fun pins s σ H Q I ⟨F, env, R, k, ds, hr, q⟩ => (h.pe (gR G H R) (frU F H R)).run pins s σ H Q I ⟨frU F H R, putE env is ds, k.view ((ViewE.refl R env).put hr), h.mono _ _ _ (fun d e q F1 H1 a => by
    obtain ⟨he, q⟩ := q
    obtain ⟨k', sF, ce⟩ := k.unview ((ViewE.refl R env).put hr) a.hH a.ok he
    exact q _ H1 k' sF) q⟩⟩
/-- what is known of a new list behind a view -/
theorem new_view {K : PySem.W.Frag} {G F0 F F1 H H1 : Hp} {env env' env1 : En} {σ : L2.St} {R : Rg} {a : Addr} {vs : List V} {xs : List D} (k : GSt K G F0 F H env σ R) (hv : ViewE R env env') (af : Af K (gR G H R) (frU F H R) (frU F H R) H σ F1 H1 env1) (he : env1 = env') (hl : H1 a = some (.lst vs)) (hF : F1 a = none) (hG : gR G H R a = none) (no : NotOwn env1 σ a) (hn : noMs R xs) (r : Reps K F1 vs xs) :
    GSt K G F0 (dlU F1 R) H1 env σ R ∧ Same F (dlU F1 R) ∧ dlU F1 R a = none ∧ R a = none ∧ G a = none ∧ NotOwn env σ a ∧ Reps K (dlU F1 R) vs xs := by
  obtain ⟨k', sF, ce⟩ := k.unview hv af.hH af.ok he
  have nR : R a = none := by
    cases e : R a with
    | none => rfl
    | some c => obtain ⟨ho, F, e1, _⟩ := ce a c e; rw [hF] at e1; cases e1
  subst he
  refine ⟨k', sF, by unfold dlU; rw [hU_out nR]; exact hF, nR, by rw [gR_out nR] at hG; exact hG, fun i c e => no i c (hv.ow i c e), reps_noM ce r hn⟩
/-- a new cell of the region -/
theorem GSt.cell {K : PySem.W.Frag} {G F0 F H : Hp} {env : En} {σ : L2.St} {R : Rg} {a : Addr} {c : OC} {ho : HO} (k : GSt K G F0 F H env σ R) (hl : H a = some ho) (hF : F a = none) (hG : G a = none) (nR : R a = none) (no : NotOwn env σ a) (r : OcR K F a c ho) (hk : ∀ p C ns xs, c = .o p C ns xs → InsK K C ns) :
    GSt K G F0 F H env σ (updR R a c) where
  rg := by
    refine ⟨fun b c' e => ?_, fun b c' e => ?_, fun b c' e => ?_, fun b p C ns xs e => ?_⟩
    all_goals
      by_cases hb : b = a
      · subst hb
        first | exact hF | exact hG | (rw [updR_same] at e; cases e; exact ⟨ho, hl, r⟩) | (rw [updR_same] at e; cases e; exact hk _ _ _ _ rfl)
      · rw [updR_ne hb] at e
        first | exact k.rg.f0 b _ e | exact k.rg.g0 b _ e | exact k.rg.h0 b _ e | exact k.rg.k0 b _ _ _ _ e
  st := by
    have ga : gR G H (updR R a c) a = H a := gR_in updR_same
    have gb : ∀ b, b ≠ a → gR G H (updR R a c) b = gR G H R b := fun b hb => by
      unfold gR; rw [updR_ne hb]
    have st := k.st
    refine ⟨st.fh, fun b o e => ?_, st.ff, fun b n => ?_, st.len, st.sl, fun i c' b e eb => ?_, st.inj⟩
    · by_cases hb : b = a
      · subst hb; rw [ga] at e; exact e
      · rw [gb b hb] at e; exact st.gh b o e
    · by_cases hb : b = a
      · subst hb
        rw [hF]
        cases e : F0 b with
        | none => rfl
        | some o => have := st.ff _ _ e; rw [hF] at this; cases this
      · rw [gb b hb] at n; exact st.nw b n
    · have hb : b ≠ a := fun z => no i c' e (by rw [eb, z])
      rw [gb b hb]; exact st.og i c' b e eb
theorem uv_new {m : RN} (h : EN X e m) : UV X e (vNew is m) where
  mono := fun env R Q Q' i ⟨ds, h1, q⟩ => ⟨ds, h1, h.mono _ _ _ (fun d e q => ⟨q.1, q.2.1, i _ _ _ q.2.2⟩) q⟩
  pe := fun G F0 => ⟨fun pins s σ H Q I ⟨F, env, R, k, ds, hr, q⟩ => (h.pe (gR G H R) (frU F H R)).run pins s σ H Q I ⟨frU F H R, putE env is ds, k.view ((ViewE.refl R env).put hr), h.mono _ _ _ (fun xs e q a vs F1 H1 af hl hF hG no r => by
    obtain ⟨he, hn, q⟩ := q
    obtain ⟨k', sF, hF', nR, hG', no', r'⟩ := new_view k ((ViewE.refl R env).put hr) af he hl hF hG no hn r
    have sF2 : Same (dlU F1 R) (upd (dlU F1 R) a (.lst vs)) := same_upd hF'
    have gG : gR G H1 R a = none := by rw [gR_out nR]; exact hG'
    refine q (.ref a) (upd (dlU F1 R) a (.lst vs)) H1 ⟨k'.st.freezeAt hF' hl gG no', k'.rg.keep (fun _ _ _ => rfl) sF2 fun b c e => ?_⟩ (sF.trans sF2) (.lst upd_same (r'.mono sF2))
    have : b ≠ a := fun z => by rw [z, nR] at e; cases e
    rw [upd_ne this]; exact k'.rg.f0 b c e) q⟩⟩
theorem uv_cell {m : RN} (h : EN X e m) : UV X e (vCell is m) where
  mono := fun env R Q Q' i ⟨ds, h1, q⟩ => ⟨ds, h1, h.mono _ _ _ (fun d e q => ⟨q.1, q.2.1, fun b hb => i _ _ _ (q.2.2 b hb)⟩) q⟩
  pe := fun G F0 => ⟨fun pins s σ H Q I ⟨F, env, R, k, ds, hr, q⟩ => (h.pe (gR G H R) (frU F H R)).run pins s σ H Q I ⟨frU F H R, putE env is ds, k.view ((ViewE.refl R env).put hr), h.mono _ _ _ (fun xs e q a vs F1 H1 af hl hF hG no r => by
    obtain ⟨he, hn, q⟩ := q
    obtain ⟨k', sF, hF', nR, hG', no', r'⟩ := new_view k ((ViewE.refl R env).put hr) af he hl hF hG no hn r
    exact q a nR (.ref a) _ H1 (k'.cell hl hF' hG' nR no' (c := .l xs) r' fun _ _ _ _ z => nomatch z) sF (.cls a)) q⟩⟩
end
end DL

namespace DL
open PySem PySem.Spec PyProof.Rows L2

/-! ### a cell of the region is changed; a value is laid; a slot is set -/
section
variable {K : PySem.W.Frag} {G F0 F F' H H' : Hp} {env : En} {σ : L2.St} {R : Rg}
theorem GSt.write {a : Addr} {c c' : OC} {ho : HO} (k : GSt K G F0 F H env σ R) (e : R a = some c) (r : OcR K F a c' ho) (hk : ∀ p C ns xs, c' = .o p C ns xs → InsK K C ns) : GSt K G F0 F (upd H a ho) env σ (updR R a c') := by
  have fa := k.rg.f0 a c e
  have ga := k.rg.g0 a c e
  have e1 : gR G (upd H a ho) (updR R a c') a = some ho := by rw [gR_in updR_same, upd_same]
  have e2 : ∀ b, b ≠ a → gR G (upd H a ho) (updR R a c') b = gR G H R b := fun b hb => by
    unfold gR; rw [updR_ne hb, upd_ne hb]
  have st := k.st
  have own : ∀ {i : Nat} {d : OC} {b : Addr}, env[i]? = some (Sl.own d) → L2.St.at σ i = some (V.ref b) → b ≠ a := fun {i d b} q z w => by
    have := st.og i d b q z
    rw [w, gR_in e] at this
    exact k.rg.ne e this
  refine ⟨⟨fun b o q => ?_, fun b o q => ?_, st.ff, fun b n => ?_, st.len, fun i s q => ?_, fun i d b q z => ?_, st.inj⟩, ⟨fun b d q => ?_, fun b d q => ?_, fun b d q => ?_, fun b p C ns xs q => ?_⟩⟩
  · rw [upd_ne (ne_of_none q fa)]; exact st.fh b o q
  · by_cases hb : b = a
    · subst hb; rw [e1] at q; rw [upd_same]; exact q
    · rw [e2 b hb] at q; rw [upd_ne hb]; exact st.gh b o q
  · by_cases hb : b = a
    · subst hb
      rw [fa]
      cases z : F0 b with
      | none => rfl
      | some o => have := st.ff _ _ z; rw [fa] at this; cases this
    · rw [e2 b hb] at n; exact st.nw b n
  · have g := st.sl i s q
    cases s with
    | un => trivial
    | v d => exact g
    | own d =>
      obtain ⟨b, ho', g1, g2, g3, g4⟩ := g
      exact ⟨b, ho', g1, g2, by rw [upd_ne (own q g1)]; exact g3, g4⟩
  · rw [e2 b (own q z)]; exact st.og i d b q z
  all_goals
    by_cases hb : b = a
    · subst hb
      first | exact fa | exact ga | (rw [updR_same] at q; cases q; exact ⟨ho, upd_same, r⟩) | (rw [updR_same] at q; cases q; exact hk _ _ _ _ rfl)
    · rw [updR_ne hb] at q
      first | exact k.rg.f0 b _ q | exact k.rg.g0 b _ q | exact k.rg.k0 b _ _ _ _ q | (obtain ⟨o, z1, z2⟩ := k.rg.h0 b _ q; exact ⟨o, by rw [upd_ne hb]; exact z1, z2⟩)
theorem GSt.extE (k : GSt K G F0 F H env σ R) (x : Ext F H F' H') : GSt K G F0 F' H' env σ R := by
  have hc : ∀ a c, R a = some c → H' a = H a := fun a c e => by
    obtain ⟨ho, e1, _⟩ := k.rg.h0 a c e
    rw [x.hH _ _ e1, e1]
  refine ⟨by rw [gR_keep hc]; exact k.st.ext x, k.rg.keep hc x.fF fun a c e => ?_⟩
  rw [x.nw a (k.rg.ne e)]; exact k.rg.f0 a c e
theorem GSt.setV (k : GSt K G F0 F H env σ R) {v : V} {d : D} (i : Nat) (r : Rep K F v d) : GSt K G F0 F H (env.set i (.v d)) (σ.set i (some v)) R := ⟨k.st.setV i r, k.rg⟩
end
theorem rg0_ne {a : Addr} {c : OC} (h : rg0 a = some c) : False := by unfold rg0 at h; cases h
theorem rg0_ok {K : PySem.W.Frag} {G F H : Hp} : RegOk K G F H rg0 := ⟨fun _ _ z => (rg0_ne z).elim, fun _ _ z => (rg0_ne z).elim, fun _ _ z => (rg0_ne z).elim, fun _ _ _ _ _ z => (rg0_ne z).elim⟩
/-- the object, the list at an address of the region -/
def dO (R : Rg) (d : D) (Q : Addr → Addr → List Str → List D → Prop) : Prop := match d with
  | .cls a => match R a with
    | some (.o _ C ns xs) => Q a C ns xs
    | _ => False
  | _ => False
def dL (R : Rg) (d : D) (Q : Addr → List D → Prop) : Prop := match d with
  | .cls a => match R a with
    | some (.l ds) => Q a ds
    | _ => False
  | _ => False
theorem dO_at {R : Rg} {a p C : Addr} {ns : List Str} {xs : List D} {Q : Addr → Addr → List Str → List D → Prop} (h : R a = some (.o p C ns xs)) : dO R (.cls a) Q = Q a C ns xs := by unfold dO; simp only [h]
theorem dL_at {R : Rg} {a : Addr} {ds : List D} {Q : Addr → List D → Prop} (h : R a = some (.l ds)) : dL R (.cls a) Q = Q a ds := by unfold dL; simp only [h]
theorem dO_get {R : Rg} {d : D} {Q : Addr → Addr → List Str → List D → Prop} (h : dO R d Q) : ∃ a p C ns xs, d = .cls a ∧ R a = some (.o p C ns xs) ∧ Q a C ns xs := by
  unfold dO at h
  split at h
  · split at h
    · rename_i e; exact ⟨_, _, _, _, _, rfl, e, h⟩
    · exact h.elim
  · exact h.elim
theorem dL_get {R : Rg} {d : D} {Q : Addr → List D → Prop} (h : dL R d Q) : ∃ a ds, d = .cls a ∧ R a = some (.l ds) ∧ Q a ds := by
  unfold dL at h
  split at h
  · split at h
    · rename_i e; exact ⟨_, _, rfl, e, h⟩
    · exact h.elim
  · exact h.elim
theorem dO_mono {R : Rg} {d : D} {Q Q' : Addr → Addr → List Str → List D → Prop} (i : ∀ a C ns xs, Q a C ns xs → Q' a C ns xs) (h : dO R d Q) : dO R d Q' := by
  obtain ⟨a, p, C, ns, xs, rfl, e, q⟩ := dO_get h
  rw [dO_at e]; exact i _ _ _ _ q
theorem dL_mono {R : Rg} {d : D} {Q Q' : Addr → List D → Prop} (i : ∀ a ds, Q a ds → Q' a ds) (h : dL R d Q) : dL R d Q' := by
  obtain ⟨a, ds, rfl, e, q⟩ := dL_get h
  rw [dL_at e]; exact i _ _ q
/-- what stands in H at an object of the region -/
theorem RegOk.obj {K : PySem.W.Frag} {G F H : Hp} {R : Rg} {a p C : Addr} {ns : List Str} {xs : List D} (r : RegOk K G F H R) (e : R a = some (.o p C ns xs)) : a = p ∧ ∃ dx fs, H a = some (.ins C dx fs) ∧ fs.map (·.1) = ns ∧ Reps K F (fs.map (·.2)) xs ∧ InsK K C ns := by
  obtain ⟨ho, e1, e2⟩ := r.h0 a _ e
  have ik := r.k0 _ _ _ _ _ e
  cases ho <;> first | exact e2.elim | skip
  obtain ⟨rfl, rfl, h3, h4⟩ := e2
  exact ⟨rfl, _, _, e1, h3, h4, ik⟩
theorem RegOk.lst {K : PySem.W.Frag} {G F H : Hp} {R : Rg} {a : Addr} {ds : List D} (r : RegOk K G F H R) (e : R a = some (.l ds)) : ∃ vs, H a = some (.lst vs) ∧ Reps K F vs ds := by
  obtain ⟨ho, e1, e2⟩ := r.h0 a _ e
  obtain ⟨vs, rfl, e3⟩ := e2.lst
  exact ⟨vs, e1, e3⟩

/-! ### p.f, p[i] -/
def vFld (f : Str) (m : RV) : RV := fun env R Q => m env R fun d e r => dO r d fun _ C ns xs => qFld (.ins C ns xs) f fun x => Q x e r
def vIx (ma mb : RV) : RV := fun env R Q => ma env R fun x e r => mb e r fun y e2 r2 => dL r2 x fun _ ds => dIx (.lst ds) y fun z => Q z e2 r2
section
variable {X : Cx} {e a b : Expr} {f : Str} {pos : Pos} {m ma mb : RV}
theorem uv_fld (he : UV X e m) (hb : attributeBase e f X.env (eval e X.env) = eval e X.env := by rfl) : UV X (.Attribute e f pos) (vFld f m) where
  mono := fun env R Q Q' i q => he.mono _ _ _ _ (fun d e r q => dO_mono (fun _ _ _ _ q => qFld_mono (fun x q => i _ _ _ q) q) q) q
  pe := fun G F0 => PE_imp (pe_fld (he.pe G F0) hb) fun σ H Q ⟨F, env, R, k, q⟩ => ⟨F, env, R, k, he.mono _ _ _ _ (fun d e r q v F' H' k' sF rv => by
    obtain ⟨a, p, C, ns, xs, rfl, er, q⟩ := dO_get q
    cases rv
    obtain ⟨_, dx, fs, e1, rfl, e3, ik⟩ := k'.rg.obj er
    obtain ⟨x, h1, q⟩ := q
    obtain ⟨h2, v, h3, h4⟩ := fld_get e3 h1
    exact ⟨a, C, dx, fs, v, rfl, e1, ik.cl, ik.nf _ h2, h3, q v F' H' k' sF h4⟩) q⟩
theorem uv_ix (ha : UV X a ma) (hb : UV X b mb) (hs : PlainIx b) : UV X (.Subscript a b pos) (vIx ma mb) where
  mono := fun env R Q Q' i q => ha.mono _ _ _ _ (fun x e r q => hb.mono _ _ _ _ (fun y e2 r2 q => dL_mono (fun _ _ q => dIx_mono _ _ _ _ (fun z q => i _ _ _ q) q) q) q) q
  pe := fun G F0 => PE_imp (pe_ix ir_ix (ha.pe G F0) (hb.pe G F0) hs) fun σ H Q ⟨F, env, R, k, q⟩ => ⟨F, env, R, k, ha.mono _ _ _ _ (fun x e r q v F1 H1 k1 s1 r1 => ⟨F1, e, r, k1, hb.mono _ _ _ _ (fun y e2 r2 q w F2 H2 k2 s2 rw2 => by
    obtain ⟨a, ds, rfl, er, q⟩ := dL_get q
    have r1' := r1.mono s2
    cases r1'
    obtain ⟨vs, e1, e2⟩ := k2.rg.lst er
    refine ⟨F2, .lst ds, y, k2.st.fh, .inr ⟨a, vs, ds, rfl, rfl, e1, e2⟩, .inl rw2, dIx_mono _ _ _ _ (fun z q v' F3 H3 x3 r3 => ?_) q⟩
    exact q v' F3 H3 (k2.extE x3) ((s1.trans s2).trans x3.fF) r3) q⟩) q⟩
/-! ### arguments -/
def vNil : RVs := fun env R Q => Q [] env R
def vCons (m : RV) (mr : RVs) : RVs := fun env R Q => m env R fun d e r => mr e r fun ds e2 r2 => Q (d :: ds) e2 r2
variable {es : List Expr} {mr : RVs}
theorem ua_nil : UA X [] vNil := ⟨fun env R Q Q' i q => i _ _ _ q, fun G F0 => PA_imp pa_nil fun σ H Q ⟨F, env, R, k, q⟩ => q [] F H k (Same.refl _) .nil⟩
theorem ua_cons (ha : UV X e ma) (hr : UA X es mr) (hs : starEach (e :: es) X.env = (false, eval e X.env) :: starEach es X.env := by rfl) : UA X (e :: es) (vCons ma mr) where
  mono := fun env R Q Q' i q => ha.mono _ _ _ _ (fun d e r q => hr.mono _ _ _ _ (fun ds e2 r2 q => i _ _ _ q) q) q
  pe := fun G F0 => PA_imp (pa_cons (ha.pe G F0) (hr.pe G F0) hs) fun σ H Q ⟨F, env, R, k, q⟩ => ⟨F, env, R, k, ha.mono _ _ _ _ (fun d e r q v F1 H1 k1 s1 r1 => ⟨F1, e, r, k1, hr.mono _ _ _ _ (fun ds e2 r2 q vs F2 H2 k2 s2 rs => q (v :: vs) F2 H2 k2 (s1.trans s2) (.cons (r1.mono s2) rs)) q⟩) q⟩
end
/-! ### statements -/
def uSet (i : Nat) (m : RV) : RQ := fun D env R => m env R fun d e r => D.nx (es e i (.v d)) r
def uExpr (m : RV) : RQ := fun D env R => m env R fun _ e r => D.nx e r
def uRet (m : RV) : RQ := fun D env R => m env R fun d _ r => D.rt d r
def uRetN : RQ := fun D env R => D.rt .non R
/-- the region is given up -/
def uRetV (is : List Nat) (m : RE) : RQ := fun D env R => ∃ ds, resE R env is ds ∧ m (putE env is ds) fun d _ => D.rt d rg0
def uIf (t : RVt) (m m' : RQ) : RQ := fun D env R => t env R fun b e r => if b = true then m D e r else m' D e r
def uBreak : RQ := fun D env R => D.bk env R
def uCont : RQ := fun D env R => D.ct env R
def uWhile (t : RVt) (body : RQ) : RQ := fun Z env R => ∃ W : Nat → En → Rg → Prop, (∃ m, W m env R) ∧ ∀ m e r, W m e r → t e r fun b e1 r1 => if b = true then body { Z with nx := fun e' r' => ∃ m', m' < m ∧ W m' e' r', ct := fun e' r' => ∃ m', m' < m ∧ W m' e' r', bk := Z.nx } e1 r1 else Z.nx e1 r1
/-- x = [..], a list of one's own that is no cell of the region -/
def uSetN (i : Nat) (is : List Nat) (m : RN) : RQ := fun D env R => ∃ ds, resE R env is ds ∧ m (putE env is ds) fun xs e => e = putE env is ds ∧ noMs R xs ∧ D.nx (es env i (.own (.l xs))) R
section
variable {X : Cx} {e : Expr} {m : RV} {m1 m2 : RQ} {t : RVt} {pos : Pos} {is : List Nat}
theorem us_set {i : Nat} {x : Str} {pos' : Pos} (hN : X.N.Nodup) (hi : X.N[i]? = some x) (hx : Loc X.env.scope x) (he : UV X e m) (hs : swapsWith e (some (.Name x pos')) pos.line X.env = pure false := by rfl)
    (hf : X.fn x = true ∨ X.env.scope.names.lookup x = some .local := by first | exact .inl rfl | exact .inr rfl | assumption) : US X (.Assign [.Name x pos'] e pos) (uSet i m) where
  mono := fun D D' env R l q => he.mono _ _ _ _ (fun d e r q => l.nx _ _ q) q
  ps := fun G F0 => PS_imp (ps_set hN hi hx (he.pe G F0) hs hf) fun D σ H ⟨F, env, R, k, q⟩ => ⟨F, env, R, k, he.mono _ _ _ _ (fun d e r q v F' H' k' _ rv => by
    rw [es_eq] at q
    exact q _ F' H' (k'.setV i rv)) q⟩
theorem us_setN {i : Nat} {x : Str} {pos' : Pos} {mn : RN} (hN : X.N.Nodup) (hi : X.N[i]? = some x) (hx : Loc X.env.scope x) (he : EN X e mn) (hs : swapsWith e (some (.Name x pos')) pos.line X.env = pure false := by rfl)
    (hf : X.fn x = true ∨ X.env.scope.names.lookup x = some .local := by first | exact .inl rfl | exact .inr rfl | assumption) : US X (.Assign [.Name x pos'] e pos) (uSetN i is mn) where
  mono := fun D D' env R l ⟨ds, h1, q⟩ => ⟨ds, h1, he.mono _ _ _ (fun d e q => ⟨q.1, q.2.1, l.nx _ _ q.2.2⟩) q⟩
  ps := fun G F0 => ⟨fun pins s σ H D I ⟨F, env, R, k, ds, hr, q⟩ => (ps_set hN hi hx (he.pe (gR G H R) (frU F H R)) hs hf).run pins s σ H D I ⟨frU F H R, putE env is ds, k.view ((ViewE.refl R env).put hr), he.mono _ _ _ (fun xs e q a vs F1 H1 af hl hF hG no r => by
    obtain ⟨he, hn, q⟩ := q
    obtain ⟨k', sF, hF', nR, hG', no', r'⟩ := new_view k ((ViewE.refl R env).put hr) af he hl hF hG no hn r
    rw [es_eq] at q
    exact q _ (dlU F1 R) H1 ⟨k'.st.setN i hF' hl (by rw [gR_out nR]; exact hG') no' r', k'.rg⟩) q⟩⟩
theorem us_expr (he : UV X e m) (hs : swapsWith e none pos.line X.env = pure false := by rfl) : US X (.Expr e pos) (uExpr m) where
  mono := fun D D' env R l q => he.mono _ _ _ _ (fun d e r q => l.nx _ _ q) q
  ps := fun G F0 => PS_imp (ps_expr (he.pe G F0) hs) fun D σ H ⟨F, env, R, k, q⟩ => ⟨F, env, R, k, he.mono _ _ _ _ (fun d e r q v F' H' k' _ _ => q _ F' H' k') q⟩
theorem us_ret (he : UV X e m) : US X (.Return (some e) pos) (uRet m) where
  mono := fun D D' env R l q => he.mono _ _ _ _ (fun d e r q => l.rt _ _ q) q
  ps := fun G F0 => PS_imp (ps_ret (he.pe G F0)) fun D σ H ⟨F, env, R, k, q⟩ => ⟨F, env, R, k, he.mono _ _ _ _ (fun d e r q v F' H' k' _ rv => q v F' H' k'.ext rv) q⟩
theorem us_retN : US X (.Return none pos) uRetN := ⟨fun D D' env R l q => l.rt _ _ q, fun G F0 => PS_imp ps_retN fun D σ H ⟨F, env, R, k, q⟩ => q .non F H k.ext .non⟩
theorem us_retV {me : RE} (he : EE X e me) : US X (.Return (some e) pos) (uRetV is me) where
  mono := fun D D' env R l ⟨ds, h1, q⟩ => ⟨ds, h1, he.mono _ _ _ (fun d e q => l.rt _ _ q) q⟩
  ps := fun G F0 => ⟨fun pins s σ H D I ⟨F, env, R, k, ds, hr, q⟩ => (ps_ret (he.pe (gR G H R) (frU F H R))).run pins s σ H D I ⟨frU F H R, putE env is ds, k.view ((ViewE.refl R env).put hr), he.mono _ _ _ (fun d e q v F1 H1 a r => by
    refine q v F1 H1 ⟨(k.st.ff.trans (frU_same k.rg)).trans a.ok.ff, k.rg.sameG a.ok.gh, a.ok.fh, fun b n => ?_, rg0_ok⟩ r
    have n' : gR G H R b ≠ none := by rw [k.rg.gRne n]; exact n
    rw [a.ok.nw b n']
    unfold frU
    rw [gR_out (k.rg.out n)]
    exact k.st.nw b n') q⟩⟩
theorem us_if {c : Expr} {a b : List Stmt} (hc : UT X c t) (ha : USs X a m1) (hb : USs X b m2) : US X (.If c a b pos) (uIf t m1 m2) where
  mono := fun D D' env R l q => hc.mono _ _ _ _ (fun b e r q => by
    cases b with
    | true => exact ha.mono _ _ _ _ l q
    | false => exact hb.mono _ _ _ _ l q) q
  ps := fun G F0 => PS_imp (ps_if (hc.pe G F0) (ha.ps G F0) (hb.ps G F0)) fun D σ H ⟨F, env, R, k, q⟩ => ⟨F, env, R, k, hc.mono _ _ _ _ (fun b e r q F' H' k' _ => by
    cases b with
    | true => exact ⟨F', e, r, k', q⟩
    | false => exact ⟨F', e, r, k', q⟩) q⟩
theorem us_break : US X (.Break pos) uBreak := ⟨fun D D' env R l q => l.bk _ _ q, fun G F0 => PS_imp ps_break fun D σ H ⟨F, env, R, k, q⟩ => q σ F H k⟩
theorem us_cont : US X (.Continue pos) uCont := ⟨fun D D' env R l q => l.ct _ _ q, fun G F0 => PS_imp ps_continue fun D σ H ⟨F, env, R, k, q⟩ => q σ F H k⟩
theorem us_while {c : Expr} {body : List Stmt} (hp : PassesOwn (model X.prog X.w) X.A X.env X.xe) (hc : UT X c t) (hb : USs X body m1) : US X (.While c body [] pos) (uWhile t m1) where
  mono := fun D D' env R l ⟨W, h0, h⟩ => ⟨W, h0, fun m e r w => hc.mono _ _ _ _ (fun b e1 r1 q => by
    cases b with
    | true => exact hb.mono { D with nx := fun e' r' => ∃ m', m' < m ∧ W m' e' r', ct := fun e' r' => ∃ m', m' < m ∧ W m' e' r', bk := D.nx } _ _ _ ⟨fun _ _ x => x, l.rt, l.nx, fun _ _ x => x⟩ q
    | false => exact l.nx _ _ q) (h m e r w)⟩
  ps := fun G F0 => ⟨fun pins s σ H D I ⟨F, env, R, k, W, ⟨m0, w0⟩, h⟩ => (ps_while hp (hc.pe G F0) (hb.ps G F0)).run pins s σ H D I ⟨fun m σ H => ∃ F env R, GSt X.K G F0 F H env σ R ∧ W m env R, ⟨m0, F, env, R, k, w0⟩, fun m σ1 H1 ⟨F1, env1, R1, k1, w⟩ => ⟨F1, env1, R1, k1, hc.mono _ _ _ _ (fun b e r q F' H' k' _ => by
    cases b with
    | true =>
      refine ⟨fun σ' H' => ∃ m', m' < m ∧ ∃ F env R, GSt X.K G F0 F H' env σ' R ∧ W m' env R, fun σ' H' x => x, F', e, r, k', hb.mono { liftU X.K G F0 D with nx := fun e' r' => ∃ m', m' < m ∧ W m' e' r', ct := fun e' r' => ∃ m', m' < m ∧ W m' e' r', bk := (liftU X.K G F0 D).nx } _ _ _ ⟨?_, fun _ _ x => x, fun _ _ x => x, ?_⟩ q⟩
      · exact fun e2 r2 ⟨m', hm, w'⟩ σ2 F2 H2 k2 => ⟨m', hm, F2, e2, r2, k2, w'⟩
      · exact fun e2 r2 ⟨m', hm, w'⟩ σ2 F2 H2 k2 => ⟨m', hm, F2, e2, r2, k2, w'⟩
    | false => exact q σ1 F' H' k') (h m env1 R1 w)⟩⟩⟩
end
/-! ### p.f = e -/
def putFN (f : Str) : List Str → List Str
  | [] => [f]
  | n :: ns => if n = f then n :: ns else n :: putFN f ns
def putFD (f : Str) (d : D) : List Str → List D → List D
  | n :: ns, x :: xs => if n = f then d :: xs else x :: putFD f d ns xs
  | _, _ => [d]
theorem putF_rep {K : PySem.W.Frag} {F : Hp} {f : Str} {v : V} {d : D} (r : Rep K F v d) : ∀ {fs : List (Str × V)} {xs : List D}, Reps K F (fs.map (·.2)) xs → (putF f v fs).map (·.1) = putFN f (fs.map (·.1)) ∧ Reps K F ((putF f v fs).map (·.2)) (putFD f d (fs.map (·.1)) xs)
  | [], _, q => by cases q; exact ⟨rfl, .cons r .nil⟩
  | (g, x) :: fs, _, q => by
    cases q with | @cons _ y _ ys r1 q =>
    by_cases c : g = f
    · have e1 : putF f v ((g, x) :: fs) = (g, v) :: fs := by show (if g = f then _ else _) = _; rw [if_pos c]
      rw [e1]
      refine ⟨?_, ?_⟩
      · show g :: fs.map (·.1) = if g = f then _ else _
        rw [if_pos c]
      · show Reps K F (v :: fs.map (·.2)) (if g = f then d :: ys else y :: putFD f d (fs.map (·.1)) ys)
        rw [if_pos c]; exact .cons r q
    · have e1 : putF f v ((g, x) :: fs) = (g, x) :: putF f v fs := by show (if g = f then _ else _) = _; rw [if_neg c]
      obtain ⟨i1, i2⟩ := putF_rep r (f := f) q
      rw [e1]
      refine ⟨?_, ?_⟩
      · show g :: (putF f v fs).map (·.1) = if g = f then _ else _
        rw [if_neg c, i1]
      · show Reps K F (x :: (putF f v fs).map (·.2)) (if g = f then d :: ys else y :: putFD f d (fs.map (·.1)) ys)
        rw [if_neg c]; exact .cons r1 i2
theorem putFN_mem {f : Str} : ∀ {ns : List Str} {n : Str}, n ∈ putFN f ns → n = f ∨ n ∈ ns
  | [], n, h => .inl (by simpa [putFN] using h)
  | m :: ns, n, h => by
    unfold putFN at h
    by_cases c : m = f
    · rw [if_pos c] at h; exact .inr h
    · rw [if_neg c] at h
      rcases List.mem_cons.mp h with z | z
      · exact .inr (by rw [z]; exact List.mem_cons_self ..)
      · rcases putFN_mem z with w | w
        · exact .inl w
        · exact .inr (List.mem_cons_of_mem _ w)
def uFld (c : Addr) (f : Str) (mo me : RV) : RQ := fun D env R => me env R fun d e1 r1 => mo e1 r1 fun x e2 r2 => dO r2 x fun a C ns xs => C = c ∧ ns.length < 900 ∧ D.nx e2 (updR r2 a (.o a C (putFN f ns) (putFD f d ns xs)))
section
variable {X : Cx} {o e : Expr} {mo me : RV} {f : Str} {pos pos' : Pos} {c : Addr} {fs : List Str}
theorem us_fld (hk : InsK X.K c fs) (hf : f ∈ fs) (hp : UV X o mo) (he : UV X e me) (hs : swapsWith e (some (.Attribute o f pos')) pos.line X.env = pure false := by rfl) : US X (.Assign [.Attribute o f pos'] e pos) (uFld c f mo me) where
  mono := fun Z Z' env R l q => he.mono _ _ _ _ (fun d e r q => hp.mono _ _ _ _ (fun x e2 r2 q => dO_mono (fun a C ns xs q => ⟨q.1, q.2.1, l.nx _ _ q.2.2⟩) q) q) q
  ps := fun G F0 => PS_imp (L2.ps_fld (hp.pe G F0) (he.pe G F0) hs) fun Z σ H ⟨F, env, R, k, q⟩ => ⟨F, env, R, k, he.mono _ _ _ _ (fun d e r q v F1 H1 k1 s1 r1 => ⟨F1, e, r, k1, hp.mono _ _ _ _ (fun x e2 r2 q w F2 H2 k2 s2 rx => by
    obtain ⟨a, p, C, ns, xs, rfl, er, hc, hl, q⟩ := dO_get q
    cases rx
    subst hc
    obtain ⟨rfl, dx, gs, e1, rfl, e3, ik⟩ := k2.rg.obj er
    have pr := putF_rep (r1.mono s2) (f := f) e3
    refine ⟨a, C, dx, gs, rfl, e1, hk.cl, hk.nf _ hf, by have : (gs.map (·.1)).length = gs.length := List.length_map _; omega, ?_⟩
    refine q σ F2 _ (k2.write er ⟨rfl, rfl, pr.1, pr.2⟩ fun p' C' ns' xs' z => ?_)
    cases z
    refine ⟨hk.cl, fun g hg => ?_, hk.ha, hk.hn, hk.htk, hk.hm⟩
    rcases putFN_mem hg with z | z
    · rw [z]; exact hk.nf _ hf
    · exact ik.nf _ z) q⟩) q⟩
end
/-! ### p.append(e) -/
def uApp (mo me : RV) : RQ := fun D env R => mo env R fun x e1 r1 => dL r1 x fun _ _ => me e1 r1 fun d e2 r2 => dL r2 x fun a ds => ds.length < sizeLine ∧ D.nx e2 (updR r2 a (.l (ds ++ [d])))
section
variable {X : Cx} {o e : Expr} {mo me : RV} {pos apos cpos : Pos}
theorem us_app (hp : UV X o mo) (he : UV X e me)
    (hs : swapsWith (.Call (.Attribute o "append" apos) [e] [] cpos) none pos.line X.env = pure false := by rfl)
    (hbase : attributeBase o "append" X.env (eval o X.env) = eval o X.env := by rfl)
    (hfew : ((backTo cpos (starEach [e] X.env)).all (fun x => !x.1) && (backToKw cpos (keywordEach [] X.env)).all (fun x => x.1.isSome)
      && decide (([e] : List Expr).length + ([] : List Keyword).length + (if ([] : List Keyword).isEmpty then 0 else 1) < 30)) = true := by rfl)
    (hline : (apos.endLine == cpos.line) = true := by rfl) (hst : starEach [e] X.env = (false, eval e X.env) :: starEach [] X.env := by rfl) :
    US X (.Expr (.Call (.Attribute o "append" apos) [e] [] cpos) pos) (uApp mo me) where
  mono := fun D D' env R l q => hp.mono _ _ _ _ (fun x e1 r1 q => dL_mono (fun _ _ q => he.mono _ _ _ _ (fun d e2 r2 q => dL_mono (fun a ds q => ⟨q.1, l.nx _ _ q.2⟩) q) q) q) q
  ps := fun G F0 => PS_imp (ps_expr (pe_bm PySem.F.plainAttrs_list PySem.F.slot_list_append PySem.F.type_list_append mt_append (hp.pe G F0) (pa_cons (he.pe G F0) pa_nil hst) hbase hfew hline hst (by rfl)) hs) fun D σ H ⟨F, env, R, k, q⟩ => ⟨F, env, R, k, hp.mono _ _ _ _ (fun x e1 r1 q v F1 H1 k1 s1 rx => by
    obtain ⟨a, ds0, rfl, er, q⟩ := dL_get q
    cases rx
    obtain ⟨vs0, h1, _⟩ := k1.rg.lst er
    refine ⟨.inl ⟨rfl, vs0, .of h1⟩, F1, e1, r1, k1, he.mono _ _ _ _ (fun d e2 r2 q w F2 H2 k2 s2 rd => ?_) q⟩
    obtain ⟨a', ds, ea, er2, hz, q⟩ := dL_get q
    cases ea
    obtain ⟨vs, h2, h3⟩ := k2.rg.lst er2
    exact ⟨a, vs, w, rfl, rfl, h2, by rw [h3.length]; exact hz, q σ F2 _ (k2.write er2 (c' := .l (ds ++ [d])) (h3.append (Reps.one rd)) fun _ _ _ _ z => nomatch z)⟩) q⟩
end
end DL

namespace DL
open PySem PySem.Spec PyProof.Rows L2

/-! ### loops over a region -/
section
variable {K : PySem.W.Frag} {G F0 F F1 H H1 : Hp} {env env1 : En} {σ σ1 : L2.St} {R R1 : Rg}
theorem GSt.reF (k : GSt K G F0 F H env σ R) : GSt K G F F H env σ R := ⟨k.st.reF, k.rg⟩
theorem ExtU.unF (k : GSt K G F0 F H env σ R) (x : ExtU K F G F1 H1 R1) : ExtU K F0 G F1 H1 R1 :=
  ⟨k.st.ff.trans x.ff, x.gh, x.fh, fun a n => (x.nw a n).trans (k.ext.nw a n), x.rg⟩
theorem GSt.unF (k : GSt K G F0 F H env σ R) (k1 : GSt K G F F1 H1 env1 σ1 R1) : GSt K G F0 F1 H1 env1 σ1 R1 := by
  have s := k1.st
  have ff : Same F0 F1 := k.st.ff.trans s.ff
  refine ⟨⟨s.fh, s.gh, ff, fun a n => ?_, s.len, s.sl, s.og, s.inj⟩, k1.rg⟩
  cases e : R1 a with
  | some c =>
    rw [k1.rg.f0 a c e]
    cases z : F0 a with
    | none => rfl
    | some o => have := ff _ _ z; rw [k1.rg.f0 a c e] at this; cases this
  | none =>
    have n' := n
    rw [gR_out e] at n'
    rw [s.nw a n]; exact k.ext.nw a n'
end
def uForL (g : RG) (body : RQ) (Z : DG) : List D → En → Rg → Prop
  | [], e, r => Z.nx e r
  | x :: xs, e, r => g x e fun e' => body { Z with nx := uForL g body Z xs, ct := uForL g body Z xs, bk := Z.nx } e' r
theorem uForL_mono {g : RG} {body : RQ} (hg : MonoG g) (hb : MonoU body) {Z Z' : DG} (l : Z.le Z') : ∀ (xs : List D) (e : En) (r : Rg), uForL g body Z xs e r → uForL g body Z' xs e r
  | [], e, r, q => l.nx _ _ q
  | x :: xs, e, r, q => hg x e _ _ (fun e' q => hb { Z with nx := uForL g body Z xs, ct := uForL g body Z xs, bk := Z.nx } { Z' with nx := uForL g body Z' xs, ct := uForL g body Z' xs, bk := Z'.nx } e' r ⟨fun e r q => uForL_mono hg hb l xs e r q, l.rt, fun e r q => l.nx _ _ q, fun e r q => uForL_mono hg hb l xs e r q⟩ q) q
def tIU (K : PySem.W.Frag) (G F0 : Hp) (m : RVs) : TI := fun σ H Q => ∃ F env R, GSt K G F0 F H env σ R ∧ m env R fun ds env' R' => ∀ J F' H', GSt K G F0 F' H' env' σ R' → Same F F' → ItOk K F' J ds → Q J H'
structure UI (X : Cx) (tg iter : Expr) (m : RVs) : Prop where
  mono : MonoV m
  pi : ∀ G F0, PI X tg iter (tIU X.K G F0 m)
def vSeq (m : RV) : RVs := fun env R Q => m env R fun d e r => dSeq d fun ds => Q ds e r
def vRg1 (m : RVs) : RVs := fun env R Q => m env R fun ds e r => match ds with
  | [.int j] => inR j ∧ Q (rangeD 0 j.toNat) e r
  | _ => False
def vRg2 (m : RVs) : RVs := fun env R Q => m env R fun ds e r => match ds with
  | [.int i, .int j] => inR i ∧ inR j ∧ Q (rangeD i (j - i).toNat) e r
  | _ => False
def uFor (mi : RVs) (g : RG) (body : RQ) : RQ := fun Z env R => mi env R fun ds e r => uForL g body Z ds e r
section
variable {X : Cx} {tg iter e a b : Expr} {body : List Stmt} {mi : RVs} {m : RV} {ms : RVs} {g : RG} {mb : RQ} {pos p : Pos}
theorem ui_seq (he : UV X e m) : UI X tg e (vSeq m) where
  mono := fun env R Q Q' i q => he.mono _ _ _ _ (fun d e r q => dSeq_mono (fun x q => i _ _ _ q) q) q
  pi := fun G F0 => PI_imp (pi_seqV (he.pe G F0)) fun σ H Q ⟨F, env, R, k, q⟩ => ⟨F, env, R, k, he.mono _ _ _ _ (fun d e r q v F' H' k' sF rv => by
    cases rv <;> first | exact q.elim | skip
    · exact .inr (.inr ⟨_, rfl, q _ F' H' k' sF ItOk.str⟩)
    · rename_i vs ds h rs
      exact .inr (.inl ⟨_, vs, rfl, SqT_mono k'.st.fh h, q _ F' H' k' sF (ItOk.tup h rs)⟩)
    · rename_i vs ds h rs
      exact .inl ⟨_, vs, rfl, .of (k'.st.fh _ _ h), q _ F' H' k' sF (ItOk.list (.of h) rs)⟩
    · rename_i ns h
      exact .inl ⟨_, _, rfl, k'.st.fh.seq h, q _ F' H' k' sF (ItOk.list h (Reps.of_ints _))⟩) q⟩
theorem ui_range1 (hg : Gl X "range") (hm : X.mg "range" = none) (ha : UA X [a] ms) (hs : starEach [a] X.env = [(false, eval a X.env)] := by rfl) : UI X tg (.Call (.Name "range" p) [a] [] pos) (vRg1 ms) where
  mono := fun env R Q Q' i q => ha.mono _ _ _ _ (fun ds e r q => by revert q; split <;> intro q <;> first | exact ⟨q.1, i _ _ _ q.2⟩ | exact q) q
  pi := fun G F0 => PI_imp (pi_range1 hg hm (ha.pe G F0) hs) fun σ H Q ⟨F, env, R, k, q⟩ => ⟨F, env, R, k, ha.mono _ _ _ _ (fun ds e r q vs F' H' k' sF rs => by
    revert q; split <;> intro q
    · obtain ⟨⟨h1, h2⟩, q⟩ := q
      cases rs with | cons r t => cases t; cases r; exact ⟨_, rfl, h1, h2, q _ F' H' k' sF ItOk.range⟩
    · exact q.elim) q⟩
theorem ui_range2 (hg : Gl X "range") (hm : X.mg "range" = none) (ha : UA X [a, b] ms) (hs : starEach [a, b] X.env = [(false, eval a X.env), (false, eval b X.env)] := by rfl) (hs2 : starEach [b] X.env = [(false, eval b X.env)] := by rfl) : UI X tg (.Call (.Name "range" p) [a, b] [] pos) (vRg2 ms) where
  mono := fun env R Q Q' i q => ha.mono _ _ _ _ (fun ds e r q => by revert q; split <;> intro q <;> first | exact ⟨q.1, q.2.1, i _ _ _ q.2.2⟩ | exact q) q
  pi := fun G F0 => PI_imp (pi_range2 hg hm (ha.pe G F0) hs hs2) fun σ H Q ⟨F, env, R, k, q⟩ => ⟨F, env, R, k, ha.mono _ _ _ _ (fun ds e r q vs F' H' k' sF rs => by
    revert q; split <;> intro q
    · obtain ⟨⟨h1, h2⟩, ⟨h3, h4⟩, q⟩ := q
      cases rs with | cons r t => cases t with | cons r' t => cases t; cases r; cases r'; exact ⟨_, _, rfl, ⟨h1, h2, h3, h4⟩, q _ F' H' k' sF ItOk.range⟩
    · exact q.elim) q⟩
theorem us_for (hp : PassesOwn (model X.prog X.w) X.A X.env X.xe) (hc : X.calm = true) {sl : List Nat} (hi : UI X tg iter mi) (hg : EG X tg sl g) (hb : USs X body mb)
    (hs : ∀ x, foldedSetIterable iter X.env x = pure x := by intro _; rfl) : US X (.For tg iter body [] pos) (uFor mi g mb) where
  mono := fun D D' env R l q => hi.mono _ _ _ _ (fun ds e r q => uForL_mono hg.mono hb.mono l ds e r q) q
  ps := fun G F0 => by
    refine ⟨fun pins s σ H D I h => ?_⟩
    obtain ⟨F, env, R, k, q⟩ := h
    refine (ps_for hp hc (wi := tIU X.K G F0 mi) (g := fun v σ H Q => ∃ G' F', tG X.K G' F' sl g v σ H Q) (tb := fun D σ H => ∃ F', tSU X.K G F' mb D σ H) (hi.pi G F0)
      (PG_of (t := fun G F0 => tG X.K G F0 sl g) fun G F0 => hg.pg G F0) ⟨fun pins s σ H D I ⟨F', q⟩ => (hb.ps G F').run pins s σ H D I q⟩ hs).run pins s σ H D I ?_
    refine ⟨F, env, R, k, hi.mono _ _ _ _ (fun ds e r q J F' H' k' sF io => ?_) q⟩
    refine ⟨fun i m σ H => m = ds.length - i ∧ ∃ F1 env1 R1, GSt X.K G F' F1 H env1 σ R1 ∧ uForL g mb (liftU X.K G F0 D) (ds.drop i) env1 R1, ⟨ds.length, by simp, F', e, r, k'.reF, by simpa using q⟩, ?_⟩
    rintro i m σ1 H1 ⟨rfl, F1, env1, R1, k1, q1⟩
    have io1 := io i F1 H1 k1.st.ff k1.st.fh
    cases e1 : ds[i]? with
    | none =>
      refine .inl ⟨io1.2 e1, ?_⟩
      rw [List.drop_eq_nil_of_le (List.getElem?_eq_none_iff.mp e1)] at q1
      exact q1 σ1 F1 H1 (k'.unF k1)
    | some d =>
      have hlt : i < ds.length := by
        rcases Nat.lt_or_ge i ds.length with h | h
        · exact h
        · rw [List.getElem?_eq_none h] at e1; cases e1
      have ed : ds.drop i = d :: ds.drop (i + 1) := by
        rw [List.drop_eq_getElem_cons hlt]
        rw [List.getElem?_eq_getElem hlt] at e1
        rw [Option.some.inj e1]
      rw [ed] at q1
      obtain ⟨go, yl⟩ := io1.1 d e1
      refine .inr ⟨go, fun σ' H' => ∃ F2 env2 R2, GSt X.K G F' F2 H' env2 σ' R2 ∧ uForL g mb (liftU X.K G F0 D) (ds.drop (i + 1)) env2 R2, fun σ' H' ⟨F2, env2, R2, k2, q2⟩ => ⟨ds.length - (i + 1), by omega, rfl, F2, env2, R2, k2, q2⟩, fun x H2 y => ?_⟩
      obtain ⟨F2, x2, r2⟩ := yl x H2 y
      have k2 := k1.extE x2
      refine ⟨gR G H2 R1, F', F2, env1, d, k2.st, r2, hg.mono _ _ _ _ (fun e' q3 σ3 _ k3 => ?_) q1⟩
      refine ⟨F', F2, e', R1, ⟨k3, k2.rg⟩, hb.mono { liftU X.K G F0 D with nx := uForL g mb (liftU X.K G F0 D) (ds.drop (i + 1)), ct := uForL g mb (liftU X.K G F0 D) (ds.drop (i + 1)), bk := (liftU X.K G F0 D).nx } _ _ _ ⟨fun e r q4 σ4 F4 H4 k4 => ⟨F4, e, r, k4, q4⟩, fun d r q4 v F4 H4 x4 r4 => q4 v F4 H4 (x4.unF k') r4, fun e r q4 σ4 F4 H4 k4 => q4 σ4 F4 H4 (k'.unF k4), fun e r q4 σ4 F4 H4 k4 => ⟨F4, e, r, k4, q4⟩⟩ q3⟩
end

/-! ### calls -/
abbrev SpecU := List D → Rg → (D → Rg → Prop) → Prop
def MonoSpU (sp : SpecU) : Prop := ∀ ds R (Q Q' : D → Rg → Prop), (∀ d r, Q d r → Q' d r) → sp ds R Q → sp ds R Q'
/-- what is there behind a call that had the region -/
structure CallU (K : PySem.W.Frag) (F H : Hp) (R : Rg) (F' H' : Hp) (R' : Rg) : Prop where
  fF : Same F F'
  hH : ∀ a o, R a = none → H a = some o → H' a = some o
  fh : Same F' H'
  nw : ∀ a, R a = none → H a ≠ none → F' a = F a
  rg : RegOk K (fun _ => none) F' H' R'
  fr : ∀ a c, R' a = some c → R a ≠ none ∨ H a = none
def spU (K : PySem.W.Frag) (n : Nat) (spec : SpecU) : Sp := fun vs H Q _ => vs.length = n ∧ ∃ F ds R, Same F H ∧ Reps K F vs ds ∧ RegOk K (fun _ => none) F H R ∧ spec ds R fun d R' => ∀ v F' H', CallU K F H R F' H' R' → Rep K F' v d → Q v H'
def runU (n : Nat) (m : RQ) : SpecU := fun ds R Q => m { nx := fun _ r => Q .non r, rt := Q } (startD n ds) R
theorem runU_mono {n : Nat} {m : RQ} (h : MonoU m) : MonoSpU (runU n m) := fun ds R Q Q' i q => h { nx := fun _ r => Q .non r, rt := Q } _ _ _ ⟨fun _ _ q => i _ _ q, fun _ _ q => i _ _ q, fun _ _ q => q, fun _ _ q => q⟩ q
/-- a def that begins with no region and gives it up -/
def runP (n : Nat) (m : RQ) : SpecD := fun ds Q => m { nx := fun _ _ => Q .non, rt := fun d _ => Q d } (startD n ds) rg0
theorem runP_mono {n : Nat} {m : RQ} (h : MonoU m) : MonoSp (runP n m) := fun ds Q Q' i q => h { nx := fun _ _ => Q .non, rt := fun d _ => Q d } _ _ _ ⟨fun _ _ q => i _ q, fun _ _ q => i _ q, fun _ _ q => q, fun _ _ q => q⟩ q
theorem gR_hU {H : Hp} {R : Rg} : gR (hU H R) H R = H := funext fun a => by
  cases e : R a with
  | none => rw [gR_out e, hU_out e]
  | some c => rw [gR_in e]
section
variable {P : Program} {w : World} {K : PySem.W.Frag} {mg : Str → Option Value} {base : Heap}
theorem fn_okU {x qual : Str} {st : Stmt} {f : Addr} {fd : FuncData} {N ps : List Str} {k : Nat} {m : RQ} (F : Fun K x qual st f fd) (S : FnScope N ps (defScope st))
    (hm : ∀ (cdv : Value) (A : Around) (outer : List Env) (s : Shared) (H : Hp) (E : XK), Room k (A.deeper (envOfC qual (defScope st) s.heap.objs.size f cdv)) → USs (cxOf CX0 P w K mg base N qual (defScope st) f cdv A outer s H E).nox (defBody st) m) :
    FnOk P w K mg base CX0 (k + 1) f fd ps (spU K ps.length (runU N.length m)) :=
  F.ok S (fun vs H Q E h => h.1) fun cdv A outer s H vs Q E hr ⟨hl, F', ds, R, hF, r, hR, q⟩ => by
    have M := hm cdv A outer s H E hr
    have hle : vs.length ≤ N.length := by
      rw [hl]
      have := congrArg List.length S.pre
      rw [List.length_take] at this
      omega
    have k0 : GSt K (hU H R) F' F' H (startD N.length ds) (L2.start N vs) R := ⟨by rw [gR_hU]; exact start_ok hF r hle, hR.f0, fun a c e => hU_in e, hR.h0, hR.k0⟩
    have fin : ∀ {F1 H1 : Hp} {R1 : Rg}, ExtU K F' (hU H R) F1 H1 R1 → CallU K F' H R F1 H1 R1 := fun {F1 H1 R1} x =>
      ⟨x.ff, fun a o e1 e2 => x.gh a o (by rw [hU_out e1]; exact e2), x.fh, fun a e1 e2 => x.nw a (by rw [hU_out e1]; exact e2), ⟨x.rg.f0, fun _ _ _ => rfl, x.rg.h0, x.rg.k0⟩, fun a c e => by
        have g := x.rg.g0 a c e
        cases er : R a with
        | some c' => exact .inl (fun z => nomatch z)
        | none => rw [hU_out er] at g; exact .inr g⟩
    refine ⟨_, M.ps (hU H R) F', F', startD N.length ds, R, k0, ?_⟩
    exact M.mono { nx := fun _ r => ∀ v F1 H1, CallU K F' H R F1 H1 r → Rep K F1 v .non → Q v H1, rt := fun d r => ∀ v F1 H1, CallU K F' H R F1 H1 r → Rep K F1 v d → Q v H1 } _ _ _
      ⟨fun e r q σ F1 H1 k => q .non F1 H1 (fin k.ext) .non, fun d r q v F1 H1 x1 r1 => q v F1 H1 (fin x1) r1, fun _ _ q => q.elim, fun _ _ q => q.elim⟩ q
theorem fn_okP {x qual : Str} {st : Stmt} {f : Addr} {fd : FuncData} {N ps : List Str} {k : Nat} {m : RQ} (F : Fun K x qual st f fd) (S : FnScope N ps (defScope st))
    (hm : ∀ (cdv : Value) (A : Around) (outer : List Env) (s : Shared) (H : Hp) (E : XK), Room k (A.deeper (envOfC qual (defScope st) s.heap.objs.size f cdv)) → USs (cxOf CX0 P w K mg base N qual (defScope st) f cdv A outer s H E).nox (defBody st) m) (hr0 : Room (k + 1) callerA) :
    FnOk P w K mg base CX0 (k + 1) f fd ps (spD K ps.length (runP N.length m)) :=
  (fn_okU F S hm).imp fun vs H Q E ⟨hl, F', ds, hF, r, q⟩ => ⟨hl, F', ds, rg0, hF, r, rg0_ok, by
    have hm' : MonoU m := (hm .none callerA [] {} (fun _ => none) (fun _ _ _ => False) (hr0.deeper _)).mono
    exact hm' { nx := fun _ _ => Wants K F' H Q .non, rt := fun d _ => Wants K F' H Q d } _ _ _ ⟨fun _ _ q v F1 H1 x r => q v F1 H1 ⟨x.fF, fun a o e => x.hH a o rfl e, x.fh, fun a n => x.nw a rfl n⟩ r, fun _ _ q v F1 H1 x r => q v F1 H1 ⟨x.fF, fun a o e => x.hH a o rfl e, x.fh, fun a n => x.nw a rfl n⟩ r, fun _ _ q => q.elim, fun _ _ q => q.elim⟩ q⟩
theorem GSt.call {G F0 F F' H H' : Hp} {env : En} {σ : L2.St} {R R' : Rg} (k : GSt K G F0 F H env σ R) (c : CallU K F H R F' H' R') : GSt K G F0 F' H' env σ R' := by
  have st := k.st
  have ff : Same F0 F' := st.ff.trans c.fF
  have out : ∀ a, gR G H R a = none → H a ≠ none → R' a = none := fun a e n => by
    cases z : R' a with
    | none => rfl
    | some c' =>
      rcases c.fr a c' z with w | w
      · cases y : R a with
        | none => exact absurd y w
        | some c2 => rw [gR_in y] at e; exact absurd e n
      · exact absurd w n
  have nR : ∀ a, gR G H R a = none → H a ≠ none → R a = none := fun a e n => by
    cases y : R a with
    | none => rfl
    | some c2 => rw [gR_in y] at e; exact absurd e n
  have gn : ∀ a c', R' a = some c' → G a = none := fun a c' e => by
    cases z : G a with
    | none => rfl
    | some o =>
      have n : G a ≠ none := opt_ne z
      have hH := k.rg.sameG st.gh _ _ z
      rcases c.fr a c' e with w | w
      · exact absurd (k.rg.out n) w
      · rw [hH] at w; cases w
  refine ⟨⟨c.fh, fun a o e => ?_, ff, fun a n => ?_, st.len, fun i s e => ?_, fun i d a e ea => ?_, st.inj⟩, ⟨c.rg.f0, gn, c.rg.h0, c.rg.k0⟩⟩
  · cases z : R' a with
    | some c' => rw [gR_in z] at e; exact e
    | none =>
      rw [gR_out z] at e
      exact c.hH a o (k.rg.out (opt_ne e)) (k.rg.sameG st.gh _ _ e)
  · cases z : R' a with
    | some c' =>
      rw [c.rg.f0 a c' z]
      cases y : F0 a with
      | none => rfl
      | some o => have := ff _ _ y; rw [c.rg.f0 a c' z] at this; cases this
    | none =>
      rw [gR_out z] at n
      have r0 := k.rg.out n
      have hn : H a ≠ none := by
        cases y : G a with
        | none => exact absurd y n
        | some o => exact opt_ne (k.rg.sameG st.gh _ _ y)
      rw [c.nw a r0 hn]
      exact k.ext.nw a n
  · have g := st.sl i s e
    cases s with
    | un => trivial
    | v d => obtain ⟨v, e1, r⟩ := g; exact ⟨v, e1, r.mono c.fF⟩
    | own d =>
      obtain ⟨a, ho, e1, e2, e3, e4⟩ := g
      have r0 := nR a (st.og i d a e e1) (opt_ne e3)
      exact ⟨a, ho, e1, by rw [c.nw a r0 (opt_ne e3)]; exact e2, c.hH a ho r0 e3, e4.mono c.fF⟩
  · obtain ⟨a', ho, e1, _, e3, _⟩ := st.sl i _ e
    rw [ea] at e1; cases e1
    have g0 := st.og i d a e ea
    rw [gR_out (out a g0 (opt_ne e3))]
    have := nR a g0 (opt_ne e3)
    rw [gR_out this] at g0; exact g0
theorem RegOk.noG {G F H : Hp} {R : Rg} (r : RegOk K G F H R) : RegOk K (fun _ => none) F H R := ⟨r.f0, fun _ _ _ => rfl, r.h0, r.k0⟩
/-- a def that is given the region -/
structure CalU (P : Program) (w : World) (K : PySem.W.Frag) (mg : Str → Option Value) (base : Heap) (x : Str) (k : Nat) (n : Nat) (spec : SpecU) : Prop where
  mono : MonoSpU spec
  ex : ∃ (f : Addr) (fd : FuncData) (ps : List Str), ps.length = n ∧ FnOk P w K mg base CX0 k f fd ps (spU K n spec) ∧ mg x = some (.ref f) ∧ PySem.W.keepIn K (.ref f) = true ∧ Binds K fd ps []
/-- a method that is given the region; one that reads data -/
structure MetU (P : Program) (w : World) (K : PySem.W.Frag) (mg : Str → Option Value) (base : Heap) (k : Nat) (C : Addr) (m : Str) (n : Nat) (spec : SpecU) : Prop where
  mono : MonoSpU spec
  cl : Cls K C
  ex : ∃ (f : Addr) (fd : FuncData) (ps : List Str), ps.length = n ∧ FnOk P w K mg base CX0 k f fd ps (spU K n spec) ∧ Meth K C m f ∧ Binds K fd ps []
structure MetD (P : Program) (w : World) (K : PySem.W.Frag) (mg : Str → Option Value) (base : Heap) (k : Nat) (C : Addr) (m : Str) (n : Nat) (spec : SpecD) : Prop where
  mono : MonoSp spec
  cl : Cls K C
  ex : ∃ (f : Addr) (fd : FuncData) (ps : List Str), ps.length = n ∧ FnOk P w K mg base CX0 k f fd ps (spD K n spec) ∧ Meth K C m f ∧ Binds K fd ps []
/-- a class whose objects are cells of the region -/
structure MakU (P : Program) (w : World) (K : PySem.W.Frag) (mg : Str → Option Value) (base : Heap) (x : Str) (k : Nat) (C : Addr) (fs : List Str) (n : Nat) (spec : SpecU) : Prop where
  mono : MonoSpU spec
  ins : InsK K C fs
  ex : ∃ (f : Addr) (fd : FuncData) (ps : List Str), ps.length = n + 1 ∧ FnOk P w K mg base CX0 k f fd ps (spU K (n + 1) spec) ∧ Mk K C f ∧ mg x = some (.ref C) ∧ Binds K fd ps []
end
theorem look_none {m : Str} {fs : List (Str × V)} (h : (fs.map (·.1)).contains m = false) : fs.lookup m = none := by
  induction fs with
  | nil => rfl
  | cons p r ih =>
    simp only [List.map_cons, List.contains_cons, Bool.or_eq_false_iff] at h
    obtain ⟨n, v⟩ := p
    have h1 : (m == n) = false := h.1
    simp only [List.lookup, h1]
    exact ih h.2
def vCall (spec : SpecU) (n : Nat) (m : RVs) : RV := fun env R Q => m env R fun ds e r => ds.length = n ∧ spec ds r fun d r' => Q d e r'
def vMeth (C : Addr) (nm : Str) (spec : SpecU) (n : Nat) (mo : RV) (m : RVs) : RV := fun env R Q => mo env R fun x e r => dO r x fun a C' ns _ => C' = C ∧ ns.contains nm = false ∧ m e r fun ds e2 r2 => ds.length + 1 = n ∧ spec (.cls a :: ds) r2 fun d r3 => Q d e2 r3
def vMake (C : Addr) (spec : SpecU) (n : Nat) (m : RVs) : RV := fun env R Q => m env R fun ds e r => ds.length = n ∧ ∀ p, r p = none → spec (.cls p :: ds) (updR r p (.o p C [] [])) fun d r' => Q (.cls p) e r'
def qMeth (C : Addr) (nm : Str) (x : D) (P : Prop) : Prop := match x with
  | .ins C' ns _ => C' = C ∧ ns.contains nm = false ∧ P
  | _ => False
def rMeth (C : Addr) (nm : Str) (spec : SpecD) (n : Nat) (mo : RE) (m : RN) : RE := fun env Q => mo env fun x e => qMeth C nm x (m e fun ds e2 => ds.length + 1 = n ∧ spec (x :: ds) fun d => Q d e2)
section
variable {X : Cx} {x nm : Str} {k n : Nat} {C : Addr} {fs : List Str} {spec : SpecU} {p pos apos : Pos} {o e : Expr} {es : List Expr} {mo : RV} {m : RVs}
theorem uv_call (c : CalU X.prog X.w X.K X.mg X.base x k n spec) (hr : Room k X.A) (hg : Gl X x) (ha : UA X (e :: es) m) (hdb : (x == ("__debug__" : Str)) = false := by decide)
    (he : starEach (e :: es) X.env = (false, eval e X.env) :: starEach es X.env := by rfl) (hpl : (backTo pos (starEach es X.env)).any (·.1) = false := by rfl) : UV X (.Call (.Name x p) (e :: es) [] pos) (vCall spec n m) where
  mono := fun env R Q Q' i q => ha.mono _ _ _ _ (fun ds e r q => ⟨q.1, c.mono _ _ _ _ (fun d r' q => i _ _ _ q) q.2⟩) q
  pe := fun G F0 => by
    obtain ⟨f, fd, ps, hn, F, hm, hk, hb⟩ := c.ex
    refine PE_imp (pe_call F hr hg hm hk hb .nil pass0 (ha.pe G F0) hdb he hpl) fun σ H Q ⟨F1, env, R, k, q⟩ => ⟨F1, env, R, k, ha.mono _ _ _ _ (fun ds e r q vs F2 H2 k2 s2 rs => ?_) q⟩
    show spU X.K n spec (vs ++ []) H2 Q E0
    rw [List.append_nil]
    exact ⟨by rw [rs.length]; exact q.1, F2, ds, r, k2.st.fh, rs, k2.rg.noG, c.mono _ _ _ _ (fun d r' q v F3 H3 x3 r3 => q v F3 H3 (k2.call x3) (s2.trans x3.fF) r3) q.2⟩
theorem uv_meth {pl : Sem Bool} (c : MetU X.prog X.w X.K X.mg X.base k C nm n spec) (hr : Room k X.A) (ho : UV X o mo) (ha : UA X (e :: es) m)
    (hst : starEach (e :: es) X.env = (false, eval e X.env) :: starEach es X.env := by rfl) (hpl : (backTo pos (starEach es X.env)).any (·.1) = false := by rfl)
    (ht : eval (.Call (.Attribute o nm apos) (e :: es) [] pos) X.env = (do
      let ov ← eval o X.env
      standAt apos.atName
      let (f, first) ← holding [ov] (getMethod ov nm pl)
      callWith pos f first (backTo pos (starEach (e :: es) X.env)) (backToKw pos (keywordEach [] X.env))) := by rfl) : UV X (.Call (.Attribute o nm apos) (e :: es) [] pos) (vMeth C nm spec n mo m) where
  mono := fun env R Q Q' i q => ho.mono _ _ _ _ (fun x e r q => dO_mono (fun a C' ns _ q => ⟨q.1, q.2.1, ha.mono _ _ _ _ (fun ds e2 r2 q => ⟨q.1, c.mono _ _ _ _ (fun d r' q => i _ _ _ q) q.2⟩) q.2.2⟩) q) q
  pe := fun G F0 => by
    obtain ⟨f, fd, ps, hn, F, hm, hb⟩ := c.ex
    refine PE_imp (pe_meth (ho.pe G F0) c.cl hm F hr hb .nil pass0 (ha.pe G F0) hst hpl ht) fun σ H Q ⟨F1, env, R, k, q⟩ => ⟨F1, env, R, k, ho.mono _ _ _ _ (fun x e r q v F2 H2 k2 s2 rx => ?_) q⟩
    obtain ⟨a, p', C', ns, xs, rfl, er, rfl, hns, q⟩ := dO_get q
    cases rx
    obtain ⟨_, dx, gs, e1, rfl, e3, ik⟩ := k2.rg.obj er
    refine ⟨a, dx, gs, rfl, e1, look_none hns, F2, e, r, k2, ha.mono _ _ _ _ (fun ds e2 r2 q vs F3 H3 k3 s3 rs => ?_) q⟩
    show spU X.K n spec (V.ref a :: (vs ++ [])) H3 Q E0
    rw [List.append_nil]
    exact ⟨by rw [List.length_cons, rs.length]; exact q.1, F3, .cls a :: ds, r2, k3.st.fh, .cons (.cls a) rs, k3.rg.noG, c.mono _ _ _ _ (fun d r' q v F4 H4 x4 r4 => q v F4 H4 (k3.call x4) ((s2.trans s3).trans x4.fF) r4) q.2⟩
theorem uv_meth0 {pl : Sem Bool} (c : MetU X.prog X.w X.K X.mg X.base k C nm n spec) (hr : Room k X.A) (ho : UV X o mo)
    (ht : eval (.Call (.Attribute o nm apos) [] [] pos) X.env = (do
      let ov ← eval o X.env
      standAt apos.atName
      let (f, first) ← holding [ov] (getMethod ov nm pl)
      callWith pos f first (backTo pos (starEach [] X.env)) (backToKw pos (keywordEach [] X.env))) := by rfl) : UV X (.Call (.Attribute o nm apos) [] [] pos) (vMeth C nm spec n mo vNil) where
  mono := fun env R Q Q' i q => ho.mono _ _ _ _ (fun x e r q => dO_mono (fun a C' ns _ q => ⟨q.1, q.2.1, q.2.2.1, c.mono _ _ _ _ (fun d r' q => i _ _ _ q) q.2.2.2⟩) q) q
  pe := fun G F0 => by
    obtain ⟨f, fd, ps, hn, F, hm, hb⟩ := c.ex
    refine PE_imp (pe_meth0 (ho.pe G F0) c.cl hm F hr hb .nil pass0 ht) fun σ H Q ⟨F1, env, R, k, q⟩ => ⟨F1, env, R, k, ho.mono _ _ _ _ (fun x e r q v F2 H2 k2 s2 rx => ?_) q⟩
    obtain ⟨a, p', C', ns, xs, rfl, er, rfl, hns, q⟩ := dO_get q
    cases rx
    obtain ⟨_, dx, gs, e1, rfl, e3, ik⟩ := k2.rg.obj er
    refine ⟨a, dx, gs, rfl, e1, look_none hns, ?_⟩
    exact ⟨q.1, F2, [.cls a], r, k2.st.fh, .cons (.cls a) .nil, k2.rg.noG, c.mono _ _ _ _ (fun d r' q v F4 H4 x4 r4 => q v F4 H4 (k2.call x4) (s2.trans x4.fF) r4) q.2⟩
/-- a new object, as it stands ahead of its __init__ -/
theorem GSt.make {K : PySem.W.Frag} {G F0 F H : Hp} {env : En} {σ : L2.St} {R : Rg} {y dx C : Addr} (k : GSt K G F0 F H env σ R) (hy : H y = none) (hd : H dx = none) (hne : dx ≠ y) (hk : InsK K C []) :
    R y = none ∧ GSt K G F0 F (upd (upd H dx (.own y)) y (.ins C dx [])) env σ (updR R y (.o y C [] [])) := by
  have fy := k.st.fh.at_none hy
  have gy : G y = none := (k.rg.sameG k.st.gh).at_none hy
  have fd := k.st.fh.at_none hd
  have ry : R y = none := by
    cases e : R y with
    | none => rfl
    | some c => exact absurd hy (k.rg.ne e)
  have x : Ext F H F (upd (upd H dx (.own y)) y (.ins C dx [])) := ⟨Same.refl _, fun b o eb => by rw [upd_ne (ne_of_none eb hy), upd_ne (ne_of_none eb hd)]; exact eb, fun b o eb => by rw [upd_ne (ne_of_none eb fy), upd_ne (ne_of_none eb fd)]; exact k.st.fh _ _ eb, fun _ _ => rfl⟩
  refine ⟨ry, (k.extE x).cell (c := .o y C [] []) upd_same fy gy ry (fun i c e z => ?_) ⟨rfl, rfl, rfl, .nil⟩ fun p C' ns xs z => by cases z; exact hk⟩
  obtain ⟨b, ho, e1, _, e3, _⟩ := k.st.sl i _ e
  rw [z] at e1; cases e1; rw [hy] at e3; cases e3
theorem InsK.nil {K : PySem.W.Frag} {C : Addr} {fs : List Str} (h : InsK K C fs) : InsK K C [] := ⟨h.cl, (fun _ z => nomatch z), h.ha, h.hn, h.htk, h.hm⟩
theorem uv_make (cm : MakU X.prog X.w X.K X.mg X.base x k C fs n spec) (hr : Room (k + 1) X.A) (hg : Gl X x) (ha : UA X (e :: es) m) (hdb : (x == ("__debug__" : Str)) = false := by decide)
    (he : starEach (e :: es) X.env = (false, eval e X.env) :: starEach es X.env := by rfl) (hpl : (backTo pos (starEach es X.env)).any (·.1) = false := by rfl) : UV X (.Call (.Name x p) (e :: es) [] pos) (vMake C (fun ds R Q => spec ds R fun d r => d = .non ∧ Q d r) n m) where
  mono := fun env R Q Q' i q => ha.mono _ _ _ _ (fun ds e r q => ⟨q.1, fun p hp => cm.mono _ _ _ _ (fun d r' q => ⟨q.1, i _ _ _ q.2⟩) (q.2 p hp)⟩) q
  pe := fun G F0 => by
    obtain ⟨f, fd, ps, hn, F, hM, hm, hb⟩ := cm.ex
    refine PE_imp (pe_make hM F hr hg hm hb .nil pass0 (ha.pe G F0) hdb he hpl) fun σ H Q ⟨F1, env, R, k, q⟩ => ⟨F1, env, R, k, ha.mono _ _ _ _ (fun ds e r q vs F2 H2 k2 s2 rs y dx hy hdx hne => ?_) q⟩
    obtain ⟨ry, k3⟩ := k2.make hy hdx hne cm.ins.nil
    rw [List.append_nil]
    refine ⟨by rw [List.length_cons, rs.length, q.1], F2, .cls y :: ds, _, k3.st.fh, .cons (.cls y) rs, k3.rg.noG, cm.mono _ _ _ _ (fun d r' q v F4 H4 x4 r4 => ?_) (q.2 y ry)⟩
    obtain ⟨rfl, q⟩ := q
    cases r4
    exact ⟨rfl, q (.ref y) F4 H4 (k3.call x4) (s2.trans x4.fF) (.cls y)⟩
theorem uv_make0 (cm : MakU X.prog X.w X.K X.mg X.base x k C fs 0 spec) (hr : Room (k + 1) X.A) (hg : Gl X x) (hdb : (x == ("__debug__" : Str)) = false := by decide) : UV X (.Call (.Name x p) [] [] pos) (vMake C (fun ds R Q => spec ds R fun d r => d = .non ∧ Q d r) 0 vNil) where
  mono := fun env R Q Q' i q => ⟨q.1, fun p hp => cm.mono _ _ _ _ (fun d r' q => ⟨q.1, i _ _ _ q.2⟩) (q.2 p hp)⟩
  pe := fun G F0 => by
    obtain ⟨f, fd, ps, hn, F, hM, hm, hb⟩ := cm.ex
    refine PE_imp (pe_make0 hM F hr hg hm hb .nil pass0 hdb) fun σ H Q ⟨F2, env, R, k2, q⟩ y dx hy hdx hne => ?_
    obtain ⟨ry, k3⟩ := k2.make hy hdx hne cm.ins.nil
    refine ⟨rfl, F2, [.cls y], _, k3.st.fh, .cons (.cls y) .nil, k3.rg.noG, cm.mono _ _ _ _ (fun d r' q v F4 H4 x4 r4 => ?_) (q.2 y ry)⟩
    obtain ⟨rfl, q⟩ := q
    cases r4
    exact ⟨rfl, q (.ref y) F4 H4 (k3.call x4) x4.fF (.cls y)⟩
end
/-! ### methods of data -/
section
variable {X : Cx} {nm : Str} {k n : Nat} {C : Addr} {spec : SpecD} {pos apos : Pos} {o e : Expr} {es : List Expr} {mo : RE} {m : RN}
theorem qMeth_mono {x : D} {P P' : Prop} (i : P → P') (q : qMeth C nm x P) : qMeth C nm x P' := by
  cases x <;> first | exact q.elim | exact ⟨q.1, q.2.1, i q.2.2⟩
theorem ee_meth {pl : Sem Bool} (c : MetD X.prog X.w X.K X.mg X.base k C nm n spec) (hr : Room k X.A) (ho : EE X o mo) (ha : EA X (e :: es) m)
    (hst : starEach (e :: es) X.env = (false, eval e X.env) :: starEach es X.env := by rfl) (hpl : (backTo pos (starEach es X.env)).any (·.1) = false := by rfl)
    (ht : eval (.Call (.Attribute o nm apos) (e :: es) [] pos) X.env = (do
      let ov ← eval o X.env
      standAt apos.atName
      let (f, first) ← holding [ov] (getMethod ov nm pl)
      callWith pos f first (backTo pos (starEach (e :: es) X.env)) (backToKw pos (keywordEach [] X.env))) := by rfl) : EE X (.Call (.Attribute o nm apos) (e :: es) [] pos) (rMeth C nm spec n mo m) where
  mono := fun env Q Q' i q => ho.mono _ _ _ (fun x e q => qMeth_mono (fun q => ha.mono _ _ _ (fun ds e2 q => ⟨q.1, c.mono _ _ _ (fun d q => i _ _ q) q.2⟩) q) q) q
  pe := fun G F0 => by
    obtain ⟨f, fd, ps, hn, F, hm, hb⟩ := c.ex
    refine PE_imp (pe_meth (ho.pe G F0) c.cl hm F hr hb .nil pass0 (ha.pe G F0) hst hpl ht) fun σ H Q ⟨F1, env, k, q⟩ => ⟨F1, env, k, ho.mono _ _ _ (fun x e q v F2 H2 a2 rx => ?_) q⟩
    cases rx <;> first | exact q.elim | skip
    rename_i a C' dx gs ds ik hF rs
    obtain ⟨rfl, hns, q⟩ := q
    refine ⟨a, dx, gs, rfl, a2.ok.fh _ _ hF, look_none hns, F2, e, a2.ok, ha.mono _ _ _ (fun ds' e2 q vs F3 H3 a3 rs' => ?_) q⟩
    show spD X.K n spec (V.ref a :: (vs ++ [])) H3 Q E0
    rw [List.append_nil]
    exact ⟨by rw [List.length_cons, rs'.length]; exact q.1, F3, _, a3.ok.fh, .cons (Rep.mono a3.fF (.ins ik hF rs)) rs', c.mono _ _ _ (fun d q v F4 H4 x4 r4 => q v F4 H4 ((a2.trans a3).ext x4) r4) q.2⟩
theorem ee_meth0 {pl : Sem Bool} (c : MetD X.prog X.w X.K X.mg X.base k C nm n spec) (hr : Room k X.A) (ho : EE X o mo)
    (ht : eval (.Call (.Attribute o nm apos) [] [] pos) X.env = (do
      let ov ← eval o X.env
      standAt apos.atName
      let (f, first) ← holding [ov] (getMethod ov nm pl)
      callWith pos f first (backTo pos (starEach [] X.env)) (backToKw pos (keywordEach [] X.env))) := by rfl) : EE X (.Call (.Attribute o nm apos) [] [] pos) (rMeth C nm spec n mo rNil) where
  mono := fun env Q Q' i q => ho.mono _ _ _ (fun x e q => qMeth_mono (fun q => ⟨q.1, c.mono _ _ _ (fun d q => i _ _ q) q.2⟩) q) q
  pe := fun G F0 => by
    obtain ⟨f, fd, ps, hn, F, hm, hb⟩ := c.ex
    refine PE_imp (pe_meth0 (ho.pe G F0) c.cl hm F hr hb .nil pass0 ht) fun σ H Q ⟨F1, env, k, q⟩ => ⟨F1, env, k, ho.mono _ _ _ (fun x e q v F2 H2 a2 rx => ?_) q⟩
    cases rx <;> first | exact q.elim | skip
    rename_i a C' dx gs ds ik hF rs
    obtain ⟨rfl, hns, q⟩ := q
    refine ⟨a, dx, gs, rfl, a2.ok.fh _ _ hF, look_none hns, ?_⟩
    exact ⟨q.1, F2, _, a2.ok.fh, .cons (.ins ik hF rs) .nil, c.mono _ _ _ (fun d q v F4 H4 x4 r4 => q v F4 H4 (a2.ext x4) r4) q.2⟩
end
end DL

namespace DL
open PySem PySem.Spec PyProof.Rows L2

section
variable {P : Program} {w : World} {K : PySem.W.Frag} {mg : Str → Option Value} {base : Heap}
theorem calU_mk {x qual : Str} {st : Stmt} {f : Addr} {fd : FuncData} {N ps : List Str} {k : Nat} {m : RQ} (F : Fun K x qual st f fd) (S : FnScope N ps (defScope st)) (hg : mg x = some (.ref f)) (hb : Binds K fd ps [])
    (hm : ∀ (cdv : Value) (A : Around) (outer : List Env) (s : Shared) (H : Hp) (E : XK), Room k (A.deeper (envOfC qual (defScope st) s.heap.objs.size f cdv)) → USs (cxOf CX0 P w K mg base N qual (defScope st) f cdv A outer s H E).nox (defBody st) m)
    (hr0 : Room (k + 1) callerA) : CalU P w K mg base x (k + 1) ps.length (runU N.length m) where
  mono := runU_mono (hm .none callerA [] {} (fun _ => none) (fun _ _ _ => False) (hr0.deeper _)).mono
  ex := ⟨f, fd, ps, rfl, fn_okU F S hm, hg, F.kp, hb⟩
theorem cal_mkP {x qual : Str} {st : Stmt} {f : Addr} {fd : FuncData} {N ps : List Str} {k : Nat} {m : RQ} (F : Fun K x qual st f fd) (S : FnScope N ps (defScope st)) (hg : mg x = some (.ref f)) (hb : Binds K fd ps [])
    (hm : ∀ (cdv : Value) (A : Around) (outer : List Env) (s : Shared) (H : Hp) (E : XK), Room k (A.deeper (envOfC qual (defScope st) s.heap.objs.size f cdv)) → USs (cxOf CX0 P w K mg base N qual (defScope st) f cdv A outer s H E).nox (defBody st) m)
    (hr0 : Room (k + 1) callerA) : Cal P w K mg base x (k + 1) ps [] (runP N.length m) where
  mono := runP_mono (hm .none callerA [] {} (fun _ => none) (fun _ _ _ => False) (hr0.deeper _)).mono
  ex := ⟨f, fd, [], [], fn_okP F S hm hr0, hg, F.kp, hb, .nil, fun _ => .nil, Nat.zero_le _⟩
end
/-! ### views of no slot, of one -/
theorem putE_nil {env : En} {ds : List D} : putE env [] ds = env := by cases ds <;> rfl
theorem putE_one {env : En} {i : Nat} {d : D} : putE env [i] [d] = es env i (.v d) := rfl
theorem resE_nil {R : Rg} {env : En} {P : List D → Prop} : (∃ ds, resE R env [] ds ∧ P ds) = P [] := propext ⟨fun ⟨ds, h, p⟩ => by cases ds with | nil => exact p | cons d ds => exact h.elim, fun p => ⟨[], trivial, p⟩⟩
theorem resE_one {R : Rg} {env : En} {i : Nat} {P : List D → Prop} : (∃ ds, resE R env [i] ds ∧ P ds) = ∃ d, resS R (eg env i) d ∧ P [d] := propext ⟨fun ⟨ds, h, p⟩ => by
  cases ds with
  | nil => exact h.elim
  | cons d ds => cases ds with
    | nil => exact ⟨d, h.1, p⟩
    | cons _ _ => exact h.2.elim, fun ⟨d, h, p⟩ => ⟨[d], ⟨h, trivial⟩, p⟩⟩
theorem resS_v {R : Rg} {d0 d : D} : resS R (.v d0) d = ResD R d0 d := rfl
theorem ResDs.refl {R : Rg} : ∀ ds : List D, ResDs R ds ds
  | [] => .nil
  | d :: ds => .cons (.rfl d) (ResDs.refl ds)
theorem noMs_ints {R : Rg} : ∀ ns : List Int, noMs R (ns.map D.int)
  | [] => trivial
  | _ :: ns => ⟨trivial, noMs_ints ns⟩
/-! ### loops: an invariant -/
theorem uForL_inv {g : RG} {body : RQ} (Inv : Nat → En → Rg → Prop) : ∀ (xs : List D) (Z : DG) (i : Nat) (e : En) (r : Rg), Inv i e r →
    (∀ (j : Nat) (x : D) (e : En) (r : Rg) (Z' : DG), xs[j]? = some x → Inv (i + j) e r → (∀ e' r', Inv (i + j + 1) e' r' → Z'.nx e' r') → (∀ e' r', Inv (i + j + 1) e' r' → Z'.ct e' r') → Z'.rt = Z.rt → Z'.bk = Z.nx → g x e fun e' => body Z' e' r) →
    (∀ e r, Inv (i + xs.length) e r → Z.nx e r) → uForL g body Z xs e r
  | [], Z, i, e, r, h0, _, hd => hd e r h0
  | x :: xs, Z, i, e, r, h0, hs, hd => by
    have step : ∀ e' r', Inv (i + 1) e' r' → uForL g body Z xs e' r' := fun e' r' h' =>
      uForL_inv Inv xs Z (i + 1) e' r' h' (fun j y e r Z' hy hI h1 h2 h3 h4 => hs (j + 1) y e r Z' (by simpa using hy) (by rw [show i + (j + 1) = i + 1 + j by omega]; exact hI) (by rw [show i + (j + 1) + 1 = i + 1 + j + 1 by omega]; exact h1) (by rw [show i + (j + 1) + 1 = i + 1 + j + 1 by omega]; exact h2) h3 h4) (fun e r h => hd e r (by rw [List.length_cons, show i + (xs.length + 1) = i + 1 + xs.length by omega]; exact h))
    exact hs 0 x e r { Z with nx := uForL g body Z xs, ct := uForL g body Z xs, bk := Z.nx } rfl h0 step step rfl rfl
end DL

namespace DL
open PySem PySem.Spec PyProof.Rows L2

/-! ### xs.index(x) of texts -/
def qIdx (x y : D) (Q : D → Prop) : Prop := match x, y with
  | .lst ds, .str s => ∃ ns j, asStrs ds = some ns ∧ ns[j]? = some s ∧ (∀ m, m < j → ns[m]? ≠ some s) ∧ Q (.int (j : Nat))
  | _, _ => False
theorem qIdx_mono {x y : D} {Q Q' : D → Prop} (i : ∀ d, Q d → Q' d) (q : qIdx x y Q) : qIdx x y Q' := by
  unfold qIdx at q ⊢
  split at q
  · obtain ⟨ns, j, h1, h2, h3, q⟩ := q; exact ⟨ns, j, h1, h2, h3, i _ q⟩
  · exact q
def isLst (x : D) (P : Prop) : Prop := match x with
  | .lst _ => P
  | _ => False
theorem isLst_l {ds : List D} {P : Prop} : isLst (.lst ds) P = P := rfl
theorem isLst_get {x : D} {P : Prop} (h : isLst x P) : ∃ ds, x = .lst ds ∧ P := by
  cases x <;> first | exact h.elim | exact ⟨_, rfl, h⟩
theorem isLst_mono {x : D} {P P' : Prop} (i : P → P') (h : isLst x P) : isLst x P' := by
  obtain ⟨ds, rfl, p⟩ := isLst_get h; exact i p
def rIdx (ma mb : RE) : RE := fun env Q => ma env fun x e => isLst x (mb e fun y e2 => qIdx x y fun d => Q d e2)
theorem qIdx_at {ns : List Str} {s : Str} {j : Nat} {Q : D → Prop} (h1 : ns[j]? = some s) (h2 : ∀ m, m < j → ns[m]? ≠ some s) (q : Q (.int (j : Nat))) : qIdx (.lst (ns.map D.str)) (.str s) Q := ⟨ns, j, asStrs_map ns, h1, h2, q⟩
section
variable {X : Cx} {o e : Expr} {ma mb : RE} {apos cpos : Pos}
theorem ee_index (ho : EB X o ma) (he : EE X e mb)
    (hbase : attributeBase o "index" X.env (eval o X.env) = eval o X.env := by rfl)
    (hfew : ((backTo cpos (starEach [e] X.env)).all (fun x => !x.1) && (backToKw cpos (keywordEach [] X.env)).all (fun x => x.1.isSome)
      && decide (([e] : List Expr).length + ([] : List Keyword).length + (if ([] : List Keyword).isEmpty then 0 else 1) < 30)) = true := by rfl)
    (hline : (apos.endLine == cpos.line) = true := by rfl) (hst : starEach [e] X.env = (false, eval e X.env) :: starEach [] X.env := by rfl) :
    EE X (.Call (.Attribute o "index" apos) [e] [] cpos) (rIdx ma mb) where
  mono := fun env Q Q' i q => ho.mono _ _ _ (fun x e q => isLst_mono (fun q => he.mono _ _ _ (fun y e2 q => qIdx_mono (fun d q => i _ _ q) q) q) q) q
  pe := fun G F0 => PE_imp (pe_bm PySem.F.plainAttrs_list PySem.F.slot_list_index PySem.F.type_list_index mt_index (ho.pe G F0) (pa_cons (he.pe G F0) pa_nil hst) hbase hfew hline hst (by rfl)) fun σ H Q ⟨F, env, k, q⟩ => ⟨F, env, k, ho.mono _ _ _ (fun x e1 q v F1 H1 a1 r1 => by
    obtain ⟨ds, rfl, q⟩ := isLst_get q
    obtain ⟨a, vs, rfl, h1, rs⟩ := r1.lst a1.ok.fh
    refine ⟨.inl ⟨rfl, vs, .of h1⟩, F1, e1, a1.ok, he.mono _ _ _ (fun y e2 q w F2 H2 a2 r2 => ?_) q⟩
    unfold qIdx at q
    cases y <;> first | exact q.elim | skip
    rename_i s
    obtain ⟨ns, j, e1, h2, h3, q⟩ := q
    rw [asStrs_eq e1] at rs
    have ev := rs.strs
    subst ev
    cases r2
    have all : (ns.map V.str).all flatV = true := List.all_eq_true.mpr fun v hv => by
      obtain ⟨x, _, rfl⟩ := List.mem_map.mp hv; rfl
    refine ⟨a, ns.map V.str, .str s, j, .str s, rfl, rfl, .of (a2.hH _ _ h1), rfl, all, by rw [List.getElem?_map, h2]; rfl, by show (s == s) = true; exact beq_self_eq_true s, fun m z hm hz => ?_, q _ F2 H2 (a1.trans a2) (.int _)⟩
    rw [List.getElem?_map] at hz
    obtain ⟨x, hx, rfl⟩ := Option.map_eq_some_iff.mp hz
    show (x == s) = false
    have := h3 m hm
    rw [hx] at this
    simpa using this) q⟩
end
end DL

namespace DL
open PySem PySem.Spec PyProof.Rows L2

/-! ### (x, ..) * 0 and (x, ..) * 1 -/
theorem tuple_mul1 (l : Addr) (items : Array Value) (n : Nat) (dd : Option Addr) (sl : Array (Option Value)) (u : Tok) :
    Meets (Builtin.«tuple.__mul__» ⟨[.ref l, .int 1 u], []⟩) (fun _ R s => s.heap.get? l = some { cls := .type "tuple", dict := dd, data := .seq items n, slots := sl } ∧
      R (.ok (.ret (Value.ref l))) s) :=
  .of_wp fun prog w A R s h => by
    obtain ⟨hp, g, d, tk, os⟩ := s
    obtain ⟨hl, h⟩ := h
    have f1 := AutoSeq1.idx_int
    wp_walk using wpAny_loadPart' hl
    repeat (first
      | (refine wpAny_ite_false (by decide) ?_; wp_walk using wpAny_loadPart' hl)
      | (refine wpAny_ite_true (by simp) ?_; wp_walk using wpAny_loadPart' hl))
    exact ⟨_, rfl, h⟩
theorem tuple_mul0 (l : Addr) (items : Array Value) (n : Nat) (dd : Option Addr) (sl : Array (Option Value)) (u : Tok) (c1 : items.isEmpty = false) :
    Meets (Builtin.«tuple.__mul__» ⟨[.ref l, .int 0 u], []⟩) (fun _ R s => s.heap.get? l = some { cls := .type "tuple", dict := dd, data := .seq items n, slots := sl } ∧
      R (.ok (.ret (Value.ref s.heap.objs.size))) { s with heap := s.heap.push { cls := Value.type "tuple", data := Data.seq #[] }, toks := s.toks }) :=
  .of_wp fun prog w A R s h => by
    obtain ⟨hp, g, d, tk, os⟩ := s
    obtain ⟨hl, h⟩ := h
    have f1 := AutoSeq1.idx_int
    have c2 : (items.isEmpty || (0 : Int) == 1) = false := by rw [c1]; rfl
    wp_walk using wpAny_loadPart' hl
    repeat (first
      | (refine wpAny_ite_false (decide_eq_false (by rw [c2]; exact Bool.false_ne_true)) ?_; wp_walk using wpAny_loadPart' hl)
      | (refine wpAny_ite_false (by decide) ?_; wp_walk using wpAny_loadPart' hl)
      | (refine wpAny_ite_true (by simp) ?_; wp_walk using wpAny_loadPart' hl))
    exact ⟨_, rfl, h⟩
end DL

namespace DL
open PySem PySem.Spec PyProof.Rows L2

def rRep01 (K : PySem.W.Frag) : R2 := fun x y H Q => ∃ l k xs, x = .ref l ∧ y = .int k ∧ SqT K H l xs ∧ xs ≠ [] ∧ ((k = 1 ∧ Q (.ref l) H) ∨ (k = 0 ∧ ∀ p, H p = none → Q (.ref p) (upd H p (.tup []))))
def dMulT : Op2 := fun d e Q => match d, e with
  | .tup xs, .int k => (xs ≠ [] ∧ k = 0 ∧ Q (.tup [])) ∨ (xs ≠ [] ∧ k = 1 ∧ Q (.tup xs)) ∨ dMul (.tup xs) (.int k) Q
  | _, _ => dMul d e Q
theorem dMulT_mono : Mono2 dMulT := fun d e Q Q' i q => by
  unfold dMulT at q ⊢
  split at q
  · rcases q with ⟨h1, h2, q⟩ | ⟨h1, h2, q⟩ | q
    · exact .inl ⟨h1, h2, i _ q⟩
    · exact .inr (.inl ⟨h1, h2, i _ q⟩)
    · exact .inr (.inr (dMul_mono _ _ _ _ i q))
  · exact dMul_mono _ _ _ _ i q
section
variable {X : Cx}
theorem op_rep01 : OpR X (binaryOp .Mult) (rRep01 X.K) := by
  intro pins s σ H x y v u Q I rx ry h
  obtain ⟨l, k, xs, rfl, rfl, hT, hne, hq⟩ := h
  cases rx
  obtain ⟨t, rfl⟩ := ry
  obtain ⟨its, r, ⟨⟨cls, dd, data, sl⟩, ho, hc, n, hd⟩, hs⟩ := I.tuple hT
  simp only at hc hd
  subst hc hd
  have hle : its.length = xs.length := r.length.symm
  have hn : its ≠ [] := fun e => hne (by
    rw [e] at hle
    exact List.eq_nil_of_length_eq_zero hle.symm)
  have hi : its.toArray.isEmpty = false := by
    cases its with
    | nil => exact absurd rfl hn
    | cons a b => rfl
  rcases hq with ⟨rfl, q⟩ | ⟨rfl, q⟩
  · refine wpAny_binaryOp_repeat_ref (T := "tuple") (U := "int") (by decide) ⟨_, ho, rfl⟩ (fun s' => typeIs_int s' 1 t) noFill_tuple_mul F.fills_int_mul F.slot_int_rmul repeat_tuple F.slot_int_index.lookup
      (call_meets F.slot_int_rmul (typeIs_int s 1 t) F.entry_int_rmul (F.args_int_rmul_2 _ _) (int_rmul_tuple 1 t l its.toArray n dd sl)
        ⟨ho, rfl, ⟨_, ho, rfl⟩, call_meets F.slot_tuple_mul ⟨_, ho, rfl⟩ F.entry_tuple_mul (F.args_tuple_mul_2 _ _) (tuple_mul1 l its.toArray n dd sl t) ⟨ho, ?_⟩⟩)
    exact ⟨.ref l, _, I, rfl, q⟩
  · refine wpAny_binaryOp_repeat_ref (T := "tuple") (U := "int") (by decide) ⟨_, ho, rfl⟩ (fun s' => typeIs_int s' 0 t) noFill_tuple_mul F.fills_int_mul F.slot_int_rmul repeat_tuple F.slot_int_index.lookup
      (call_meets F.slot_int_rmul (typeIs_int s 0 t) F.entry_int_rmul (F.args_int_rmul_2 _ _) (int_rmul_tuple 0 t l its.toArray n dd sl)
        ⟨ho, rfl, ⟨_, ho, rfl⟩, call_meets F.slot_tuple_mul ⟨_, ho, rfl⟩ F.entry_tuple_mul (F.args_tuple_mul_2 _ _) (tuple_mul0 l its.toArray n dd sl t hi) ⟨ho, ?_⟩⟩)
    refine ⟨.ref s.heap.objs.size, _, I.laid (t' := s.toks) (o := .tup []) (fun b ob q => Heap.get?_push_of_some _ q) (Nat.le_refl _) ?_, rfl, q _ (I.hok.fresh (Nat.le_refl _))⟩
    exact ⟨Nat.zero_le _, _, r.rep 0, IsTup.new _ _⟩
theorem or_mulT : OpR X (binaryOp .Mult) (rD2 X.K dMulT) := fun pins s σ H x y v u Q I rx ry ⟨F, d, e, hf, r1, r2, q⟩ => by
  unfold dMulT at q
  split at q
  · rcases q with ⟨h1, h2, q⟩ | ⟨h1, h2, q⟩ | q
    · obtain ⟨a, vs, rfl, h3, p1, g⟩ := r1.tup hf
      rw [r2.int] at ry
      exact op_rep01 pins s σ H _ _ v u Q I rx ry ⟨a, _, vs, rfl, rfl, h3, fun z => h1 (p1.nil_iff.mp z), .inr ⟨h2, fun p hp => q.newT hf .nil hp⟩⟩
    · obtain ⟨a, vs, rfl, h3, p1, g⟩ := r1.tup hf
      rw [r2.int] at ry
      exact op_rep01 pins s σ H _ _ v u Q I rx ry ⟨a, _, vs, rfl, rfl, h3, fun z => h1 (p1.nil_iff.mp z), .inl ⟨h2, q _ F H (Ext.refl hf) (.tup g p1)⟩⟩
    · exact or_mul pins s σ H x y v u Q I rx ry ⟨F, _, _, hf, r1, r2, q⟩
  · exact or_mul pins s σ H x y v u Q I rx ry ⟨F, _, _, hf, r1, r2, q⟩
end

/-! ### f-strings -/
def qFmt (d : D) (Q : Str → Prop) : Prop := match d with
  | .str y => y.length ≤ sizeLine ∧ Q y
  | .int i => i.natAbs.log2 < 1920 ∧ Q (toString i)
  | _ => False
theorem qFmt_mono {d : D} {Q Q' : Str → Prop} (i : ∀ y, Q y → Q' y) (q : qFmt d Q) : qFmt d Q' := by
  unfold qFmt at q ⊢
  split at q
  · exact ⟨q.1, i _ q.2⟩
  · exact ⟨q.1, i _ q.2⟩
  · exact q.elim
def qStr (d : D) (Q : Str → Prop) : Prop := match d with
  | .str y => Q y
  | _ => False
theorem qStr_get {d : D} {Q : Str → Prop} (q : qStr d Q) : ∃ y, d = .str y ∧ Q y := by
  cases d <;> first | exact q.elim | exact ⟨_, rfl, q⟩
theorem qStr_mono {d : D} {Q Q' : Str → Prop} (i : ∀ y, Q y → Q' y) (q : qStr d Q) : qStr d Q' := by
  obtain ⟨y, rfl, q⟩ := qStr_get q; exact i _ q
theorem qStr_s {y : Str} {Q : Str → Prop} : qStr (.str y) Q = Q y := rfl
def rFmt (m : RE) : RE := fun env Q => m env fun d e => qFmt d fun y => Q (.str y) e
abbrev RJ := Str → RE
def jNil : RJ := fun acc env Q => Q (.str acc) env
def jCons (m : RE) (r : RJ) : RJ := fun acc env Q => m env fun d e => qStr d fun y => (acc ++ y).length ≤ sizeLine ∧ r (acc ++ y) e Q
structure EJ (X : Cx) (es : List Expr) (m : RJ) : Prop where
  mono : ∀ acc, MonoQ (m acc)
  pj : ∀ G F0, ∃ ts, PJ X es ts ∧ ∀ acc σ H (Q : Str → Hp → Prop), (∃ F env, StOk X.K G F0 F H env σ ∧ m acc env fun d e => ∀ y F' H', d = .str y → Af X.K G F0 F H σ F' H' e → Q y H') → tJs ts acc σ H Q
section
variable {X : Cx} {e : Expr} {es : List Expr} {m : RE} {r : RJ} {pos : Pos}
theorem ee_fmt (he : EE X e m) : EE X (.FormattedValue e (-1) none pos) (rFmt m) where
  mono := fun env Q Q' i q => he.mono _ _ _ (fun d e q => qFmt_mono (fun y q => i _ _ q) q) q
  pe := fun G F0 => PE_imp (pe_fmt (he.pe G F0)) fun σ H Q ⟨F, env, k, q⟩ => ⟨F, env, k, he.mono _ _ _ (fun d e q v F1 H1 a1 r1 => by
    unfold qFmt at q
    split at q
    · cases r1; exact .inl ⟨_, rfl, q.1, q.2 _ F1 H1 a1 (.str _)⟩
    · cases r1; exact .inr ⟨_, rfl, q.1, q.2 _ F1 H1 a1 (.str _)⟩
    · exact q.elim) q⟩
theorem ej_nil : EJ X [] jNil := ⟨fun acc env Q Q' i q => i _ _ q, fun G F0 => ⟨[], .nil, fun acc σ H Q ⟨F, env, k, q⟩ => q acc F H rfl (Af.refl k)⟩⟩
theorem ej_cons (he : EE X e m) (hr : EJ X es r) : EJ X (e :: es) (jCons m r) where
  mono := fun acc env Q Q' i q => he.mono _ _ _ (fun d e q => qStr_mono (fun y q => ⟨q.1, hr.mono _ _ _ _ i q.2⟩) q) q
  pj := fun G F0 => by
    obtain ⟨ts, hp, hq⟩ := hr.pj G F0
    refine ⟨_, .cons (he.pe G F0) hp, fun acc σ H Q ⟨F, env, k, q⟩ => ⟨F, env, k, he.mono _ _ _ (fun d e q v F1 H1 a1 r1 => ?_) q⟩⟩
    obtain ⟨y, rfl, h1, q⟩ := qStr_get q
    cases r1
    exact ⟨y, rfl, h1, hq _ _ _ _ ⟨F1, e, a1.ok, hr.mono _ _ _ _ (fun d e q z F2 H2 ed a2 => q z F2 H2 ed (a1.trans a2)) q⟩⟩
theorem ee_joined {e1 e2 : Expr} (h : EJ X (e1 :: e2 :: es) r) : EE X (.JoinedStr (e1 :: e2 :: es) pos) (fun env Q => r Str.empty env fun d e => qStr d fun y => Q (.str y) e) where
  mono := fun env Q Q' i q => h.mono _ _ _ _ (fun d e q => qStr_mono (fun y q => i _ _ q) q) q
  pe := fun G F0 => by
    obtain ⟨ts, hp, hq⟩ := h.pj G F0
    exact PE_imp (pe_joined hp) fun σ H Q ⟨F, env, k, q⟩ => hq _ _ _ _ ⟨F, env, k, h.mono _ _ _ _ (fun d e q z F2 H2 ed a2 => by
      subst ed
      exact q _ F2 H2 a2 (.str _)) q⟩
end
def rJoined (r : RJ) : RE := fun env Q => r Str.empty env fun d e => qStr d fun y => Q (.str y) e

/-! ### x.rjust(n), sep.join(texts) -/
def qPad (x y : D) (Q : D → Prop) : Prop := match x, y with
  | .str a, .int i => PadOk i = true ∧ Q (.str (Txt.rjust a i))
  | _, _ => False
theorem qPad_mono {x y : D} {Q Q' : D → Prop} (i : ∀ d, Q d → Q' d) (q : qPad x y Q) : qPad x y Q' := by
  unfold qPad at q ⊢
  split at q
  · exact ⟨q.1, i _ q.2⟩
  · exact q
def qJoin (x y : D) (Q : D → Prop) : Prop := match x, y with
  | .str a, .lst ds => ∃ ns, asStrs ds = some ns ∧ (ns.map (·.length)).sum + ns.length * a.length ≤ 16777216 ∧ Q (.str (Txt.join a ns))
  | _, _ => False
theorem qJoin_mono {x y : D} {Q Q' : D → Prop} (i : ∀ d, Q d → Q' d) (q : qJoin x y Q) : qJoin x y Q' := by
  unfold qJoin at q ⊢
  split at q
  · obtain ⟨ns, h1, h2, q⟩ := q; exact ⟨ns, h1, h2, i _ q⟩
  · exact q
def rPad (ma mb : RE) : RE := fun env Q => ma env fun x e => qStr x fun z => mb e fun y e2 => qPad (.str z) y fun d => Q d e2
def rJoin (ma mb : RE) : RE := fun env Q => ma env fun x e => qStr x fun z => mb e fun y e2 => qJoin (.str z) y fun d => Q d e2
section
variable {X : Cx} {o e : Expr} {ma mb : RE} {apos cpos : Pos}
theorem ee_rjust (ho : EE X o ma) (he : EE X e mb)
    (hbase : attributeBase o "rjust" X.env (eval o X.env) = eval o X.env := by rfl)
    (hfew : ((backTo cpos (starEach [e] X.env)).all (fun x => !x.1) && (backToKw cpos (keywordEach [] X.env)).all (fun x => x.1.isSome)
      && decide (([e] : List Expr).length + ([] : List Keyword).length + (if ([] : List Keyword).isEmpty then 0 else 1) < 30)) = true := by rfl)
    (hline : (apos.endLine == cpos.line) = true := by rfl) (hst : starEach [e] X.env = (false, eval e X.env) :: starEach [] X.env := by rfl) :
    EE X (.Call (.Attribute o "rjust" apos) [e] [] cpos) (rPad ma mb) where
  mono := fun env Q Q' i q => ho.mono _ _ _ (fun x e q => qStr_mono (fun z q => he.mono _ _ _ (fun y e2 q => qPad_mono (fun d q => i _ _ q) q) q) q) q
  pe := fun G F0 => PE_imp (pe_bm PySem.F.plainAttrs_str PySem.F.slot_str_rjust PySem.F.type_str_rjust mt_rjust (ho.pe G F0) (pa_cons (he.pe G F0) pa_nil hst) hbase hfew hline hst (by rfl)) fun σ H Q ⟨F, env, k, q⟩ => ⟨F, env, k, ho.mono _ _ _ (fun x e1 q v F1 H1 a1 r1 => by
    obtain ⟨z, rfl, q⟩ := qStr_get q
    cases r1
    refine ⟨rfl, F1, e1, a1.ok, he.mono _ _ _ (fun y e2 q w F2 H2 a2 r2 => ?_) q⟩
    cases y <;> first | exact q.elim | skip
    rename_i i
    cases r2
    exact ⟨_, _, rfl, rfl, q.1, q.2 _ F2 H2 (a1.trans a2) (.str _)⟩) q⟩
theorem ee_join (ho : EE X o ma) (he : EE X e mb)
    (hbase : attributeBase o "join" X.env (eval o X.env) = eval o X.env := by rfl)
    (hfew : ((backTo cpos (starEach [e] X.env)).all (fun x => !x.1) && (backToKw cpos (keywordEach [] X.env)).all (fun x => x.1.isSome)
      && decide (([e] : List Expr).length + ([] : List Keyword).length + (if ([] : List Keyword).isEmpty then 0 else 1) < 30)) = true := by rfl)
    (hline : (apos.endLine == cpos.line) = true := by rfl) (hst : starEach [e] X.env = (false, eval e X.env) :: starEach [] X.env := by rfl) :
    EE X (.Call (.Attribute o "join" apos) [e] [] cpos) (rJoin ma mb) where
  mono := fun env Q Q' i q => ho.mono _ _ _ (fun x e q => qStr_mono (fun z q => he.mono _ _ _ (fun y e2 q => qJoin_mono (fun d q => i _ _ q) q) q) q) q
  pe := fun G F0 => PE_imp (pe_bm PySem.F.plainAttrs_str PySem.F.slot_str_join PySem.F.type_str_join mt_join (ho.pe G F0) (pa_cons (he.pe G F0) pa_nil hst) hbase hfew hline hst (by rfl)) fun σ H Q ⟨F, env, k, q⟩ => ⟨F, env, k, ho.mono _ _ _ (fun x e1 q v F1 H1 a1 r1 => by
    obtain ⟨z, rfl, q⟩ := qStr_get q
    cases r1
    refine ⟨rfl, F1, e1, a1.ok, he.mono _ _ _ (fun y e2 q w F2 H2 a2 r2 => ?_) q⟩
    cases y <;> first | exact q.elim | skip
    obtain ⟨ns, h3, h4, q⟩ := q
    obtain ⟨b, vs, rfl, h2, rs⟩ := BRep.lst a2.ok.fh (.inl r2)
    rw [asStrs_eq h3] at rs
    rw [rs.strs] at h2
    exact ⟨_, b, ns, rfl, rfl, .inl (.of h2), h4, q _ F2 H2 (a1.trans a2) (.str _)⟩) q⟩
end
theorem qFmt_s {y : Str} {Q : Str → Prop} : qFmt (.str y) Q = (y.length ≤ sizeLine ∧ Q y) := rfl
theorem qFmt_i {i : Int} {Q : Str → Prop} : qFmt (.int i) Q = (i.natAbs.log2 < 1920 ∧ Q (toString i)) := rfl
theorem qPad_si {a : Str} {i : Int} {Q : D → Prop} : qPad (.str a) (.int i) Q = (PadOk i = true ∧ Q (.str (Txt.rjust a i))) := rfl
theorem qJoin_at {a : Str} {ns : List Str} {Q : D → Prop} (h : (ns.map (·.length)).sum + ns.length * a.length ≤ 16777216) (q : Q (.str (Txt.join a ns))) : qJoin (.str a) (.lst (ns.map D.str)) Q := ⟨ns, asStrs_map ns, h, q⟩
theorem nStrI_i {i : Int} {Q : D → Prop} : nStrI [.int i] Q = (i.natAbs.log2 < 1920 ∧ Q (.str (toString i))) := rfl
theorem dMulT_t {xs : List D} {k : Int} {Q : D → Prop} : dMulT (.tup xs) (.int k) Q = ((xs ≠ [] ∧ k = 0 ∧ Q (.tup [])) ∨ (xs ≠ [] ∧ k = 1 ∧ Q (.tup xs)) ∨ (xs ≠ [] ∧ 2 ≤ k ∧ k ≤ 1000 ∧ xs.length ≤ 1000 ∧ Q (.tup (repD k.toNat xs)))) := rfl
end DL

namespace DL
open PySem PySem.Spec PyProof.Rows L2 PySem.Builtin

/-! ### != of instances: object.__ne__ over an own __eq__ -/
section
variable {M : Model} {prog : Program} {w : World} {A : Around} {E : Value → Shared → Prop} {s : Shared} {K : PySem.W.Frag} {x C f : Addr} {ox : Obj} {od : Option Obj} {b tb : Value}
theorem ne_entry {Q : Fin → Shared → Prop} (hu : A.units < cLine) (X : K.In s.heap) (I : PySem.W.InstAt s.heap x ox C od) (hs : PySem.W.findIn K (.ref C) "__eq__" = some (some (.ref f))) (hf : PySem.W.isFn K (.ref f) = true)
    (h : wpAny (model prog w) A (call (.ref f) [.ref x, b]) (fun v s' => ∃ r, v = .bool r ∧ Q (.done (.ret (.bool (!r)))) s') E s) :
    wpAny (model prog w) A (Builtin.«object.__ne__» ⟨[.ref x, b], []⟩) Q E s := by
  unfold Builtin.«object.__ne__»
  repeat (first
    | with_reducible refine wpAny_cRoomFor hu ?_
    | (refine wpAny_bind (m := callSpecialIfBound? (.ref x) (Str.ofString "__eq__") [b])
        (PySem.W.ifBound_K X I hs hf (wpAny_mono h (fun r s' hr => by
          obtain ⟨b, rfl, hq⟩ := hr
          repeat (first | exact hq | exact wpAny_pure hq | exact wpAny_truthy_bool hq | (refine wpAny_bind (m := truthy (.bool _)) (wpAny_truthy_bool ?_)) | wp_step)) fun _ _ e => e)))
    | wp_step)
theorem call_objNe {Q : Value → Shared → Prop} (hu : A.in1.units < cLine) (X : K.In s.heap) (I : PySem.W.InstAt s.heap x ox C od) (hm : PySem.W.mroIn K C (.type "object") = some true) (hs : PySem.W.findIn K (.ref C) "__eq__" = some (some (.ref f))) (hf : PySem.W.isFn K (.ref f) = true)
    (h : wpAny (model prog w) A.in1 (call (.ref f) [.ref x, b]) (fun v s' => ∃ r, v = .bool r ∧ Q (.bool (!r)) s') E s) :
    wpAny (model prog w) A (call (.builtin "object.__ne__") [.ref x, b]) Q E s :=
  wpAny_call (codeAny_call_builtin F.cmp_object.ne.plain F.cmpEntry_ne (PySem.W.check_slot F.cmpKind_ne F.cmpSplit_ne (I.type.andThen (PySem.W.looks_mroIn X hm)) (F.cmpArgs_ne _ _) (ne_entry hu X I hs hf h)))
theorem ifBound_objNe {args : List Value} {Q : Option Value → Shared → Prop} (X : K.In s.heap) (I : PySem.W.InstAt s.heap x ox C od) (hs : PySem.W.findIn K (.ref C) "__ne__" = some (some (.builtin "object.__ne__")))
    (h : wpAny M A (call (.builtin "object.__ne__") (.ref x :: args)) (fun v => Q (some v)) E s) : wpAny M A (callSpecialIfBound? (.ref x) "__ne__" args) Q E s := by
  simp only [callSpecialIfBound?, bindSpecialIfBound?]
  refine wpAny_holding (wpAny_bind (wpAny_bind (wpAny_bind (I.type.here ((PySem.W.looks_findIn X hs).here ?_)))))
  refine wpAny_bind (wpAny_askSetting (wpAny_ite ?_))
  have fin : wpAny M A (call (.builtin "object.__ne__") ([.ref x] ++ args) >>= fun v => pure (some v)) Q E s := wpAny_bind (wpAny_mono h (fun v s' h' => wpAny_pure h') fun _ _ h' => h')
  split
  · exact wpAny_bind (wpAny_of_eq (F.cmp_object.ne.bind _) (wpAny_pure (by exact fin)))
  · exact wpAny_tryCatch (wpAny_bind (wpAny_of_eq (F.cmp_object.ne.bind _) (wpAny_pure (by exact fin))))
theorem ne_K {Q : Value → Shared → Prop} (hu : A.units < cLine) (hu1 : A.in1.units < cLine) (X : K.In s.heap) (I : PySem.W.InstAt s.heap x ox C od) (hb : PySem.W.Looks (model prog w) s.heap (typeOf b) tb) (hn : PySem.W.notFirst K C tb = true)
    (hm : PySem.W.mroIn K C (.type "object") = some true) (hne : PySem.W.findIn K (.ref C) "__ne__" = some (some (.builtin "object.__ne__")))
    (hs : PySem.W.findIn K (.ref C) "__eq__" = some (some (.ref f))) (hf : PySem.W.isFn K (.ref f) = true)
    (h : wpAny (model prog w) A.in1 (call (.ref f) [.ref x, b]) (fun v s' => ∃ r, v = .bool r ∧ Q (.bool (!r)) s') E s) : wpAny (model prog w) A (richCompare .NotEq (.ref x) b) Q E s := by
  have one : wpAny (model prog w) A (tryCompare (.ref x) (cmpInfo .NotEq).2.1 b) (fun r s' => ∃ v, r = some v ∧ Q v s') E s := by
    unfold tryCompare
    refine wpAny_bind (ifBound_objNe X I hne (call_objNe hu1 X I hm hs hf (wpAny_mono h (fun v s' hv => ?_) fun _ _ e => e)))
    obtain ⟨r, rfl, q⟩ := hv
    exact ⟨r, rfl, wpAny_pure ⟨_, rfl, q⟩⟩
  unfold richCompare
  simp only [oneThing_ref]
  refine wpAny_holding (wpAny_bind (wpAny_cRoomFor hu ?_))
  refine wpAny_bind (I.type.here (wpAny_bind (hb.here ?_)))
  split
  · rename_i q
    have e : PySem.W.subIn K tb (.ref C) = some false := by
      rcases Bool.or_eq_true_iff.mp hn with e | e
      · rw [beq_iff_eq.mp e] at q; simp at q
      · exact beq_iff_eq.mp e
    refine wpAny_bind ((PySem.W.looks_subIn X e).here ?_)
    simp only [Bool.false_eq_true, if_false]
    refine wpAny_bind (wpAny_mono one (fun r s' z => ?_) fun _ _ e => e)
    obtain ⟨v, rfl, hq⟩ := z
    exact wpAny_pure hq
  · refine wpAny_bind (wpAny_pure ?_)
    simp only [Bool.false_eq_true, if_false]
    refine wpAny_bind (wpAny_mono one (fun r s' z => ?_) fun _ _ e => e)
    obtain ⟨v, rfl, hq⟩ := z
    exact wpAny_pure hq
end
/-- the own __eq__ of the class c, and no __ne__ of its own -/
structure CalNE (P : Program) (w : World) (K : PySem.W.Frag) (mg : Str → Option Value) (base : Heap) (k : Nat) (c : Addr) (cs : List Addr) (spec : SpecD) : Prop where
  eq : CalE P w K mg base k c cs spec
  obj : PySem.W.mroIn K c (.type "object") = some true
  ne : PySem.W.findIn K (.ref c) "__ne__" = some (some (.builtin "object.__ne__"))
def dNeI (tbl : List (Addr × SpecD)) (cs : List Addr) : Op2 := fun d e Q => match d with
  | .ins C _ _ => okR cs e ∧ ∃ sp : SpecD, (C, sp) ∈ tbl ∧ ∃ R : D → Prop, sp [d, e] R ∧ ∀ r, R r → ∃ b, r = .bl b ∧ Q (.bl (!b))
  | _ => dNe d e Q
theorem dNeI_mono {tbl : List (Addr × SpecD)} {cs : List Addr} : Mono2 (dNeI tbl cs) := fun d e Q Q' i q => by
  cases d <;> first | exact dNe_mono _ _ _ _ i q | (obtain ⟨h1, sp, h2, R, h3, q⟩ := q; exact ⟨h1, sp, h2, R, h3, fun r h => (q r h).elim fun b z => ⟨b, z.1, i _ z.2⟩⟩)
theorem dNeI_ins {tbl : List (Addr × SpecD)} {cs : List Addr} {C : Addr} {ns : List Str} {xs : List D} {e : D} {b : Bool} {Q : D → Prop} {sp : SpecD} (h1 : okR cs e) (h2 : (C, sp) ∈ tbl) (h3 : ∀ R : D → Prop, R (.bl b) → sp [.ins C ns xs, e] R) (q : Q (.bl (!b))) : dNeI tbl cs (.ins C ns xs) e Q :=
  ⟨h1, sp, h2, fun r => r = .bl b, h3 _ rfl, fun r e => ⟨b, e, q⟩⟩
section
variable {X : Cx} {k : Nat} {tbl : List (Addr × SpecD)} {cs : List Addr}
theorem or_neI (ho : OpR X (compareOp .NotEq) (rD2 X.K dNe)) (hr : Room (k + 1) X.A) (ht : ∀ c sp, (c, sp) ∈ tbl → CalNE X.prog X.w X.K X.mg X.base k c cs sp) : OpR X (compareOp .NotEq) (rD2 X.K (dNeI tbl cs)) := fun pins s σ H x y u v Q I rx ry ⟨F, d, e, hf, r1, r2, q⟩ => by
  cases d with
  | ins C ns xs =>
    obtain ⟨hok, sp, hin, R, hR, q⟩ := q
    have cn := ht _ _ hin
    have ce := cn.eq
    have hm := ce.mono
    have q := hm _ _ _ q hR
    obtain ⟨f, fd, ps, hps, FN, hs, hfn, hb⟩ := ce.ex
    obtain ⟨t, ht1, ht2⟩ := tyD_some hok
    have ty := tyx_rep hf r2 ht1
    obtain ⟨P, kx, hP, _⟩ := kit_of I ry ty
    have nfst : PySem.W.notFirst X.K C t = true := by
      rcases ht2 with ⟨n, h1, rfl⟩ | ⟨C', h1, rfl⟩
      · exact ce.ty n h1
      · exact ce.cl C' h1
    have rd : BRep X.K F H x (.ins C ns xs) := r1
    have hr1 : Room k X.A.in1 := hr.in1
    rcases r1 with r1 | ⟨_, _, _, _, z, _⟩
    · cases r1 with | @ins a _ dx fs _ ik ha rs =>
      cases rx
      obtain ⟨mA, J, _⟩ := ins_get I.hok (hf _ _ ha)
      obtain ⟨od, J, _⟩ := J.look
      obtain ⟨m, hF⟩ := I.fr
      refine ne_K (tb := t) hr.units0 hr1.units0 I.kIn J (kx.ty _ _ I.kIn hP) nfst cn.obj cn.ne hs hfn ?_
      have e0 := I.env0
      have rr : Reps X.K H [V.ref a, y] [.ins C (fs.map (·.1)) xs, e] := .cons (rd.rep hf) (.cons (r2.rep hf) .nil)
      have hsp : spD X.K 2 sp [V.ref a, y] H (fun z H' => ∃ b, z = .bl b ∧ Q (.bl (!b)) H') E0 := by
        refine ⟨rfl, H, _, Same.refl _, rr, hm _ _ _ (fun r q w F2 H2 x2 r2 => ?_) q⟩
        obtain ⟨b, rfl, q⟩ := q
        cases r2
        exact ⟨b, rfl, q (.bl (!b)) F H2 ⟨Same.refl _, x2.hH, hf.trans x2.hH, fun _ _ => rfl⟩ (.bl (!b))⟩
      have hl := FN.len _ _ _ _ hsp
      have v2 : Vals [V.ref a, y] [Value.ref a, v] := .cons rfl (.cons ry .nil)
      refine wpAny_call (codeAny_mono (FN.run X.A.in1 X.stack s H ⟨[.ref a, v], []⟩ [.ref a, v] [.ref a, y] _ E0 hr1 e0.in1 (by
        have := hb s [.ref a, v] I.kIn (by simpa using hl)
        simpa using this) v2 hsp) fun r s' hq => ?_)
      cases r with
      | error e => exact pass0 pins σ H s e s' I hq
      | ok fl =>
        cases fl with
        | ret w =>
          obtain ⟨z, H', I', rz, b, ez, qz⟩ := I.after hq
          subst ez
          cases rz
          exact ⟨b, rfl, .bl (!b), H', I', rfl, qz⟩
        | next => exact False.elim hq
        | brk => exact False.elim hq
        | cont => exact False.elim hq
    · cases z
  | _ => exact ho pins s σ H x y u v Q I rx ry ⟨F, _, e, hf, r1, r2, q⟩
end
structure NeF (K : PySem.W.Frag) (c : Addr) : Prop where
  obj : PySem.W.mroIn K c (.type "object") = some true
  ne : PySem.W.findIn K (.ref c) "__ne__" = some (some (.builtin "object.__ne__"))
theorem tbN_nil {P : Program} {w : World} {K : PySem.W.Frag} {mg : Str → Option Value} {base : Heap} {k : Nat} {cs : List Addr} : ∀ c sp, (c, sp) ∈ ([] : List (Addr × SpecD)) → CalNE P w K mg base k c cs sp := fun c sp h => nomatch h
theorem tbN_cons {P : Program} {w : World} {K : PySem.W.Frag} {mg : Str → Option Value} {base : Heap} {k : Nat} {cs : List Addr} {c : Addr} {sp : SpecD} {tbl : List (Addr × SpecD)} (h : CalE P w K mg base k c cs sp) (n : NeF K c) (t : ∀ c sp, (c, sp) ∈ tbl → CalNE P w K mg base k c cs sp) : ∀ c' sp', (c', sp') ∈ (c, sp) :: tbl → CalNE P w K mg base k c' cs sp' := fun c' sp' hm => by
  rcases List.mem_cons.mp hm with e | hm
  · cases e; exact ⟨h, n.obj, n.ne⟩
  · exact t _ _ hm
end DL

namespace DL
open PySem PySem.SeqAt
open AutoSeq1 (wpAny_loadPart')
open MeetsSeq MeetsSeq2 MeetsSeq3 SeqRoads2

/-! ### == of two tuples with any answer, instances within -/
section
variable {prog : Program} {w : World} {A : Around} {R : Result → Shared → Prop}
theorem tuple_eqX (l b : Addr) (items items2 : Array Value) (n n2 : Nat) (dd dd2 : Option Addr) (sl sl2 : Array (Option Value)) (I : Nat → Shared → Prop)
    (turn : ∀ i (h1 : i < items.size) (h2 : i < items2.size) s, I i s → wpAny (model prog w) A.in1 (eqBool items[i] items2[i]) (fun r s' => (r = true ∧ I (i + 1) s') ∨ (r = false ∧ R (.ok (.ret (.bool false))) s')) (fun e s' => R (.error e) s') s)
    (fin : ∀ s, I (min items.size items2.size) s → R (.ok (.ret (.bool (items.size == items2.size)))) s) {s : Shared} (hl1 : s.heap.get? l = some { cls := .type "tuple", dict := dd, data := .seq items n, slots := sl }) (hb1 : s.heap.get? b = some { cls := .type "tuple", dict := dd2, data := .seq items2 n2, slots := sl2 }) (h : I 0 s) :
    wpAny (model prog w) A.in1 (Builtin.«tuple.__eq__» ⟨[.ref l, .ref b], []⟩) (GQ.FinOf prog w A R) (fun e s' => R (.error e) s') s := by
  have f2 := AutoSeq1.sub_tuple_tuple
  have hZ : (items.toList.zip items2.toList).length = min items.size items2.size := by simp
  have h0 := h
  obtain ⟨hp, g, d, tk, os⟩ := s
  wp_walk using wpAny_loadPart' hl1, wpAny_loadPart' hb1, wpAny_forIn_list _ (fun rest b s' => b.1 = none ∧ ∃ i, rest = (items.toList.zip items2.toList).drop i ∧ i ≤ min items.size items2.size ∧ I i s') _
  case turn =>
    rintro ⟨y, x⟩ rest b s' ⟨hb', i, hz, hi, hI⟩
    have hlt : i < (items.toList.zip items2.toList).length := by
      rcases Nat.lt_or_ge i (items.toList.zip items2.toList).length with h' | h'
      · exact h'
      · rw [List.drop_of_length_le h'] at hz; cases hz
    have hm : i < min items.size items2.size := hZ ▸ hlt
    have h1 : i < items.size := Nat.lt_of_lt_of_le hm (Nat.min_le_left _ _)
    have h2 : i < items2.size := Nat.lt_of_lt_of_le hm (Nat.min_le_right _ _)
    rw [List.drop_eq_getElem_cons hlt] at hz
    injection hz with hyx hrest
    have hy : y = items[i] := by have := congrArg Prod.fst hyx; simpa using this
    have hx : x = items2[i] := by have := congrArg Prod.snd hyx; simpa using this
    subst hy hx
    refine wpAny_bind (wpAny_mono (turn i h1 h2 s' hI) (fun r s2 q2 => ?_) fun _ _ x => x)
    rcases q2 with ⟨hr, q2⟩ | ⟨hr, q2⟩
    · subst hr
      wp_walk
      exact ⟨rfl, i + 1, hrest, hm, q2⟩
    · subst hr
      wp_walk
      first | exact q2 | exact ⟨_, rfl, q2⟩
  case fin =>
    rintro ⟨b1, b2⟩ s' ⟨hb', i, hz, hi, hI⟩
    simp only at hb'
    subst hb'
    have hge : min items.size items2.size ≤ i := by
      rcases Nat.lt_or_ge i (items.toList.zip items2.toList).length with h' | h'
      · rw [List.drop_eq_getElem_cons h'] at hz; cases hz
      · exact hZ ▸ h'
    have hi' : i = min items.size items2.size := by omega
    have hR : R (.ok (.ret (.bool (items.size == items2.size)))) s' := fin s' (hi' ▸ hI)
    wp_walk
    first | simpa [Builtin.Tuple.tupleCompareSizes] using hR | exact ⟨_, rfl, by simpa [Builtin.Tuple.tupleCompareSizes] using hR⟩
  case h =>
    exact ⟨rfl, 0, rfl, Nat.zero_le _, h0⟩
end
section
variable {prog : Program} {w : World} {A : Around} {E : Value → Shared → Prop} {s : Shared}
theorem rc_tupX {l b : Addr} {items items2 : Array Value} {n n2 : Nat} {dd dd2 : Option Addr} {sl sl2 : Array (Option Value)} {Q : Value → Shared → Prop} (hu : A.units < cLine) (I : Nat → Shared → Prop)
    (hl1 : s.heap.get? l = some { cls := .type "tuple", dict := dd, data := .seq items n, slots := sl }) (hb1 : s.heap.get? b = some { cls := .type "tuple", dict := dd2, data := .seq items2 n2, slots := sl2 })
    (turn : ∀ i (h1 : i < items.size) (h2 : i < items2.size) s, I i s → wpAny (model prog w) A.in1 (eqBool items[i] items2[i]) (fun r s' => (r = true ∧ I (i + 1) s') ∨ (r = false ∧ Q (.bool false) s')) E s)
    (fin : ∀ s, I (min items.size items2.size) s → Q (.bool (items.size == items2.size)) s) (h : I 0 s) : wpAny (model prog w) A (richCompare .Eq (.ref l) (.ref b)) Q E s := by
  refine wpAny_richCompare_same_room (op := .Eq) ⟨_, hl1, rfl⟩ ⟨_, hb1, rfl⟩ F.slot_tuple_eq (GQ.call_here F.slot_tuple_eq ⟨_, hl1, rfl⟩ F.entry_tuple_eq (F.args_tuple_eq_2 _ _) ?_) hu
  refine tuple_eqX (R := wants (fun v s' => v ≠ .notImplemented ∧ Q v s') E) l b items items2 n n2 dd dd2 sl sl2 I (fun i h1 h2 s' q => wpAny_mono (turn i h1 h2 s' q) (fun r s2 z => ?_) fun _ _ x => x) (fun s' q => ⟨(fun x => nomatch x), fin s' q⟩) hl1 hb1 h
  rcases z with z | ⟨z1, z2⟩
  · exact .inl z
  · exact .inr ⟨z1, (fun x => nomatch x), z2⟩
end
end DL

namespace DL
open PySem PySem.Spec PyProof.Rows L2

/-- two items and what == says of them -/
inductive ItB (tbl : List (Addr × SpecD)) : D → D → Bool → Prop
  | self {d : D} : SelfOk tbl 3 d → ItB tbl d d true
  | py {d e : D} {p q : PyData} : toPy d = some p → toPy e = some q → SeqAt.shaped p = true → SeqAt.shaped q = true → ItB tbl d e (PyData.eqv p q)
  | emp {ds : List D} : ds ≠ [] → ItB tbl (.tup ds) (.tup []) false
inductive TupB (tbl : List (Addr × SpecD)) : List D → List D → Bool → Prop
  | nil : TupB tbl [] [] true
  | right {e : D} {es : List D} : TupB tbl [] (e :: es) false
  | left {d : D} {ds : List D} : TupB tbl (d :: ds) [] false
  | ne {d e : D} {ds es : List D} : ItB tbl d e false → TupB tbl (d :: ds) (e :: es) false
  | eq {d e : D} {ds es : List D} {b : Bool} : ItB tbl d e true → TupB tbl ds es b → TupB tbl (d :: ds) (e :: es) b
def dEqT (tbl : List (Addr × SpecD)) : Op2 := fun d e Q => dEq d e Q ∨ ∃ ds es b, d = .tup ds ∧ e = .tup es ∧ TupB tbl ds es b ∧ Q (.bl b)
theorem dEqT_mono {tbl : List (Addr × SpecD)} : Mono2 (dEqT tbl) := fun d e Q Q' i q => q.elim (fun q => .inl (dEq_mono _ _ _ _ i q)) fun ⟨ds, es, b, h1, h2, h3, q⟩ => .inr ⟨ds, es, b, h1, h2, h3, i _ q⟩
section
variable {X : Cx} {k : Nat} {tbl : List (Addr × SpecD)} {cs : List Addr}
theorem eqB_it (ht : ∀ c sp, (c, sp) ∈ tbl → CalE X.prog X.w X.K X.mg X.base k c cs sp) {A : Around} {pins : List (Addr × Obj)} {s : Shared} {σ : L2.St} {H : Hp} {x y : V} {u v : Value} {d e : D} {b : Bool} (h : ItB tbl d e b) (sb : Sub X (k + 3) A) (I : Inv X pins σ H s) (rx : RelV x u) (ry : RelV y v) (r1 : Rep X.K H x d) (r2 : Rep X.K H y e) :
    wpAny (model X.prog X.w) A (eqBool u v) (fun r s' => r = b ∧ ∃ H', Inv X pins σ H' s' ∧ L2.Ext H H') X.xe s := by
  cases h with
  | self hs => exact eqG_self ht hs A pins s σ H x y u v sb I rx ry ⟨r1, r2⟩
  | @py _ _ p q h1 h2 h3 h4 =>
    obtain ⟨as, q1⟩ := Dp.reads I p x u (r1.dp p h1) rx
    obtain ⟨bs, q2⟩ := Dp.reads I q y v (r2.dp q h2) ry
    exact SeqAt.eqAt_reads p q A s u v as bs q1 q2 (SeqAt.canLay_of_shaped h3) (SeqAt.canLay_of_shaped h4) (SeqAt.room_of_shaped h3 (by have := sb.room.un; omega)) X.prog X.w X.xe _ ⟨rfl, H, I, L2.Ext.rfl'⟩
  | @emp ds hne =>
    obtain ⟨a, vs, rfl, t1, p1⟩ := rep_tupx r1
    obtain ⟨b, ws, rfl, t2, p2⟩ := rep_tupx r2
    cases rx
    cases ry
    obtain ⟨its, w1, ⟨⟨c1, dd1, dt1, sl1⟩, ho1, hc1, n1, hd1⟩, _⟩ := I.tuple t1
    obtain ⟨its2, w2, ⟨⟨c2, dd2, dt2, sl2⟩, ho2, hc2, n2, hd2⟩, _⟩ := I.tuple t2
    simp only at hc1 hd1 hc2 hd2
    subst hc1 hd1 hc2 hd2
    have l1 : its.length = ds.length := by rw [← w1.length, p1.length]
    have l2 : its2.length = 0 := by rw [← w2.length, p2.length]; rfl
    have l3 : ds.length ≠ 0 := fun z => hne (List.eq_nil_of_length_eq_zero z)
    have hab : a ≠ b := fun z => by
      subst z
      have z := ho1.symm.trans ho2
      simp only [Option.some.injEq, Obj.mk.injEq, Data.seq.injEq] at z
      have z2 := congrArg Array.size z.2.2.1.1
      rw [List.size_toArray, List.size_toArray] at z2
      omega
    refine GQ.eqBool_refG hab (rc_tupX sb.room.units0 (fun _ s' => s' = s) ho1 ho2 (fun i h1 h2 s' q => ?_) (fun s' q => ?_) rfl)
    · rw [List.size_toArray] at h2; omega
    · subst q
      refine ⟨_, rfl, ?_, H, I, L2.Ext.rfl'⟩
      rw [List.size_toArray, List.size_toArray]
      exact beq_eq_false_iff_ne.mpr (by omega)
theorem or_eqT (ho : OpR X (compareOp .Eq) (rD2 X.K dEq)) (hr : Room (k + 4) X.A) (ht : ∀ c sp, (c, sp) ∈ tbl → CalE X.prog X.w X.K X.mg X.base k c cs sp) : OpR X (compareOp .Eq) (rD2 X.K (dEqT tbl)) := fun pins s σ H x y u v Q I rx ry ⟨F, d, e, hf, r1, r2, q⟩ => by
  rcases q with q | ⟨ds, es, b, rfl, rfl, hT, q⟩
  · exact ho pins s σ H x y u v Q I rx ry ⟨F, d, e, hf, r1, r2, q⟩
  obtain ⟨a, vs, rfl, t1, p1⟩ := rep_tupx (r1.rep hf)
  obtain ⟨b2, ws, rfl, t2, p2⟩ := rep_tupx (r2.rep hf)
  have fin : ∀ H', L2.Ext H H' → Q (.bl b) H' := fun H' ex => q (.bl b) F H' ⟨Same.refl _, ex, hf.trans ex, fun _ _ => rfl⟩ (.bl b)
  cases rx
  cases ry
  obtain ⟨its, w1, ⟨⟨c1, dd1, dt1, sl1⟩, ho1, hc1, n1, hd1⟩, _⟩ := I.tuple t1
  obtain ⟨its2, w2, ⟨⟨c2, dd2, dt2, sl2⟩, ho2, hc2, n2, hd2⟩, _⟩ := I.tuple t2
  simp only at hc1 hd1 hc2 hd2
  subst hc1 hd1 hc2 hd2
  have l1 : its.length = ds.length := by rw [← w1.length, p1.length]
  have l2 : its2.length = es.length := by rw [← w2.length, p2.length]
  have sb : Sub X (k + 3 + 1) X.A := ⟨hr, rfl⟩
  show wpAny (model X.prog X.w) X.A (richCompare .Eq _ _) (EP X pins σ Q) X.xe s
  refine rc_tupX hr.units0 (fun i s' => LoopI X pins σ H s' ∧ TupB tbl (ds.drop i) (es.drop i) b) ho1 ho2 (fun i h1 h2 s' ⟨⟨H1, I1, e1⟩, hT⟩ => ?_) (fun s' ⟨⟨H1, I1, e1⟩, hT⟩ => ?_) ⟨⟨H, I, L2.Ext.rfl'⟩, hT⟩
  · have g1 : i < its.length := by simpa using h1
    have g2 : i < its2.length := by simpa using h2
    have k1 : i < ds.length := by omega
    have k2 : i < es.length := by omega
    obtain ⟨x1, hx1, rx1⟩ := p1.get (List.getElem?_eq_getElem k1)
    obtain ⟨y1, hy1, ry1⟩ := p2.get (List.getElem?_eq_getElem k2)
    obtain ⟨u1, hu1, ru1⟩ := w1.get hx1
    obtain ⟨u2, hu2, ru2⟩ := w2.get hy1
    rw [List.getElem?_eq_getElem g1] at hu1
    rw [List.getElem?_eq_getElem g2] at hu2
    have z1 : its.toArray[i] = u1 := by simpa using hu1
    have z2 : its2.toArray[i] = u2 := by simpa using hu2
    rw [z1, z2]
    rw [List.drop_eq_getElem_cons k1, List.drop_eq_getElem_cons k2] at hT
    cases hT with
    | ne hi =>
      refine wpAny_mono (eqB_it ht hi sb.in1 I1 ru1 ru2 (rx1.mono e1) (ry1.mono e1)) (fun r s2 z => ?_) fun _ _ x => x
      obtain ⟨rfl, H2, I2, e2⟩ := z
      exact .inr ⟨rfl, .bl false, H2, I2, rfl, fin H2 (e1.trans e2)⟩
    | eq hi ht2 =>
      refine wpAny_mono (eqB_it ht hi sb.in1 I1 ru1 ru2 (rx1.mono e1) (ry1.mono e1)) (fun r s2 z => ?_) fun _ _ x => x
      obtain ⟨rfl, H2, I2, e2⟩ := z
      exact .inl ⟨rfl, ⟨H2, I2, e1.trans e2⟩, ht2⟩
  · rw [List.size_toArray, List.size_toArray, l1, l2] at hT ⊢
    have eb : b = (ds.length == es.length) := by
      rcases Nat.lt_trichotomy ds.length es.length with c | c | c
      · rw [Nat.min_eq_left (Nat.le_of_lt c), List.drop_length] at hT
        cases h : es.drop ds.length with
        | nil => have := congrArg List.length h; rw [List.length_drop] at this; simp at this; omega
        | cons z zs =>
          rw [h] at hT
          cases hT
          exact (beq_eq_false_iff_ne.mpr (by omega)).symm
      · rw [c, Nat.min_self, List.drop_length, ← c, List.drop_length] at hT
        cases hT
        exact (beq_iff_eq.mpr c).symm
      · rw [Nat.min_eq_right (Nat.le_of_lt c), List.drop_length] at hT
        cases h : ds.drop es.length with
        | nil => have := congrArg List.length h; rw [List.length_drop] at this; simp at this; omega
        | cons z zs =>
          rw [h] at hT
          cases hT
          exact (beq_eq_false_iff_ne.mpr (by omega)).symm
    exact ⟨.bl b, H1, I1, by rw [eb]; rfl, fin H1 e1⟩
end
end DL

namespace DL
open PySem PySem.SeqAt
open AutoSeq1 (wpAny_loadPart')
open MeetsSeq MeetsSeq2 MeetsSeq3 SeqRoads2

/-! ### != of two tuples with any answer, instances within -/
section
variable {prog : Program} {w : World} {A : Around} {R : Result → Shared → Prop}
theorem tuple_neX (l b : Addr) (items items2 : Array Value) (n n2 : Nat) (dd dd2 : Option Addr) (sl sl2 : Array (Option Value)) (I : Nat → Shared → Prop)
    (turn : ∀ i (h1 : i < items.size) (h2 : i < items2.size) s, I i s → wpAny (model prog w) A.in1 (eqBool items[i] items2[i]) (fun r s' => (r = true ∧ I (i + 1) s') ∨ (r = false ∧ R (.ok (.ret (.bool true))) s')) (fun e s' => R (.error e) s') s)
    (fin : ∀ s, I (min items.size items2.size) s → R (.ok (.ret (.bool (items.size != items2.size)))) s) {s : Shared} (hl1 : s.heap.get? l = some { cls := .type "tuple", dict := dd, data := .seq items n, slots := sl }) (hb1 : s.heap.get? b = some { cls := .type "tuple", dict := dd2, data := .seq items2 n2, slots := sl2 }) (h : I 0 s) :
    wpAny (model prog w) A.in1 (Builtin.«tuple.__ne__» ⟨[.ref l, .ref b], []⟩) (GQ.FinOf prog w A R) (fun e s' => R (.error e) s') s := by
  have f2 := AutoSeq1.sub_tuple_tuple
  have hZ : (items.toList.zip items2.toList).length = min items.size items2.size := by simp
  have h0 := h
  obtain ⟨hp, g, d, tk, os⟩ := s
  wp_walk using wpAny_loadPart' hl1, wpAny_loadPart' hb1, wpAny_forIn_list _ (fun rest b s' => b.1 = none ∧ ∃ i, rest = (items.toList.zip items2.toList).drop i ∧ i ≤ min items.size items2.size ∧ I i s') _
  case turn =>
    rintro ⟨y, x⟩ rest b s' ⟨hb', i, hz, hi, hI⟩
    have hlt : i < (items.toList.zip items2.toList).length := by
      rcases Nat.lt_or_ge i (items.toList.zip items2.toList).length with h' | h'
      · exact h'
      · rw [List.drop_of_length_le h'] at hz; cases hz
    have hm : i < min items.size items2.size := hZ ▸ hlt
    have h1 : i < items.size := Nat.lt_of_lt_of_le hm (Nat.min_le_left _ _)
    have h2 : i < items2.size := Nat.lt_of_lt_of_le hm (Nat.min_le_right _ _)
    rw [List.drop_eq_getElem_cons hlt] at hz
    injection hz with hyx hrest
    have hy : y = items[i] := by have := congrArg Prod.fst hyx; simpa using this
    have hx : x = items2[i] := by have := congrArg Prod.snd hyx; simpa using this
    subst hy hx
    refine wpAny_bind (wpAny_mono (turn i h1 h2 s' hI) (fun r s2 q2 => ?_) fun _ _ x => x)
    rcases q2 with ⟨hr, q2⟩ | ⟨hr, q2⟩
    · subst hr
      wp_walk
      exact ⟨rfl, i + 1, hrest, hm, q2⟩
    · subst hr
      wp_walk
      first | exact q2 | exact ⟨_, rfl, q2⟩
  case fin =>
    rintro ⟨b1, b2⟩ s' ⟨hb', i, hz, hi, hI⟩
    simp only at hb'
    subst hb'
    have hge : min items.size items2.size ≤ i := by
      rcases Nat.lt_or_ge i (items.toList.zip items2.toList).length with h' | h'
      · rw [List.drop_eq_getElem_cons h'] at hz; cases hz
      · exact hZ ▸ h'
    have hi' : i = min items.size items2.size := by omega
    have hR : R (.ok (.ret (.bool (items.size != items2.size)))) s' := fin s' (hi' ▸ hI)
    wp_walk
    first | simpa [Builtin.Tuple.tupleCompareSizes] using hR | exact ⟨_, rfl, by simpa [Builtin.Tuple.tupleCompareSizes] using hR⟩
  case h =>
    exact ⟨rfl, 0, rfl, Nat.zero_le _, h0⟩
end
section
variable {prog : Program} {w : World} {A : Around} {E : Value → Shared → Prop} {s : Shared}
theorem rc_tupNX {l b : Addr} {items items2 : Array Value} {n n2 : Nat} {dd dd2 : Option Addr} {sl sl2 : Array (Option Value)} {Q : Value → Shared → Prop} (hu : A.units < cLine) (I : Nat → Shared → Prop)
    (hl1 : s.heap.get? l = some { cls := .type "tuple", dict := dd, data := .seq items n, slots := sl }) (hb1 : s.heap.get? b = some { cls := .type "tuple", dict := dd2, data := .seq items2 n2, slots := sl2 })
    (turn : ∀ i (h1 : i < items.size) (h2 : i < items2.size) s, I i s → wpAny (model prog w) A.in1 (eqBool items[i] items2[i]) (fun r s' => (r = true ∧ I (i + 1) s') ∨ (r = false ∧ Q (.bool true) s')) E s)
    (fin : ∀ s, I (min items.size items2.size) s → Q (.bool (items.size != items2.size)) s) (h : I 0 s) : wpAny (model prog w) A (richCompare .NotEq (.ref l) (.ref b)) Q E s := by
  refine wpAny_richCompare_same_room (op := .NotEq) ⟨_, hl1, rfl⟩ ⟨_, hb1, rfl⟩ F.slot_tuple_ne (GQ.call_here F.slot_tuple_ne ⟨_, hl1, rfl⟩ F.entry_tuple_ne (F.args_tuple_ne_2 _ _) ?_) hu
  refine tuple_neX (R := wants (fun v s' => v ≠ .notImplemented ∧ Q v s') E) l b items items2 n n2 dd dd2 sl sl2 I (fun i h1 h2 s' q => wpAny_mono (turn i h1 h2 s' q) (fun r s2 z => ?_) fun _ _ x => x) (fun s' q => ⟨(fun x => nomatch x), fin s' q⟩) hl1 hb1 h
  rcases z with z | ⟨z1, z2⟩
  · exact .inl z
  · exact .inr ⟨z1, (fun x => nomatch x), z2⟩
end
end DL
namespace DL
open PySem PySem.Spec PyProof.Rows L2
def dNeT (tbl : List (Addr × SpecD)) : Op2 := fun d e Q => dNe d e Q ∨ ∃ ds es b, d = .tup ds ∧ e = .tup es ∧ TupB tbl ds es b ∧ Q (.bl (!b))
theorem dNeT_mono {tbl : List (Addr × SpecD)} : Mono2 (dNeT tbl) := fun d e Q Q' i q => q.elim (fun q => .inl (dNe_mono _ _ _ _ i q)) fun ⟨ds, es, b, h1, h2, h3, q⟩ => .inr ⟨ds, es, b, h1, h2, h3, i _ q⟩
section
variable {X : Cx} {k : Nat} {tbl : List (Addr × SpecD)} {cs : List Addr}
theorem or_neT (ho : OpR X (compareOp .NotEq) (rD2 X.K dNe)) (hr : Room (k + 4) X.A) (ht : ∀ c sp, (c, sp) ∈ tbl → CalE X.prog X.w X.K X.mg X.base k c cs sp) : OpR X (compareOp .NotEq) (rD2 X.K (dNeT tbl)) := fun pins s σ H x y u v Q I rx ry ⟨F, d, e, hf, r1, r2, q⟩ => by
  rcases q with q | ⟨ds, es, b, rfl, rfl, hT, q⟩
  · exact ho pins s σ H x y u v Q I rx ry ⟨F, d, e, hf, r1, r2, q⟩
  obtain ⟨a, vs, rfl, t1, p1⟩ := rep_tupx (r1.rep hf)
  obtain ⟨b2, ws, rfl, t2, p2⟩ := rep_tupx (r2.rep hf)
  have fin : ∀ H', L2.Ext H H' → Q (.bl (!b)) H' := fun H' ex => q (.bl (!b)) F H' ⟨Same.refl _, ex, hf.trans ex, fun _ _ => rfl⟩ (.bl (!b))
  cases rx
  cases ry
  obtain ⟨its, w1, ⟨⟨c1, dd1, dt1, sl1⟩, ho1, hc1, n1, hd1⟩, _⟩ := I.tuple t1
  obtain ⟨its2, w2, ⟨⟨c2, dd2, dt2, sl2⟩, ho2, hc2, n2, hd2⟩, _⟩ := I.tuple t2
  simp only at hc1 hd1 hc2 hd2
  subst hc1 hd1 hc2 hd2
  have l1 : its.length = ds.length := by rw [← w1.length, p1.length]
  have l2 : its2.length = es.length := by rw [← w2.length, p2.length]
  have sb : Sub X (k + 3 + 1) X.A := ⟨hr, rfl⟩
  show wpAny (model X.prog X.w) X.A (richCompare .NotEq _ _) (EP X pins σ Q) X.xe s
  refine rc_tupNX hr.units0 (fun i s' => LoopI X pins σ H s' ∧ TupB tbl (ds.drop i) (es.drop i) b) ho1 ho2 (fun i h1 h2 s' ⟨⟨H1, I1, e1⟩, hT⟩ => ?_) (fun s' ⟨⟨H1, I1, e1⟩, hT⟩ => ?_) ⟨⟨H, I, L2.Ext.rfl'⟩, hT⟩
  · have g1 : i < its.length := by simpa using h1
    have g2 : i < its2.length := by simpa using h2
    have k1 : i < ds.length := by omega
    have k2 : i < es.length := by omega
    obtain ⟨x1, hx1, rx1⟩ := p1.get (List.getElem?_eq_getElem k1)
    obtain ⟨y1, hy1, ry1⟩ := p2.get (List.getElem?_eq_getElem k2)
    obtain ⟨u1, hu1, ru1⟩ := w1.get hx1
    obtain ⟨u2, hu2, ru2⟩ := w2.get hy1
    rw [List.getElem?_eq_getElem g1] at hu1
    rw [List.getElem?_eq_getElem g2] at hu2
    have z1 : its.toArray[i] = u1 := by simpa using hu1
    have z2 : its2.toArray[i] = u2 := by simpa using hu2
    rw [z1, z2]
    rw [List.drop_eq_getElem_cons k1, List.drop_eq_getElem_cons k2] at hT
    cases hT with
    | ne hi =>
      refine wpAny_mono (eqB_it ht hi sb.in1 I1 ru1 ru2 (rx1.mono e1) (ry1.mono e1)) (fun r s2 z => ?_) fun _ _ x => x
      obtain ⟨rfl, H2, I2, e2⟩ := z
      exact .inr ⟨rfl, .bl true, H2, I2, rfl, fin H2 (e1.trans e2)⟩
    | eq hi ht2 =>
      refine wpAny_mono (eqB_it ht hi sb.in1 I1 ru1 ru2 (rx1.mono e1) (ry1.mono e1)) (fun r s2 z => ?_) fun _ _ x => x
      obtain ⟨rfl, H2, I2, e2⟩ := z
      exact .inl ⟨rfl, ⟨H2, I2, e1.trans e2⟩, ht2⟩
  · rw [List.size_toArray, List.size_toArray, l1, l2] at hT ⊢
    have eb : b = (ds.length == es.length) := by
      rcases Nat.lt_trichotomy ds.length es.length with c | c | c
      · rw [Nat.min_eq_left (Nat.le_of_lt c), List.drop_length] at hT
        cases h : es.drop ds.length with
        | nil => have := congrArg List.length h; rw [List.length_drop] at this; simp at this; omega
        | cons z zs =>
          rw [h] at hT
          cases hT
          exact (beq_eq_false_iff_ne.mpr (by omega)).symm
      · rw [c, Nat.min_self, List.drop_length, ← c, List.drop_length] at hT
        cases hT
        exact (beq_iff_eq.mpr c).symm
      · rw [Nat.min_eq_right (Nat.le_of_lt c), List.drop_length] at hT
        cases h : ds.drop es.length with
        | nil => have := congrArg List.length h; rw [List.length_drop] at this; simp at this; omega
        | cons z zs =>
          rw [h] at hT
          cases hT
          exact (beq_eq_false_iff_ne.mpr (by omega)).symm
    exact ⟨.bl (!b), H1, I1, by rw [eb]; rfl, fin H1 e1⟩
end
end DL

namespace DL
open PySem PySem.Spec PyProof.Rows L2

/-! ### plain lemmas about readings (no program in sight) -/
theorem mulOk_l {i j : Int} (h1 : -18446744073709551616 < i) (h2 : i < 18446744073709551616) : MulOk i j := .inl (.inl ⟨h1, h2⟩)
theorem mulOk_r {i j : Int} (h1 : -18446744073709551616 < j) (h2 : j < 18446744073709551616) : MulOk i j := .inl (.inr ⟨h1, h2⟩)
theorem mulOk_lt {i j : Int} (h1 : -18446744073709551616 < i) (h2 : i < 18446744073709551616) : MulOk i j = True := eq_true (mulOk_l h1 h2)
theorem mulOk_rt {i j : Int} (h1 : -18446744073709551616 < j) (h2 : j < 18446744073709551616) : MulOk i j = True := eq_true (mulOk_r h1 h2)
theorem cdiv_ok {i j : Int} (h : 0 < j) (h2 : j < 18446744073709551616) : CDivW i j :=
  wide_div (b := 64) h (by show j.natAbs < 18446744073709551616; omega) (by decide) (by decide)
theorem cdiv_lt {i j : Int} (h : 0 < j) (h2 : j < 18446744073709551616) : CDivW i j = True := eq_true (cdiv_ok h h2)
theorem ex_bl {b : Bool} {P : Bool → Prop} : (∃ c, D.bl b = D.bl c ∧ P c) = P b := by
  refine propext ⟨fun ⟨c, h, p⟩ => ?_, fun p => ⟨b, rfl, p⟩⟩
  cases h; exact p
theorem ex_some {α : Type} {a : α} {P : α → Prop} : (∃ c, some a = some c ∧ P c) = P a := by
  refine propext ⟨fun ⟨c, h, p⟩ => ?_, fun p => ⟨a, rfl, p⟩⟩
  cases h; exact p
theorem if_dec {p : Prop} [Decidable p] {A B : Prop} : (if decide p = true then A else B) = (if p then A else B) := by
  by_cases h : p <;> simp [h]
/-- equal data -/
theorem eqv_int (i j : Int) : PyData.eqv (.int i) (.int j) = (i == j) := rfl
theorem dEq_int {i j : Int} {Q : D → Prop} : dEq (.int i) (.int j) Q = Q (.bl (decide (i = j))) := by
  refine propext ⟨fun ⟨p, q, h1, h2, _, _, h⟩ => ?_, fun h => ⟨.int i, .int j, rfl, rfl, rfl, rfl, ?_⟩⟩
  · simp only [toPy, Option.some.injEq] at h1 h2; subst h1 h2
    exact h
  · exact h
theorem dNe_int {i j : Int} {Q : D → Prop} : dNe (.int i) (.int j) Q = Q (.bl (!decide (i = j))) := by
  refine propext ⟨fun ⟨p, q, h1, h2, _, _, h⟩ => ?_, fun h => ⟨.int i, .int j, rfl, rfl, rfl, rfl, ?_⟩⟩
  · simp only [toPy, Option.some.injEq] at h1 h2; subst h1 h2
    exact h
  · exact h
theorem isi_ty {d : D} {a n : String} {Q : D → Prop} (h1 : tyS d = some a) (h2 : tysD.contains n = true) : nIsiB [d, .ty n] Q = Q (.bl (isiS a n)) := by
  refine propext ⟨fun ⟨b, h3, _, h⟩ => ?_, fun h => ⟨a, h1, h2, h⟩⟩
  rw [h1] at h3; cases h3; exact h
theorem isi_int_int {i : Int} {Q : D → Prop} : nIsiB [(.int i), .ty "int"] Q = Q (.bl true) := (isi_ty (a := "int") (n := "int") rfl (by decide)).trans (congrArg Q (congrArg D.bl (by decide)))
theorem isi_int_bool {i : Int} {Q : D → Prop} : nIsiB [(.int i), .ty "bool"] Q = Q (.bl false) := (isi_ty (a := "int") (n := "bool") rfl (by decide)).trans (congrArg Q (congrArg D.bl (by decide)))
theorem isi_int_str {i : Int} {Q : D → Prop} : nIsiB [(.int i), .ty "str"] Q = Q (.bl false) := (isi_ty (a := "int") (n := "str") rfl (by decide)).trans (congrArg Q (congrArg D.bl (by decide)))
theorem isi_int_tuple {i : Int} {Q : D → Prop} : nIsiB [(.int i), .ty "tuple"] Q = Q (.bl false) := (isi_ty (a := "int") (n := "tuple") rfl (by decide)).trans (congrArg Q (congrArg D.bl (by decide)))
theorem isi_int_list {i : Int} {Q : D → Prop} : nIsiB [(.int i), .ty "list"] Q = Q (.bl false) := (isi_ty (a := "int") (n := "list") rfl (by decide)).trans (congrArg Q (congrArg D.bl (by decide)))
theorem isi_bl_int {i : Bool} {Q : D → Prop} : nIsiB [(.bl i), .ty "int"] Q = Q (.bl true) := (isi_ty (a := "bool") (n := "int") rfl (by decide)).trans (congrArg Q (congrArg D.bl (by decide)))
theorem isi_bl_bool {i : Bool} {Q : D → Prop} : nIsiB [(.bl i), .ty "bool"] Q = Q (.bl true) := (isi_ty (a := "bool") (n := "bool") rfl (by decide)).trans (congrArg Q (congrArg D.bl (by decide)))
theorem isi_bl_str {i : Bool} {Q : D → Prop} : nIsiB [(.bl i), .ty "str"] Q = Q (.bl false) := (isi_ty (a := "bool") (n := "str") rfl (by decide)).trans (congrArg Q (congrArg D.bl (by decide)))
theorem isi_bl_tuple {i : Bool} {Q : D → Prop} : nIsiB [(.bl i), .ty "tuple"] Q = Q (.bl false) := (isi_ty (a := "bool") (n := "tuple") rfl (by decide)).trans (congrArg Q (congrArg D.bl (by decide)))
theorem isi_bl_list {i : Bool} {Q : D → Prop} : nIsiB [(.bl i), .ty "list"] Q = Q (.bl false) := (isi_ty (a := "bool") (n := "list") rfl (by decide)).trans (congrArg Q (congrArg D.bl (by decide)))
theorem isi_str_int {i : Str} {Q : D → Prop} : nIsiB [(.str i), .ty "int"] Q = Q (.bl false) := (isi_ty (a := "str") (n := "int") rfl (by decide)).trans (congrArg Q (congrArg D.bl (by decide)))
theorem isi_str_bool {i : Str} {Q : D → Prop} : nIsiB [(.str i), .ty "bool"] Q = Q (.bl false) := (isi_ty (a := "str") (n := "bool") rfl (by decide)).trans (congrArg Q (congrArg D.bl (by decide)))
theorem isi_str_str {i : Str} {Q : D → Prop} : nIsiB [(.str i), .ty "str"] Q = Q (.bl true) := (isi_ty (a := "str") (n := "str") rfl (by decide)).trans (congrArg Q (congrArg D.bl (by decide)))
theorem isi_str_tuple {i : Str} {Q : D → Prop} : nIsiB [(.str i), .ty "tuple"] Q = Q (.bl false) := (isi_ty (a := "str") (n := "tuple") rfl (by decide)).trans (congrArg Q (congrArg D.bl (by decide)))
theorem isi_str_list {i : Str} {Q : D → Prop} : nIsiB [(.str i), .ty "list"] Q = Q (.bl false) := (isi_ty (a := "str") (n := "list") rfl (by decide)).trans (congrArg Q (congrArg D.bl (by decide)))
theorem isi_tup_int {i : List D} {Q : D → Prop} : nIsiB [(.tup i), .ty "int"] Q = Q (.bl false) := (isi_ty (a := "tuple") (n := "int") rfl (by decide)).trans (congrArg Q (congrArg D.bl (by decide)))
theorem isi_tup_bool {i : List D} {Q : D → Prop} : nIsiB [(.tup i), .ty "bool"] Q = Q (.bl false) := (isi_ty (a := "tuple") (n := "bool") rfl (by decide)).trans (congrArg Q (congrArg D.bl (by decide)))
theorem isi_tup_str {i : List D} {Q : D → Prop} : nIsiB [(.tup i), .ty "str"] Q = Q (.bl false) := (isi_ty (a := "tuple") (n := "str") rfl (by decide)).trans (congrArg Q (congrArg D.bl (by decide)))
theorem isi_tup_tuple {i : List D} {Q : D → Prop} : nIsiB [(.tup i), .ty "tuple"] Q = Q (.bl true) := (isi_ty (a := "tuple") (n := "tuple") rfl (by decide)).trans (congrArg Q (congrArg D.bl (by decide)))
theorem isi_tup_list {i : List D} {Q : D → Prop} : nIsiB [(.tup i), .ty "list"] Q = Q (.bl false) := (isi_ty (a := "tuple") (n := "list") rfl (by decide)).trans (congrArg Q (congrArg D.bl (by decide)))
theorem isi_lst_int {i : List D} {Q : D → Prop} : nIsiB [(.lst i), .ty "int"] Q = Q (.bl false) := (isi_ty (a := "list") (n := "int") rfl (by decide)).trans (congrArg Q (congrArg D.bl (by decide)))
theorem isi_lst_bool {i : List D} {Q : D → Prop} : nIsiB [(.lst i), .ty "bool"] Q = Q (.bl false) := (isi_ty (a := "list") (n := "bool") rfl (by decide)).trans (congrArg Q (congrArg D.bl (by decide)))
theorem isi_lst_str {i : List D} {Q : D → Prop} : nIsiB [(.lst i), .ty "str"] Q = Q (.bl false) := (isi_ty (a := "list") (n := "str") rfl (by decide)).trans (congrArg Q (congrArg D.bl (by decide)))
theorem isi_lst_tuple {i : List D} {Q : D → Prop} : nIsiB [(.lst i), .ty "tuple"] Q = Q (.bl false) := (isi_ty (a := "list") (n := "tuple") rfl (by decide)).trans (congrArg Q (congrArg D.bl (by decide)))
theorem isi_lst_list {i : List D} {Q : D → Prop} : nIsiB [(.lst i), .ty "list"] Q = Q (.bl true) := (isi_ty (a := "list") (n := "list") rfl (by decide)).trans (congrArg Q (congrArg D.bl (by decide)))
theorem isi_non_int {Q : D → Prop} : nIsiB [.non, .ty "int"] Q = Q (.bl false) := (isi_ty (a := "NoneType") (n := "int") rfl (by decide)).trans (congrArg Q (congrArg D.bl (by decide)))
theorem isi_non_bool {Q : D → Prop} : nIsiB [.non, .ty "bool"] Q = Q (.bl false) := (isi_ty (a := "NoneType") (n := "bool") rfl (by decide)).trans (congrArg Q (congrArg D.bl (by decide)))
theorem isi_non_str {Q : D → Prop} : nIsiB [.non, .ty "str"] Q = Q (.bl false) := (isi_ty (a := "NoneType") (n := "str") rfl (by decide)).trans (congrArg Q (congrArg D.bl (by decide)))
theorem isi_non_tuple {Q : D → Prop} : nIsiB [.non, .ty "tuple"] Q = Q (.bl false) := (isi_ty (a := "NoneType") (n := "tuple") rfl (by decide)).trans (congrArg Q (congrArg D.bl (by decide)))
theorem isi_non_list {Q : D → Prop} : nIsiB [.non, .ty "list"] Q = Q (.bl false) := (isi_ty (a := "NoneType") (n := "list") rfl (by decide)).trans (congrArg Q (congrArg D.bl (by decide)))
/-! a place in a list -/
theorem atI_ofNat {α : Type} {xs : List α} {i : Int} {j : Nat} {x : α} (e : i = (j : Int)) (h : xs[j]? = some x) : atI xs i = some x := by
  subst e; exact atI_nat h
theorem ix_tup_at {xs : List D} {i : Int} {x : D} {Q : D → Prop} (h : atI xs i = some x) : dIx (.tup xs) (.int i) Q = Q x := by
  refine propext ⟨fun ⟨y, h1, q⟩ => ?_, fun q => ⟨x, h, q⟩⟩
  rw [h] at h1; cases h1; exact q
theorem ix_lst_at {xs : List D} {i : Int} {x : D} {Q : D → Prop} (h : atI xs i = some x) : dIx (.lst xs) (.int i) Q = Q x := by
  refine propext ⟨fun ⟨y, h1, q⟩ => ?_, fun q => ⟨x, h, q⟩⟩
  rw [h] at h1; cases h1; exact q
theorem ix_scr_at {xs : List Int} {i x : Int} {Q : D → Prop} (h : atI xs i = some x) : dIx (.scr xs) (.int i) Q = Q (.int x) := by
  refine propext ⟨fun ⟨y, h1, q⟩ => ?_, fun q => ⟨x, h, q⟩⟩
  rw [h] at h1; cases h1; exact q
theorem atI_0 {α : Type} {x : α} {xs : List α} : atI (x :: xs) 0 = some x := by
  simp [atI, ixN]
theorem atI_1 {α : Type} {x y : α} {xs : List α} : atI (x :: y :: xs) 1 = some y := by
  have : (1 : Int) < (xs.length : Int) + 1 + 1 := by omega
  simp [atI, ixN, this]
theorem atI_2 {α : Type} {x y z : α} {xs : List α} : atI (x :: y :: z :: xs) 2 = some z := by
  have : (2 : Int) < (xs.length : Int) + 1 + 1 + 1 := by omega
  simp [atI, ixN, this]
theorem atI_3 {α : Type} {x y z u : α} {xs : List α} : atI (x :: y :: z :: u :: xs) 3 = some u := by
  have : (3 : Int) < (xs.length : Int) + 1 + 1 + 1 + 1 := by omega
  simp [atI, ixN, this]
theorem ix_t0 {x : D} {xs : List D} {Q : D → Prop} : dIx (.tup (x :: xs)) (.int 0) Q = Q x := ix_tup_at atI_0
theorem ix_t1 {x y : D} {xs : List D} {Q : D → Prop} : dIx (.tup (x :: y :: xs)) (.int 1) Q = Q y := ix_tup_at atI_1
theorem ix_t2 {x y z : D} {xs : List D} {Q : D → Prop} : dIx (.tup (x :: y :: z :: xs)) (.int 2) Q = Q z := ix_tup_at atI_2
theorem ix_t3 {x y z u : D} {xs : List D} {Q : D → Prop} : dIx (.tup (x :: y :: z :: u :: xs)) (.int 3) Q = Q u := ix_tup_at atI_3
theorem ix_l0 {x : D} {xs : List D} {Q : D → Prop} : dIx (.lst (x :: xs)) (.int 0) Q = Q x := ix_lst_at atI_0
theorem ix_l1 {x y : D} {xs : List D} {Q : D → Prop} : dIx (.lst (x :: y :: xs)) (.int 1) Q = Q y := ix_lst_at atI_1
theorem ix_l2 {x y z : D} {xs : List D} {Q : D → Prop} : dIx (.lst (x :: y :: z :: xs)) (.int 2) Q = Q z := ix_lst_at atI_2
theorem ix_l3 {x y z u : D} {xs : List D} {Q : D → Prop} : dIx (.lst (x :: y :: z :: u :: xs)) (.int 3) Q = Q u := ix_lst_at atI_3
theorem sz_lit {n : Nat} (h : n ≤ 1000) : (n ≤ sizeLine) = True := eq_true (by show n ≤ 16777216; omega)
theorem noOwn_nil {env : En} : noOwn env [] = True := eq_true fun v h => nomatch h
theorem noOwn_cons {env : En} {v : Nat} {vs : List Nat} : noOwn env (v :: vs) = ((∀ ds, eg env v ≠ .own ds) ∧ noOwn env vs) := by
  refine propext ⟨fun h => ⟨h v (List.mem_cons_self ..), fun u hu => h u (List.mem_cons_of_mem _ hu)⟩, fun ⟨h1, h2⟩ u hu => ?_⟩
  rcases List.mem_cons.mp hu with e | hu
  · subst e; exact h1
  · exact h2 u hu
theorem dAdd_i {i j : Int} {Q : D → Prop} : dAdd (.int i) (.int j) Q = Q (.int (i + j)) := rfl
theorem dAdd_ib {i : Int} {j : Bool} {Q : D → Prop} : dAdd (.int i) (.bl j) Q = Q (.int (i + b2i j)) := rfl
theorem dAdd_s {i j : Str} {Q : D → Prop} : dAdd (.str i) (.str j) Q = (i.length + j.length ≤ sizeLine ∧ Q (.str (i ++ j))) := rfl
theorem dAdd_t {i j : List D} {Q : D → Prop} : dAdd (.tup i) (.tup j) Q = (i.length + j.length ≤ sizeLine ∧ Q (.tup (i ++ j))) := rfl
theorem dAdd_l {i j : List D} {Q : D → Prop} : dAdd (.lst i) (.lst j) Q = (i.length + j.length ≤ sizeLine ∧ Q (.lst (i ++ j))) := rfl
theorem dSub_i {i j : Int} {Q : D → Prop} : dSub (.int i) (.int j) Q = Q (.int (i - j)) := rfl
theorem dMul_i {i j : Int} {Q : D → Prop} : dMul (.int i) (.int j) Q = (MulOk i j ∧ Q (.int (i * j))) := rfl
theorem dDiv_i {i j : Int} {Q : D → Prop} : dDiv (.int i) (.int j) Q = (CDivW i j ∧ Q (.int (i / j))) := rfl
theorem dMod_i {i j : Int} {Q : D → Prop} : dMod (.int i) (.int j) Q = (0 < j ∧ Q (.int (i % j))) := rfl
theorem dRel_i {f : Int → Int → Bool} {i j : Int} {Q : D → Prop} : dRel f (.int i) (.int j) Q = Q (.bl (f i j)) := rfl
theorem dTr_non {Q : Bool → Prop} : dTr (.non) Q = Q false := rfl
theorem dTr_bl {b : Bool} {Q : Bool → Prop} : dTr (.bl b) Q = Q b := rfl
theorem dTr_int {b : Int} {Q : Bool → Prop} : dTr (.int b) Q = Q (b != 0) := rfl
theorem dTr_tup {b : List D} {Q : Bool → Prop} : dTr (.tup b) Q = Q (!b.isEmpty) := rfl
theorem dTr_lst {b : List D} {Q : Bool → Prop} : dTr (.lst b) Q = Q (!b.isEmpty) := rfl
theorem nInt_i {i : Int} {Q : D → Prop} : nInt [.int i] Q = Q (.int i) := rfl
theorem nInt_b {i : Bool} {Q : D → Prop} : nInt [.bl i] Q = Q (.int (if i then 1 else 0)) := rfl
theorem nLen_t {i : List D} {Q : D → Prop} : nLen [.tup i] Q = Q (.int i.length) := rfl
theorem nLen_l {i : List D} {Q : D → Prop} : nLen [.lst i] Q = Q (.int i.length) := rfl
theorem nLen_c {i : List Int} {Q : D → Prop} : nLen [.scr i] Q = Q (.int i.length) := rfl
theorem nLen_s {i : Str} {Q : D → Prop} : nLen [.str i] Q = (i.length ≤ sizeLine ∧ Q (.int i.length)) := rfl
theorem nTuple_t {i : List D} {Q : D → Prop} : nTuple [.tup i] Q = Q (.tup i) := rfl
theorem nTuple_l {i : List D} {Q : D → Prop} : nTuple [.lst i] Q = Q (.tup i) := rfl
theorem nList_t {i : List D} {Q : D → Prop} : nList [.tup i] Q = Q (.lst i) := rfl
theorem nList_l {i : List D} {Q : D → Prop} : nList [.lst i] Q = Q (.lst i) := rfl
theorem nListN_t {i : List D} {Q : List D → Prop} : nListN [.tup i] Q = Q i := rfl
theorem nListN_l {i : List D} {Q : List D → Prop} : nListN [.lst i] Q = Q i := rfl
theorem nAbs_i {i : Int} {Q : D → Prop} : nAbs [.int i] Q = Q (.int (if i < 0 then -i else i)) := rfl
theorem nMax2_i {i j : Int} {Q : D → Prop} : nMax2 [.int i, .int j] Q = Q (.int (if j > i then j else i)) := rfl
theorem nMin2_i {i j : Int} {Q : D → Prop} : nMin2 [.int i, .int j] Q = Q (.int (if j < i then j else i)) := rfl
theorem dSeq_t {i : List D} {Q : List D → Prop} : dSeq (.tup i) Q = Q i := rfl
theorem dSeq_l {i : List D} {Q : List D → Prop} : dSeq (.lst i) Q = Q i := rfl
theorem dSeq_c {i : List Int} {Q : List D → Prop} : dSeq (.scr i) Q = Q (i.map D.int) := rfl
theorem dSeq_s {i : Str} {Q : List D → Prop} : dSeq (.str i) Q = Q (signs i) := rfl
theorem dSl_t {i : List D} {a b : Option Int} {Q : D → Prop} : dSl (.tup i) a b Q = Q (.tup (cutD i a b)) := rfl
theorem dSl_l {i : List D} {a b : Option Int} {Q : D → Prop} : dSl (.lst i) a b Q = Q (.lst (cutD i a b)) := rfl
theorem dSl_s {i : Str} {a b : Option Int} {Q : D → Prop} : dSl (.str i) a b Q = (i.length ≤ sizeLine ∧ Q (.str (cutS i a b))) := rfl
theorem gTp_t {n : Nat} {gs : RGs} {ds : List D} {e : En} {Q : En → Prop} : gTp n gs (.tup ds) e Q = (ds.length = n ∧ gs ds e Q) := rfl
theorem gsCons_c {g : RG} {gs : RGs} {d : D} {ds : List D} {e : En} {Q : En → Prop} : gsCons g gs (d :: ds) e Q = g d e fun e => gs ds e Q := rfl
theorem dIs_nn {Q : D → Prop} : dIs .non .non Q = Q (.bl true) := rfl
theorem dIsNot_nn {Q : D → Prop} : dIsNot .non .non Q = Q (.bl false) := rfl
theorem dIs_bl {i : Bool} {Q : D → Prop} : dIs (.bl i) .non Q = Q (.bl false) := rfl
theorem dIsNot_bl {i : Bool} {Q : D → Prop} : dIsNot (.bl i) .non Q = Q (.bl true) := rfl
theorem dIs_int {i : Int} {Q : D → Prop} : dIs (.int i) .non Q = Q (.bl false) := rfl
theorem dIsNot_int {i : Int} {Q : D → Prop} : dIsNot (.int i) .non Q = Q (.bl true) := rfl
theorem dIs_str {i : Str} {Q : D → Prop} : dIs (.str i) .non Q = Q (.bl false) := rfl
theorem dIsNot_str {i : Str} {Q : D → Prop} : dIsNot (.str i) .non Q = Q (.bl true) := rfl
theorem dIs_tup {i : List D} {Q : D → Prop} : dIs (.tup i) .non Q = Q (.bl false) := rfl
theorem dIsNot_tup {i : List D} {Q : D → Prop} : dIsNot (.tup i) .non Q = Q (.bl true) := rfl
theorem dIs_lst {i : List D} {Q : D → Prop} : dIs (.lst i) .non Q = Q (.bl false) := rfl
theorem dIsNot_lst {i : List D} {Q : D → Prop} : dIsNot (.lst i) .non Q = Q (.bl true) := rfl
theorem dIs_ins {c : Addr} {a : List Str} {b : List D} {Q : D → Prop} : dIs (.ins c a b) .non Q = Q (.bl false) := rfl
theorem dIsNot_ins {c : Addr} {a : List Str} {b : List D} {Q : D → Prop} : dIsNot (.ins c a b) .non Q = Q (.bl true) := rfl
theorem ix_lst_any {xs : List D} {i : Int} {Q : D → Prop} (h0 : 0 ≤ i) (h1 : i < xs.length) (h : ∀ x ∈ xs, Q x) : dIx (.lst xs) (.int i) Q := by
  have b : xs[i.toNat]? = some (xs[i.toNat]'(by omega)) := List.getElem?_eq_getElem (by omega)
  rw [ix_lst_at (atI_ofNat (j := i.toNat) (by omega) b)]
  exact h _ (List.getElem_mem _)
theorem ix_tup_any {xs : List D} {i : Int} {Q : D → Prop} (h0 : 0 ≤ i) (h1 : i < xs.length) (h : ∀ x ∈ xs, Q x) : dIx (.tup xs) (.int i) Q := by
  have b : xs[i.toNat]? = some (xs[i.toNat]'(by omega)) := List.getElem?_eq_getElem (by omega)
  rw [ix_tup_at (atI_ofNat (j := i.toNat) (by omega) b)]
  exact h _ (List.getElem_mem _)
theorem cast_0 : ((0 : Nat) : Int) = 0 := rfl
theorem cast_1 : ((1 : Nat) : Int) = 1 := rfl
theorem cast_2 : ((2 : Nat) : Int) = 2 := rfl
theorem cast_3 : ((3 : Nat) : Int) = 3 := rfl
theorem cast_4 : ((4 : Nat) : Int) = 4 := rfl
theorem cast_5 : ((5 : Nat) : Int) = 5 := rfl
theorem cast_6 : ((6 : Nat) : Int) = 6 := rfl
theorem cast_7 : ((7 : Nat) : Int) = 7 := rfl
theorem cast_8 : ((8 : Nat) : Int) = 8 := rfl
/-! the matches inside readings, kept shut while nothing is known -/
def qVar (s : Sl) (i : Nat) (env : En) (Q : D → En → Prop) : Prop := match s with
  | .v d => Q d env
  | .own (.l ds) => Q (.lst ds) (es env i (.v (.lst ds)))
  | _ => False
def qVarB (s : Sl) (env : En) (Q : D → En → Prop) : Prop := match s with
  | .v d => Q d env
  | .own (.l ds) => Q (.lst ds) env
  | _ => False
def qOwn (s : Sl) (Q : List D → Prop) : Prop := match s with
  | .own (.l ds) => Q ds
  | _ => False
def qSome (d : D) (Q : Option Int → Prop) : Prop := match d with
  | .int i => Q (some i)
  | _ => False
def qNeg (d : D) (Q : D → Prop) : Prop := match d with
  | .int i => Q (.int (-i))
  | _ => False
def qRg1 (ds : List D) (Q : List D → Prop) : Prop := match ds with
  | [.int j] => inR j ∧ Q (rangeD 0 j.toNat)
  | _ => False
def qRg2 (ds : List D) (Q : List D → Prop) : Prop := match ds with
  | [.int i, .int j] => inR i ∧ inR j ∧ Q (rangeD i (j - i).toNat)
  | _ => False
def qZip (ds : List D) (Q : List D → Prop) : Prop := match ds with
  | [.lst xs, .lst ys] => Q (zipD xs ys)
  | [.tup xs, .tup ys] => Q (zipD xs ys)
  | _ => False
def qEnum (ds : List D) (Q : List D → Prop) : Prop := match ds with
  | [.lst xs] => Q (enumD 0 xs)
  | _ => False
theorem rVar_q {i : Nat} {env : En} {Q : D → En → Prop} : rVar i env Q = qVar (eg env i) i env Q := rfl
theorem rVarB_q {i : Nat} {env : En} {Q : D → En → Prop} : rVarB i env Q = qVarB (eg env i) env Q := rfl
theorem ownAt_q {i : Nat} {env : En} {Q : List D → Prop} : ownAt env i Q = qOwn (eg env i) Q := rfl
theorem roSome_q {m : RE} {env : En} {Q : Option Int → En → Prop} : roSome m env Q = m env fun d e => qSome d fun o => Q o e := rfl
theorem rNeg_q {m : RE} {env : En} {Q : D → En → Prop} : rNeg m env Q = m env fun d e => qNeg d fun x => Q x e := rfl
theorem iRg1_q {m : RN} {env : En} {Q : List D → En → Prop} : iRg1 m env Q = m env fun ds e => qRg1 ds fun x => Q x e := rfl
theorem iRg2_q {m : RN} {env : En} {Q : List D → En → Prop} : iRg2 m env Q = m env fun ds e => qRg2 ds fun x => Q x e := by
  refine congrArg (m env) (funext fun ds => funext fun e => ?_)
  unfold qRg2; rfl
theorem iZipD_q {m : RN} {env : En} {Q : List D → En → Prop} : iZipD m env Q = m env fun ds e => qZip ds fun x => Q x e := rfl
theorem iEnumD_q {m : RN} {env : En} {Q : List D → En → Prop} : iEnumD m env Q = m env fun ds e => qEnum ds fun x => Q x e := rfl
theorem qVar_v {i : Nat} {d : D} {env : En} {Q : D → En → Prop} : qVar (.v d) i env Q = Q d env := rfl
theorem qVar_o {i : Nat} {ds : List D} {env : En} {Q : D → En → Prop} : qVar (.own (.l ds)) i env Q = Q (.lst ds) (es env i (.v (.lst ds))) := rfl
theorem qVarB_v {d : D} {env : En} {Q : D → En → Prop} : qVarB (.v d) env Q = Q d env := rfl
theorem qVarB_o {ds : List D} {env : En} {Q : D → En → Prop} : qVarB (.own (.l ds)) env Q = Q (.lst ds) env := rfl
theorem qOwn_o {ds : List D} {Q : List D → Prop} : qOwn (.own (.l ds)) Q = Q ds := rfl
theorem qSome_i {i : Int} {Q : Option Int → Prop} : qSome (.int i) Q = Q (some i) := rfl
theorem qNeg_i {i : Int} {Q : D → Prop} : qNeg (.int i) Q = Q (.int (-i)) := rfl
theorem qRg1_i {i : Int} {Q : List D → Prop} : qRg1 [.int i] Q = (inR i ∧ Q (rangeD 0 i.toNat)) := rfl
theorem qRg2_i {i j : Int} {Q : List D → Prop} : qRg2 [.int i, .int j] Q = (inR i ∧ inR j ∧ Q (rangeD i (j - i).toNat)) := rfl
theorem qZip_l {i j : List D} {Q : List D → Prop} : qZip [.lst i, .lst j] Q = Q (zipD i j) := rfl
theorem qZip_t {i j : List D} {Q : List D → Prop} : qZip [.tup i, .tup j] Q = Q (zipD i j) := rfl
theorem qEnum_l {i : List D} {Q : List D → Prop} : qEnum [.lst i] Q = Q (enumD 0 i) := rfl
def qSet (d : D) (Q : Int → Prop) : Prop := match d with
  | .int k => Q k
  | _ => False
theorem sSetIx_q {i : Nat} {mi mv : RE} {Z : DE} {env : En} : sSetIx i mi mv Z env = mv env fun v e1 => ownAt e1 i fun _ => mi e1 fun j e2 => qSet j fun k => ownAt e2 i fun ds => ∃ n, ixN ds.length k = some n ∧ Z.nx (es e2 i (.own (.l (ds.set n v)))) := rfl
theorem qSet_i {k : Int} {Q : Int → Prop} : qSet (.int k) Q = Q k := rfl
def qAug (s : Sl) (Q : Int → Prop) : Prop := match s with
  | .v (.int a) => Q a
  | _ => False
theorem sAug_q {f : Int → Int → Int} {i : Nat} {me : RE} {Z : DE} {env : En} : sAug f i me Z env = qAug (eg env i) fun a => me env fun d e => qSet d fun b => Z.nx (es e i (.v (.int (f a b)))) := by
  unfold sAug qAug qSet
  split <;> rfl
theorem qAug_i {a : Int} {Q : Int → Prop} : qAug (.v (.int a)) Q = Q a := rfl
/-! small ranges -/
theorem inR_ok {i : Int} (h : 0 ≤ i) (h2 : i ≤ 1000000) : inR i := ⟨by omega, by omega⟩
theorem inR_lit {i : Int} (h : -1000000 ≤ i) (h2 : i ≤ 1000000) : inR i = True := eq_true ⟨by omega, by omega⟩
/-! ### loops -/
theorem forL_inv {g : RG} {body : RS} (Inv : Nat → En → Prop) : ∀ (xs : List D) (Z : DE) (i : Nat) (e : En), Inv i e →
    (∀ (j : Nat) (x : D) (e : En) (Z' : DE), xs[j]? = some x → Inv (i + j) e → (∀ e', Inv (i + j + 1) e' → Z'.nx e') → (∀ e', Inv (i + j + 1) e' → Z'.ct e') → Z'.rt = Z.rt → Z'.bk = Z.nx → g x e fun e' => body Z' e') →
    (∀ e, Inv (i + xs.length) e → Z.nx e) → forL g body Z xs e
  | [], Z, i, e, h0, _, hd => hd e h0
  | x :: xs, Z, i, e, h0, hs, hd => by
    have tl : ∀ e', Inv (i + 1) e' → forL g body Z xs e' := fun e' h => forL_inv Inv xs Z (i + 1) e' h
      (fun j y e Z' hj hI h1 h2 h3 h4 => hs (j + 1) y e Z' (by simpa using hj) (by rw [show i + (j + 1) = i + 1 + j by omega]; exact hI) (fun e' q => h1 e' (by rw [show i + 1 + j + 1 = i + (j + 1) + 1 by omega]; exact q)) (fun e' q => h2 e' (by rw [show i + 1 + j + 1 = i + (j + 1) + 1 by omega]; exact q)) h3 h4)
      (fun e q => hd e (by rw [show i + (x :: xs).length = i + 1 + xs.length by simp; omega]; exact q))
    exact hs 0 x e { Z with nx := forL g body Z xs, ct := forL g body Z xs, bk := Z.nx } rfl h0 tl tl rfl rfl
theorem rangeD_length : ∀ (lo : Int) (n : Nat), (rangeD lo n).length = n
  | _, 0 => rfl
  | lo, n + 1 => by simp [rangeD, rangeD_length (lo + 1) n]
/-- a loop over a range -/
theorem forL_range {g : RG} {body : RS} {Z : DE} {lo : Int} {n : Nat} {e : En} (Inv : Nat → En → Prop) (h0 : Inv 0 e)
    (hs : ∀ (j : Nat) (e : En) (Z' : DE), j < n → Inv j e → (∀ e', Inv (j + 1) e' → Z'.nx e') → (∀ e', Inv (j + 1) e' → Z'.ct e') → Z'.rt = Z.rt → Z'.bk = Z.nx → g (.int (lo + j)) e fun e' => body Z' e')
    (hd : ∀ e, Inv n e → Z.nx e) : forL g body Z (rangeD lo n) e := by
  refine forL_inv Inv _ Z 0 e h0 (fun j x e Z' hj hI h1 h2 h3 h4 => ?_) (fun e q => hd e ?_)
  · rw [rangeD_get] at hj
    split at hj
    · rename_i hlt
      cases hj
      rw [Nat.zero_add] at hI h1 h2
      exact hs j e Z' hlt hI h1 h2 h3 h4
    · cases hj
  · rw [Nat.zero_add, rangeD_length] at q; exact q
/-- a comprehension that keeps every item -/
theorem lcL_map {vs : List Nat} {g : RG} {me : RE} {env : En} {Q : List D → Prop} (f : D → D) : ∀ (xs acc : List D), acc.length + xs.length ≤ sizeLine →
    (∀ x ∈ xs, ∀ P : D → En → Prop, (∀ e4, wipeE e4 vs = wipeE env vs → P (f x) e4) → g x (wipeE env vs) fun e2 => wipeE e2 vs = wipeE env vs ∧ me e2 P) →
    Q (acc ++ xs.map f) → lcL vs g rYes me env Q xs acc
  | [], acc, _, _, q => by
    have q' : Q acc := by simpa using q
    exact q'
  | x :: xs, acc, hl, hs, q => by
    have h := hs x (List.mem_cons_self ..) (fun d e4 => wipeE e4 vs = wipeE env vs ∧ acc.length < sizeLine ∧ lcL vs g rYes me env Q xs (acc ++ [d])) fun e4 w => ⟨w, by simp at hl; omega,
      lcL_map f xs (acc ++ [f x]) (by simp at hl ⊢; omega) (fun y hy => hs y (List.mem_cons_of_mem _ hy)) (by simpa using q)⟩
    exact h
/-- .. of items that are made of something plain -/
theorem lcL_of {α : Type} {vs : List Nat} {g : RG} {me : RE} {env : En} {Q : List D → Prop} (emb f : α → D) : ∀ (xs : List α) (acc : List D), acc.length + xs.length ≤ sizeLine →
    (∀ x ∈ xs, ∀ P : D → En → Prop, (∀ e4, wipeE e4 vs = wipeE env vs → P (f x) e4) → g (emb x) (wipeE env vs) fun e2 => wipeE e2 vs = wipeE env vs ∧ me e2 P) →
    Q (acc ++ xs.map f) → lcL vs g rYes me env Q (xs.map emb) acc
  | [], acc, _, _, q => by
    have q' : Q acc := by simpa using q
    exact q'
  | x :: xs, acc, hl, hs, q => by
    have h := hs x (List.mem_cons_self ..) (fun d e4 => wipeE e4 vs = wipeE env vs ∧ acc.length < sizeLine ∧ lcL vs g rYes me env Q (xs.map emb) (acc ++ [d])) fun e4 w => ⟨w, by simp at hl; omega,
      lcL_of emb f xs (acc ++ [f x]) (by simp at hl ⊢; omega) (fun y hy => hs y (List.mem_cons_of_mem _ hy)) (by simpa using q)⟩
    exact h
theorem asBls_of {α : Type} (p : α → Bool) (xs : List α) : asBls (xs.map fun a => D.bl (p a)) = some (xs.map p) := by
  rw [show (xs.map fun a => D.bl (p a)) = (xs.map p).map D.bl by rw [List.map_map]; rfl]; exact asBls_map _
theorem asInts_of {α : Type} (p : α → Int) (xs : List α) : asInts (xs.map fun a => D.int (p a)) = some (xs.map p) := by
  rw [show (xs.map fun a => D.int (p a)) = (xs.map p).map D.int by rw [List.map_map]; rfl]; exact asInts_map _
theorem all_id {α : Type} (p : α → Bool) (xs : List α) : (xs.map p).all id = xs.all p := by
  rw [List.all_map]; rfl
theorem any_id {α : Type} (p : α → Bool) (xs : List α) : (xs.map p).any id = xs.any p := by
  rw [List.any_map]; rfl
theorem nAll_of {α : Type} {p : α → Bool} {xs : List α} {Q : D → Prop} (h : Q (.bl (xs.all p))) : nAll [.lst (xs.map fun a => D.bl (p a))] Q := ⟨_, asBls_of p xs, by rw [all_id]; exact h⟩
theorem nAny_of {α : Type} {p : α → Bool} {xs : List α} {Q : D → Prop} (h : Q (.bl (xs.any p))) : nAny [.lst (xs.map fun a => D.bl (p a))] Q := ⟨_, asBls_of p xs, by rw [any_id]; exact h⟩
theorem nSum_of {α : Type} {p : α → Int} {xs : List α} {Q : D → Prop} (h : Q (.int (xs.map p).sum)) : nSum [.lst (xs.map fun a => D.int (p a))] Q := ⟨_, asInts_of p xs, h⟩
theorem nMaxL_of {α : Type} {p : α → Int} {xs : List α} {Q : D → Prop} (h0 : xs ≠ []) (h : ∀ a ∈ xs, (∀ b ∈ xs, p b ≤ p a) → Q (.int (p a))) : nMaxL [.lst (xs.map fun a => D.int (p a))] Q :=
  ⟨_, asInts_of p xs, by cases xs with
    | nil => exact absurd rfl h0
    | cons => simp, fun m hm hx => by
    obtain ⟨a, ha, rfl⟩ := List.mem_map.mp hm
    exact h a ha fun b hb => hx _ (List.mem_map_of_mem hb)⟩
theorem zipD_of {α β : Type} (f : α → D) (g : β → D) : ∀ (xs : List α) (ys : List β), zipD (xs.map f) (ys.map g) = (xs.zip ys).map fun p => D.tup [f p.1, g p.2]
  | [], _ => rfl
  | _ :: _, [] => rfl
  | x :: xs, y :: ys => by rw [List.map_cons, List.map_cons, zipD, zipD_of f g xs ys]; rfl
theorem dEq_bl {i j : Bool} {Q : D → Prop} : dEq (.bl i) (.bl j) Q = Q (.bl (i == j)) := by
  refine propext ⟨fun ⟨p, q, h1, h2, _, _, h⟩ => ?_, fun h => ⟨.bool i, .bool j, rfl, rfl, rfl, rfl, ?_⟩⟩
  · simp only [toPy, Option.some.injEq] at h1 h2; subst h1 h2
    exact h
  · exact h
/-! ### data that == tells apart -/
def Fa {α : Type} (emb : α → D) (k : Nat) : Prop := ∃ py : α → PyData, (∀ a, toPy (emb a) = some (py a)) ∧ (∀ a, (py a).canLay0 = true) ∧ (∀ a, (py a).depth ≤ k) ∧ ∀ a b, PyData.eqv (py a) (py b) = true ↔ a = b
theorem fa_int : Fa D.int 0 := ⟨PyData.int, fun _ => rfl, fun _ => rfl, fun _ => Nat.le_refl _, fun a b => by rw [PyData.eqv]; exact beq_iff_eq⟩
theorem fa_pair {α β : Type} {e : α → D} {f : β → D} {k : Nat} (h1 : Fa e k) (h2 : Fa f k) : Fa (fun p : α × β => D.tup [e p.1, f p.2]) (k + 1) := by
  obtain ⟨p, a1, a2, a3, a4⟩ := h1
  obtain ⟨q, b1, b2, b3, b4⟩ := h2
  refine ⟨fun x => .tuple [p x.1, q x.2], fun x => ?_, fun x => ?_, fun x => ?_, fun x y => ?_⟩
  · simp only [toPy, toPys, a1, b1, Option.map_some, Option.bind_some]
  · simp only [PyData.canLay0, PyData.canLayAll0, a2, b2, Bool.and_self]
  · have := a3 x.1
    have := b3 x.2
    simp only [PyData.depth, PyData.depthAll]; omega
  · simp only [PyData.eqv, PyData.eqvAll, Bool.and_true, Bool.and_eq_true, a4, b4]
    exact ⟨fun ⟨h1, h2⟩ => Prod.ext h1 h2, fun h => by subst h; exact ⟨rfl, rfl⟩⟩
theorem fa_all {α : Type} {e : α → D} {k : Nat} {p : α → PyData} (a1 : ∀ a, toPy (e a) = some (p a)) (a2 : ∀ a, (p a).canLay0 = true) (a3 : ∀ a, (p a).depth ≤ k) (a4 : ∀ a b, PyData.eqv (p a) (p b) = true ↔ a = b) :
    (∀ xs : List α, toPys (xs.map e) = some (xs.map p)) ∧ (∀ xs : List α, PyData.canLayAll0 (xs.map p) = true) ∧ (∀ xs : List α, PyData.depthAll (xs.map p) ≤ k) ∧ ∀ xs ys : List α, PyData.eqvAll (xs.map p) (ys.map p) = true ↔ xs = ys := by
  refine ⟨fun xs => ?_, fun xs => ?_, fun xs => ?_, fun xs => ?_⟩
  · induction xs with
    | nil => rfl
    | cons x xs ih => simp only [List.map_cons, toPys, a1, ih, Option.bind_some, Option.map_some]
  · induction xs with
    | nil => rfl
    | cons x xs ih => simp only [List.map_cons, PyData.canLayAll0, a2, ih, Bool.and_self]
  · induction xs with
    | nil => exact Nat.zero_le _
    | cons x xs ih =>
      have := a3 x
      simp only [List.map_cons, PyData.depthAll]; omega
  · induction xs with
    | nil => intro ys; cases ys <;> simp [PyData.eqvAll]
    | cons x xs ih =>
      intro ys
      cases ys with
      | nil => simp [PyData.eqvAll]
      | cons y ys => simp only [List.map_cons, PyData.eqvAll, Bool.and_eq_true, a4, ih ys, List.cons.injEq]
theorem fa_tup {α : Type} {e : α → D} {k : Nat} (h : Fa e k) : Fa (fun xs : List α => D.tup (xs.map e)) (k + 1) := by
  obtain ⟨p, a1, a2, a3, a4⟩ := h
  obtain ⟨b1, b2, b3, b4⟩ := fa_all a1 a2 a3 a4
  refine ⟨fun xs => .tuple (xs.map p), fun xs => ?_, fun xs => ?_, fun xs => ?_, fun xs ys => ?_⟩
  · simp only [toPy, b1, Option.map_some]
  · simp only [PyData.canLay0, b2]
  · have := b3 xs
    simp only [PyData.depth]; omega
  · rw [PyData.eqv]; exact b4 xs ys
theorem fa_lst {α : Type} {e : α → D} {k : Nat} (h : Fa e k) : Fa (fun xs : List α => D.lst (xs.map e)) (k + 1) := by
  obtain ⟨p, a1, a2, a3, a4⟩ := h
  obtain ⟨b1, b2, b3, b4⟩ := fa_all a1 a2 a3 a4
  refine ⟨fun xs => .list (xs.map p), fun xs => ?_, fun xs => ?_, fun xs => ?_, fun xs ys => ?_⟩
  · simp only [toPy, b1, Option.map_some]
  · simp only [PyData.canLay0, b2]
  · have := b3 xs
    simp only [PyData.depth]; omega
  · rw [PyData.eqv]; exact b4 xs ys
theorem shaped_of {d : PyData} {k : Nat} (h : d.canLay0 = true) (h2 : d.depth ≤ k) (hk : k ≤ 64) : SeqAt.shaped d = true := by
  unfold SeqAt.shaped; rw [h, decide_eq_true (Nat.le_trans h2 hk)]; rfl
theorem dEq_fa {α : Type} [DecidableEq α] {e : α → D} {k : Nat} (h : Fa e k) (hk : k ≤ 64) {a b : α} {Q : D → Prop} : dEq (e a) (e b) Q = Q (.bl (decide (a = b))) := by
  obtain ⟨p, a1, a2, a3, a4⟩ := h
  have e1 : PyData.eqv (p a) (p b) = decide (a = b) := by
    by_cases c : a = b
    · rw [decide_eq_true c]; exact (a4 a b).mpr c
    · rw [decide_eq_false c, ← Bool.not_eq_true]; exact fun z => c ((a4 a b).mp z)
  refine propext ⟨fun ⟨x, y, h1, h2, _, _, q⟩ => ?_, fun q => ⟨p a, p b, a1 a, a1 b, shaped_of (a2 a) (a3 a) hk, shaped_of (a2 b) (a3 b) hk, by rw [e1]; exact q⟩⟩
  rw [a1] at h1 h2; cases h1; cases h2
  rw [← e1]; exact q
theorem dNe_fa {α : Type} [DecidableEq α] {e : α → D} {k : Nat} (h : Fa e k) (hk : k ≤ 64) {a b : α} {Q : D → Prop} : dNe (e a) (e b) Q = Q (.bl (!decide (a = b))) := by
  obtain ⟨p, a1, a2, a3, a4⟩ := h
  have e1 : PyData.eqv (p a) (p b) = decide (a = b) := by
    by_cases c : a = b
    · rw [decide_eq_true c]; exact (a4 a b).mpr c
    · rw [decide_eq_false c, ← Bool.not_eq_true]; exact fun z => c ((a4 a b).mp z)
  refine propext ⟨fun ⟨x, y, h1, h2, _, _, q⟩ => ?_, fun q => ⟨p a, p b, a1 a, a1 b, shaped_of (a2 a) (a3 a) hk, shaped_of (a2 b) (a3 b) hk, by rw [e1]; exact q⟩⟩
  rw [a1] at h1 h2; cases h1; cases h2
  rw [← e1]; exact q
/-! slices -/
theorem sIx_some {n d : Nat} {v : Int} (h : 0 ≤ v) : HT.sIx n d (some v) = min v.toNat n := by
  show (if v < 0 then (v + (n : Int)).toNat else min v.toNat n) = _
  rw [if_neg (by omega)]
theorem cutD_to {xs : List D} {v : Int} (h : 0 ≤ v) : cutD xs none (some v) = xs.take v.toNat := by
  unfold cutD
  rw [HT.sIx_none, sIx_some h, List.drop_zero, Nat.sub_zero]
  by_cases c : v.toNat ≤ xs.length
  · rw [Nat.min_eq_left c]
  · rw [Nat.min_eq_right (by omega), List.take_length, List.take_of_length_le (by omega)]
theorem cutD_from {xs : List D} {v : Int} (h : 0 ≤ v) : cutD xs (some v) none = xs.drop v.toNat := by
  unfold cutD
  rw [HT.sIx_none, sIx_some h]
  by_cases c : v.toNat ≤ xs.length
  · rw [Nat.min_eq_left c, List.take_of_length_le (by simp)]
  · rw [Nat.min_eq_right (by omega), List.drop_length, List.drop_of_length_le (by omega)]; simp
/-! ### numbers of a script -/
def num1 (c : Int) : Int := if c < 0 then 1 - 2 * c else c
def num2 (c k : Int) : Int := (c * 48271 + k * 69621 + 7) % 2147483647 * 2147483563 + ((c * 48271 + k * 69621 + 7) % 2147483647 * 16807 + k * 40692 + 13) % 2147483563
def numFix (c k : Int) : Int := if num1 c < 1000000000 then num2 (num1 c) k else num1 c
def lawNum (ns : List Int) (k : Int) : Int := numFix (if k < ns.length then ns.getD k.toNat 0 else 104729 * k + 7919) k
theorem num1_nn (c : Int) : 0 ≤ num1 c := by unfold num1; split <;> omega
theorem num2_nn (c k : Int) : 0 ≤ num2 c k := by
  unfold num2
  have h1 := Int.emod_nonneg (c * 48271 + k * 69621 + 7) (show (2147483647 : Int) ≠ 0 by decide)
  have h2 := Int.emod_nonneg ((c * 48271 + k * 69621 + 7) % 2147483647 * 16807 + k * 40692 + 13) (show (2147483563 : Int) ≠ 0 by decide)
  omega
theorem numFix_nn (c k : Int) : 0 ≤ numFix c k := by
  unfold numFix
  split
  · exact num2_nn _ _
  · exact num1_nn _
theorem lawNum_nn (ns : List Int) (k : Int) : 0 ≤ lawNum ns k := numFix_nn _ _
/-! bit_length, range with a step, << -/
def qBits (d : D) (Q : Int → Prop) : Prop := match d with
  | .int i => Q i
  | _ => False
theorem rBits_q {m : RE} {env : En} {Q : D → En → Prop} : rBits m env Q = m env fun d e => qBits d fun i => Q (.int (Builtin.Int.intBits i : Nat)) e := by
  unfold rBits
  congr
theorem qBits_i {i : Int} {Q : Int → Prop} : qBits (.int i) Q = Q i := rfl
def qRg3 (ds : List D) (Q : Int → Int → Int → Prop) : Prop := match ds with
  | [.int i, .int j, .int k] => Q i j k
  | _ => False
theorem iRg3_q {m : RN} {env : En} {Q : List D → En → Prop} : iRg3 m env Q = m env fun ds e => qRg3 ds fun i j k => ∃ n, RgC i j k n ∧ Q (rangeC i k n) e := by
  unfold iRg3
  congr
theorem qRg3_i {i j k : Int} {Q : Int → Int → Int → Prop} : qRg3 [.int i, .int j, .int k] Q = Q i j k := rfl
theorem dShl_i {i j : Int} {Q : D → Prop} : dShl (.int i) (.int j) Q = (CShl i j ∧ Q (.int (i * 2 ^ j.toNat))) := rfl
end DL

/-! readings of sureplace_k34_papers_as_values, written by gen.py -/
namespace DL
open PySem PySem.Spec PyProof.Rows L2
def m_K_Held_init (cl : Nat → Addr) : RS :=
  (sSeq (sFldD (cl 0) 0 "moment" (rVar 1))
  (sSeq (sFldD (cl 0) 0 "cover" (rVar 2))
  (sFldD (cl 0) 0 "used" (rVar 3))))
def m_K_Held_eq (cl : Nat → Addr) : RS :=
  (sSeq (sIf (rNot (rTru (rCall (nIsiO (cl 0) [cl 0, cl 1, cl 2]) (rCons (rVarB 1) (rCons (rC (.cls (cl 0))) rNil))))) (sRet (rC (.bl false))) sNext)
  (sRet (rBin dEq (rTup (rCons (rFld "moment" (rVarB 0)) (rCons (rFld "cover" (rVarB 0)) (rCons (rFld "used" (rVarB 0)) rNil)))) (rTup (rCons (rFld "moment" (rVarB 1)) (rCons (rFld "cover" (rVarB 1)) (rCons (rFld "used" (rVarB 1)) rNil)))))))
def m_K_Known_init (cl : Nat → Addr) : RS :=
  (sSeq (sFldD (cl 1) 0 "moment" (rVar 1))
  (sSeq (sFldD (cl 1) 0 "cover" (rVar 2))
  (sFldD (cl 1) 0 "tree" (rVar 3))))
def m_K_Known_eq (cl : Nat → Addr) : RS :=
  (sSeq (sIf (rNot (rTru (rCall (nIsiO (cl 1) [cl 0, cl 1, cl 2]) (rCons (rVarB 1) (rCons (rC (.cls (cl 1))) rNil))))) (sRet (rC (.bl false))) sNext)
  (sRet (rBin dEq (rTup (rCons (rFld "moment" (rVarB 0)) (rCons (rFld "cover" (rVarB 0)) (rCons (rFld "tree" (rVarB 0)) rNil)))) (rTup (rCons (rFld "moment" (rVarB 1)) (rCons (rFld "cover" (rVarB 1)) (rCons (rFld "tree" (rVarB 1)) rNil)))))))
def m_K_Paper_init (cl : Nat → Addr) : RS :=
  (sSeq (sFldD (cl 2) 0 "known" (rVar 1))
  (sSeq (sFldD (cl 2) 0 "trees" (rVar 2))
  (sFldD (cl 2) 0 "steps" (rVar 3))))
def m_K_Paper_eq (cl : Nat → Addr) : RS :=
  (sSeq (sIf (rNot (rTru (rCall (nIsiO (cl 2) [cl 0, cl 1, cl 2]) (rCons (rVarB 1) (rCons (rC (.cls (cl 2))) rNil))))) (sRet (rC (.bl false))) sNext)
  (sRet (rBin (dEqT [(cl 1, runD 2 (m_K_Known_eq cl))]) (rTup (rCons (rFld "known" (rVarB 0)) (rCons (rFld "trees" (rVarB 0)) (rCons (rFld "steps" (rVarB 0)) rNil)))) (rTup (rCons (rFld "known" (rVarB 1)) (rCons (rFld "trees" (rVarB 1)) (rCons (rFld "steps" (rVarB 1)) rNil)))))))
def m__law_number : RS :=
  (sSeq (sSet 2 (rBin dAdd (rBin dMul (rC (.int 104729)) (rVarB 1)) (rC (.int 7919))))
  (sSeq (sIf (rTest (rBin dLt (rVarB 1) (rCall nLen (rCons (rVarB 0) rNil)))) (sSet 2 (rCall nInt (rCons (rBin dIx (rVarB 0) (rVarB 1)) rNil))) sNext)
  (sSeq (sIf (rTest (rBin dLt (rVarB 2) (rC (.int 0)))) (sSet 2 (rBin dSub (rC (.int 1)) (rBin dMul (rC (.int 2)) (rVarB 2)))) sNext)
  (sSeq (sIf (rTest (rBin dLt (rVarB 2) (rC (.int 1000000000)))) (sSeq (sSet 3 (rBin dMod (rCall nInt (rCons (rBin dAdd (rBin dAdd (rBin dMul (rVarB 2) (rC (.int 48271))) (rBin dMul (rVarB 1) (rC (.int 69621)))) (rC (.int 7))) rNil)) (rC (.int 2147483647))))
  (sSeq (sSet 4 (rBin dMod (rCall nInt (rCons (rBin dAdd (rBin dAdd (rBin dMul (rVarB 3) (rC (.int 16807))) (rBin dMul (rVarB 1) (rC (.int 40692)))) (rC (.int 13))) rNil)) (rC (.int 2147483563))))
  (sSet 2 (rBin dAdd (rBin dMul (rVarB 3) (rC (.int 2147483563))) (rVarB 4))))) sNext)
  (sRet (rVar 2))))))
def m__law_near : RS :=
  (sSeq (sSet 1 (rBin dMod (rCall nInt (rCons (rVarB 0) rNil)) (rC (.int 9))))
  (sSeq (sSet 2 (rBin dDiv (rVarB 0) (rC (.int 9))))
  (sSeq (sIf (rTest (rBin dEq (rVarB 1) (rC (.int 0)))) (sRet (rBin dSub (rBin dMod (rCall nInt (rCons (rVarB 2) rNil)) (rC (.int 2000000000001))) (rC (.int 1000000000000)))) sNext)
  (sSeq (sIf (rTest (rBin dLt (rVarB 1) (rC (.int 3)))) (sRet (rBin dSub (rBin dMod (rCall nInt (rCons (rVarB 2) rNil)) (rC (.int 2001))) (rC (.int 1000)))) sNext)
  (sRet (rBin dSub (rBin dMod (rCall nInt (rCons (rVarB 2) rNil)) (rC (.int 41))) (rC (.int 20))))))))
def m__law_length : RS :=
  (sSeq (sSet 1 (rBin dMod (rCall nInt (rCons (rVarB 0) rNil)) (rC (.int 7))))
  (sSeq (sSet 2 (rBin dDiv (rVarB 0) (rC (.int 7))))
  (sSeq (sIf (rTest (rBin dEq (rVarB 1) (rC (.int 0)))) (sRet (rC (.int 0))) sNext)
  (sSeq (sIf (rTest (rBin dEq (rVarB 1) (rC (.int 1)))) (sRet (rBin dMod (rCall nInt (rCons (rVarB 2) rNil)) (rC (.int 1000000000)))) sNext)
  (sRet (rBin dMod (rCall nInt (rCons (rVarB 2) rNil)) (rC (.int 13))))))))
def m__law_box : RS :=
  (sSeq (sSetN 3 (rLst rNil))
  (sSeq (sFor (iRg1 (rCons (rVar 2) rNil)) (gNm 4)
  (sSeq (sSet 5 (rUser (runD 3 m__law_near) [] 1 (rCons (rUser (runD 5 m__law_number) [] 2 (rCons (rVar 0) (rCons (rBin dAdd (rVarB 1) (rBin dMul (rC (.int 2)) (rVarB 4))) rNil))) rNil)))
  (sApp 3 (rTup (rCons (rVar 5) (rCons (rBin dAdd (rVarB 5) (rUser (runD 3 m__law_length) [] 1 (rCons (rUser (runD 5 m__law_number) [] 2 (rCons (rVar 0) (rCons (rBin dAdd (rBin dAdd (rVarB 1) (rBin dMul (rC (.int 2)) (rVarB 4))) (rC (.int 1))) rNil))) rNil))) rNil))))))
  (sRet (rCall nTuple (rCons (rVarB 3) rNil)))))
def m__law_truth : RS :=
  (sRet (rAndV (rCall nIsiB (rCons (rVarB 0) (rCons (rC (.ty "bool")) rNil))) (rBin dEq (rVarB 0) (rVarB 1))))
def m_law_1 (cl : Nat → Addr) : RS :=
  (sSet 1 (rUser (runD 5 m__law_number) [] 2 (rCons (rVar 0) (rCons (rC (.int 0)) rNil))))
def m_law_2 (cl : Nat → Addr) : RS :=
  (sSet 2 (rUser (runD 3 m__law_near) [] 1 (rCons (rVar 1) rNil)))
def m_law_3 (cl : Nat → Addr) : RS :=
  (sSet 3 (rSl (rTup (rCons (rUser (runD 6 m__law_box) [] 3 (rCons (rVar 0) (rCons (rC (.int 1)) (rCons (rC (.int 3)) rNil)))) (rCons (rUser (runD 6 m__law_box) [] 3 (rCons (rVar 0) (rCons (rC (.int 7)) (rCons (rC (.int 3)) rNil)))) rNil))) roNone (roSome (rBin dMod (rCall nInt (rCons (rBin dDiv (rVarB 1) (rC (.int 9))) rNil)) (rC (.int 3))))))
def m_law_4 (cl : Nat → Addr) : RS :=
  (sSet 4 (rTup (rCons (rTup (rCons (rC (.str (PySem.Str.ofString "cut"))) (rCons (rBin dMod (rCall nInt (rCons (rBin dDiv (rVarB 1) (rC (.int 27))) rNil)) (rC (.int 3))) (rCons (rVar 2) rNil)))) (rCons (rTup (rCons (rC (.str (PySem.Str.ofString "reading"))) (rCons (rC (.int 5)) rNil))) (rCons (rTup (rCons (rC (.str (PySem.Str.ofString "kept"))) (rCons (rBin dMod (rCall nInt (rCons (rBin dDiv (rVarB 1) (rC (.int 81))) rNil)) (rC (.int 4))) rNil))) rNil)))))
def m_law_5 (cl : Nat → Addr) : RS :=
  (sSet 5 (rSl (rTup (rCons (rC (.str (PySem.Str.ofString "a"))) (rCons (rC (.str (PySem.Str.ofString "b"))) (rCons (rC (.str (PySem.Str.ofString "c"))) rNil)))) roNone (roSome (rBin dMod (rCall nInt (rCons (rBin dDiv (rVarB 1) (rC (.int 324))) rNil)) (rC (.int 4))))))
def m_law_6 (cl : Nat → Addr) : RS :=
  (sSet 6 (rUser (mkD (cl 1) ["moment", "cover", "tree"] 4 (m_K_Known_init cl)) [] 3 (rCons (rVar 2) (rCons (rVar 3) (rCons (rVar 4) rNil)))))
def m_law_7 (cl : Nat → Addr) : RS :=
  (sSet 7 (rUser (mkD (cl 0) ["moment", "cover", "used"] 4 (m_K_Held_init cl)) [] 3 (rCons (rVar 2) (rCons (rVar 3) (rCons (rVar 5) rNil)))))
def m_law_8 (cl : Nat → Addr) : RS :=
  (sSet 8 (rTup (rCons (rTup (rCons (rBin dMod (rCall nInt (rCons (rBin dDiv (rVarB 1) (rC (.int 1296))) rNil)) (rC (.int 5))) (rCons (rTup (rCons (rC (.int 1)) (rCons (rC (.int 2)) rNil))) rNil))) (rCons (rTup (rCons (rC (.int 0)) (rCons (rTup rNil) rNil))) rNil))))
def m_law_9 (cl : Nat → Addr) : RS :=
  (sSet 9 (rUser (mkD (cl 2) ["known", "trees", "steps"] 4 (m_K_Paper_init cl)) [] 3 (rCons (rTup (rCons (rVar 6) rNil)) (rCons (rTup (rCons (rVar 4) (rCons (rSl (rVarB 4) (roSome (rC (.int 1))) roNone) rNil))) (rCons (rVar 8) rNil)))))
def m_law_10 (cl : Nat → Addr) : RS :=
  (sIf (rOr (rTest (rBin dNe (rFld "moment" (rVarB 6)) (rVarB 2))) (rOr (rTest (rBin dNe (rFld "cover" (rVarB 6)) (rVarB 3))) (rTest (rBin dNe (rFld "tree" (rVarB 6)) (rVarB 4))))) (sRet (rC (.bl false))) sNext)
def m_law_11 (cl : Nat → Addr) : RS :=
  (sIf (rOr (rTest (rBin dNe (rFld "moment" (rVarB 7)) (rVarB 2))) (rOr (rTest (rBin dNe (rFld "cover" (rVarB 7)) (rVarB 3))) (rTest (rBin dNe (rFld "used" (rVarB 7)) (rVarB 5))))) (sRet (rC (.bl false))) sNext)
def m_law_12 (cl : Nat → Addr) : RS :=
  (sIf (rOr (rTest (rBin (dNeT [(cl 1, runD 2 (m_K_Known_eq cl))]) (rFld "known" (rVarB 9)) (rTup (rCons (rVar 6) rNil)))) (rOr (rTest (rBin dNe (rFld "trees" (rVarB 9)) (rTup (rCons (rVar 4) (rCons (rSl (rVarB 4) (roSome (rC (.int 1))) roNone) rNil))))) (rTest (rBin dNe (rFld "steps" (rVarB 9)) (rVarB 8))))) (sRet (rC (.bl false))) sNext)
def m_law_13 (cl : Nat → Addr) : RS :=
  (sSet 10 (rFz (rLst (rCons (rTup (rCons (rVar 6) (rCons (rUser (mkD (cl 1) ["moment", "cover", "tree"] 4 (m_K_Known_init cl)) [] 3 (rCons (rVar 2) (rCons (rVar 3) (rCons (rVar 4) rNil)))) (rCons (rC (.bl true)) rNil)))) (rCons (rTup (rCons (rVar 6) (rCons (rUser (mkD (cl 1) ["moment", "cover", "tree"] 4 (m_K_Known_init cl)) [] 3 (rCons (rBin dAdd (rVarB 2) (rC (.int 1))) (rCons (rVar 3) (rCons (rVar 4) rNil)))) (rCons (rC (.bl false)) rNil)))) rNil)))))
def m_law_14 (cl : Nat → Addr) : RS :=
  (sSet 10 (rBin dAdd (rVarB 10) (rFz (rLst (rCons (rTup (rCons (rVar 6) (rCons (rUser (mkD (cl 1) ["moment", "cover", "tree"] 4 (m_K_Known_init cl)) [] 3 (rCons (rVar 2) (rCons (rBin dAdd (rBin dAdd (rVarB 3) (rSl (rVarB 3) roNone (roSome (rC (.int 1))))) (rTup (rCons (rTup (rCons (rTup (rCons (rC (.int 0)) (rCons (rC (.int 0)) rNil))) rNil)) rNil))) (rCons (rVar 4) rNil)))) (rCons (rC (.bl false)) rNil)))) rNil)))))
def m_law_15 (cl : Nat → Addr) : RS :=
  (sSet 10 (rBin dAdd (rVarB 10) (rFz (rLst (rCons (rTup (rCons (rVar 6) (rCons (rUser (mkD (cl 1) ["moment", "cover", "tree"] 4 (m_K_Known_init cl)) [] 3 (rCons (rVar 2) (rCons (rVar 3) (rCons (rSl (rVarB 4) roNone (roSome (rNeg (rC (.int 1))))) rNil)))) (rCons (rC (.bl false)) rNil)))) (rCons (rTup (rCons (rVar 6) (rCons (rVar 7) (rCons (rC (.bl false)) rNil)))) rNil))))))
def m_law_16 (cl : Nat → Addr) : RS :=
  (sSet 10 (rBin dAdd (rVarB 10) (rFz (rLst (rCons (rTup (rCons (rVar 7) (rCons (rUser (mkD (cl 0) ["moment", "cover", "used"] 4 (m_K_Held_init cl)) [] 3 (rCons (rVar 2) (rCons (rVar 3) (rCons (rVar 5) rNil)))) (rCons (rC (.bl true)) rNil)))) (rCons (rTup (rCons (rVar 7) (rCons (rUser (mkD (cl 0) ["moment", "cover", "used"] 4 (m_K_Held_init cl)) [] 3 (rCons (rBin dSub (rVarB 2) (rC (.int 1))) (rCons (rVar 3) (rCons (rVar 5) rNil)))) (rCons (rC (.bl false)) rNil)))) rNil))))))
def m_law_17 (cl : Nat → Addr) : RS :=
  (sSet 10 (rBin dAdd (rVarB 10) (rFz (rLst (rCons (rTup (rCons (rVar 7) (rCons (rUser (mkD (cl 0) ["moment", "cover", "used"] 4 (m_K_Held_init cl)) [] 3 (rCons (rVar 2) (rCons (rVar 3) (rCons (rBin dAdd (rVarB 5) (rTup (rCons (rC (.str (PySem.Str.ofString "z"))) rNil))) rNil)))) (rCons (rC (.bl false)) rNil)))) (rCons (rTup (rCons (rVar 7) (rCons (rUser (mkD (cl 0) ["moment", "cover", "used"] 4 (m_K_Held_init cl)) [] 3 (rCons (rVar 2) (rCons (rBin dAdd (rSl (rVarB 3) roNone (roSome (rNeg (rC (.int 1))))) (rTup (rCons (rTup rNil) rNil))) (rCons (rVar 5) rNil)))) (rCons (rC (.bl false)) rNil)))) rNil))))))
def m_law_18 (cl : Nat → Addr) : RS :=
  (sSet 10 (rBin dAdd (rVarB 10) (rFz (rLst (rCons (rTup (rCons (rVar 9) (rCons (rUser (mkD (cl 2) ["known", "trees", "steps"] 4 (m_K_Paper_init cl)) [] 3 (rCons (rTup (rCons (rUser (mkD (cl 1) ["moment", "cover", "tree"] 4 (m_K_Known_init cl)) [] 3 (rCons (rVar 2) (rCons (rVar 3) (rCons (rVar 4) rNil)))) rNil)) (rCons (rTup (rCons (rVar 4) (rCons (rSl (rVarB 4) (roSome (rC (.int 1))) roNone) rNil))) (rCons (rVar 8) rNil)))) (rCons (rC (.bl true)) rNil)))) rNil)))))
def m_law_19 (cl : Nat → Addr) : RS :=
  (sSet 10 (rBin dAdd (rVarB 10) (rFz (rLst (rCons (rTup (rCons (rVar 9) (rCons (rUser (mkD (cl 2) ["known", "trees", "steps"] 4 (m_K_Paper_init cl)) [] 3 (rCons (rTup rNil) (rCons (rTup (rCons (rVar 4) (rCons (rSl (rVarB 4) (roSome (rC (.int 1))) roNone) rNil))) (rCons (rVar 8) rNil)))) (rCons (rC (.bl false)) rNil)))) (rCons (rTup (rCons (rVar 9) (rCons (rUser (mkD (cl 2) ["known", "trees", "steps"] 4 (m_K_Paper_init cl)) [] 3 (rCons (rTup (rCons (rVar 6) rNil)) (rCons (rTup (rCons (rVar 4) rNil)) (rCons (rVar 8) rNil)))) (rCons (rC (.bl false)) rNil)))) rNil))))))
def m_law_20 (cl : Nat → Addr) : RS :=
  (sSet 10 (rBin dAdd (rVarB 10) (rFz (rLst (rCons (rTup (rCons (rVar 9) (rCons (rUser (mkD (cl 2) ["known", "trees", "steps"] 4 (m_K_Paper_init cl)) [] 3 (rCons (rTup (rCons (rVar 6) rNil)) (rCons (rTup (rCons (rVar 4) (rCons (rSl (rVarB 4) (roSome (rC (.int 1))) roNone) rNil))) (rCons (rSl (rVarB 8) roNone (roSome (rC (.int 1)))) rNil)))) (rCons (rC (.bl false)) rNil)))) (rCons (rTup (rCons (rVar 9) (rCons (rVar 6) (rCons (rC (.bl false)) rNil)))) rNil))))))
def m_law_21 (cl : Nat → Addr) : RS :=
  (sSet 10 (rBin dAdd (rVarB 10) (rFz (rLst (rCons (rTup (rCons (rVar 6) (rCons (rTup (rCons (rVar 2) (rCons (rVar 3) (rCons (rVar 4) rNil)))) (rCons (rC (.bl false)) rNil)))) (rCons (rTup (rCons (rVar 7) (rCons (rC .non) (rCons (rC (.bl false)) rNil)))) (rCons (rTup (rCons (rVar 9) (rCons (rTup (rCons (rTup (rCons (rVar 6) rNil)) (rCons (rVar 4) (rCons (rVar 8) rNil)))) (rCons (rC (.bl false)) rNil)))) rNil)))))))
def m_law_22b_1 (cl : Nat → Addr) : RS :=
  (sIf (rOr (rNot (rTru (rUser (runD 2 m__law_truth) [] 2 (rCons (rBin (dEqI [(cl 0, runD 2 (m_K_Held_eq cl)), (cl 1, runD 2 (m_K_Known_eq cl)), (cl 2, runD 2 (m_K_Paper_eq cl))] [cl 0, cl 1, cl 2]) (rBin dIx (rVarB 11) (rC (.int 0))) (rBin dIx (rVarB 11) (rC (.int 1)))) (rCons (rBin dIx (rVarB 11) (rC (.int 2))) rNil))))) (rNot (rTru (rUser (runD 2 m__law_truth) [] 2 (rCons (rBin (dNeI [(cl 0, runD 2 (m_K_Held_eq cl)), (cl 1, runD 2 (m_K_Known_eq cl)), (cl 2, runD 2 (m_K_Paper_eq cl))] [cl 0, cl 1, cl 2]) (rBin dIx (rVarB 11) (rC (.int 0))) (rBin dIx (rVarB 11) (rC (.int 1)))) (rCons (rNotV (rBin dIx (rVarB 11) (rC (.int 2)))) rNil)))))) (sRet (rC (.bl false))) sNext)
def m_law_22b (cl : Nat → Addr) : RS :=
  (m_law_22b_1 cl)
def m_law_22 (cl : Nat → Addr) : RS :=
  (sFor (iSeq (rVar 10)) (gNm 11)
  (m_law_22b cl))
def m_law_23 (cl : Nat → Addr) : RS :=
  (sRet (rC (.bl true)))
def m_law (cl : Nat → Addr) : RS :=
  (sSeq (m_law_1 cl)
  (sSeq (m_law_2 cl)
  (sSeq (m_law_3 cl)
  (sSeq (m_law_4 cl)
  (sSeq (m_law_5 cl)
  (sSeq (m_law_6 cl)
  (sSeq (m_law_7 cl)
  (sSeq (m_law_8 cl)
  (sSeq (m_law_9 cl)
  (sSeq (m_law_10 cl)
  (sSeq (m_law_11 cl)
  (sSeq (m_law_12 cl)
  (sSeq (m_law_13 cl)
  (sSeq (m_law_14 cl)
  (sSeq (m_law_15 cl)
  (sSeq (m_law_16 cl)
  (sSeq (m_law_17 cl)
  (sSeq (m_law_18 cl)
  (sSeq (m_law_19 cl)
  (sSeq (m_law_20 cl)
  (sSeq (m_law_21 cl)
  (sSeq (m_law_22 cl)
  (m_law_23 cl)))))))))))))))))))))))
theorem f_Held_moment {C : Addr} {x0 x1 x2 : D} {Q : D → Prop} : qFld (.ins C ["moment", "cover", "used"] [x0, x1, x2]) "moment" Q = Q x0 := q_of fld_eq
theorem n_Held_moment {P : Prop} : ((([] : List Str).contains "moment" = false) ∧ P) = P := and_t (by decide +kernel)
theorem l_Held_moment {P : Prop} : (0 < 900 ∧ P) = P := and_t (by decide)
theorem f_Held_cover {C : Addr} {x0 x1 x2 : D} {Q : D → Prop} : qFld (.ins C ["moment", "cover", "used"] [x0, x1, x2]) "cover" Q = Q x1 := q_of ((fld_ne (by decide +kernel)).trans fld_eq)
theorem n_Held_cover {P : Prop} : (((["moment"] : List Str).contains "cover" = false) ∧ P) = P := and_t (by decide +kernel)
theorem l_Held_cover {P : Prop} : (0 + 1 < 900 ∧ P) = P := and_t (by decide)
theorem f_Held_used {C : Addr} {x0 x1 x2 : D} {Q : D → Prop} : qFld (.ins C ["moment", "cover", "used"] [x0, x1, x2]) "used" Q = Q x2 := q_of ((fld_ne (by decide +kernel)).trans ((fld_ne (by decide +kernel)).trans fld_eq))
theorem n_Held_used {P : Prop} : (((["moment", "cover"] : List Str).contains "used" = false) ∧ P) = P := and_t (by decide +kernel)
theorem l_Held_used {P : Prop} : (0 + 1 + 1 < 900 ∧ P) = P := and_t (by decide)
theorem f_Known_moment {C : Addr} {x0 x1 x2 : D} {Q : D → Prop} : qFld (.ins C ["moment", "cover", "tree"] [x0, x1, x2]) "moment" Q = Q x0 := q_of fld_eq
theorem n_Known_moment {P : Prop} : ((([] : List Str).contains "moment" = false) ∧ P) = P := and_t (by decide +kernel)
theorem l_Known_moment {P : Prop} : (0 < 900 ∧ P) = P := and_t (by decide)
theorem f_Known_cover {C : Addr} {x0 x1 x2 : D} {Q : D → Prop} : qFld (.ins C ["moment", "cover", "tree"] [x0, x1, x2]) "cover" Q = Q x1 := q_of ((fld_ne (by decide +kernel)).trans fld_eq)
theorem n_Known_cover {P : Prop} : (((["moment"] : List Str).contains "cover" = false) ∧ P) = P := and_t (by decide +kernel)
theorem l_Known_cover {P : Prop} : (0 + 1 < 900 ∧ P) = P := and_t (by decide)
theorem f_Known_tree {C : Addr} {x0 x1 x2 : D} {Q : D → Prop} : qFld (.ins C ["moment", "cover", "tree"] [x0, x1, x2]) "tree" Q = Q x2 := q_of ((fld_ne (by decide +kernel)).trans ((fld_ne (by decide +kernel)).trans fld_eq))
theorem n_Known_tree {P : Prop} : (((["moment", "cover"] : List Str).contains "tree" = false) ∧ P) = P := and_t (by decide +kernel)
theorem l_Known_tree {P : Prop} : (0 + 1 + 1 < 900 ∧ P) = P := and_t (by decide)
theorem f_Paper_known {C : Addr} {x0 x1 x2 : D} {Q : D → Prop} : qFld (.ins C ["known", "trees", "steps"] [x0, x1, x2]) "known" Q = Q x0 := q_of fld_eq
theorem n_Paper_known {P : Prop} : ((([] : List Str).contains "known" = false) ∧ P) = P := and_t (by decide +kernel)
theorem l_Paper_known {P : Prop} : (0 < 900 ∧ P) = P := and_t (by decide)
theorem f_Paper_trees {C : Addr} {x0 x1 x2 : D} {Q : D → Prop} : qFld (.ins C ["known", "trees", "steps"] [x0, x1, x2]) "trees" Q = Q x1 := q_of ((fld_ne (by decide +kernel)).trans fld_eq)
theorem n_Paper_trees {P : Prop} : (((["known"] : List Str).contains "trees" = false) ∧ P) = P := and_t (by decide +kernel)
theorem l_Paper_trees {P : Prop} : (0 + 1 < 900 ∧ P) = P := and_t (by decide)
theorem f_Paper_steps {C : Addr} {x0 x1 x2 : D} {Q : D → Prop} : qFld (.ins C ["known", "trees", "steps"] [x0, x1, x2]) "steps" Q = Q x2 := q_of ((fld_ne (by decide +kernel)).trans ((fld_ne (by decide +kernel)).trans fld_eq))
theorem n_Paper_steps {P : Prop} : (((["known", "trees"] : List Str).contains "steps" = false) ∧ P) = P := and_t (by decide +kernel)
theorem l_Paper_steps {P : Prop} : (0 + 1 + 1 < 900 ∧ P) = P := and_t (by decide)
-- extra: rJoined, jCons, jNil, rFmt, rPad, rJoin, qStr_s, qFmt_s, qFmt_i, qPad_si, dMulT_t, dIsB_b, rRepN, qRepN_li, rCatN, qCatN_l, iEnumA, qEnumA_l, qEnumA_t, rTupRg, qTupRg_i, rMakeK, rInK, rInN, sRetO, sSeqN, sSeqV, rUserV, rOwnV, uSeq, uNext, uPure, uSet, uSetN, uExpr, uRet, uRetN, uRetV, uIf, uFor, uBreak, uCont, uFld, uApp, vPure, vView, vPureT, vViewT, vNew, vCell, vFld, vIx, vNil, vCons, vCall, vMeth, vMake, vSeq, vRg1, vRg2, rIdx, isLst_l, noM, noMs, putE_nil, putE_one, resE_nil, resE_one, resS_v, flat, rUserN, rUserL, sPop, sPop1, sIns, rChain3, sNo, rNo, rBits_q, qBits_i, iRg3_q, qRg3_i, dShl_i, f_Held_moment, n_Held_moment, l_Held_moment, f_Held_cover, n_Held_cover, l_Held_cover, f_Held_used, n_Held_used, l_Held_used, f_Known_moment, n_Known_moment, l_Known_moment, f_Known_cover, n_Known_cover, l_Known_cover, f_Known_tree, n_Known_tree, l_Known_tree, f_Paper_known, n_Paper_known, l_Paper_known, f_Paper_trees, n_Paper_trees, l_Paper_trees, f_Paper_steps, n_Paper_steps, l_Paper_steps
-- classes: Held=0 Known=1 Paper=2
end DL

namespace DL
open PySem PySem.Spec PyProof.Rows L2
local macro_rules | `(tactic| walk_at "xd") => `(tactic| simp (config := { failIfUnchanged := false }) only [sSeq, sSet, sSetN, sIf, sRet, sRetN, sExpr, sNext, sFor, sApp, sAsg, sBreak, sCont, ownAt_q, qOwn_o, rBin, rC, rVar_q, qVar_v, qVar_o, rVarB_q, qVarB_v, qVarB_o, eg, es, rTest, rChain, rTru, rNot, rAnd, rOr, rAndV, rOrV, rNotV, rIf, rNil, rCons, rTup, rLst, rFz, rCall, rCallN, rNeg_q, qNeg_i, rSl, roNone, roSome_q, qSome_i,
  dEq_int, dNe_int, dEq_bl, isi_int_int, isi_int_bool, isi_int_str, isi_int_tuple, isi_int_list, isi_bl_int, isi_bl_bool, isi_bl_str, isi_bl_tuple, isi_bl_list, isi_str_int, isi_str_bool, isi_str_str, isi_str_tuple, isi_str_list, isi_tup_int, isi_tup_bool, isi_tup_str, isi_tup_tuple, isi_tup_list, isi_lst_int, isi_lst_bool, isi_lst_str, isi_lst_tuple, isi_lst_list, isi_non_int, isi_non_bool, isi_non_str, isi_non_tuple, isi_non_list, List.map, List.length_cons, List.length_nil, List.length_map, List.replicate, List.cons_append, List.nil_append, gNm, gsNil, iRg1_q, qRg1_i, iRg2_q, qRg2_i, iZipD_q, qZip_l, qZip_t, iZipX, qZipA_ll, qZipA_tt, qZipA_lt, iEnumD_q, qEnum_l, inR_lit, zipD_of, iSeq, rUser, rUserB,
  dAdd_i, dAdd_ib, dAdd_s, dAdd_t, dAdd_l, dSub_i, dMul_i, dDiv_i, dMod_i, dRel_i, dTr_non, dTr_bl, dTr_int, dTr_tup, dTr_lst, nInt_i, nInt_b, nLen_t, nLen_l, nLen_c, nLen_s, nTuple_t, nTuple_l, nList_t, nList_l, nListN_t, nListN_l, nAbs_i, nMax2_i, nMax3_i, nMax5_i, rFld, sFldD, qObj_o, rRevN, qRevN_l, nMin2_i, dSeq_t, dSeq_l, dSeq_c, dSeq_s, dSl_t, dSl_l, dSl_s, gTp_t, gsCons_c, dIs_nn, dIsNot_nn, dIs_bl, dIsNot_bl, dIs_int, dIsNot_int, dIs_str, dIsNot_str, dIs_tup, dIsNot_tup, dIs_lst, dIsNot_lst, dIs_ins, dIsNot_ins, cast_0, cast_1, cast_2, cast_3, cast_4, cast_5, cast_6, cast_7, cast_8, decide_true, decide_false, sSetIx_q, qSet_i, sAug_q, qAug_i, sz_lit, mulOk_lt, mulOk_rt, cdiv_lt, ex_bl, ex_some, if_dec, true_and, and_true, Int.reduceLT, Int.reduceNeg, Int.reduceLE, Int.reduceEq, Int.reduceSub, Int.reduceAdd, Int.reduceMul, Nat.reduceAdd, Nat.reduceSub, Nat.reduceMul, Nat.reduceLeDiff, if_true, if_false, Bool.not_true, Bool.not_false, ite_true, ite_false, reduceIte, Bool.false_eq_true, reduceCtorEq,
  ix_t0, ix_t1, ix_t2, ix_t3, ix_l0, ix_l1, ix_l2, ix_l3, rLc, rYes, noOwn_nil, noOwn_cons, frzE, frz1, wipeE, ne_eq, not_false_eq_true, implies_true, Nat.reduceLT, rJoined, jCons, jNil, rFmt, rPad, rJoin, qStr_s, qFmt_s, qFmt_i, qPad_si, dMulT_t, dIsB_b, rRepN, qRepN_li, rCatN, qCatN_l, iEnumA, qEnumA_l, qEnumA_t, rTupRg, qTupRg_i, rMakeK, rInK, rInN, sRetO, sSeqN, sSeqV, rUserV, rOwnV, uSeq, uNext, uPure, uSet, uSetN, uExpr, uRet, uRetN, uRetV, uIf, uFor, uBreak, uCont, uFld, uApp, vPure, vView, vPureT, vViewT, vNew, vCell, vFld, vIx, vNil, vCons, vCall, vMeth, vMake, vSeq, vRg1, vRg2, rIdx, isLst_l, noM, noMs, putE_nil, putE_one, resE_nil, resE_one, resS_v, flat, rUserN, rUserL, sPop, sPop1, sIns, rChain3, sNo, rNo, rBits_q, qBits_i, iRg3_q, qRg3_i, dShl_i, f_Held_moment, n_Held_moment, l_Held_moment, f_Held_cover, n_Held_cover, l_Held_cover, f_Held_used, n_Held_used, l_Held_used, f_Known_moment, n_Known_moment, l_Known_moment, f_Known_cover, n_Known_cover, l_Known_cover, f_Known_tree, n_Known_tree, l_Known_tree, f_Paper_known, n_Paper_known, l_Paper_known, f_Paper_trees, n_Paper_trees, l_Paper_trees, f_Paper_steps, n_Paper_steps, l_Paper_steps])
local macro_rules | `(tactic| walk_at "xs") => `(tactic| simp (config := { failIfUnchanged := false }) only [sSeq, sSet, sSetN, sIf, sRet, sRetN, sExpr, sNext, sFor, sApp, sAsg, sBreak, sCont, ownAt_q, qOwn_o, rBin, rC, rVar_q, qVar_v, qVar_o, rVarB_q, qVarB_v, qVarB_o, eg, es, rTest, rChain, rTru, rNot, rAnd, rOr, rAndV, rOrV, rNotV, rIf, rNil, rCons, rTup, rLst, rFz, rCall, rCallN, rNeg_q, qNeg_i, rSl, roNone, roSome_q, qSome_i,
  dEq_int, dNe_int, dEq_bl, isi_int_int, isi_int_bool, isi_int_str, isi_int_tuple, isi_int_list, isi_bl_int, isi_bl_bool, isi_bl_str, isi_bl_tuple, isi_bl_list, isi_str_int, isi_str_bool, isi_str_str, isi_str_tuple, isi_str_list, isi_tup_int, isi_tup_bool, isi_tup_str, isi_tup_tuple, isi_tup_list, isi_lst_int, isi_lst_bool, isi_lst_str, isi_lst_tuple, isi_lst_list, isi_non_int, isi_non_bool, isi_non_str, isi_non_tuple, isi_non_list, List.map, List.length_cons, List.length_nil, List.length_map, List.replicate, List.cons_append, List.nil_append, gNm, gsNil, iRg1_q, qRg1_i, iRg2_q, qRg2_i, iZipD_q, qZip_l, qZip_t, iZipX, qZipA_ll, qZipA_tt, qZipA_lt, iEnumD_q, qEnum_l, inR_lit, zipD_of, iSeq, rUser, rUserB,
  dAdd_i, dAdd_ib, dAdd_s, dAdd_t, dAdd_l, dSub_i, dMul_i, dDiv_i, dMod_i, dRel_i, dTr_non, dTr_bl, dTr_int, dTr_tup, dTr_lst, nInt_i, nInt_b, nLen_t, nLen_l, nLen_c, nLen_s, nTuple_t, nTuple_l, nList_t, nList_l, nListN_t, nListN_l, nAbs_i, nMax2_i, nMax3_i, nMax5_i, rFld, sFldD, qObj_o, rRevN, qRevN_l, nMin2_i, dSeq_t, dSeq_l, dSeq_c, dSeq_s, dSl_t, dSl_l, dSl_s, gTp_t, gsCons_c, dIs_nn, dIsNot_nn, dIs_bl, dIsNot_bl, dIs_int, dIsNot_int, dIs_str, dIsNot_str, dIs_tup, dIsNot_tup, dIs_lst, dIsNot_lst, dIs_ins, dIsNot_ins, cast_0, cast_1, cast_2, cast_3, cast_4, cast_5, cast_6, cast_7, cast_8, decide_true, decide_false, sSetIx_q, qSet_i, sAug_q, qAug_i, sz_lit, mulOk_lt, mulOk_rt, cdiv_lt, ex_bl, ex_some, if_dec, true_and, and_true, Int.reduceLT, Int.reduceNeg, Int.reduceLE, Int.reduceEq, Int.reduceSub, Int.reduceAdd, Int.reduceMul, Nat.reduceAdd, Nat.reduceSub, Nat.reduceMul, Nat.reduceLeDiff, if_true, if_false, Bool.not_true, Bool.not_false, ite_true, ite_false, reduceIte, Bool.false_eq_true, reduceCtorEq,
  ix_t0, ix_t1, ix_t2, ix_t3, ix_l0, ix_l1, ix_l2, ix_l3, rLc, rYes, noOwn_nil, noOwn_cons, frzE, frz1, wipeE, ne_eq, not_false_eq_true, implies_true, Nat.reduceLT, rJoined, jCons, jNil, rFmt, rPad, rJoin, qStr_s, qFmt_s, qFmt_i, qPad_si, dMulT_t, dIsB_b, rRepN, qRepN_li, rCatN, qCatN_l, iEnumA, qEnumA_l, qEnumA_t, rTupRg, qTupRg_i, rMakeK, rInK, rInN, sRetO, sSeqN, sSeqV, rUserV, rOwnV, uSeq, uNext, uPure, uSet, uSetN, uExpr, uRet, uRetN, uRetV, uIf, uFor, uBreak, uCont, uFld, uApp, vPure, vView, vPureT, vViewT, vNew, vCell, vFld, vIx, vNil, vCons, vCall, vMeth, vMake, vSeq, vRg1, vRg2, rIdx, isLst_l, noM, noMs, putE_nil, putE_one, resE_nil, resE_one, resS_v, flat, rUserN, rUserL, sPop, sPop1, sIns, rChain3, sNo, rNo, rBits_q, qBits_i, iRg3_q, qRg3_i, dShl_i, f_Held_moment, n_Held_moment, l_Held_moment, f_Held_cover, n_Held_cover, l_Held_cover, f_Held_used, n_Held_used, l_Held_used, f_Known_moment, n_Known_moment, l_Known_moment, f_Known_cover, n_Known_cover, l_Known_cover, f_Known_tree, n_Known_tree, l_Known_tree, f_Paper_known, n_Paper_known, l_Paper_known, f_Paper_trees, n_Paper_trees, l_Paper_trees, f_Paper_steps, n_Paper_steps, l_Paper_steps, *])

/-! prune -/
theorem x_number {ns : List Int} {k : Int} {Q : D → Prop} (hk : 0 ≤ k) (h : Q (.int (lawNum ns k))) : runD 5 m__law_number [.scr ns, .int k] Q := by
  unfold runD startD m__law_number
  unfold lawNum numFix num1 at h
  by_cases c : k < (ns.length : Int)
  · have e : atI ns k = some (ns.getD k.toNat 0) := by
      have hn : k.toNat < ns.length := by omega
      refine atI_ofNat (j := k.toNat) (by omega) ?_
      rw [List.getElem?_eq_getElem hn, List.getD_eq_getElem?_getD, List.getElem?_eq_getElem hn]; rfl
    rw [if_pos c] at h
    walk_at "xd"
    rw [if_pos c, ix_scr_at e]
    generalize ns.getD k.toNat 0 = z at *
    walk_at "xd"
    split <;> simp only [*, if_true, if_false] at h <;> split <;> simp only [*, if_true, if_false] at h <;> exact h
  · rw [if_neg c] at h
    walk_at "xd"
    rw [if_neg c]
    split <;> simp only [*, if_true, if_false] at h <;> split <;> simp only [*, if_true, if_false] at h <;> exact h

/-! ### drawn numbers near nought, lengths, boxes -/
def nearF (c : Int) : Int := if c % 9 = 0 then c / 9 % 2000000000001 - 1000000000000 else if c % 9 < 3 then c / 9 % 2001 - 1000 else c / 9 % 41 - 20
def lenF (c : Int) : Int := if c % 7 = 0 then 0 else if c % 7 = 1 then c / 7 % 1000000000 else c / 7 % 13
theorem nearF_b (c : Int) : -1000000000000 ≤ nearF c ∧ nearF c ≤ 1000000000000 := by unfold nearF; split <;> (try split) <;> omega
theorem lenF_b (c : Int) : 0 ≤ lenF c ∧ lenF c < 1000000000 := by unfold lenF; split <;> (try split) <;> omega
theorem x_near {c : Int} {Q : D → Prop} (h : Q (.int (nearF c))) : runD 3 m__law_near [.int c] Q := by
  unfold runD startD m__law_near
  walk_at "xd"
  unfold nearF at h
  split <;> simp only [*, if_true, if_false] at h
  · exact h
  · split <;> simp only [*, if_true, if_false] at h <;> exact h
theorem x_length {c : Int} {Q : D → Prop} (h : Q (.int (lenF c))) : runD 3 m__law_length [.int c] Q := by
  unfold runD startD m__law_length
  walk_at "xd"
  unfold lenF at h
  split <;> simp only [*, if_true, if_false] at h
  · exact h
  · split <;> simp only [*, if_true, if_false] at h <;> exact h
def sideF (ns : List Int) (k : Int) (j : Nat) : Int × Int := (nearF (lawNum ns (k + 2 * j)), nearF (lawNum ns (k + 2 * j)) + lenF (lawNum ns (k + 2 * j + 1)))
def boxF (ns : List Int) (k : Int) (n : Nat) : List (Int × Int) := (List.range n).map (sideF ns k)
def sideD (p : Int × Int) : D := .tup [.int p.1, .int p.2]
def boxD (bs : List (Int × Int)) : D := .tup (bs.map sideD)
theorem boxF_succ (ns : List Int) (k : Int) (n : Nat) : boxF ns k (n + 1) = boxF ns k n ++ [sideF ns k n] := by
  unfold boxF; rw [List.range_succ, List.map_append]; rfl
theorem boxF_length (ns : List Int) (k : Int) (n : Nat) : (boxF ns k n).length = n := by simp [boxF]
theorem x_box {ns : List Int} {k s : Int} {Q : D → Prop} (hk : 0 ≤ k) (hs0 : 0 ≤ s) (hs : s ≤ 1000) (h : Q (boxD (boxF ns k s.toNat))) : runD 6 m__law_box [.scr ns, .int k, .int s] Q := by
  unfold runD startD m__law_box
  walk_at "xd"
  refine ⟨⟨by omega, by omega⟩, ?_⟩
  refine forL_range (fun j e => ∃ v4 v5, e = [.v (.scr ns), .v (.int k), .v (.int s), .own ((boxF ns k j).map sideD), v4, v5]) ⟨.un, .un, rfl⟩ ?_ ?_
  · rintro j e Z' hj ⟨v4, v5, rfl⟩ hn hc _ _
    walk_at "xd"
    refine x_number (by omega) ?_
    refine x_near ?_
    walk_at "xd"
    refine x_number (by omega) ?_
    refine x_length ?_
    walk_at "xd"
    have e1 : (boxF ns k j).map sideD ++ [D.tup [.int (nearF (lawNum ns (k + 2 * (0 + (j : Int))))), .int (nearF (lawNum ns (k + 2 * (0 + (j : Int)))) + lenF (lawNum ns (k + 2 * (0 + (j : Int)) + 1)))]] = (boxF ns k (j + 1)).map sideD := by
      rw [boxF_succ, List.map_append, Int.zero_add]; rfl
    rw [e1]
    refine ⟨?_, hn _ ⟨_, _, rfl⟩⟩
    rw [boxF_length]; show j < 16777216; omega
  · rintro e ⟨v4, v5, rfl⟩
    walk_at "xd"
    exact h
theorem fa_side : Fa sideD 1 := fa_pair fa_int fa_int
theorem fa_box : Fa boxD 2 := fa_tup fa_side
theorem boxF_le {ns : List Int} {k : Int} {n : Nat} : ∀ p ∈ boxF ns k n, p.1 ≤ p.2 ∧ -1000000000000 ≤ p.1 ∧ p.1 ≤ 1000000000000 ∧ p.2 < p.1 + 1000000000 := by
  intro p hp
  unfold boxF at hp
  obtain ⟨j, _, rfl⟩ := List.mem_map.mp hp
  have h1 := nearF_b (lawNum ns (k + 2 * j))
  have h2 := lenF_b (lawNum ns (k + 2 * j + 1))
  unfold sideF
  exact ⟨by show nearF _ ≤ nearF _ + lenF _; omega, h1.1, h1.2, by show nearF _ + lenF _ < nearF _ + 1000000000; omega⟩

theorem x_truth {a b : Bool} {Q : D → Prop} (h : Q (.bl (a == b))) : runD 2 m__law_truth [.bl a, .bl b] Q := by
  unfold runD startD m__law_truth
  walk_at "xd"
  exact h

/-! ### the root rounded up -/
structure IsUp (n r : Int) : Prop where
  nn : 0 ≤ r
  up : n ≤ r * r
  lo : 0 < r → (r - 1) * (r - 1) < n
theorem sq_ge {x : Int} (h : 0 ≤ x) : x ≤ x * x := by
  by_cases c : x = 0
  · subst c; decide
  · have h2 := Int.mul_le_mul_of_nonneg_left (show 1 ≤ x by omega) h
    rw [Int.mul_one] at h2; exact h2
theorem sq_mono {x y : Int} (h : 0 ≤ x) (h2 : x ≤ y) : x * x ≤ y * y := Int.mul_le_mul h2 h2 h (by omega)
theorem isUp_unique {n r s : Int} (h : IsUp n r) (g : IsUp n s) : r = s := by
  have h0 := h.nn
  have g0 := g.nn
  rcases Int.lt_trichotomy r s with c | c | c
  · have h1 := g.lo (by omega)
    have h2 := sq_mono h0 (show r ≤ s - 1 by omega)
    have := h.up
    omega
  · exact c
  · have h1 := h.lo (by omega)
    have h2 := sq_mono g0 (show s ≤ r - 1 by omega)
    have := g.up
    omega
theorem isUp_le {n r : Int} (h : IsUp n r) (hn : 0 ≤ n) : r ≤ n + 1 := by
  by_cases c : 0 < r
  · have h1 := h.lo c
    have h2 := sq_ge (show 0 ≤ r - 1 by omega)
    omega
  · omega
theorem log_ok {n : Int} {k : Nat} (h : n < 2 ^ k) (h0 : 0 ≤ n) (hk : k ≤ 12999) : n.toNat.log2 < 13000 := by
  by_cases z : n.toNat = 0
  · rw [z, Nat.log2_zero]; decide
  · have h1 : n.toNat < 2 ^ k := by
      have e : ((2 ^ k : Nat) : Int) = (2 : Int) ^ k := by simp
      omega
    have := (Nat.log2_lt z).mpr h1
    omega
theorem mul_log {a b n : Int} (ha : 0 ≤ a) (hb : 0 ≤ b) (h1 : a ≤ n) (h2 : b ≤ n) (hn : n.toNat.log2 < 13000) : MulOk a b := by
  refine .inr ?_
  have h0 : 0 ≤ n := by omega
  have key : ∀ x : Int, 0 ≤ x → x ≤ n → x.natAbs.log2 < 13000 := fun x h0 h1 => by
    by_cases z : x.natAbs = 0
    · rw [z, Nat.log2_zero]; decide
    · by_cases zn : n.toNat = 0
      · omega
      · refine (Nat.log2_lt z).mpr ?_
        have := (Nat.log2_lt zn).mp hn
        omega
  have := key a ha h1
  have := key b hb h2
  unfold CMulW
  omega
theorem sq_nn (x : Int) : 0 ≤ x * x := by
  rcases Int.le_total 0 x with h | h
  · exact Int.mul_nonneg h h
  · exact Int.mul_nonneg_of_nonpos_of_nonpos h h

/-! ### products and quotients of numbers below a bound; points -/
theorem mul_big {a b : Int} (h1 : -10000000000000000000000000000000000000000000000000000000000000000000000 ≤ a) (h2 : a ≤ 10000000000000000000000000000000000000000000000000000000000000000000000) (h3 : -10000000000000000000000000000000000000000000000000000000000000000000000 ≤ b) (h4 : b ≤ 10000000000000000000000000000000000000000000000000000000000000000000000) : MulOk a b := by
  refine .inr ?_
  have key : ∀ x : Int, -10000000000000000000000000000000000000000000000000000000000000000000000 ≤ x → x ≤ 10000000000000000000000000000000000000000000000000000000000000000000000 → x.natAbs.log2 < 250 := fun x h0 h1 => by
    by_cases z : x.natAbs = 0
    · rw [z, Nat.log2_zero]; decide
    · refine (Nat.log2_lt z).mpr ?_
      have : (2 : Nat) ^ 250 = 1809251394333065553493296640760748560207343510400633813116524750123642650624 := by decide
      omega
  have := key a h1 h2
  have := key b h3 h4
  unfold CMulW
  omega
theorem div_big {a b : Int} (h1 : 0 < b) (h4 : b ≤ 10000000000000000000000000000000000000000000000000000000000000000000000) : CDivW a b :=
  wide_div (b := 250) h1 (by
    have : (2 : Nat) ^ 250 = 1809251394333065553493296640760748560207343510400633813116524750123642650624 := by decide
    omega) (by decide) (by decide)
theorem rangeD_eq : ∀ (n : Nat) (lo : Nat), rangeD (lo : Int) n = (List.range' lo n).map fun (j : Nat) => D.int j
  | 0, _ => rfl
  | n + 1, lo => by
    have := rangeD_eq n (lo + 1)
    rw [Int.natCast_add] at this
    simp only [List.range'_succ, List.map_cons, rangeD]
    rw [← this]; rfl
theorem range0D (n : Nat) : rangeD 0 n = (List.range n).map fun (j : Nat) => D.int j := by
  rw [List.range_eq_range']; exact rangeD_eq n 0
def ptD (f : Nat → Int) (n : Nat) : D := .tup ((List.range n).map fun j => .int (f j))
def S (f : Nat → Int) (n : Nat) : Int := ((List.range n).map f).sum
theorem S_succ (f : Nat → Int) (n : Nat) : S f (n + 1) = S f n + f n := by
  unfold S; rw [List.range_succ]; simp
theorem S_b {f : Nat → Int} {b : Int} : ∀ {n : Nat}, (∀ j, j < n → -b ≤ f j ∧ f j ≤ b) → -(b * n) ≤ S f n ∧ S f n ≤ b * n
  | 0, _ => by simp [S]
  | n + 1, h => by
    have h1 := S_b (n := n) fun j hj => h j (by omega)
    have h2 := h n (by omega)
    rw [S_succ]
    have e : b * ((n + 1 : Nat) : Int) = b * n + b := by rw [Int.natCast_add, Int.mul_add]; simp
    omega
theorem S_nn {f : Nat → Int} : ∀ {n : Nat}, (∀ j, j < n → 0 ≤ f j) → 0 ≤ S f n
  | 0, _ => by simp [S]
  | n + 1, h => by
    have h1 := S_nn (n := n) fun j hj => h j (by omega)
    have h2 := h n (by omega)
    rw [S_succ]; omega
theorem S_cong {f g : Nat → Int} : ∀ {n : Nat}, (∀ j, j < n → f j = g j) → S f n = S g n
  | 0, _ => by simp [S]
  | n + 1, h => by rw [S_succ, S_succ, S_cong (n := n) fun j hj => h j (by omega), h n (by omega)]
theorem pt_at {f : Nat → Int} {n j : Nat} (h : j < n) : ∀ P : D → Prop, dIx (ptD f n) (.int (j : Int)) P = P (.int (f j)) := fun P => ix_tup_at (atI_nat (by rw [List.getElem?_map, List.getElem?_range h]; rfl))
theorem sqn0 (x : Int) : 0 ≤ x * x := by
  by_cases c : 0 ≤ x
  · exact Int.mul_nonneg c c
  · have := Int.mul_nonneg (show 0 ≤ -x by omega) (show 0 ≤ -x by omega)
    rw [Int.neg_mul_neg] at this; exact this
theorem zip_r (n : Nat) : (List.range n).zip (List.range n) = (List.range n).map fun j => (j, j) := by
  rw [List.zip_eq_zipWith, List.zipWith_self]
theorem zip_range (f g : Nat → Int) (n : Nat) : zipD ((List.range n).map fun j => D.int (f j)) ((List.range n).map fun j => D.int (g j)) = (List.range n).map fun j => D.tup [.int (f j), .int (g j)] := by
  rw [zipD_of, zip_r, List.map_map]; rfl
theorem ab_sq {x b : Int} (h : -b ≤ x) (h2 : x ≤ b) : x * x ≤ b * b := by
  by_cases c : 0 ≤ x
  · exact sq_mono c h2
  · have := sq_mono (show 0 ≤ -x by omega) (show -x ≤ b by omega)
    rw [Int.neg_mul_neg] at this; exact this
theorem ab_mul {x y b : Int} (h : -b ≤ x ∧ x ≤ b) (h2 : -b ≤ y ∧ y ≤ b) : -(b * b) ≤ x * y ∧ x * y ≤ b * b := by
  have b0 : 0 ≤ b := by omega
  have h3 : 0 ≤ (b - x) * (b + y) := Int.mul_nonneg (by omega) (by omega)
  have h4 : 0 ≤ (b + x) * (b - y) := Int.mul_nonneg (by omega) (by omega)
  have h5 : 0 ≤ (b - x) * (b - y) := Int.mul_nonneg (by omega) (by omega)
  have h6 : 0 ≤ (b + x) * (b + y) := Int.mul_nonneg (by omega) (by omega)
  constructor <;> grind
theorem ab_mul2 {x y b c : Int} (h : -b ≤ x ∧ x ≤ b) (h2 : -c ≤ y ∧ y ≤ c) : -(b * c) ≤ x * y ∧ x * y ≤ b * c := by
  have h3 : 0 ≤ (b - x) * (c + y) := Int.mul_nonneg (by omega) (by omega)
  have h4 : 0 ≤ (b + x) * (c - y) := Int.mul_nonneg (by omega) (by omega)
  have h5 : 0 ≤ (b - x) * (c - y) := Int.mul_nonneg (by omega) (by omega)
  have h6 : 0 ≤ (b + x) * (c + y) := Int.mul_nonneg (by omega) (by omega)
  constructor <;> grind
theorem forL_map {F : Nat → D} {g : RG} {body : RS} {Z : DE} {n : Nat} {e : En} (Inv : Nat → En → Prop) (h0 : Inv 0 e)
    (hs : ∀ (j : Nat) (e : En) (Z' : DE), j < n → Inv j e → (∀ e', Inv (j + 1) e' → Z'.nx e') → (∀ e', Inv (j + 1) e' → Z'.ct e') → Z'.rt = Z.rt → Z'.bk = Z.nx → g (F j) e fun e' => body Z' e')
    (hd : ∀ e, Inv n e → Z.nx e) : forL g body Z ((List.range n).map F) e := by
  refine forL_inv Inv _ Z 0 e h0 (fun j x e Z' hj hI h1 h2 h3 h4 => ?_) (fun e q => hd e ?_)
  · rw [List.getElem?_map] at hj
    by_cases hlt : j < n
    · rw [List.getElem?_range hlt] at hj
      cases hj
      rw [Nat.zero_add] at hI h1 h2
      exact hs j e Z' hlt hI h1 h2 h3 h4
    · rw [List.getElem?_eq_none (by simpa using hlt)] at hj; cases hj
  · rw [Nat.zero_add, List.length_map, List.length_range] at q; exact q
theorem zip_rmap (f g : Nat → D) (n : Nat) : zipD ((List.range n).map f) ((List.range n).map g) = (List.range n).map fun j => D.tup [f j, g j] := by
  rw [zipD_of, zip_r, List.map_map]; rfl
theorem rmap_at {f : Nat → D} {n j : Nat} (h : j < n) : ((List.range n).map f)[j]? = some (f j) := by rw [List.getElem?_map, List.getElem?_range h]; rfl
theorem S_le {f g : Nat → Int} : ∀ {n : Nat}, (∀ j, j < n → f j ≤ g j) → S f n ≤ S g n
  | 0, _ => by simp [S]
  | n + 1, h => by
    have h1 := S_le (n := n) fun j hj => h j (by omega)
    have h2 := h n (by omega)
    rw [S_succ, S_succ]; omega
theorem nSum_S {f : Nat → Int} {n : Nat} {Q : D → Prop} (h : Q (.int (S f n))) : nSum [.lst ((List.range n).map fun j => D.int (f j))] Q := nSum_of h
theorem zip_rm {G : Nat × Nat → D} {n : Nat} : List.map G ((List.range n).zip (List.range n)) = (List.range n).map fun j => G (j, j) := by
  rw [zip_r, List.map_map]; rfl
theorem S_first {f : Nat → Int} (h : ∀ j, 0 ≤ f j) : ∀ m : Nat, f 0 ≤ S f (m + 1)
  | 0 => by rw [S_succ]; simp [S]
  | m + 1 => by
    have h1 := S_first h m
    have h2 := h (m + 1)
    rw [S_succ]; omega

/-! ### data that == looks at, whatever it is -/
def pyE (d e : D) : Bool := match toPy d, toPy e with
  | some p, some q => PyData.eqv p q
  | _, _ => false
structure PyOk (d : D) (k : Nat) : Prop where
  ex : ∃ p, toPy d = some p ∧ p.canLay0 = true ∧ p.depth ≤ k ∧ PyData.eqv p p = true
theorem PyOk.le {d : D} {k l : Nat} (h : PyOk d k) (hl : k ≤ l) : PyOk d l := let ⟨p, a, b, c, e⟩ := h.ex; ⟨p, a, b, Nat.le_trans c hl, e⟩
theorem PyOk.int {i : Int} {k : Nat} : PyOk (.int i) k := ⟨.int i, rfl, rfl, Nat.zero_le _, by rw [PyData.eqv]; exact beq_self_eq_true i⟩
theorem PyOk.str {x : Str} {k : Nat} (h : (PyData.str x).canLay0 = true) : PyOk (.str x) k := ⟨.str x, rfl, h, Nat.zero_le _, by rw [PyData.eqv]; exact beq_self_eq_true x⟩
theorem PyOk.all {k : Nat} : ∀ {ds : List D}, (∀ d ∈ ds, PyOk d k) → ∃ ps, toPys ds = some ps ∧ PyData.canLayAll0 ps = true ∧ PyData.depthAll ps ≤ k ∧ PyData.eqvAll ps ps = true
  | [], _ => ⟨[], rfl, rfl, Nat.zero_le _, by simp only [PyData.eqvAll]⟩
  | d :: ds, h => by
    obtain ⟨p, a, b, c, e⟩ := (h d (List.mem_cons_self ..)).ex
    obtain ⟨ps, a', b', c', e'⟩ := PyOk.all (ds := ds) fun x hx => h x (List.mem_cons_of_mem _ hx)
    refine ⟨p :: ps, by simp only [toPys, a, a', Option.bind_some, Option.map_some], by simp only [PyData.canLayAll0, b, b', Bool.and_self], ?_, by simp only [PyData.eqvAll, e, e', Bool.and_self]⟩
    simp only [PyData.depthAll]; omega
theorem PyOk.tup {ds : List D} {k : Nat} (h : ∀ d ∈ ds, PyOk d k) : PyOk (.tup ds) (k + 1) := by
  obtain ⟨ps, a, b, c, e⟩ := PyOk.all h
  exact ⟨.tuple ps, by simp only [toPy, a, Option.map_some], by simp only [PyData.canLay0, b], by simp only [PyData.depth]; omega, by simp only [PyData.eqv, e]⟩
theorem PyOk.lst {ds : List D} {k : Nat} (h : ∀ d ∈ ds, PyOk d k) : PyOk (.lst ds) (k + 1) := by
  obtain ⟨ps, a, b, c, e⟩ := PyOk.all h
  exact ⟨.list ps, by simp only [toPy, a, Option.map_some], by simp only [PyData.canLay0, b], by simp only [PyData.depth]; omega, by simp only [PyData.eqv, e]⟩
theorem dEq_py {d e : D} {k : Nat} (hk : k ≤ 64) (h1 : PyOk d k) (h2 : PyOk e k) {Q : D → Prop} : dEq d e Q = Q (.bl (pyE d e)) := by
  obtain ⟨p, a1, a2, a3, _⟩ := h1.ex
  obtain ⟨q, b1, b2, b3, _⟩ := h2.ex
  have e0 : pyE d e = PyData.eqv p q := by unfold pyE; rw [a1, b1]
  rw [e0]
  refine propext ⟨fun ⟨x, y, h1, h2, _, _, h⟩ => ?_, fun h => ⟨p, q, a1, b1, shaped_of a2 a3 hk, shaped_of b2 b3 hk, h⟩⟩
  rw [a1] at h1; rw [b1] at h2; cases h1; cases h2; exact h
theorem dNe_py {d e : D} {k : Nat} (hk : k ≤ 64) (h1 : PyOk d k) (h2 : PyOk e k) {Q : D → Prop} : dNe d e Q = Q (.bl (!pyE d e)) := by
  obtain ⟨p, a1, a2, a3, _⟩ := h1.ex
  obtain ⟨q, b1, b2, b3, _⟩ := h2.ex
  have e0 : pyE d e = PyData.eqv p q := by unfold pyE; rw [a1, b1]
  rw [e0]
  refine propext ⟨fun ⟨x, y, h1, h2, _, _, h⟩ => ?_, fun h => ⟨p, q, a1, b1, shaped_of a2 a3 hk, shaped_of b2 b3 hk, h⟩⟩
  rw [a1] at h1; rw [b1] at h2; cases h1; cases h2; exact h
theorem pyE_lt (xs ys : List D) : pyE (.lst xs) (.lst ys) = pyE (.tup xs) (.tup ys) := by
  unfold pyE
  simp only [toPy]
  cases toPys xs <;> cases toPys ys <;> simp only [Option.map_none, Option.map_some]
  simp only [PyData.eqv]
theorem pyE_self {d : D} {k : Nat} (h : PyOk d k) : pyE d d = true := by
  obtain ⟨p, a, b, c, e⟩ := h.ex
  unfold pyE; rw [a]; exact e

/-! ### what is built: any, of a shape -/
theorem lcL_ex {β : Type} {vs : List Nat} {g : RG} {me : RE} {env : En} {Q : List D → Prop} (emb : β → D) (P : β → Prop) : ∀ (xs : List D) (acc : List β), acc.length + xs.length ≤ sizeLine → (∀ a ∈ acc, P a) →
    (∀ x ∈ xs, ∀ R : D → En → Prop, (∀ b e4, P b → wipeE e4 vs = wipeE env vs → R (emb b) e4) → g x (wipeE env vs) fun e2 => wipeE e2 vs = wipeE env vs ∧ me e2 R) →
    (∀ ys : List β, ys.length = acc.length + xs.length → (∀ y ∈ ys, P y) → Q (ys.map emb)) → lcL vs g rYes me env Q xs (acc.map emb)
  | [], acc, _, ha, _, q => q acc (by simp) ha
  | x :: xs, acc, hl, ha, hs, q => by
    simp only [List.length_cons] at hl
    have h := hs x (List.mem_cons_self ..) (fun d e4 => wipeE e4 vs = wipeE env vs ∧ (acc.map emb).length < sizeLine ∧ lcL vs g rYes me env Q xs (acc.map emb ++ [d])) fun b e4 hb w => ⟨w, by rw [List.length_map]; omega, by
      have := lcL_ex emb P xs (acc ++ [b]) (by simp; omega) (fun a h => by
        rcases List.mem_append.mp h with h | h
        · exact ha a h
        · rw [List.mem_singleton.mp h]; exact hb) (fun y hy => hs y (List.mem_cons_of_mem _ hy)) (fun ys hy hp => q ys (by rw [hy]; simp; omega) hp)
      rw [List.map_append] at this
      exact this⟩
    exact h
theorem lcL_ex0 {β : Type} {vs : List Nat} {g : RG} {me : RE} {env : En} {Q : List D → Prop} (emb : β → D) (P : β → Prop) (xs : List D) (hl : xs.length ≤ 1000000)
    (hs : ∀ x ∈ xs, ∀ R : D → En → Prop, (∀ b e4, P b → wipeE e4 vs = wipeE env vs → R (emb b) e4) → g x (wipeE env vs) fun e2 => wipeE e2 vs = wipeE env vs ∧ me e2 R)
    (h : ∀ ys : List β, ys.length = xs.length → (∀ y ∈ ys, P y) → Q (ys.map emb)) : lcL vs g rYes me env Q xs [] :=
  lcL_ex emb P xs [] (by show 0 + _ ≤ 16777216; omega) (fun a h => nomatch h) hs (fun ys hy hp => h ys (by rw [hy]; simp) hp)
theorem rangeD_mem {lo : Int} {n : Nat} {x : D} (h : x ∈ rangeD lo n) : ∃ j : Nat, j < n ∧ x = .int (lo + j) := by
  obtain ⟨i, hi⟩ := List.getElem?_of_mem h
  rw [rangeD_get] at hi
  split at hi
  · rename_i c; cases hi; exact ⟨i, c, rfl⟩
  · cases hi
theorem mod_pos {c m : Int} (h : 0 < m) : 0 ≤ c % m ∧ c % m < m := ⟨Int.emod_nonneg _ (by omega), Int.emod_lt_of_pos _ h⟩

/-! cut -/
/-! ### data that differs -/
theorem toPys_len : ∀ {ds : List D} {ps : List PyData}, toPys ds = some ps → ps.length = ds.length
  | [], ps, h => by cases h; rfl
  | d :: ds, ps, h => by
    simp only [toPys] at h
    cases e1 : toPy d with
    | none => rw [e1] at h; cases h
    | some p =>
      cases e2 : toPys ds with
      | none => rw [e1, e2] at h; cases h
      | some qs =>
        rw [e1, e2] at h
        simp only [Option.bind_some, Option.map_some, Option.some.injEq] at h
        rw [← h, List.length_cons, List.length_cons, toPys_len e2]
theorem eqvAll_len : ∀ {ps qs : List PyData}, ps.length ≠ qs.length → PyData.eqvAll ps qs = false
  | [], [], h => absurd rfl h
  | [], _ :: _, _ => by simp only [PyData.eqvAll]
  | _ :: _, [], _ => by simp only [PyData.eqvAll]
  | p :: ps, q :: qs, h => by
    simp only [PyData.eqvAll]
    rw [eqvAll_len (ps := ps) (qs := qs) (fun e => h (by simp only [List.length_cons, e])), Bool.and_false]
theorem pyE_len {ds es : List D} (h : ds.length ≠ es.length) : pyE (.tup ds) (.tup es) = false := by
  unfold pyE
  simp only [toPy]
  cases e1 : toPys ds with
  | none => rfl
  | some ps =>
    cases e2 : toPys es with
    | none => rfl
    | some qs =>
      simp only [Option.map_some, PyData.eqv]
      exact eqvAll_len (by rw [toPys_len e1, toPys_len e2]; exact h)
theorem pyE_cons {d e : D} {ds es : List D} : pyE (.tup (d :: ds)) (.tup (e :: es)) = (pyE d e && pyE (.tup ds) (.tup es)) := by
  unfold pyE
  simp only [toPy, toPys]
  cases toPy d <;> cases toPy e <;> cases toPys ds <;> cases toPys es <;> simp [PyData.eqv, PyData.eqvAll]
theorem pyE_nil : pyE (.tup []) (.tup []) = true := by
  unfold pyE
  simp only [toPy, toPys, Option.map_some, PyData.eqv, PyData.eqvAll]
theorem pyE_int {i j : Int} : pyE (.int i) (.int j) = (i == j) := by
  unfold pyE
  simp only [toPy, PyData.eqv]
variable {cl : Nat → Addr}
def kD (cl : Nat → Addr) (m : Int) (c t : List D) : D := .ins (cl 1) ["moment", "cover", "tree"] [.int m, .tup c, .tup t]
def hD (cl : Nat → Addr) (m : Int) (c t : List D) : D := .ins (cl 0) ["moment", "cover", "used"] [.int m, .tup c, .tup t]
def pD (cl : Nat → Addr) (a b c : List D) : D := .ins (cl 2) ["known", "trees", "steps"] [.tup a, .tup b, .tup c]
def OkL (k : Nat) (ds : List D) : Prop := ∀ d ∈ ds, PyOk d k
theorem ok3 {m : Int} {c t : List D} {k : Nat} (hc : OkL k c) (ht : OkL k t) : PyOk (.tup [.int m, .tup c, .tup t]) (k + 2) := .tup fun d hd => by
  simp only [List.mem_cons, List.not_mem_nil, or_false] at hd
  rcases hd with rfl | rfl | rfl
  · exact .int
  · exact .tup hc
  · exact .tup ht
theorem pyE3 {m m' : Int} {c t c' t' : List D} : pyE (.tup [.int m, .tup c, .tup t]) (.tup [.int m', .tup c', .tup t']) = ((m == m') && (pyE (.tup c) (.tup c') && pyE (.tup t) (.tup t'))) := by
  rw [pyE_cons, pyE_cons, pyE_cons, pyE_nil, pyE_int, Bool.and_true]
theorem x_eqK {m m' : Int} {c t c' t' : List D} {R : D → Prop} (hc : OkL 5 c) (ht : OkL 5 t) (hc' : OkL 5 c') (ht' : OkL 5 t') (h : R (.bl ((m == m') && (pyE (.tup c) (.tup c') && pyE (.tup t) (.tup t'))))) : runD 2 (m_K_Known_eq cl) [kD cl m c t, kD cl m' c' t'] R := by
  unfold runD startD m_K_Known_eq kD
  walk_at "xd"
  refine ⟨rfl, by simp, ?_⟩
  walk_at "xd"
  rw [dEq_py (by decide) (ok3 hc ht) (ok3 hc' ht'), pyE3]
  exact h
theorem x_eqH {m m' : Int} {c t c' t' : List D} {R : D → Prop} (hc : OkL 5 c) (ht : OkL 5 t) (hc' : OkL 5 c') (ht' : OkL 5 t') (h : R (.bl ((m == m') && (pyE (.tup c) (.tup c') && pyE (.tup t) (.tup t'))))) : runD 2 (m_K_Held_eq cl) [hD cl m c t, hD cl m' c' t'] R := by
  unfold runD startD m_K_Held_eq hD
  walk_at "xd"
  refine ⟨rfl, by simp, ?_⟩
  walk_at "xd"
  rw [dEq_py (by decide) (ok3 hc ht) (ok3 hc' ht'), pyE3]
  exact h
theorem x_eqP {a b c a' b' c' : List D} {r : Bool} {R : D → Prop} (h1 : TupB [(cl 1, runD 2 (m_K_Known_eq cl))] [.tup a, .tup b, .tup c] [.tup a', .tup b', .tup c'] r) (h : R (.bl r)) : runD 2 (m_K_Paper_eq cl) [pD cl a b c, pD cl a' b' c'] R := by
  unfold runD startD m_K_Paper_eq pD
  walk_at "xd"
  refine ⟨rfl, by simp, ?_⟩
  walk_at "xd"
  exact .inr ⟨_, _, r, rfl, rfl, h1, h⟩
/-- what is no instance of the class -/
def NoI (cl : Nat → Addr) (n : Nat) (d : D) : Prop := (∃ a, tyS d = some a) ∨ ∃ (j : Nat) (ns : List Str) (xs : List D), d = .ins (cl j) ns xs ∧ j < 3 ∧ j ≠ n
theorem isi_no {n : Nat} {d : D} {Q : D → Prop} (g : GoodC 3 cl) (hn : n < 3) (hd : NoI cl n d) (h : Q (.bl false)) : nIsiO (cl n) [cl 0, cl 1, cl 2] [d, .cls (cl n)] Q := by
  rcases hd with ⟨a, ha⟩ | ⟨j, ns, xs, rfl, hj, hne⟩
  · unfold nIsiO
    split
    · rename_i e
      cases e
      cases ha
    · rename_i e
      cases e
      exact ⟨rfl, ⟨a, ha⟩, h⟩
    · rename_i e1 e2
      exact absurd rfl (e2 _ _)
  · refine ⟨rfl, ?_, ?_⟩
    · rcases (show j = 0 ∨ j = 1 ∨ j = 2 by omega) with rfl | rfl | rfl <;> simp
    · rw [decide_eq_false (fun e => hne (g _ _ hj hn e))]
      exact h
theorem x_noK {x d : D} {R : D → Prop} (g : GoodC 3 cl) (hd : NoI cl 1 d) (h : R (.bl false)) : runD 2 (m_K_Known_eq cl) [x, d] R := by
  unfold runD startD m_K_Known_eq
  walk_at "xd"
  refine isi_no g (by decide) hd ?_
  walk_at "xd"
  exact h
theorem x_noH {x d : D} {R : D → Prop} (g : GoodC 3 cl) (hd : NoI cl 0 d) (h : R (.bl false)) : runD 2 (m_K_Held_eq cl) [x, d] R := by
  unfold runD startD m_K_Held_eq
  walk_at "xd"
  refine isi_no g (by decide) hd ?_
  walk_at "xd"
  exact h
theorem x_noP {x d : D} {R : D → Prop} (g : GoodC 3 cl) (hd : NoI cl 2 d) (h : R (.bl false)) : runD 2 (m_K_Paper_eq cl) [x, d] R := by
  unfold runD startD m_K_Paper_eq
  walk_at "xd"
  refine isi_no g (by decide) hd ?_
  walk_at "xd"
  exact h

/-! cut -/
/-! ### the law -/
abbrev T34 (cl : Nat → Addr) : List (Addr × SpecD) := [(cl 0, runD 2 (m_K_Held_eq cl)), (cl 1, runD 2 (m_K_Known_eq cl)), (cl 2, runD 2 (m_K_Paper_eq cl))]
structure GoodP (cl : Nat → Addr) (x y : D) (b : Bool) : Prop where
  eq : ∀ Q : D → Prop, Q (.bl b) → dEqI (T34 cl) [cl 0, cl 1, cl 2] x y Q
  ne : ∀ Q : D → Prop, Q (.bl (!b)) → dNeI (T34 cl) [cl 0, cl 1, cl 2] x y Q
theorem good_of {C : Addr} {ns : List Str} {xs : List D} {y : D} {b : Bool} {sp : SpecD} (h1 : okR [cl 0, cl 1, cl 2] y) (h2 : (C, sp) ∈ T34 cl) (h3 : ∀ R : D → Prop, R (.bl b) → sp [.ins C ns xs, y] R) : GoodP cl (.ins C ns xs) y b :=
  ⟨fun Q q => dEqI_ins h1 h2 h3 q, fun Q q => dNeI_ins h1 h2 h3 q⟩
theorem gK {m m' : Int} {c t c' t' : List D} {b : Bool} (hc : OkL 5 c) (ht : OkL 5 t) (hc' : OkL 5 c') (ht' : OkL 5 t') (h : ((m == m') && (pyE (.tup c) (.tup c') && pyE (.tup t) (.tup t'))) = b) : GoodP cl (kD cl m c t) (kD cl m' c' t') b :=
  good_of (by show cl 1 ∈ _; simp) (by simp) fun R hR => x_eqK hc ht hc' ht' (by rw [h]; exact hR)
theorem gH {m m' : Int} {c t c' t' : List D} {b : Bool} (hc : OkL 5 c) (ht : OkL 5 t) (hc' : OkL 5 c') (ht' : OkL 5 t') (h : ((m == m') && (pyE (.tup c) (.tup c') && pyE (.tup t) (.tup t'))) = b) : GoodP cl (hD cl m c t) (hD cl m' c' t') b :=
  good_of (by show cl 0 ∈ _; simp) (by simp) fun R hR => x_eqH hc ht hc' ht' (by rw [h]; exact hR)
theorem gP {a b c a' b' c' : List D} {r : Bool} (h1 : TupB [(cl 1, runD 2 (m_K_Known_eq cl))] [.tup a, .tup b, .tup c] [.tup a', .tup b', .tup c'] r) : GoodP cl (pD cl a b c) (pD cl a' b' c') r :=
  good_of (by show cl 2 ∈ _; simp) (by simp) fun R hR => x_eqP h1 hR
theorem gKn {m : Int} {c t : List D} {y : D} (g : GoodC 3 cl) (h1 : okR [cl 0, cl 1, cl 2] y) (h : NoI cl 1 y) : GoodP cl (kD cl m c t) y false := good_of h1 (by simp) fun R hR => x_noK g h hR
theorem gHn {m : Int} {c t : List D} {y : D} (g : GoodC 3 cl) (h1 : okR [cl 0, cl 1, cl 2] y) (h : NoI cl 0 y) : GoodP cl (hD cl m c t) y false := good_of h1 (by simp) fun R hR => x_noH g h hR
theorem gPn {a b c : List D} {y : D} (g : GoodC 3 cl) (h1 : okR [cl 0, cl 1, cl 2] y) (h : NoI cl 2 y) : GoodP cl (pD cl a b c) y false := good_of h1 (by simp) fun R hR => x_noP g h hR
theorem y_pairs {xs : List D} {e0 : List Sl} {Z : DE} (he : e0.length = 11) (h : ∀ x ∈ xs, ∃ a b r, x = .tup [a, b, .bl r] ∧ GoodP cl a b r) (q : ∀ v : Sl, Z.nx (e0 ++ [v])) (v : Sl) : forL (gNm 11) (m_law_22b cl) Z xs (e0 ++ [v]) := by
  obtain ⟨z0, z1, z2, z3, z4, z5, z6, z7, z8, z9, z10, rfl⟩ : ∃ z0 z1 z2 z3 z4 z5 z6 z7 z8 z9 z10, e0 = [z0, z1, z2, z3, z4, z5, z6, z7, z8, z9, z10] := by
    match e0, he with
    | [z0, z1, z2, z3, z4, z5, z6, z7, z8, z9, z10], _ => exact ⟨_, _, _, _, _, _, _, _, _, _, _, rfl⟩
  refine forL_inv (fun _ e => ∃ v, e = [z0, z1, z2, z3, z4, z5, z6, z7, z8, z9, z10, v]) _ _ 0 _ ⟨v, rfl⟩ ?_ ?_
  · rintro j x e Z' hj ⟨v, rfl⟩ hnx _ _ _
    obtain ⟨a, b, r, rfl, gp⟩ := h x (List.mem_of_getElem? hj)
    unfold m_law_22b m_law_22b_1
    walk_at "xd"
    refine gp.eq _ ?_
    walk_at "xd"
    refine x_truth ?_
    walk_at "xd"
    have e1 : ∀ r : Bool, (r == r) = true := fun r => beq_self_eq_true r
    rw [if_neg (by rw [e1]; decide)]
    refine gp.ne _ ?_
    walk_at "xd"
    refine x_truth ?_
    walk_at "xd"
    rw [if_neg (by rw [e1]; decide)]
    exact hnx _ ⟨_, rfl⟩
  · rintro e ⟨v, rfl⟩
    exact q v
theorem x_mk1 {a b c : D} {Q : D → Prop} (h : Q (.ins (cl 1) ["moment", "cover", "tree"] [a, b, c])) : mkD (cl 1) ["moment", "cover", "tree"] 4 (m_K_Known_init cl) [a, b, c] Q := by
  intro p'
  unfold m_K_Known_init
  walk_at "xd"
  exact h
theorem x_mk0 {a b c : D} {Q : D → Prop} (h : Q (.ins (cl 0) ["moment", "cover", "used"] [a, b, c])) : mkD (cl 0) ["moment", "cover", "used"] 4 (m_K_Held_init cl) [a, b, c] Q := by
  intro p'
  unfold m_K_Held_init
  walk_at "xd"
  exact h
theorem x_mk2 {a b c : D} {Q : D → Prop} (h : Q (.ins (cl 2) ["known", "trees", "steps"] [a, b, c])) : mkD (cl 2) ["known", "trees", "steps"] 4 (m_K_Paper_init cl) [a, b, c] Q := by
  intro p'
  unfold m_K_Paper_init
  walk_at "xd"
  exact h
theorem ok_box {bs : List (Int × Int)} : PyOk (boxD bs) 2 := .tup fun d hd => by
  obtain ⟨p, _, rfl⟩ := List.mem_map.mp hd
  exact PyOk.tup (k := 0) fun d hd => by
    simp only [List.mem_cons, List.not_mem_nil, or_false] at hd
    rcases hd with rfl | rfl
    · exact .int
    · exact .int
theorem box_ne {bs : List (Int × Int)} (h : bs.length = 3) : pyE (boxD bs) (.tup []) = false := pyE_len (by rw [List.length_map, h]; decide)
theorem cov_ex {b1 b2 : List (Int × Int)} {v : Int} (h1 : b1.length = 3) (h2 : b2.length = 3) (h0 : 0 ≤ v) (hv : v < 3) : ∃ cov, cutD [boxD b1, boxD b2] none (some v) = cov ∧ OkL 4 cov ∧ cov.length ≤ 2 ∧ pyE (.tup cov) (.tup (cutD cov none (some (-1)) ++ [.tup []])) = false := by
  have o1 : PyOk (boxD b1) 4 := ok_box.le (by decide)
  have o2 : PyOk (boxD b2) 4 := ok_box.le (by decide)
  rcases (show v = 0 ∨ v = 1 ∨ v = 2 by omega) with rfl | rfl | rfl
  · exact ⟨[], rfl, fun d hd => (nomatch hd), Nat.zero_le _, pyE_len (by decide)⟩
  · refine ⟨[boxD b1], rfl, fun d hd => ?_, by simp, ?_⟩
    · rw [List.mem_singleton.mp hd]; exact o1
    · show pyE (.tup [boxD b1]) (.tup [.tup []]) = false
      rw [pyE_cons, box_ne h1]; rfl
  · refine ⟨[boxD b1, boxD b2], rfl, fun d hd => ?_, by simp, ?_⟩
    · simp only [List.mem_cons, List.not_mem_nil, or_false] at hd
      rcases hd with rfl | rfl
      · exact o1
      · exact o2
    · show pyE (.tup [boxD b1, boxD b2]) (.tup [boxD b1, .tup []]) = false
      rw [pyE_cons, pyE_cons, box_ne h2, Bool.false_and, Bool.and_false]
theorem nm_ex {v : Int} (h0 : 0 ≤ v) : ∃ nm, cutD [D.str (PySem.Str.ofString "a"), .str (PySem.Str.ofString "b"), .str (PySem.Str.ofString "c")] none (some v) = nm ∧ OkL 4 nm ∧ nm.length ≤ 3 := by
  refine ⟨_, cutD_to h0, fun d hd => ?_, by rw [List.length_take]; simp; omega⟩
  have hd := List.mem_of_mem_take hd
  simp only [List.mem_cons, List.not_mem_nil, or_false] at hd
  rcases hd with rfl | rfl | rfl <;> exact .str (by decide +kernel)
theorem ne_same {d : D} {k : Nat} {Q : D → Prop} (h : PyOk d k) (hk : k ≤ 64) (q : Q (.bl false)) : dNe d d Q := by
  rw [dNe_py hk h h, pyE_self h]; exact q
theorem cut_1 {a b c : D} : cutD [a, b, c] (some 1) none = [b, c] := rfl
theorem cut_m1 {a b c : D} : cutD [a, b, c] none (some (-1)) = [a, b] := rfl
theorem cut_s1 {a b : D} : cutD [a, b] none (some 1) = [a] := rfl
theorem cut_le (xs : List D) (a b : Option Int) : (cutD xs a b).length ≤ xs.length := by
  unfold cutD
  rw [List.length_take, List.length_drop]; omega
theorem ok_str {z : String} {k : Nat} : PyOk (.str (PySem.Str.ofString z)) k := .str (by
  rw [PyData.canLay0, PySem.Str.ofString_eq_toList]
  unfold PyData.strOk
  rw [List.all_toArray, List.all_eq_true]
  intro x hx
  obtain ⟨c, _, rfl⟩ := List.mem_map.mp hx
  refine decide_eq_true ?_
  show c.val.toNat < 1114112
  rcases c.valid with h | h
  · have : c.val.toNat < 55296 := h
    omega
  · exact h.2)
theorem ok_nil {k : Nat} : OkL k [] := fun d hd => (nomatch hd)
theorem ok_cons {k : Nat} {d : D} {ds : List D} (h : PyOk d k) (t : OkL k ds) : OkL k (d :: ds) := fun x hx => by
  rcases List.mem_cons.mp hx with rfl | hx
  · exact h
  · exact t x hx
theorem ok_app {k : Nat} {ds es : List D} (h : OkL k ds) (t : OkL k es) : OkL k (ds ++ es) := fun x hx => by
  rcases List.mem_append.mp hx with hx | hx
  · exact h x hx
  · exact t x hx
theorem ok_cut {k : Nat} {ds : List D} {a b : Option Int} (h : OkL k ds) : OkL k (cutD ds a b) := fun x hx => by
  unfold cutD at hx
  exact h x (List.mem_of_mem_drop (List.mem_of_mem_take hx))
theorem OkL.le {k l : Nat} {ds : List D} (h : OkL k ds) (hl : k ≤ l) : OkL l ds := fun x hx => (h x hx).le hl
theorem itb_same {tbl : List (Addr × SpecD)} {d : D} {k : Nat} (h : PyOk d k) (hk : k ≤ 64) : ItB tbl d d true := by
  obtain ⟨p, a, b, c, e⟩ := h.ex
  have := ItB.py (tbl := tbl) a a (shaped_of b c hk) (shaped_of b c hk)
  rw [e] at this; exact this
theorem itb_ne {tbl : List (Addr × SpecD)} {d e : D} {k : Nat} (h : PyOk d k) (h2 : PyOk e k) (hk : k ≤ 64) (n : pyE d e = false) : ItB tbl d e false := by
  obtain ⟨p, a, b, c, _⟩ := h.ex
  obtain ⟨q, a2, b2, c2, _⟩ := h2.ex
  have := ItB.py (tbl := tbl) a a2 (shaped_of b c hk) (shaped_of b2 c2 hk)
  have e0 : pyE d e = PyData.eqv p q := by unfold pyE; rw [a, a2]
  rw [← e0, n] at this; exact this
theorem law_D : ∀ ns : List Int, ns.length ≤ 63 → (∀ z ∈ ns, Builtin.Int.intBits z ≤ 1048576) → ∀ Q : D → Prop, Q (.bl true) → ∀ cl, GoodC 3 cl → runD 12 (m_law cl) [.scr ns] Q := by
  intro ns hl _ Q h cl g
  unfold runD startD m_law m_law_1
  walk_at "xd"
  refine x_number (by decide) ?_
  generalize lawNum ns 0 = fi
  unfold m_law_2
  walk_at "xd"
  refine x_near ?_
  generalize nearF fi = mo
  unfold m_law_3
  walk_at "xd"
  refine x_box (by decide) (by decide) (by decide) ?_
  refine x_box (by decide) (by decide) (by decide) ?_
  walk_at "xd"
  have m3 := mod_pos (c := fi / 9) (m := 3) (by decide)
  obtain ⟨cov, eC, okC, lC, neC⟩ := cov_ex (boxF_length ns 1 3) (boxF_length ns 7 3) m3.1 m3.2
  have m4 := mod_pos (c := fi / 324) (m := 4) (by decide)
  obtain ⟨nm, eN, okN, lN⟩ := nm_ex m4.1
  have eC' : cutD [boxD (boxF ns 1 (Int.toNat 3)), boxD (boxF ns 7 (Int.toNat 3))] none (some (fi / 9 % 3)) = cov := eC
  simp only [eC']
  unfold m_law_4
  walk_at "xd"
  unfold m_law_5
  walk_at "xd"
  simp only [eN]
  unfold m_law_6
  walk_at "xd"
  refine x_mk1 ?_
  walk_at "xd"
  unfold m_law_7
  walk_at "xd"
  refine x_mk0 ?_
  walk_at "xd"
  unfold m_law_8
  walk_at "xd"
  unfold m_law_9
  walk_at "xd"
  refine x_mk2 ?_
  walk_at "xd"
  unfold m_law_10
  walk_at "xd"
  have cl1 := cut_le cov none (some 1)
  have cl2 := cut_le cov none (some (-1))
  generalize fi / 27 % 3 = x1 at *
  generalize fi / 81 % 4 = x2 at *
  generalize fi / 1296 % 5 = x3 at *
  have okT : OkL 4 [D.tup [D.str (PySem.Str.ofString "cut"), D.int x1, D.int mo], D.tup [D.str (PySem.Str.ofString "reading"), D.int 5], D.tup [D.str (PySem.Str.ofString "kept"), D.int x2]] :=
    ok_cons (.tup (ok_cons ok_str (ok_cons .int (ok_cons .int ok_nil)))) (ok_cons (.tup (ok_cons ok_str (ok_cons .int ok_nil))) (ok_cons (.tup (ok_cons ok_str (ok_cons .int ok_nil))) ok_nil))
  generalize D.tup [D.str (PySem.Str.ofString "cut"), D.int x1, D.int mo] = t1 at *
  generalize D.tup [D.str (PySem.Str.ofString "reading"), D.int 5] = t2 at *
  generalize D.tup [D.str (PySem.Str.ofString "kept"), D.int x2] = t3 at *
  simp only [cut_1]
  have okS : OkL 4 [D.tup [D.int x3, D.tup [D.int 1, D.int 2]], D.tup [D.int 0, D.tup []]] :=
    ok_cons (.tup (ok_cons .int (ok_cons (.tup (ok_cons .int (ok_cons .int ok_nil))) ok_nil))) (ok_cons (.tup (ok_cons .int (ok_cons (.tup ok_nil) ok_nil))) ok_nil)
  generalize D.tup [D.int x3, D.tup [D.int 1, D.int 2]] = s1 at *
  generalize D.tup [D.int 0, D.tup []] = s2 at *
  have okTr : PyOk (.tup [t1, t2, t3]) 5 := .tup okT
  have okCv : PyOk (.tup cov) 5 := .tup okC
  have okNm : PyOk (.tup nm) 5 := .tup okN
  have ok23 : OkL 4 [t2, t3] := fun x hx => okT x (List.mem_cons_of_mem _ hx)
  have okTs : PyOk (.tup [.tup [t1, t2, t3], .tup [t2, t3]]) 6 := .tup (ok_cons okTr (ok_cons (.tup ok23) ok_nil))
  have okSt : PyOk (.tup [s1, s2]) 5 := .tup okS
  refine ne_same okCv (by decide) ?_
  walk_at "xd"
  refine ne_same okTr (by decide) ?_
  walk_at "xd"
  unfold m_law_11
  walk_at "xd"
  refine ne_same okCv (by decide) ?_
  walk_at "xd"
  refine ne_same okNm (by decide) ?_
  walk_at "xd"
  unfold m_law_12
  walk_at "xd"
  have selfK : TupB [(cl 1, runD 2 (m_K_Known_eq cl))] [kD cl mo cov [t1, t2, t3]] [kD cl mo cov [t1, t2, t3]] true := .eq (.self (.ins (List.mem_cons_self ..) fun R hR => x_eqK (okC.le (by decide)) (okT.le (by decide)) (okC.le (by decide)) (okT.le (by decide)) (by rw [pyE_self okCv, pyE_self okTr]; simpa using hR))) .nil
  refine .inr ⟨_, _, true, rfl, rfl, selfK, ?_⟩
  walk_at "xd"
  (try simp only [cut_1])
  refine ne_same okTs (by decide) ?_
  walk_at "xd"
  refine ne_same okSt (by decide) ?_
  walk_at "xd"
  (try unfold m_law_13)
  walk_at "xd"
  (try simp only [cut_1, cut_m1, cut_s1])
  (repeat (first | (refine x_mk1 ?_; walk_at "xd") | (refine x_mk0 ?_; walk_at "xd") | (refine x_mk2 ?_; walk_at "xd") | (refine ⟨by show _ ≤ 16777216; (try simp only [List.length_append, List.length_cons, List.length_nil]); omega, ?_⟩; walk_at "xd")))
  (try simp only [cut_1, cut_m1, cut_s1])
  (try walk_at "xd")
  (try unfold m_law_14)
  walk_at "xd"
  (try simp only [cut_1, cut_m1, cut_s1])
  (repeat (first | (refine x_mk1 ?_; walk_at "xd") | (refine x_mk0 ?_; walk_at "xd") | (refine x_mk2 ?_; walk_at "xd") | (refine ⟨by show _ ≤ 16777216; (try simp only [List.length_append, List.length_cons, List.length_nil]); omega, ?_⟩; walk_at "xd")))
  (try simp only [cut_1, cut_m1, cut_s1])
  (try walk_at "xd")
  (try unfold m_law_15)
  walk_at "xd"
  (try simp only [cut_1, cut_m1, cut_s1])
  (repeat (first | (refine x_mk1 ?_; walk_at "xd") | (refine x_mk0 ?_; walk_at "xd") | (refine x_mk2 ?_; walk_at "xd") | (refine ⟨by show _ ≤ 16777216; (try simp only [List.length_append, List.length_cons, List.length_nil]); omega, ?_⟩; walk_at "xd")))
  (try simp only [cut_1, cut_m1, cut_s1])
  (try walk_at "xd")
  (try unfold m_law_16)
  walk_at "xd"
  (try simp only [cut_1, cut_m1, cut_s1])
  (repeat (first | (refine x_mk1 ?_; walk_at "xd") | (refine x_mk0 ?_; walk_at "xd") | (refine x_mk2 ?_; walk_at "xd") | (refine ⟨by show _ ≤ 16777216; (try simp only [List.length_append, List.length_cons, List.length_nil]); omega, ?_⟩; walk_at "xd")))
  (try simp only [cut_1, cut_m1, cut_s1])
  (try walk_at "xd")
  (try unfold m_law_17)
  walk_at "xd"
  (try simp only [cut_1, cut_m1, cut_s1])
  (repeat (first | (refine x_mk1 ?_; walk_at "xd") | (refine x_mk0 ?_; walk_at "xd") | (refine x_mk2 ?_; walk_at "xd") | (refine ⟨by show _ ≤ 16777216; (try simp only [List.length_append, List.length_cons, List.length_nil]); omega, ?_⟩; walk_at "xd")))
  (try simp only [cut_1, cut_m1, cut_s1])
  (try walk_at "xd")
  (try unfold m_law_18)
  walk_at "xd"
  (try simp only [cut_1, cut_m1, cut_s1])
  (repeat (first | (refine x_mk1 ?_; walk_at "xd") | (refine x_mk0 ?_; walk_at "xd") | (refine x_mk2 ?_; walk_at "xd") | (refine ⟨by show _ ≤ 16777216; (try simp only [List.length_append, List.length_cons, List.length_nil]); omega, ?_⟩; walk_at "xd")))
  (try simp only [cut_1, cut_m1, cut_s1])
  (try walk_at "xd")
  (try unfold m_law_19)
  walk_at "xd"
  (try simp only [cut_1, cut_m1, cut_s1])
  (repeat (first | (refine x_mk1 ?_; walk_at "xd") | (refine x_mk0 ?_; walk_at "xd") | (refine x_mk2 ?_; walk_at "xd") | (refine ⟨by show _ ≤ 16777216; (try simp only [List.length_append, List.length_cons, List.length_nil]); omega, ?_⟩; walk_at "xd")))
  (try simp only [cut_1, cut_m1, cut_s1])
  (try walk_at "xd")
  (try unfold m_law_20)
  walk_at "xd"
  (try simp only [cut_1, cut_m1, cut_s1])
  (repeat (first | (refine x_mk1 ?_; walk_at "xd") | (refine x_mk0 ?_; walk_at "xd") | (refine x_mk2 ?_; walk_at "xd") | (refine ⟨by show _ ≤ 16777216; (try simp only [List.length_append, List.length_cons, List.length_nil]); omega, ?_⟩; walk_at "xd")))
  (try simp only [cut_1, cut_m1, cut_s1])
  (try walk_at "xd")
  (try unfold m_law_21)
  walk_at "xd"
  (try simp only [cut_1, cut_m1, cut_s1])
  (repeat (first | (refine x_mk1 ?_; walk_at "xd") | (refine x_mk0 ?_; walk_at "xd") | (refine x_mk2 ?_; walk_at "xd") | (refine ⟨by show _ ≤ 16777216; (try simp only [List.length_append, List.length_cons, List.length_nil]); omega, ?_⟩; walk_at "xd")))
  (try simp only [cut_1, cut_m1, cut_s1])
  (try walk_at "xd")
  (try unfold m_law_22)
  walk_at "xd"
  have c5 := okC.le (l := 5) (by decide)
  have t5 := okT.le (l := 5) (by decide)
  have n5 := okN.le (l := 5) (by decide)
  have sC := pyE_self okCv
  have sT := pyE_self okTr
  have sN := pyE_self okNm
  have sk : SelfOk [(cl 1, runD 2 (m_K_Known_eq cl))] 2 (kD cl mo cov [t1, t2, t3]) := .ins (List.mem_cons_self ..) fun R hR => x_eqK c5 t5 c5 t5 (by rw [sC, sT]; simpa using hR)
  have sk3 : SelfOk [(cl 1, runD 2 (m_K_Known_eq cl))] 3 (.tup [kD cl mo cov [t1, t2, t3]]) := .tup fun d hd => by rw [List.mem_singleton.mp hd]; exact sk
  have ok1 : PyOk (.tup [.tup [t1, t2, t3]]) 6 := .tup (ok_cons okTr ok_nil)
  have okS1 : PyOk (.tup [s1]) 5 := .tup fun x hx => okS x (by rw [List.mem_singleton.mp hx]; exact List.mem_cons_self ..)
  refine y_pairs (e0 := [_, _, _, _, _, _, _, _, _, _, _]) rfl ?_ (fun v => ?_) _
  · intro x hx
    simp only [List.mem_cons, List.not_mem_nil, or_false] at hx
    rcases hx with rfl | rfl | rfl | rfl | rfl | rfl | rfl | rfl | rfl | rfl | rfl | rfl | rfl | rfl | rfl | rfl | rfl
    · exact ⟨_, _, _, rfl, gK c5 t5 c5 t5 (by rw [sC, sT]; simp)⟩
    · exact ⟨_, _, _, rfl, gK c5 t5 c5 t5 (by
        have : (mo == mo + 1) = false := beq_eq_false_iff_ne.mpr (by omega)
        rw [this]; rfl)⟩
    · exact ⟨_, _, _, rfl, gK c5 t5 (ok_app (ok_app c5 (ok_cut c5)) (ok_cons (.tup (ok_cons (.tup (ok_cons .int (ok_cons .int ok_nil))) ok_nil)) ok_nil)) t5 (by rw [pyE_len (by simp only [List.length_append, List.length_cons, List.length_nil]; omega)]; simp)⟩
    · exact ⟨_, _, _, rfl, gK c5 t5 c5 (fun x hx => t5 x (by simp only [List.mem_cons, List.not_mem_nil, or_false] at hx ⊢; rcases hx with h | h <;> simp [h])) (by rw [pyE_len (ds := [t1, t2, t3]) (es := [t1, t2]) (by simp)]; simp)⟩
    · exact ⟨_, _, _, rfl, gKn g (by show cl 0 ∈ _; simp) (.inr ⟨0, _, _, rfl, by decide, by decide⟩)⟩
    · exact ⟨_, _, _, rfl, gH c5 n5 c5 n5 (by rw [sC, sN]; simp)⟩
    · exact ⟨_, _, _, rfl, gH c5 n5 c5 n5 (by
        have : (mo == mo - 1) = false := beq_eq_false_iff_ne.mpr (by omega)
        rw [this]; rfl)⟩
    · exact ⟨_, _, _, rfl, gH c5 n5 c5 (ok_app n5 (ok_cons ok_str ok_nil)) (by rw [pyE_len (ds := nm) (by simp)]; simp)⟩
    · exact ⟨_, _, _, rfl, gH c5 n5 (ok_app (ok_cut c5) (ok_cons (.tup ok_nil) ok_nil)) n5 (by rw [neC]; simp)⟩
    · exact ⟨_, _, _, rfl, gP (.eq (.self sk3) (.eq (itb_same okTs (by decide)) (.eq (itb_same okSt (by decide)) .nil)))⟩
    · exact ⟨_, _, _, rfl, gP (.ne (.emp (by simp)))⟩
    · exact ⟨_, _, _, rfl, gP (.eq (.self sk3) (.ne (itb_ne okTs ok1 (by decide) (pyE_len (by simp)))))⟩
    · exact ⟨_, _, _, rfl, gP (.eq (.self sk3) (.eq (itb_same okTs (by decide)) (.ne (itb_ne okSt okS1 (by decide) (pyE_len (by simp))))))⟩
    · exact ⟨_, _, _, rfl, gPn g (by show cl 1 ∈ _; simp) (.inr ⟨1, _, _, rfl, by decide, by decide⟩)⟩
    · exact ⟨_, _, _, rfl, gKn g trivial (.inl ⟨_, rfl⟩)⟩
    · exact ⟨_, _, _, rfl, gHn g trivial (.inl ⟨_, rfl⟩)⟩
    · exact ⟨_, _, _, rfl, gPn g trivial (.inl ⟨_, rfl⟩)⟩
  · unfold m_law_23
    walk_at "xd"
    exact h


end DL

/-! derivations of sureplace_k34_papers_as_values, written by gen.py -/
namespace DL
open PySem PySem.Spec PyProof.Rows L2
def topS (i : Nat) : Stmt := PySem.Challenge.pw_sureplace_k34_papers_as_values.main.body.getD i (.Pass ⟨0, 0, 0, 0⟩)
structure Tx (mg : Str → Option Value) : Prop where
  z_bool : mg "bool" = none
  z_int : mg "int" = none
  z_isinstance : mg "isinstance" = none
  z_len : mg "len" = none
  z_range : mg "range" = none
  z_tuple : mg "tuple" = none
abbrev s_K_Held_init : Stmt := inClass (topS 1) 0
abbrev N_K_Held_init : List Str := ["self", "moment", "cover", "used"]
theorem sc_K_Held_init : FnScope N_K_Held_init ["self", "moment", "cover", "used"] (defScope s_K_Held_init) := ⟨rfl, rfl, rfl, by decide +kernel, rfl, by decide +kernel, by decide +kernel⟩
abbrev s_K_Held_eq : Stmt := inClass (topS 1) 1
abbrev N_K_Held_eq : List Str := ["self", "other"]
theorem sc_K_Held_eq : FnScope N_K_Held_eq ["self", "other"] (defScope s_K_Held_eq) := ⟨rfl, rfl, rfl, by decide +kernel, rfl, by decide +kernel, by decide +kernel⟩
abbrev s_K_Known_init : Stmt := inClass (topS 3) 0
abbrev N_K_Known_init : List Str := ["self", "moment", "cover", "tree"]
theorem sc_K_Known_init : FnScope N_K_Known_init ["self", "moment", "cover", "tree"] (defScope s_K_Known_init) := ⟨rfl, rfl, rfl, by decide +kernel, rfl, by decide +kernel, by decide +kernel⟩
abbrev s_K_Known_eq : Stmt := inClass (topS 3) 1
abbrev N_K_Known_eq : List Str := ["self", "other"]
theorem sc_K_Known_eq : FnScope N_K_Known_eq ["self", "other"] (defScope s_K_Known_eq) := ⟨rfl, rfl, rfl, by decide +kernel, rfl, by decide +kernel, by decide +kernel⟩
abbrev s_K_Paper_init : Stmt := inClass (topS 4) 0
abbrev N_K_Paper_init : List Str := ["self", "known", "trees", "steps"]
theorem sc_K_Paper_init : FnScope N_K_Paper_init ["self", "known", "trees", "steps"] (defScope s_K_Paper_init) := ⟨rfl, rfl, rfl, by decide +kernel, rfl, by decide +kernel, by decide +kernel⟩
abbrev s_K_Paper_eq : Stmt := inClass (topS 4) 1
abbrev N_K_Paper_eq : List Str := ["self", "other"]
theorem sc_K_Paper_eq : FnScope N_K_Paper_eq ["self", "other"] (defScope s_K_Paper_eq) := ⟨rfl, rfl, rfl, by decide +kernel, rfl, by decide +kernel, by decide +kernel⟩
abbrev s__law_number : Stmt := topS 6
abbrev N__law_number : List Str := ["_law_script", "_law_k", "_law_cell", "_law_one", "_law_two"]
theorem sc__law_number : FnScope N__law_number ["_law_script", "_law_k"] (defScope s__law_number) := ⟨rfl, rfl, rfl, by decide +kernel, rfl, by decide +kernel, by decide +kernel⟩
abbrev s__law_near : Stmt := topS 7
abbrev N__law_near : List Str := ["_law_cell", "_law_kind", "_law_rest"]
theorem sc__law_near : FnScope N__law_near ["_law_cell"] (defScope s__law_near) := ⟨rfl, rfl, rfl, by decide +kernel, rfl, by decide +kernel, by decide +kernel⟩
abbrev s__law_length : Stmt := topS 8
abbrev N__law_length : List Str := ["_law_cell", "_law_kind", "_law_rest"]
theorem sc__law_length : FnScope N__law_length ["_law_cell"] (defScope s__law_length) := ⟨rfl, rfl, rfl, by decide +kernel, rfl, by decide +kernel, by decide +kernel⟩
abbrev s__law_box : Stmt := topS 9
abbrev N__law_box : List Str := ["_law_script", "_law_k", "_law_sides", "_law_box_here", "_law_at", "_law_low"]
theorem sc__law_box : FnScope N__law_box ["_law_script", "_law_k", "_law_sides"] (defScope s__law_box) := ⟨rfl, rfl, rfl, by decide +kernel, rfl, by decide +kernel, by decide +kernel⟩
abbrev s__law_truth : Stmt := topS 10
abbrev N__law_truth : List Str := ["_law_actual", "_law_expected"]
theorem sc__law_truth : FnScope N__law_truth ["_law_actual", "_law_expected"] (defScope s__law_truth) := ⟨rfl, rfl, rfl, by decide +kernel, rfl, by decide +kernel, by decide +kernel⟩
abbrev s_law : Stmt := topS 11
abbrev N_law : List Str := ["_law_script", "_law_first", "_law_moment", "_law_cover", "_law_tree", "_law_names", "_law_known", "_law_held", "_law_steps", "_law_paper", "_law_pairs", "_law_pair"]
theorem sc_law : FnScope N_law ["_law_script"] (defScope s_law) := ⟨rfl, rfl, rfl, by decide +kernel, rfl, by decide +kernel, by decide +kernel⟩
section
variable {P : Program} {w : World} {K : PySem.W.Frag} {mg : Str → Option Value} {base : Heap} {fa : Addr} {cdv : Value} {A : Around} {outer : List PySem.Env} {s : Shared} {H : Hp} {E : XK}
theorem d_K_Held_init {cl : Nat → Addr} (T : Tx mg) (i_Held : InsK K (cl 0) ["moment", "cover", "used"]) (hr : Room 0 (A.deeper (envOfC "Held.__init__" (defScope s_K_Held_init) s.heap.objs.size fa cdv))) :
    SSs (cxOf CX0 P w K mg base N_K_Held_init "Held.__init__" (defScope s_K_Held_init) fa cdv A outer s H E).nox (defBody s_K_Held_init) (m_K_Held_init cl) := by
  refine sss_cons ?_ ?_
  · exact (ss_fld i_Held (by decide +kernel) (pv 0) (ee_var (pv 1)))
  refine sss_cons ?_ ?_
  · exact (ss_fld i_Held (by decide +kernel) (pv 0) (ee_var (pv 2)))
  refine sss_one ?_
  · exact (ss_fld i_Held (by decide +kernel) (pv 0) (ee_var (pv 3)))
theorem d_K_Held_eq {cl : Nat → Addr} (T : Tx mg) (g_Held : mg "Held" = some (.ref (cl 0))) (x_Held : (∀ C ∈ [cl 0, cl 1, cl 2], PySem.W.kitOne K (.ref C) (.ref (cl 0)) = some (decide (C = cl 0))) ∧ ∀ n ∈ tysD, PySem.W.kitOne K (.type n) (.ref (cl 0)) = some false) (hr : Room 0 (A.deeper (envOfC "Held.__eq__" (defScope s_K_Held_eq) s.heap.objs.size fa cdv))) :
    SSs (cxOf CX0 P w K mg base N_K_Held_eq "Held.__eq__" (defScope s_K_Held_eq) fa cdv A outer s H E).nox (defBody s_K_Held_eq) (m_K_Held_eq cl) := by
  refine sss_cons ?_ ?_
  · refine ss_if (et_not (et_tru (ee_callB (cn_isiO x_Held.1 x_Held.2) nIsiO_mono (by rfl) T.z_isinstance (by decide +kernel) (eab_cons (eb_var (pv 1)) (eab_cons (ee_cls (by rfl) g_Held).b eab_nil))).b (fun _ => rfl))) ?_ ?_
    · refine sss_one ?_
      · exact (ss_ret ee_bl)
    · exact sss_nil
  refine sss_one ?_
  · exact (ss_ret (ee_cmp (or_eq hr.units) dEq_mono (ee_tup (ea_cons (ee_fld (eb_var (pv 0))) (ea_cons (ee_fld (eb_var (pv 0))) (ea_cons (ee_fld (eb_var (pv 0))) ea_nil)))).b (ee_tup (ea_cons (ee_fld (eb_var (pv 1))) (ea_cons (ee_fld (eb_var (pv 1))) (ea_cons (ee_fld (eb_var (pv 1))) ea_nil)))).b (nomark _)))
theorem d_K_Known_init {cl : Nat → Addr} (T : Tx mg) (i_Known : InsK K (cl 1) ["moment", "cover", "tree"]) (hr : Room 0 (A.deeper (envOfC "Known.__init__" (defScope s_K_Known_init) s.heap.objs.size fa cdv))) :
    SSs (cxOf CX0 P w K mg base N_K_Known_init "Known.__init__" (defScope s_K_Known_init) fa cdv A outer s H E).nox (defBody s_K_Known_init) (m_K_Known_init cl) := by
  refine sss_cons ?_ ?_
  · exact (ss_fld i_Known (by decide +kernel) (pv 0) (ee_var (pv 1)))
  refine sss_cons ?_ ?_
  · exact (ss_fld i_Known (by decide +kernel) (pv 0) (ee_var (pv 2)))
  refine sss_one ?_
  · exact (ss_fld i_Known (by decide +kernel) (pv 0) (ee_var (pv 3)))
theorem d_K_Known_eq {cl : Nat → Addr} (T : Tx mg) (g_Known : mg "Known" = some (.ref (cl 1))) (x_Known : (∀ C ∈ [cl 0, cl 1, cl 2], PySem.W.kitOne K (.ref C) (.ref (cl 1)) = some (decide (C = cl 1))) ∧ ∀ n ∈ tysD, PySem.W.kitOne K (.type n) (.ref (cl 1)) = some false) (hr : Room 0 (A.deeper (envOfC "Known.__eq__" (defScope s_K_Known_eq) s.heap.objs.size fa cdv))) :
    SSs (cxOf CX0 P w K mg base N_K_Known_eq "Known.__eq__" (defScope s_K_Known_eq) fa cdv A outer s H E).nox (defBody s_K_Known_eq) (m_K_Known_eq cl) := by
  refine sss_cons ?_ ?_
  · refine ss_if (et_not (et_tru (ee_callB (cn_isiO x_Known.1 x_Known.2) nIsiO_mono (by rfl) T.z_isinstance (by decide +kernel) (eab_cons (eb_var (pv 1)) (eab_cons (ee_cls (by rfl) g_Known).b eab_nil))).b (fun _ => rfl))) ?_ ?_
    · refine sss_one ?_
      · exact (ss_ret ee_bl)
    · exact sss_nil
  refine sss_one ?_
  · exact (ss_ret (ee_cmp (or_eq hr.units) dEq_mono (ee_tup (ea_cons (ee_fld (eb_var (pv 0))) (ea_cons (ee_fld (eb_var (pv 0))) (ea_cons (ee_fld (eb_var (pv 0))) ea_nil)))).b (ee_tup (ea_cons (ee_fld (eb_var (pv 1))) (ea_cons (ee_fld (eb_var (pv 1))) (ea_cons (ee_fld (eb_var (pv 1))) ea_nil)))).b (nomark _)))
theorem d_K_Paper_init {cl : Nat → Addr} (T : Tx mg) (i_Paper : InsK K (cl 2) ["known", "trees", "steps"]) (hr : Room 0 (A.deeper (envOfC "Paper.__init__" (defScope s_K_Paper_init) s.heap.objs.size fa cdv))) :
    SSs (cxOf CX0 P w K mg base N_K_Paper_init "Paper.__init__" (defScope s_K_Paper_init) fa cdv A outer s H E).nox (defBody s_K_Paper_init) (m_K_Paper_init cl) := by
  refine sss_cons ?_ ?_
  · exact (ss_fld i_Paper (by decide +kernel) (pv 0) (ee_var (pv 1)))
  refine sss_cons ?_ ?_
  · exact (ss_fld i_Paper (by decide +kernel) (pv 0) (ee_var (pv 2)))
  refine sss_one ?_
  · exact (ss_fld i_Paper (by decide +kernel) (pv 0) (ee_var (pv 3)))
theorem d_K_Paper_eq {cl : Nat → Addr} (T : Tx mg) (g_Paper : mg "Paper" = some (.ref (cl 2))) (q_Known : CalE P w K mg base 1 (cl 1) [cl 0, cl 1, cl 2] (runD 2 (m_K_Known_eq cl))) (x_Paper : (∀ C ∈ [cl 0, cl 1, cl 2], PySem.W.kitOne K (.ref C) (.ref (cl 2)) = some (decide (C = cl 2))) ∧ ∀ n ∈ tysD, PySem.W.kitOne K (.type n) (.ref (cl 2)) = some false) (hr : Room 9 (A.deeper (envOfC "Paper.__eq__" (defScope s_K_Paper_eq) s.heap.objs.size fa cdv))) :
    SSs (cxOf CX0 P w K mg base N_K_Paper_eq "Paper.__eq__" (defScope s_K_Paper_eq) fa cdv A outer s H E).nox (defBody s_K_Paper_eq) (m_K_Paper_eq cl) := by
  refine sss_cons ?_ ?_
  · refine ss_if (et_not (et_tru (ee_callB (cn_isiO x_Paper.1 x_Paper.2) nIsiO_mono (by rfl) T.z_isinstance (by decide +kernel) (eab_cons (eb_var (pv 1)) (eab_cons (ee_cls (by rfl) g_Paper).b eab_nil))).b (fun _ => rfl))) ?_ ?_
    · refine sss_one ?_
      · exact (ss_ret ee_bl)
    · exact sss_nil
  refine sss_one ?_
  · exact (ss_ret (ee_cmp (or_eqT (or_eq hr.units) (hr.mono (by decide)) (tb_cons q_Known tb_nil)) dEqT_mono (ee_tup (ea_cons (ee_fld (eb_var (pv 0))) (ea_cons (ee_fld (eb_var (pv 0))) (ea_cons (ee_fld (eb_var (pv 0))) ea_nil)))).b (ee_tup (ea_cons (ee_fld (eb_var (pv 1))) (ea_cons (ee_fld (eb_var (pv 1))) (ea_cons (ee_fld (eb_var (pv 1))) ea_nil)))).b (nomark _)))
theorem d__law_number (T : Tx mg) (hr : Room 0 (A.deeper (envOfC "_law_number" (defScope s__law_number) s.heap.objs.size fa cdv))) :
    SSs (cxOf CX0 P w K mg base N__law_number "_law_number" (defScope s__law_number) fa cdv A outer s H E).nox (defBody s__law_number) m__law_number := by
  refine sss_cons ?_ ?_
  · exact (ss_set (i := 2) sc__law_number.nd rfl (by first | exact .inl rfl | exact .inr rfl) (ee_op or_add dAdd_mono (ee_op or_mul dMul_mono ee_int.b (eb_var (pv 1))).b ee_int.b))
  refine sss_cons ?_ ?_
  · refine ss_if (et_cmp or_lt dRel_mono (eb_var (pv 1)) (ee_callB (cn_len) nLen_mono (by rfl) T.z_len (by decide +kernel) (eab_cons (eb_var (pv 0)) eab_nil)).b (nomark _)) ?_ ?_
    · refine sss_one ?_
      · exact (ss_set (i := 2) sc__law_number.nd rfl (by first | exact .inl rfl | exact .inr rfl) (ee_callTy cn_int nInt_mono (by rfl) T.z_int (by decide +kernel) (eab_cons (ee_ix (eb_var (pv 0)) (eb_var (pv 1)) (fun _ _ => rfl)).b eab_nil)))
    · exact sss_nil
  refine sss_cons ?_ ?_
  · refine ss_if (et_cmp or_lt dRel_mono (eb_var (pv 2)) ee_int.b (nomark _)) ?_ ?_
    · refine sss_one ?_
      · exact (ss_set (i := 2) sc__law_number.nd rfl (by first | exact .inl rfl | exact .inr rfl) (ee_op or_sub dSub_mono ee_int.b (ee_op or_mul dMul_mono ee_int.b (eb_var (pv 2))).b))
    · exact sss_nil
  refine sss_cons ?_ ?_
  · refine ss_if (et_cmp or_lt dRel_mono (eb_var (pv 2)) ee_int.b (nomark _)) ?_ ?_
    · refine sss_cons ?_ ?_
      · exact (ss_set (i := 3) sc__law_number.nd rfl (by first | exact .inl rfl | exact .inr rfl) (ee_op or_mod dMod_mono (ee_callTy cn_int nInt_mono (by rfl) T.z_int (by decide +kernel) (eab_cons (ee_op or_add dAdd_mono (ee_op or_add dAdd_mono (ee_op or_mul dMul_mono (eb_var (pv 2)) ee_int.b).b (ee_op or_mul dMul_mono (eb_var (pv 1)) ee_int.b).b).b ee_int.b).b eab_nil)).b ee_int.b))
      refine sss_cons ?_ ?_
      · exact (ss_set (i := 4) sc__law_number.nd rfl (by first | exact .inl rfl | exact .inr rfl) (ee_op or_mod dMod_mono (ee_callTy cn_int nInt_mono (by rfl) T.z_int (by decide +kernel) (eab_cons (ee_op or_add dAdd_mono (ee_op or_add dAdd_mono (ee_op or_mul dMul_mono (eb_var (pv 3)) ee_int.b).b (ee_op or_mul dMul_mono (eb_var (pv 1)) ee_int.b).b).b ee_int.b).b eab_nil)).b ee_int.b))
      refine sss_one ?_
      · exact (ss_set (i := 2) sc__law_number.nd rfl (by first | exact .inl rfl | exact .inr rfl) (ee_op or_add dAdd_mono (ee_op or_mul dMul_mono (eb_var (pv 3)) ee_int.b).b (eb_var (pv 4))))
    · exact sss_nil
  refine sss_one ?_
  · exact (ss_ret (ee_var (pv 2)))
theorem d__law_near (T : Tx mg) (hr : Room 0 (A.deeper (envOfC "_law_near" (defScope s__law_near) s.heap.objs.size fa cdv))) :
    SSs (cxOf CX0 P w K mg base N__law_near "_law_near" (defScope s__law_near) fa cdv A outer s H E).nox (defBody s__law_near) m__law_near := by
  refine sss_cons ?_ ?_
  · exact (ss_set (i := 1) sc__law_near.nd rfl (by first | exact .inl rfl | exact .inr rfl) (ee_op or_mod dMod_mono (ee_callTy cn_int nInt_mono (by rfl) T.z_int (by decide +kernel) (eab_cons (eb_var (pv 0)) eab_nil)).b ee_int.b))
  refine sss_cons ?_ ?_
  · exact (ss_set (i := 2) sc__law_near.nd rfl (by first | exact .inl rfl | exact .inr rfl) (ee_op or_div dDiv_mono (eb_var (pv 0)) ee_int.b))
  refine sss_cons ?_ ?_
  · refine ss_if (et_cmp (or_eq hr.units) dEq_mono (eb_var (pv 1)) ee_int.b (nomark _)) ?_ ?_
    · refine sss_one ?_
      · exact (ss_ret (ee_op or_sub dSub_mono (ee_op or_mod dMod_mono (ee_callTy cn_int nInt_mono (by rfl) T.z_int (by decide +kernel) (eab_cons (eb_var (pv 2)) eab_nil)).b ee_int.b).b ee_int.b))
    · exact sss_nil
  refine sss_cons ?_ ?_
  · refine ss_if (et_cmp or_lt dRel_mono (eb_var (pv 1)) ee_int.b (nomark _)) ?_ ?_
    · refine sss_one ?_
      · exact (ss_ret (ee_op or_sub dSub_mono (ee_op or_mod dMod_mono (ee_callTy cn_int nInt_mono (by rfl) T.z_int (by decide +kernel) (eab_cons (eb_var (pv 2)) eab_nil)).b ee_int.b).b ee_int.b))
    · exact sss_nil
  refine sss_one ?_
  · exact (ss_ret (ee_op or_sub dSub_mono (ee_op or_mod dMod_mono (ee_callTy cn_int nInt_mono (by rfl) T.z_int (by decide +kernel) (eab_cons (eb_var (pv 2)) eab_nil)).b ee_int.b).b ee_int.b))
theorem d__law_length (T : Tx mg) (hr : Room 0 (A.deeper (envOfC "_law_length" (defScope s__law_length) s.heap.objs.size fa cdv))) :
    SSs (cxOf CX0 P w K mg base N__law_length "_law_length" (defScope s__law_length) fa cdv A outer s H E).nox (defBody s__law_length) m__law_length := by
  refine sss_cons ?_ ?_
  · exact (ss_set (i := 1) sc__law_length.nd rfl (by first | exact .inl rfl | exact .inr rfl) (ee_op or_mod dMod_mono (ee_callTy cn_int nInt_mono (by rfl) T.z_int (by decide +kernel) (eab_cons (eb_var (pv 0)) eab_nil)).b ee_int.b))
  refine sss_cons ?_ ?_
  · exact (ss_set (i := 2) sc__law_length.nd rfl (by first | exact .inl rfl | exact .inr rfl) (ee_op or_div dDiv_mono (eb_var (pv 0)) ee_int.b))
  refine sss_cons ?_ ?_
  · refine ss_if (et_cmp (or_eq hr.units) dEq_mono (eb_var (pv 1)) ee_int.b (nomark _)) ?_ ?_
    · refine sss_one ?_
      · exact (ss_ret ee_int)
    · exact sss_nil
  refine sss_cons ?_ ?_
  · refine ss_if (et_cmp (or_eq hr.units) dEq_mono (eb_var (pv 1)) ee_int.b (nomark _)) ?_ ?_
    · refine sss_one ?_
      · exact (ss_ret (ee_op or_mod dMod_mono (ee_callTy cn_int nInt_mono (by rfl) T.z_int (by decide +kernel) (eab_cons (eb_var (pv 2)) eab_nil)).b ee_int.b))
    · exact sss_nil
  refine sss_one ?_
  · exact (ss_ret (ee_op or_mod dMod_mono (ee_callTy cn_int nInt_mono (by rfl) T.z_int (by decide +kernel) (eab_cons (eb_var (pv 2)) eab_nil)).b ee_int.b))
theorem d__law_box (T : Tx mg) (c__law_near : Cal P w K mg base "_law_near" 1 ["_law_cell"] [] (runD 3 m__law_near)) (c__law_number : Cal P w K mg base "_law_number" 1 ["_law_script", "_law_k"] [] (runD 5 m__law_number)) (c__law_length : Cal P w K mg base "_law_length" 1 ["_law_cell"] [] (runD 3 m__law_length)) (hr : Room 1 (A.deeper (envOfC "_law_box" (defScope s__law_box) s.heap.objs.size fa cdv))) :
    SSs (cxOf CX0 P w K mg base N__law_box "_law_box" (defScope s__law_box) fa cdv A outer s H E).nox (defBody s__law_box) m__law_box := by
  refine sss_cons ?_ ?_
  · exact (ss_setN (i := 3) sc__law_box.nd rfl (by first | exact .inl rfl | exact .inr rfl) (en_lst ea_nil))
  refine sss_cons ?_ ?_
  · refine ss_for PassesOwn.never rfl (ei_range1 (by rfl) T.z_range (ea_cons (ee_var (pv 2)) ea_nil)) (eg_name (i := 4) sc__law_box.nd rfl (by first | exact .inl rfl | exact .inr rfl)) ?_
    refine sss_cons ?_ ?_
    · exact (ss_set (i := 5) sc__law_box.nd rfl (by first | exact .inl rfl | exact .inr rfl) (ee_call c__law_near (hr.mono (by decide)) (by rfl) (ea_cons (ee_call c__law_number (hr.mono (by decide)) (by rfl) (ea_cons (ee_var (pv 0)) (ea_cons (ee_op or_add dAdd_mono (eb_var (pv 1)) (ee_op or_mul dMul_mono ee_int.b (eb_var (pv 4))).b) ea_nil))) ea_nil)))
    refine sss_one ?_
    · exact (ss_app (pv 3) (ee_tup (ea_cons (ee_var (pv 5)) (ea_cons (ee_op or_add dAdd_mono (eb_var (pv 5)) (ee_call c__law_length (hr.mono (by decide)) (by rfl) (ea_cons (ee_call c__law_number (hr.mono (by decide)) (by rfl) (ea_cons (ee_var (pv 0)) (ea_cons (ee_op or_add dAdd_mono (ee_op or_add dAdd_mono (eb_var (pv 1)) (ee_op or_mul dMul_mono ee_int.b (eb_var (pv 4))).b).b ee_int.b) ea_nil))) ea_nil)).b) ea_nil))))
  refine sss_one ?_
  · exact (ss_ret (ee_callTy cn_tuple nTuple_mono (by rfl) T.z_tuple (by decide +kernel) (eab_cons (eb_var (pv 3)) eab_nil)))
theorem d__law_truth (T : Tx mg) (hr : Room 0 (A.deeper (envOfC "_law_truth" (defScope s__law_truth) s.heap.objs.size fa cdv))) :
    SSs (cxOf CX0 P w K mg base N__law_truth "_law_truth" (defScope s__law_truth) fa cdv A outer s H E).nox (defBody s__law_truth) m__law_truth := by
  refine sss_one ?_
  · exact (ss_ret (ee_and (ee_callB (cn_isiB) nIsiB_mono (by rfl) T.z_isinstance (by decide +kernel) (eab_cons (eb_var (pv 0)) (eab_cons (ee_ty (by rfl) T.z_bool (by decide +kernel)).b eab_nil))) (ee_one (ee_cmp (or_eq hr.units) dEq_mono (eb_var (pv 0)) (eb_var (pv 1)) (nomark _)))))
theorem d_law {cl : Nat → Addr} (T : Tx mg) (c__law_number : Cal P w K mg base "_law_number" 1 ["_law_script", "_law_k"] [] (runD 5 m__law_number)) (c__law_near : Cal P w K mg base "_law_near" 1 ["_law_cell"] [] (runD 3 m__law_near)) (c__law_box : Cal P w K mg base "_law_box" 2 ["_law_script", "_law_k", "_law_sides"] [] (runD 6 m__law_box)) (c__law_truth : Cal P w K mg base "_law_truth" 1 ["_law_actual", "_law_expected"] [] (runD 2 m__law_truth)) (c_Held : CalM P w K mg base "Held" 1 (cl 0) ["moment", "cover", "used"] 3 (mkD (cl 0) ["moment", "cover", "used"] 4 (m_K_Held_init cl))) (c_Known : CalM P w K mg base "Known" 1 (cl 1) ["moment", "cover", "tree"] 3 (mkD (cl 1) ["moment", "cover", "tree"] 4 (m_K_Known_init cl))) (c_Paper : CalM P w K mg base "Paper" 1 (cl 2) ["known", "trees", "steps"] 3 (mkD (cl 2) ["known", "trees", "steps"] 4 (m_K_Paper_init cl))) (e_Held : CalE P w K mg base 10 (cl 0) [cl 0, cl 1, cl 2] (runD 2 (m_K_Held_eq cl))) (e_Known : CalE P w K mg base 10 (cl 1) [cl 0, cl 1, cl 2] (runD 2 (m_K_Known_eq cl))) (e_Paper : CalE P w K mg base 10 (cl 2) [cl 0, cl 1, cl 2] (runD 2 (m_K_Paper_eq cl))) (o_Held : NeF K (cl 0)) (o_Known : NeF K (cl 1)) (o_Paper : NeF K (cl 2)) (q_Known : CalE P w K mg base 1 (cl 1) [cl 0, cl 1, cl 2] (runD 2 (m_K_Known_eq cl))) (hr : Room 18 (A.deeper (envOfC "law" (defScope s_law) s.heap.objs.size fa cdv))) :
    SSs (cxOf CX0 P w K mg base N_law "law" (defScope s_law) fa cdv A outer s H E).nox (defBody s_law) (m_law cl) := by
  refine sss_cons ?_ ?_
  · exact (ss_set (i := 1) sc_law.nd rfl (by first | exact .inl rfl | exact .inr rfl) (ee_call c__law_number (hr.mono (by decide)) (by rfl) (ea_cons (ee_var (pv 0)) (ea_cons ee_int ea_nil))))
  refine sss_cons ?_ ?_
  · exact (ss_set (i := 2) sc_law.nd rfl (by first | exact .inl rfl | exact .inr rfl) (ee_call c__law_near (hr.mono (by decide)) (by rfl) (ea_cons (ee_var (pv 1)) ea_nil)))
  refine sss_cons ?_ ?_
  · exact (ss_set (i := 3) sc_law.nd rfl (by first | exact .inl rfl | exact .inr rfl) (ee_slice (ee_tup (ea_cons (ee_call c__law_box (hr.mono (by decide)) (by rfl) (ea_cons (ee_var (pv 0)) (ea_cons ee_int (ea_cons ee_int ea_nil)))) (ea_cons (ee_call c__law_box (hr.mono (by decide)) (by rfl) (ea_cons (ee_var (pv 0)) (ea_cons ee_int (ea_cons ee_int ea_nil)))) ea_nil))).b eo_none (eo_some (ee_op or_mod dMod_mono (ee_callTy cn_int nInt_mono (by rfl) T.z_int (by decide +kernel) (eab_cons (ee_op or_div dDiv_mono (eb_var (pv 1)) ee_int.b).b eab_nil)).b ee_int.b))))
  refine sss_cons ?_ ?_
  · exact (ss_set (i := 4) sc_law.nd rfl (by first | exact .inl rfl | exact .inr rfl) (ee_tup (ea_cons (ee_tup (ea_cons ee_str (ea_cons (ee_op or_mod dMod_mono (ee_callTy cn_int nInt_mono (by rfl) T.z_int (by decide +kernel) (eab_cons (ee_op or_div dDiv_mono (eb_var (pv 1)) ee_int.b).b eab_nil)).b ee_int.b) (ea_cons (ee_var (pv 2)) ea_nil)))) (ea_cons (ee_tup (ea_cons ee_str (ea_cons ee_int ea_nil))) (ea_cons (ee_tup (ea_cons ee_str (ea_cons (ee_op or_mod dMod_mono (ee_callTy cn_int nInt_mono (by rfl) T.z_int (by decide +kernel) (eab_cons (ee_op or_div dDiv_mono (eb_var (pv 1)) ee_int.b).b eab_nil)).b ee_int.b) ea_nil))) ea_nil)))))
  refine sss_cons ?_ ?_
  · exact (ss_set (i := 5) sc_law.nd rfl (by first | exact .inl rfl | exact .inr rfl) (ee_slice (ee_tup (ea_cons ee_str (ea_cons ee_str (ea_cons ee_str ea_nil)))).b eo_none (eo_some (ee_op or_mod dMod_mono (ee_callTy cn_int nInt_mono (by rfl) T.z_int (by decide +kernel) (eab_cons (ee_op or_div dDiv_mono (eb_var (pv 1)) ee_int.b).b eab_nil)).b ee_int.b))))
  refine sss_cons ?_ ?_
  · exact (ss_set (i := 6) sc_law.nd rfl (by first | exact .inl rfl | exact .inr rfl) (ee_make c_Known (hr.mono (by decide)) (by rfl) (ea_cons (ee_var (pv 2)) (ea_cons (ee_var (pv 3)) (ea_cons (ee_var (pv 4)) ea_nil)))))
  refine sss_cons ?_ ?_
  · exact (ss_set (i := 7) sc_law.nd rfl (by first | exact .inl rfl | exact .inr rfl) (ee_make c_Held (hr.mono (by decide)) (by rfl) (ea_cons (ee_var (pv 2)) (ea_cons (ee_var (pv 3)) (ea_cons (ee_var (pv 5)) ea_nil)))))
  refine sss_cons ?_ ?_
  · exact (ss_set (i := 8) sc_law.nd rfl (by first | exact .inl rfl | exact .inr rfl) (ee_tup (ea_cons (ee_tup (ea_cons (ee_op or_mod dMod_mono (ee_callTy cn_int nInt_mono (by rfl) T.z_int (by decide +kernel) (eab_cons (ee_op or_div dDiv_mono (eb_var (pv 1)) ee_int.b).b eab_nil)).b ee_int.b) (ea_cons (ee_tup (ea_cons ee_int (ea_cons ee_int ea_nil))) ea_nil))) (ea_cons (ee_tup (ea_cons ee_int (ea_cons (ee_tup ea_nil) ea_nil))) ea_nil))))
  refine sss_cons ?_ ?_
  · exact (ss_set (i := 9) sc_law.nd rfl (by first | exact .inl rfl | exact .inr rfl) (ee_make c_Paper (hr.mono (by decide)) (by rfl) (ea_cons (ee_tup (ea_cons (ee_var (pv 6)) ea_nil)) (ea_cons (ee_tup (ea_cons (ee_var (pv 4)) (ea_cons (ee_slice (eb_var (pv 4)) (eo_some ee_int) eo_none) ea_nil))) (ea_cons (ee_var (pv 8)) ea_nil)))))
  refine sss_cons ?_ ?_
  · refine ss_if (ew_or (et_cmp (or_ne hr.units) dNe_mono (ee_fld (eb_var (pv 6))).b (eb_var (pv 2)) (nomark _)) (ew_or (et_cmp (or_ne hr.units) dNe_mono (ee_fld (eb_var (pv 6))).b (eb_var (pv 3)) (nomark _)) (ew_or1 (et_cmp (or_ne hr.units) dNe_mono (ee_fld (eb_var (pv 6))).b (eb_var (pv 4)) (nomark _))))).t ?_ ?_
    · refine sss_one ?_
      · exact (ss_ret ee_bl)
    · exact sss_nil
  refine sss_cons ?_ ?_
  · refine ss_if (ew_or (et_cmp (or_ne hr.units) dNe_mono (ee_fld (eb_var (pv 7))).b (eb_var (pv 2)) (nomark _)) (ew_or (et_cmp (or_ne hr.units) dNe_mono (ee_fld (eb_var (pv 7))).b (eb_var (pv 3)) (nomark _)) (ew_or1 (et_cmp (or_ne hr.units) dNe_mono (ee_fld (eb_var (pv 7))).b (eb_var (pv 5)) (nomark _))))).t ?_ ?_
    · refine sss_one ?_
      · exact (ss_ret ee_bl)
    · exact sss_nil
  refine sss_cons ?_ ?_
  · refine ss_if (ew_or (et_cmp (or_neT (or_ne hr.units) (hr.mono (by decide)) (tb_cons q_Known tb_nil)) dNeT_mono (ee_fld (eb_var (pv 9))).b (ee_tup (ea_cons (ee_var (pv 6)) ea_nil)).b (nomark _)) (ew_or (et_cmp (or_ne hr.units) dNe_mono (ee_fld (eb_var (pv 9))).b (ee_tup (ea_cons (ee_var (pv 4)) (ea_cons (ee_slice (eb_var (pv 4)) (eo_some ee_int) eo_none) ea_nil))).b (nomark _)) (ew_or1 (et_cmp (or_ne hr.units) dNe_mono (ee_fld (eb_var (pv 9))).b (eb_var (pv 8)) (nomark _))))).t ?_ ?_
    · refine sss_one ?_
      · exact (ss_ret ee_bl)
    · exact sss_nil
  refine sss_cons ?_ ?_
  · exact (ss_set (i := 10) sc_law.nd rfl (by first | exact .inl rfl | exact .inr rfl) (en_lst (ea_cons (ee_tup (ea_cons (ee_var (pv 6)) (ea_cons (ee_make c_Known (hr.mono (by decide)) (by rfl) (ea_cons (ee_var (pv 2)) (ea_cons (ee_var (pv 3)) (ea_cons (ee_var (pv 4)) ea_nil)))) (ea_cons ee_bl ea_nil)))) (ea_cons (ee_tup (ea_cons (ee_var (pv 6)) (ea_cons (ee_make c_Known (hr.mono (by decide)) (by rfl) (ea_cons (ee_op or_add dAdd_mono (eb_var (pv 2)) ee_int.b) (ea_cons (ee_var (pv 3)) (ea_cons (ee_var (pv 4)) ea_nil)))) (ea_cons ee_bl ea_nil)))) ea_nil))).fz)
  refine sss_cons ?_ ?_
  · exact (ss_set (i := 10) sc_law.nd rfl (by first | exact .inl rfl | exact .inr rfl) (ee_op or_add dAdd_mono (eb_var (pv 10)) (en_lst (ea_cons (ee_tup (ea_cons (ee_var (pv 6)) (ea_cons (ee_make c_Known (hr.mono (by decide)) (by rfl) (ea_cons (ee_var (pv 2)) (ea_cons (ee_op or_add dAdd_mono (ee_op or_add dAdd_mono (eb_var (pv 3)) (ee_slice (eb_var (pv 3)) eo_none (eo_some ee_int)).b).b (ee_tup (ea_cons (ee_tup (ea_cons (ee_tup (ea_cons ee_int (ea_cons ee_int ea_nil))) ea_nil)) ea_nil)).b) (ea_cons (ee_var (pv 4)) ea_nil)))) (ea_cons ee_bl ea_nil)))) ea_nil)).b))
  refine sss_cons ?_ ?_
  · exact (ss_set (i := 10) sc_law.nd rfl (by first | exact .inl rfl | exact .inr rfl) (ee_op or_add dAdd_mono (eb_var (pv 10)) (en_lst (ea_cons (ee_tup (ea_cons (ee_var (pv 6)) (ea_cons (ee_make c_Known (hr.mono (by decide)) (by rfl) (ea_cons (ee_var (pv 2)) (ea_cons (ee_var (pv 3)) (ea_cons (ee_slice (eb_var (pv 4)) eo_none (eo_some (ee_neg ee_int))) ea_nil)))) (ea_cons ee_bl ea_nil)))) (ea_cons (ee_tup (ea_cons (ee_var (pv 6)) (ea_cons (ee_var (pv 7)) (ea_cons ee_bl ea_nil)))) ea_nil))).b))
  refine sss_cons ?_ ?_
  · exact (ss_set (i := 10) sc_law.nd rfl (by first | exact .inl rfl | exact .inr rfl) (ee_op or_add dAdd_mono (eb_var (pv 10)) (en_lst (ea_cons (ee_tup (ea_cons (ee_var (pv 7)) (ea_cons (ee_make c_Held (hr.mono (by decide)) (by rfl) (ea_cons (ee_var (pv 2)) (ea_cons (ee_var (pv 3)) (ea_cons (ee_var (pv 5)) ea_nil)))) (ea_cons ee_bl ea_nil)))) (ea_cons (ee_tup (ea_cons (ee_var (pv 7)) (ea_cons (ee_make c_Held (hr.mono (by decide)) (by rfl) (ea_cons (ee_op or_sub dSub_mono (eb_var (pv 2)) ee_int.b) (ea_cons (ee_var (pv 3)) (ea_cons (ee_var (pv 5)) ea_nil)))) (ea_cons ee_bl ea_nil)))) ea_nil))).b))
  refine sss_cons ?_ ?_
  · exact (ss_set (i := 10) sc_law.nd rfl (by first | exact .inl rfl | exact .inr rfl) (ee_op or_add dAdd_mono (eb_var (pv 10)) (en_lst (ea_cons (ee_tup (ea_cons (ee_var (pv 7)) (ea_cons (ee_make c_Held (hr.mono (by decide)) (by rfl) (ea_cons (ee_var (pv 2)) (ea_cons (ee_var (pv 3)) (ea_cons (ee_op or_add dAdd_mono (eb_var (pv 5)) (ee_tup (ea_cons ee_str ea_nil)).b) ea_nil)))) (ea_cons ee_bl ea_nil)))) (ea_cons (ee_tup (ea_cons (ee_var (pv 7)) (ea_cons (ee_make c_Held (hr.mono (by decide)) (by rfl) (ea_cons (ee_var (pv 2)) (ea_cons (ee_op or_add dAdd_mono (ee_slice (eb_var (pv 3)) eo_none (eo_some (ee_neg ee_int))).b (ee_tup (ea_cons (ee_tup ea_nil) ea_nil)).b) (ea_cons (ee_var (pv 5)) ea_nil)))) (ea_cons ee_bl ea_nil)))) ea_nil))).b))
  refine sss_cons ?_ ?_
  · exact (ss_set (i := 10) sc_law.nd rfl (by first | exact .inl rfl | exact .inr rfl) (ee_op or_add dAdd_mono (eb_var (pv 10)) (en_lst (ea_cons (ee_tup (ea_cons (ee_var (pv 9)) (ea_cons (ee_make c_Paper (hr.mono (by decide)) (by rfl) (ea_cons (ee_tup (ea_cons (ee_make c_Known (hr.mono (by decide)) (by rfl) (ea_cons (ee_var (pv 2)) (ea_cons (ee_var (pv 3)) (ea_cons (ee_var (pv 4)) ea_nil)))) ea_nil)) (ea_cons (ee_tup (ea_cons (ee_var (pv 4)) (ea_cons (ee_slice (eb_var (pv 4)) (eo_some ee_int) eo_none) ea_nil))) (ea_cons (ee_var (pv 8)) ea_nil)))) (ea_cons ee_bl ea_nil)))) ea_nil)).b))
  refine sss_cons ?_ ?_
  · exact (ss_set (i := 10) sc_law.nd rfl (by first | exact .inl rfl | exact .inr rfl) (ee_op or_add dAdd_mono (eb_var (pv 10)) (en_lst (ea_cons (ee_tup (ea_cons (ee_var (pv 9)) (ea_cons (ee_make c_Paper (hr.mono (by decide)) (by rfl) (ea_cons (ee_tup ea_nil) (ea_cons (ee_tup (ea_cons (ee_var (pv 4)) (ea_cons (ee_slice (eb_var (pv 4)) (eo_some ee_int) eo_none) ea_nil))) (ea_cons (ee_var (pv 8)) ea_nil)))) (ea_cons ee_bl ea_nil)))) (ea_cons (ee_tup (ea_cons (ee_var (pv 9)) (ea_cons (ee_make c_Paper (hr.mono (by decide)) (by rfl) (ea_cons (ee_tup (ea_cons (ee_var (pv 6)) ea_nil)) (ea_cons (ee_tup (ea_cons (ee_var (pv 4)) ea_nil)) (ea_cons (ee_var (pv 8)) ea_nil)))) (ea_cons ee_bl ea_nil)))) ea_nil))).b))
  refine sss_cons ?_ ?_
  · exact (ss_set (i := 10) sc_law.nd rfl (by first | exact .inl rfl | exact .inr rfl) (ee_op or_add dAdd_mono (eb_var (pv 10)) (en_lst (ea_cons (ee_tup (ea_cons (ee_var (pv 9)) (ea_cons (ee_make c_Paper (hr.mono (by decide)) (by rfl) (ea_cons (ee_tup (ea_cons (ee_var (pv 6)) ea_nil)) (ea_cons (ee_tup (ea_cons (ee_var (pv 4)) (ea_cons (ee_slice (eb_var (pv 4)) (eo_some ee_int) eo_none) ea_nil))) (ea_cons (ee_slice (eb_var (pv 8)) eo_none (eo_some ee_int)) ea_nil)))) (ea_cons ee_bl ea_nil)))) (ea_cons (ee_tup (ea_cons (ee_var (pv 9)) (ea_cons (ee_var (pv 6)) (ea_cons ee_bl ea_nil)))) ea_nil))).b))
  refine sss_cons ?_ ?_
  · exact (ss_set (i := 10) sc_law.nd rfl (by first | exact .inl rfl | exact .inr rfl) (ee_op or_add dAdd_mono (eb_var (pv 10)) (en_lst (ea_cons (ee_tup (ea_cons (ee_var (pv 6)) (ea_cons (ee_tup (ea_cons (ee_var (pv 2)) (ea_cons (ee_var (pv 3)) (ea_cons (ee_var (pv 4)) ea_nil)))) (ea_cons ee_bl ea_nil)))) (ea_cons (ee_tup (ea_cons (ee_var (pv 7)) (ea_cons ee_non (ea_cons ee_bl ea_nil)))) (ea_cons (ee_tup (ea_cons (ee_var (pv 9)) (ea_cons (ee_tup (ea_cons (ee_tup (ea_cons (ee_var (pv 6)) ea_nil)) (ea_cons (ee_var (pv 4)) (ea_cons (ee_var (pv 8)) ea_nil)))) (ea_cons ee_bl ea_nil)))) ea_nil)))).b))
  refine sss_cons ?_ ?_
  · refine ss_for PassesOwn.never rfl (ei_seq (ee_var (pv 10))) (eg_name (i := 11) sc_law.nd rfl (by first | exact .inl rfl | exact .inr rfl)) ?_
    refine sss_one ?_
    · refine ss_if (ew_or (et_not (et_tru (ee_call c__law_truth (hr.mono (by decide)) (by rfl) (ea_cons (ee_cmp (or_eqI (or_eq hr.units) (hr.mono (by decide)) (tb_cons e_Held (tb_cons e_Known (tb_cons e_Paper tb_nil)))) dEqI_mono (ee_ix (eb_var (pv 11)) ee_int.b (fun _ _ => rfl)).b (ee_ix (eb_var (pv 11)) ee_int.b (fun _ _ => rfl)).b (nomark _)) (ea_cons (ee_ix (eb_var (pv 11)) ee_int.b (fun _ _ => rfl)) ea_nil))).b (fun _ => rfl))) (ew_or1 (et_not (et_tru (ee_call c__law_truth (hr.mono (by decide)) (by rfl) (ea_cons (ee_cmp (or_neI (or_ne hr.units) (hr.mono (by decide)) (tbN_cons e_Held o_Held (tbN_cons e_Known o_Known (tbN_cons e_Paper o_Paper tbN_nil)))) dNeI_mono (ee_ix (eb_var (pv 11)) ee_int.b (fun _ _ => rfl)).b (ee_ix (eb_var (pv 11)) ee_int.b (fun _ _ => rfl)).b (nomark _)) (ea_cons (ee_not (ee_ix (eb_var (pv 11)) ee_int.b (fun _ _ => rfl))) ea_nil))).b (fun _ => rfl))))).t ?_ ?_
      · refine sss_one ?_
        · exact (ss_ret ee_bl)
      · exact sss_nil
  refine sss_one ?_
  · exact (ss_ret ee_bl)
end
theorem all_mk {l : PySem.W.OpenLaw} {w : World} {K : PySem.W.Frag} {h : Heap} {mg : Str → Option Value} {fa f0 f1 f2 f3 f4 f5 f6 f7 f8 f9 f10 f11 C0 C1 C2 : Addr} (X : K.In h) (G : h.Ns mainGlobals mg) (hfa : mg "law" = some (.ref fa))
    {od0 an0 od1 an1 od2 an2 od3 an3 od4 an4 od5 an5 od6 an6 od7 an7 od8 an8 od9 an9 od10 an10 od11 an11 : Option Addr} {sl0 sl1 sl2 sl3 sl4 sl5 sl6 sl7 sl8 sl9 sl10 sl11 : Array (Option Value)} {oc0 kV0 dc0 pm0 cd0 ct0 oc1 kV1 dc1 pm1 cd1 ct1 oc2 kV2 dc2 pm2 cd2 ct2 oc3 kV3 dc3 pm3 cd3 ct3 oc4 kV4 dc4 pm4 cd4 ct4 oc5 kV5 dc5 pm5 cd5 ct5 oc6 kV6 dc6 pm6 cd6 ct6 oc7 kV7 dc7 pm7 cd7 ct7 oc8 kV8 dc8 pm8 cd8 ct8 oc9 kV9 dc9 pm9 cd9 ct9 oc10 kV10 dc10 pm10 cd10 ct10 oc11 kV11 dc11 pm11 cd11 ct11 : Value}
    (aC0 : PySem.W.nsIn K mainGlobals "Held" = some (some (.ref C0)))
    (aC1 : PySem.W.nsIn K mainGlobals "Known" = some (some (.ref C1)))
    (aC2 : PySem.W.nsIn K mainGlobals "Paper" = some (some (.ref C2)))
    (a0 : PySem.W.findIn K (.ref C0) "__init__" = some (some (.ref f0)))
    (i0 : PySem.W.isFn K (.ref f0) = true)
    (l0 : K.lookup f0 = some ⟨oc0, od0, .func (PySem.W.fnOf "__init__" "Held.__init__" (defArgs s_K_Held_init) (defBody s_K_Held_init) (defScope s_K_Held_init) .none kV0 dc0 pm0 an0 cd0 ct0), sl0⟩)
    (c0 : PySem.W.codeIn K cd0 "Held.__init__" = true)
    (k0 : PySem.W.keepIn K (.ref f0) = true)
    (a1 : PySem.W.findIn K (.ref C0) "__eq__" = some (some (.ref f1)))
    (i1 : PySem.W.isFn K (.ref f1) = true)
    (l1 : K.lookup f1 = some ⟨oc1, od1, .func (PySem.W.fnOf "__eq__" "Held.__eq__" (defArgs s_K_Held_eq) (defBody s_K_Held_eq) (defScope s_K_Held_eq) .none kV1 dc1 pm1 an1 cd1 ct1), sl1⟩)
    (c1 : PySem.W.codeIn K cd1 "Held.__eq__" = true)
    (k1 : PySem.W.keepIn K (.ref f1) = true)
    (a2 : PySem.W.findIn K (.ref C1) "__init__" = some (some (.ref f2)))
    (i2 : PySem.W.isFn K (.ref f2) = true)
    (l2 : K.lookup f2 = some ⟨oc2, od2, .func (PySem.W.fnOf "__init__" "Known.__init__" (defArgs s_K_Known_init) (defBody s_K_Known_init) (defScope s_K_Known_init) .none kV2 dc2 pm2 an2 cd2 ct2), sl2⟩)
    (c2 : PySem.W.codeIn K cd2 "Known.__init__" = true)
    (k2 : PySem.W.keepIn K (.ref f2) = true)
    (a3 : PySem.W.findIn K (.ref C1) "__eq__" = some (some (.ref f3)))
    (i3 : PySem.W.isFn K (.ref f3) = true)
    (l3 : K.lookup f3 = some ⟨oc3, od3, .func (PySem.W.fnOf "__eq__" "Known.__eq__" (defArgs s_K_Known_eq) (defBody s_K_Known_eq) (defScope s_K_Known_eq) .none kV3 dc3 pm3 an3 cd3 ct3), sl3⟩)
    (c3 : PySem.W.codeIn K cd3 "Known.__eq__" = true)
    (k3 : PySem.W.keepIn K (.ref f3) = true)
    (a4 : PySem.W.findIn K (.ref C2) "__init__" = some (some (.ref f4)))
    (i4 : PySem.W.isFn K (.ref f4) = true)
    (l4 : K.lookup f4 = some ⟨oc4, od4, .func (PySem.W.fnOf "__init__" "Paper.__init__" (defArgs s_K_Paper_init) (defBody s_K_Paper_init) (defScope s_K_Paper_init) .none kV4 dc4 pm4 an4 cd4 ct4), sl4⟩)
    (c4 : PySem.W.codeIn K cd4 "Paper.__init__" = true)
    (k4 : PySem.W.keepIn K (.ref f4) = true)
    (a5 : PySem.W.findIn K (.ref C2) "__eq__" = some (some (.ref f5)))
    (i5 : PySem.W.isFn K (.ref f5) = true)
    (l5 : K.lookup f5 = some ⟨oc5, od5, .func (PySem.W.fnOf "__eq__" "Paper.__eq__" (defArgs s_K_Paper_eq) (defBody s_K_Paper_eq) (defScope s_K_Paper_eq) .none kV5 dc5 pm5 an5 cd5 ct5), sl5⟩)
    (c5 : PySem.W.codeIn K cd5 "Paper.__eq__" = true)
    (k5 : PySem.W.keepIn K (.ref f5) = true)
    (a6 : PySem.W.nsIn K mainGlobals "_law_number" = some (some (.ref f6)))
    (l6 : K.lookup f6 = some ⟨oc6, od6, .func (PySem.W.fnOf "_law_number" "_law_number" (defArgs s__law_number) (defBody s__law_number) (defScope s__law_number) .none kV6 dc6 pm6 an6 cd6 ct6), sl6⟩)
    (c6 : PySem.W.codeIn K cd6 "_law_number" = true)
    (k6 : PySem.W.keepIn K (.ref f6) = true)
    (a7 : PySem.W.nsIn K mainGlobals "_law_near" = some (some (.ref f7)))
    (l7 : K.lookup f7 = some ⟨oc7, od7, .func (PySem.W.fnOf "_law_near" "_law_near" (defArgs s__law_near) (defBody s__law_near) (defScope s__law_near) .none kV7 dc7 pm7 an7 cd7 ct7), sl7⟩)
    (c7 : PySem.W.codeIn K cd7 "_law_near" = true)
    (k7 : PySem.W.keepIn K (.ref f7) = true)
    (a8 : PySem.W.nsIn K mainGlobals "_law_length" = some (some (.ref f8)))
    (l8 : K.lookup f8 = some ⟨oc8, od8, .func (PySem.W.fnOf "_law_length" "_law_length" (defArgs s__law_length) (defBody s__law_length) (defScope s__law_length) .none kV8 dc8 pm8 an8 cd8 ct8), sl8⟩)
    (c8 : PySem.W.codeIn K cd8 "_law_length" = true)
    (k8 : PySem.W.keepIn K (.ref f8) = true)
    (a9 : PySem.W.nsIn K mainGlobals "_law_box" = some (some (.ref f9)))
    (l9 : K.lookup f9 = some ⟨oc9, od9, .func (PySem.W.fnOf "_law_box" "_law_box" (defArgs s__law_box) (defBody s__law_box) (defScope s__law_box) .none kV9 dc9 pm9 an9 cd9 ct9), sl9⟩)
    (c9 : PySem.W.codeIn K cd9 "_law_box" = true)
    (k9 : PySem.W.keepIn K (.ref f9) = true)
    (a10 : PySem.W.nsIn K mainGlobals "_law_truth" = some (some (.ref f10)))
    (l10 : K.lookup f10 = some ⟨oc10, od10, .func (PySem.W.fnOf "_law_truth" "_law_truth" (defArgs s__law_truth) (defBody s__law_truth) (defScope s__law_truth) .none kV10 dc10 pm10 an10 cd10 ct10), sl10⟩)
    (c10 : PySem.W.codeIn K cd10 "_law_truth" = true)
    (k10 : PySem.W.keepIn K (.ref f10) = true)
    (a11 : PySem.W.nsIn K mainGlobals "law" = some (some (.ref f11)))
    (l11 : K.lookup f11 = some ⟨oc11, od11, .func (PySem.W.fnOf "law" "law" (defArgs s_law) (defBody s_law) (defScope s_law) .none kV11 dc11 pm11 an11 cd11 ct11), sl11⟩)
    (c11 : PySem.W.codeIn K cd11 "law" = true)
    (k11 : PySem.W.keepIn K (.ref f11) = true)
    (pg0 : PySem.W.plainGet K C0 Str.empty = true)
    (hd0 : PySem.W.hasDictIn K C0 = true)
    (po0 : PySem.W.plainOver K C0 = true)
    (sa0 : PySem.W.findIn K (.ref C0) "__setattr__" = some (some (.builtin "object.__setattr__")))
    (mk0 : PySem.W.makesIn K C0 = true)
    (kc0 : PySem.W.keepIn K (.ref C0) = true)
    (ha0 : PySem.W.findIn K (.ref C0) "__class__" = some (some (.builtin "object.__class__")))
    (hn0 : PySem.W.specialIn K (.builtin "object.__class__") "__get__" = some (some (.builtin "getset_descriptor.__get__")))
    (ht0 : PySem.W.takesIn K (.builtin "object.__class__") = some true)
    (hm0 : PySem.W.mroIn K C0 (.type "object") = some true)
    (n0_0 : PySem.W.findIn K (.ref C0) "moment" = some none)
    (n0_1 : PySem.W.findIn K (.ref C0) "cover" = some none)
    (n0_2 : PySem.W.findIn K (.ref C0) "used" = some none)
    (pg1 : PySem.W.plainGet K C1 Str.empty = true)
    (hd1 : PySem.W.hasDictIn K C1 = true)
    (po1 : PySem.W.plainOver K C1 = true)
    (sa1 : PySem.W.findIn K (.ref C1) "__setattr__" = some (some (.builtin "object.__setattr__")))
    (mk1 : PySem.W.makesIn K C1 = true)
    (kc1 : PySem.W.keepIn K (.ref C1) = true)
    (ha1 : PySem.W.findIn K (.ref C1) "__class__" = some (some (.builtin "object.__class__")))
    (hn1 : PySem.W.specialIn K (.builtin "object.__class__") "__get__" = some (some (.builtin "getset_descriptor.__get__")))
    (ht1 : PySem.W.takesIn K (.builtin "object.__class__") = some true)
    (hm1 : PySem.W.mroIn K C1 (.type "object") = some true)
    (n1_0 : PySem.W.findIn K (.ref C1) "moment" = some none)
    (n1_1 : PySem.W.findIn K (.ref C1) "cover" = some none)
    (n1_2 : PySem.W.findIn K (.ref C1) "tree" = some none)
    (pg2 : PySem.W.plainGet K C2 Str.empty = true)
    (hd2 : PySem.W.hasDictIn K C2 = true)
    (po2 : PySem.W.plainOver K C2 = true)
    (sa2 : PySem.W.findIn K (.ref C2) "__setattr__" = some (some (.builtin "object.__setattr__")))
    (mk2 : PySem.W.makesIn K C2 = true)
    (kc2 : PySem.W.keepIn K (.ref C2) = true)
    (ha2 : PySem.W.findIn K (.ref C2) "__class__" = some (some (.builtin "object.__class__")))
    (hn2 : PySem.W.specialIn K (.builtin "object.__class__") "__get__" = some (some (.builtin "getset_descriptor.__get__")))
    (ht2 : PySem.W.takesIn K (.builtin "object.__class__") = some true)
    (hm2 : PySem.W.mroIn K C2 (.type "object") = some true)
    (n2_0 : PySem.W.findIn K (.ref C2) "known" = some none)
    (n2_1 : PySem.W.findIn K (.ref C2) "trees" = some none)
    (n2_2 : PySem.W.findIn K (.ref C2) "steps" = some none)
    (ty0 : PySem.W.typeIn K (.ref C0) = some (.type "type"))
    (x1_0 : PySem.W.subIn K (.ref C1) (.ref C0) = some false)
    (x2_0 : PySem.W.subIn K (.ref C2) (.ref C0) = some false)
    (xt0_0 : PySem.W.subIn K (.type "int") (.ref C0) = some false)
    (xt1_0 : PySem.W.subIn K (.type "bool") (.ref C0) = some false)
    (xt2_0 : PySem.W.subIn K (.type "str") (.ref C0) = some false)
    (xt3_0 : PySem.W.subIn K (.type "tuple") (.ref C0) = some false)
    (xt4_0 : PySem.W.subIn K (.type "list") (.ref C0) = some false)
    (xt5_0 : PySem.W.subIn K (.type "NoneType") (.ref C0) = some false)
    (ty1 : PySem.W.typeIn K (.ref C1) = some (.type "type"))
    (x0_1 : PySem.W.subIn K (.ref C0) (.ref C1) = some false)
    (x2_1 : PySem.W.subIn K (.ref C2) (.ref C1) = some false)
    (xt0_1 : PySem.W.subIn K (.type "int") (.ref C1) = some false)
    (xt1_1 : PySem.W.subIn K (.type "bool") (.ref C1) = some false)
    (xt2_1 : PySem.W.subIn K (.type "str") (.ref C1) = some false)
    (xt3_1 : PySem.W.subIn K (.type "tuple") (.ref C1) = some false)
    (xt4_1 : PySem.W.subIn K (.type "list") (.ref C1) = some false)
    (xt5_1 : PySem.W.subIn K (.type "NoneType") (.ref C1) = some false)
    (ty2 : PySem.W.typeIn K (.ref C2) = some (.type "type"))
    (x0_2 : PySem.W.subIn K (.ref C0) (.ref C2) = some false)
    (x1_2 : PySem.W.subIn K (.ref C1) (.ref C2) = some false)
    (xt0_2 : PySem.W.subIn K (.type "int") (.ref C2) = some false)
    (xt1_2 : PySem.W.subIn K (.type "bool") (.ref C2) = some false)
    (xt2_2 : PySem.W.subIn K (.type "str") (.ref C2) = some false)
    (xt3_2 : PySem.W.subIn K (.type "tuple") (.ref C2) = some false)
    (xt4_2 : PySem.W.subIn K (.type "list") (.ref C2) = some false)
    (xt5_2 : PySem.W.subIn K (.type "NoneType") (.ref C2) = some false)
    (ob0 : PySem.W.mroIn K C0 (.type "object") = some true)
    (ne0 : PySem.W.findIn K (.ref C0) "__ne__" = some (some (.builtin "object.__ne__")))
    (ob1 : PySem.W.mroIn K C1 (.type "object") = some true)
    (ne1 : PySem.W.findIn K (.ref C1) "__ne__" = some (some (.builtin "object.__ne__")))
    (ob2 : PySem.W.mroIn K C2 (.type "object") = some true)
    (ne2 : PySem.W.findIn K (.ref C2) "__ne__" = some (some (.builtin "object.__ne__")))
    (e0_0 : PySem.W.notFirst K C0 (.ref C0) = true)
    (e1_0 : PySem.W.notFirst K C0 (.ref C1) = true)
    (e2_0 : PySem.W.notFirst K C0 (.ref C2) = true)
    (et0_0 : PySem.W.notFirst K C0 (.type "int") = true)
    (et1_0 : PySem.W.notFirst K C0 (.type "bool") = true)
    (et2_0 : PySem.W.notFirst K C0 (.type "str") = true)
    (et3_0 : PySem.W.notFirst K C0 (.type "tuple") = true)
    (et4_0 : PySem.W.notFirst K C0 (.type "list") = true)
    (et5_0 : PySem.W.notFirst K C0 (.type "NoneType") = true)
    (e0_1 : PySem.W.notFirst K C1 (.ref C0) = true)
    (e1_1 : PySem.W.notFirst K C1 (.ref C1) = true)
    (e2_1 : PySem.W.notFirst K C1 (.ref C2) = true)
    (et0_1 : PySem.W.notFirst K C1 (.type "int") = true)
    (et1_1 : PySem.W.notFirst K C1 (.type "bool") = true)
    (et2_1 : PySem.W.notFirst K C1 (.type "str") = true)
    (et3_1 : PySem.W.notFirst K C1 (.type "tuple") = true)
    (et4_1 : PySem.W.notFirst K C1 (.type "list") = true)
    (et5_1 : PySem.W.notFirst K C1 (.type "NoneType") = true)
    (e0_2 : PySem.W.notFirst K C2 (.ref C0) = true)
    (e1_2 : PySem.W.notFirst K C2 (.ref C1) = true)
    (e2_2 : PySem.W.notFirst K C2 (.ref C2) = true)
    (et0_2 : PySem.W.notFirst K C2 (.type "int") = true)
    (et1_2 : PySem.W.notFirst K C2 (.type "bool") = true)
    (et2_2 : PySem.W.notFirst K C2 (.type "str") = true)
    (et3_2 : PySem.W.notFirst K C2 (.type "tuple") = true)
    (et4_2 : PySem.W.notFirst K C2 (.type "list") = true)
    (et5_2 : PySem.W.notFirst K C2 (.type "NoneType") = true)
    (nd : List.Nodup [C0, C1, C2])
    (z_bool : PySem.W.nsIn K mainGlobals "bool" = some none)
    (z_int : PySem.W.nsIn K mainGlobals "int" = some none)
    (z_isinstance : PySem.W.nsIn K mainGlobals "isinstance" = some none)
    (z_len : PySem.W.nsIn K mainGlobals "len" = some none)
    (z_range : PySem.W.nsIn K mainGlobals "range" = some none)
    (z_tuple : PySem.W.nsIn K mainGlobals "tuple" = some none)
    : ∃ fd : FuncData, (∀ (s : Shared) (v : Value), BindsTo s fd ⟨[v], []⟩ [("_law_script", v)]) ∧ ∀ base : Heap, K.In base → base.Ns mainGlobals mg → FnOk l.prog w K mg base CX0 19 fa fd ["_law_script"] (spD K 1 (fun ds Q => ∀ cl, GoodC 3 cl → runD 12 (m_law cl) ds Q)) := by
  have e := hfa.symm.trans (PySem.W.mg_of X G a11)
  cases e
  have T : Tx mg := ⟨PySem.W.mg_none_of X G z_bool, PySem.W.mg_none_of X G z_int, PySem.W.mg_none_of X G z_isinstance, PySem.W.mg_none_of X G z_len, PySem.W.mg_none_of X G z_range, PySem.W.mg_none_of X G z_tuple⟩
  have good : GoodC 3 (clOf [C0, C1, C2]) := good_nodup nd
  have F0 := fun_mk (st := s_K_Held_init) l0 c0 k0
  have b0 := F0.binds (ps := ["self", "moment", "cover", "used"]) fun _ _ _ _ _ _ us hl => match us, hl with | [_, _, _, _], _ => rfl
  have F1 := fun_mk (st := s_K_Held_eq) l1 c1 k1
  have b1 := F1.binds (ps := ["self", "other"]) fun _ _ _ _ _ _ us hl => match us, hl with | [_, _], _ => rfl
  have F2 := fun_mk (st := s_K_Known_init) l2 c2 k2
  have b2 := F2.binds (ps := ["self", "moment", "cover", "tree"]) fun _ _ _ _ _ _ us hl => match us, hl with | [_, _, _, _], _ => rfl
  have F3 := fun_mk (st := s_K_Known_eq) l3 c3 k3
  have b3 := F3.binds (ps := ["self", "other"]) fun _ _ _ _ _ _ us hl => match us, hl with | [_, _], _ => rfl
  have F4 := fun_mk (st := s_K_Paper_init) l4 c4 k4
  have b4 := F4.binds (ps := ["self", "known", "trees", "steps"]) fun _ _ _ _ _ _ us hl => match us, hl with | [_, _, _, _], _ => rfl
  have F5 := fun_mk (st := s_K_Paper_eq) l5 c5 k5
  have b5 := F5.binds (ps := ["self", "other"]) fun _ _ _ _ _ _ us hl => match us, hl with | [_, _], _ => rfl
  have F6 := fun_mk (st := s__law_number) l6 c6 k6
  have b6 := F6.binds (ps := ["_law_script", "_law_k"]) fun _ _ _ _ _ _ us hl => match us, hl with | [_, _], _ => rfl
  have F7 := fun_mk (st := s__law_near) l7 c7 k7
  have b7 := F7.binds (ps := ["_law_cell"]) fun _ _ _ _ _ _ us hl => match us, hl with | [_], _ => rfl
  have F8 := fun_mk (st := s__law_length) l8 c8 k8
  have b8 := F8.binds (ps := ["_law_cell"]) fun _ _ _ _ _ _ us hl => match us, hl with | [_], _ => rfl
  have F9 := fun_mk (st := s__law_box) l9 c9 k9
  have b9 := F9.binds (ps := ["_law_script", "_law_k", "_law_sides"]) fun _ _ _ _ _ _ us hl => match us, hl with | [_, _, _], _ => rfl
  have F10 := fun_mk (st := s__law_truth) l10 c10 k10
  have b10 := F10.binds (ps := ["_law_actual", "_law_expected"]) fun _ _ _ _ _ _ us hl => match us, hl with | [_, _], _ => rfl
  have F11 := fun_mk (st := s_law) l11 c11 k11
  have b11 := F11.binds (ps := ["_law_script"]) fun _ _ _ _ _ _ us hl => match us, hl with | [_], _ => rfl
  refine ⟨PySem.W.fnOf "law" "law" (defArgs s_law) (defBody s_law) (defScope s_law) .none kV11 dc11 pm11 an11 cd11 ct11, fun s v => .of_eq rfl, fun base _ _ => ?_⟩
  have i_Held : InsK K ((clOf [C0, C1, C2]) 0) ["moment", "cover", "used"] := ⟨⟨pg0, hd0, po0, sa0⟩, (all_cons n0_0 (all_cons n0_1 (all_cons n0_2 all_nil))), ha0, hn0, ht0, hm0⟩
  have g_Held : mg "Held" = some (.ref ((clOf [C0, C1, C2]) 0)) := PySem.W.mg_of X G aC0
  have i_Known : InsK K ((clOf [C0, C1, C2]) 1) ["moment", "cover", "tree"] := ⟨⟨pg1, hd1, po1, sa1⟩, (all_cons n1_0 (all_cons n1_1 (all_cons n1_2 all_nil))), ha1, hn1, ht1, hm1⟩
  have g_Known : mg "Known" = some (.ref ((clOf [C0, C1, C2]) 1)) := PySem.W.mg_of X G aC1
  have i_Paper : InsK K ((clOf [C0, C1, C2]) 2) ["known", "trees", "steps"] := ⟨⟨pg2, hd2, po2, sa2⟩, (all_cons n2_0 (all_cons n2_1 (all_cons n2_2 all_nil))), ha2, hn2, ht2, hm2⟩
  have g_Paper : mg "Paper" = some (.ref ((clOf [C0, C1, C2]) 2)) := PySem.W.mg_of X G aC2
  have x_Held : (∀ C ∈ [(clOf [C0, C1, C2]) 0, (clOf [C0, C1, C2]) 1, (clOf [C0, C1, C2]) 2], PySem.W.kitOne K (.ref C) (.ref ((clOf [C0, C1, C2]) 0)) = some (decide (C = (clOf [C0, C1, C2]) 0))) ∧ ∀ n ∈ tysD, PySem.W.kitOne K (.type n) (.ref ((clOf [C0, C1, C2]) 0)) = some false := ⟨(all_cons (kit_t kit_self) (all_cons (kit_f (fun z => absurd (good 1 0 (by decide) (by decide) z) (by decide)) (kit_own (ref_ne (fun z => absurd (good 1 0 (by decide) (by decide) z) (by decide))) hd0 ty0 x1_0)) (all_cons (kit_f (fun z => absurd (good 2 0 (by decide) (by decide) z) (by decide)) (kit_own (ref_ne (fun z => absurd (good 2 0 (by decide) (by decide) z) (by decide))) hd0 ty0 x2_0)) all_nil))), (all_cons (kit_own rfl hd0 ty0 xt0_0) (all_cons (kit_own rfl hd0 ty0 xt1_0) (all_cons (kit_own rfl hd0 ty0 xt2_0) (all_cons (kit_own rfl hd0 ty0 xt3_0) (all_cons (kit_own rfl hd0 ty0 xt4_0) (all_cons (kit_own rfl hd0 ty0 xt5_0) all_nil))))))⟩
  have x_Known : (∀ C ∈ [(clOf [C0, C1, C2]) 0, (clOf [C0, C1, C2]) 1, (clOf [C0, C1, C2]) 2], PySem.W.kitOne K (.ref C) (.ref ((clOf [C0, C1, C2]) 1)) = some (decide (C = (clOf [C0, C1, C2]) 1))) ∧ ∀ n ∈ tysD, PySem.W.kitOne K (.type n) (.ref ((clOf [C0, C1, C2]) 1)) = some false := ⟨(all_cons (kit_f (fun z => absurd (good 0 1 (by decide) (by decide) z) (by decide)) (kit_own (ref_ne (fun z => absurd (good 0 1 (by decide) (by decide) z) (by decide))) hd1 ty1 x0_1)) (all_cons (kit_t kit_self) (all_cons (kit_f (fun z => absurd (good 2 1 (by decide) (by decide) z) (by decide)) (kit_own (ref_ne (fun z => absurd (good 2 1 (by decide) (by decide) z) (by decide))) hd1 ty1 x2_1)) all_nil))), (all_cons (kit_own rfl hd1 ty1 xt0_1) (all_cons (kit_own rfl hd1 ty1 xt1_1) (all_cons (kit_own rfl hd1 ty1 xt2_1) (all_cons (kit_own rfl hd1 ty1 xt3_1) (all_cons (kit_own rfl hd1 ty1 xt4_1) (all_cons (kit_own rfl hd1 ty1 xt5_1) all_nil))))))⟩
  have x_Paper : (∀ C ∈ [(clOf [C0, C1, C2]) 0, (clOf [C0, C1, C2]) 1, (clOf [C0, C1, C2]) 2], PySem.W.kitOne K (.ref C) (.ref ((clOf [C0, C1, C2]) 2)) = some (decide (C = (clOf [C0, C1, C2]) 2))) ∧ ∀ n ∈ tysD, PySem.W.kitOne K (.type n) (.ref ((clOf [C0, C1, C2]) 2)) = some false := ⟨(all_cons (kit_f (fun z => absurd (good 0 2 (by decide) (by decide) z) (by decide)) (kit_own (ref_ne (fun z => absurd (good 0 2 (by decide) (by decide) z) (by decide))) hd2 ty2 x0_2)) (all_cons (kit_f (fun z => absurd (good 1 2 (by decide) (by decide) z) (by decide)) (kit_own (ref_ne (fun z => absurd (good 1 2 (by decide) (by decide) z) (by decide))) hd2 ty2 x1_2)) (all_cons (kit_t kit_self) all_nil))), (all_cons (kit_own rfl hd2 ty2 xt0_2) (all_cons (kit_own rfl hd2 ty2 xt1_2) (all_cons (kit_own rfl hd2 ty2 xt2_2) (all_cons (kit_own rfl hd2 ty2 xt3_2) (all_cons (kit_own rfl hd2 ty2 xt4_2) (all_cons (kit_own rfl hd2 ty2 xt5_2) all_nil))))))⟩
  have o_Held : NeF K ((clOf [C0, C1, C2]) 0) := ⟨ob0, ne0⟩
  have o_Known : NeF K ((clOf [C0, C1, C2]) 1) := ⟨ob1, ne1⟩
  have o_Paper : NeF K ((clOf [C0, C1, C2]) 2) := ⟨ob2, ne2⟩
  have mm_K_Held_init : MonoS (m_K_Held_init (clOf [C0, C1, C2])) := (d_K_Held_init (cl := (clOf [C0, C1, C2])) (P := l.prog) (w := w) (base := base) (fa := f0) (cdv := .none) (A := callerA) (outer := []) (s := {}) (H := fun _ => none) (E := fun _ _ _ => False) T i_Held ((show Room 1 callerA from ⟨rfl, by decide, by decide⟩).deeper _)).mono
  have c_Held : CalM l.prog w K mg base "Held" 1 ((clOf [C0, C1, C2]) 0) ["moment", "cover", "used"] 3 (mkD ((clOf [C0, C1, C2]) 0) ["moment", "cover", "used"] 4 (m_K_Held_init (clOf [C0, C1, C2]))) := ⟨mkD_mono mm_K_Held_init, i_Held, mkD_ins mm_K_Held_init, f0, _, _, rfl, init_ok F0 sc_K_Held_init (fun cdv A outer s H E hr => d_K_Held_init (cl := (clOf [C0, C1, C2])) T i_Held hr), ⟨mk0, a0, i0, kc0⟩, g_Held, b0⟩
  have mm_K_Held_eq : MonoS (m_K_Held_eq (clOf [C0, C1, C2])) := (d_K_Held_eq (cl := (clOf [C0, C1, C2])) (P := l.prog) (w := w) (base := base) (fa := f1) (cdv := .none) (A := callerA) (outer := []) (s := {}) (H := fun _ => none) (E := fun _ _ _ => False) T g_Held x_Held ((show Room 1 callerA from ⟨rfl, by decide, by decide⟩).deeper _)).mono
  have e_Held : CalE l.prog w K mg base 10 ((clOf [C0, C1, C2]) 0) [(clOf [C0, C1, C2]) 0, (clOf [C0, C1, C2]) 1, (clOf [C0, C1, C2]) 2] (runD 2 (m_K_Held_eq (clOf [C0, C1, C2]))) := calE_mono (j := 1) ⟨runD_mono mm_K_Held_eq, (all_cons et0_0 (all_cons et1_0 (all_cons et2_0 (all_cons et3_0 (all_cons et4_0 (all_cons et5_0 all_nil)))))), (all_cons e0_0 (all_cons e1_0 (all_cons e2_0 all_nil))), f1, _, _, rfl, fn_ok F1 sc_K_Held_eq (fun cdv A outer s H E hr => d_K_Held_eq (cl := (clOf [C0, C1, C2])) T g_Held x_Held hr), a1, i1, b1⟩ (by decide)
  have mm_K_Known_init : MonoS (m_K_Known_init (clOf [C0, C1, C2])) := (d_K_Known_init (cl := (clOf [C0, C1, C2])) (P := l.prog) (w := w) (base := base) (fa := f2) (cdv := .none) (A := callerA) (outer := []) (s := {}) (H := fun _ => none) (E := fun _ _ _ => False) T i_Known ((show Room 1 callerA from ⟨rfl, by decide, by decide⟩).deeper _)).mono
  have c_Known : CalM l.prog w K mg base "Known" 1 ((clOf [C0, C1, C2]) 1) ["moment", "cover", "tree"] 3 (mkD ((clOf [C0, C1, C2]) 1) ["moment", "cover", "tree"] 4 (m_K_Known_init (clOf [C0, C1, C2]))) := ⟨mkD_mono mm_K_Known_init, i_Known, mkD_ins mm_K_Known_init, f2, _, _, rfl, init_ok F2 sc_K_Known_init (fun cdv A outer s H E hr => d_K_Known_init (cl := (clOf [C0, C1, C2])) T i_Known hr), ⟨mk1, a2, i2, kc1⟩, g_Known, b2⟩
  have mm_K_Known_eq : MonoS (m_K_Known_eq (clOf [C0, C1, C2])) := (d_K_Known_eq (cl := (clOf [C0, C1, C2])) (P := l.prog) (w := w) (base := base) (fa := f3) (cdv := .none) (A := callerA) (outer := []) (s := {}) (H := fun _ => none) (E := fun _ _ _ => False) T g_Known x_Known ((show Room 1 callerA from ⟨rfl, by decide, by decide⟩).deeper _)).mono
  have q_Known : CalE l.prog w K mg base 1 ((clOf [C0, C1, C2]) 1) [(clOf [C0, C1, C2]) 0, (clOf [C0, C1, C2]) 1, (clOf [C0, C1, C2]) 2] (runD 2 (m_K_Known_eq (clOf [C0, C1, C2]))) := ⟨runD_mono mm_K_Known_eq, (all_cons et0_1 (all_cons et1_1 (all_cons et2_1 (all_cons et3_1 (all_cons et4_1 (all_cons et5_1 all_nil)))))), (all_cons e0_1 (all_cons e1_1 (all_cons e2_1 all_nil))), f3, _, _, rfl, fn_ok F3 sc_K_Known_eq (fun cdv A outer s H E hr => d_K_Known_eq (cl := (clOf [C0, C1, C2])) T g_Known x_Known hr), a3, i3, b3⟩
  have e_Known : CalE l.prog w K mg base 10 ((clOf [C0, C1, C2]) 1) [(clOf [C0, C1, C2]) 0, (clOf [C0, C1, C2]) 1, (clOf [C0, C1, C2]) 2] (runD 2 (m_K_Known_eq (clOf [C0, C1, C2]))) := calE_mono (j := 1) ⟨runD_mono mm_K_Known_eq, (all_cons et0_1 (all_cons et1_1 (all_cons et2_1 (all_cons et3_1 (all_cons et4_1 (all_cons et5_1 all_nil)))))), (all_cons e0_1 (all_cons e1_1 (all_cons e2_1 all_nil))), f3, _, _, rfl, fn_ok F3 sc_K_Known_eq (fun cdv A outer s H E hr => d_K_Known_eq (cl := (clOf [C0, C1, C2])) T g_Known x_Known hr), a3, i3, b3⟩ (by decide)
  have mm_K_Paper_init : MonoS (m_K_Paper_init (clOf [C0, C1, C2])) := (d_K_Paper_init (cl := (clOf [C0, C1, C2])) (P := l.prog) (w := w) (base := base) (fa := f4) (cdv := .none) (A := callerA) (outer := []) (s := {}) (H := fun _ => none) (E := fun _ _ _ => False) T i_Paper ((show Room 1 callerA from ⟨rfl, by decide, by decide⟩).deeper _)).mono
  have c_Paper : CalM l.prog w K mg base "Paper" 1 ((clOf [C0, C1, C2]) 2) ["known", "trees", "steps"] 3 (mkD ((clOf [C0, C1, C2]) 2) ["known", "trees", "steps"] 4 (m_K_Paper_init (clOf [C0, C1, C2]))) := ⟨mkD_mono mm_K_Paper_init, i_Paper, mkD_ins mm_K_Paper_init, f4, _, _, rfl, init_ok F4 sc_K_Paper_init (fun cdv A outer s H E hr => d_K_Paper_init (cl := (clOf [C0, C1, C2])) T i_Paper hr), ⟨mk2, a4, i4, kc2⟩, g_Paper, b4⟩
  have mm_K_Paper_eq : MonoS (m_K_Paper_eq (clOf [C0, C1, C2])) := (d_K_Paper_eq (cl := (clOf [C0, C1, C2])) (P := l.prog) (w := w) (base := base) (fa := f5) (cdv := .none) (A := callerA) (outer := []) (s := {}) (H := fun _ => none) (E := fun _ _ _ => False) T g_Paper q_Known x_Paper ((show Room 10 callerA from ⟨rfl, by decide, by decide⟩).deeper _)).mono
  have e_Paper : CalE l.prog w K mg base 10 ((clOf [C0, C1, C2]) 2) [(clOf [C0, C1, C2]) 0, (clOf [C0, C1, C2]) 1, (clOf [C0, C1, C2]) 2] (runD 2 (m_K_Paper_eq (clOf [C0, C1, C2]))) := calE_mono (j := 10) ⟨runD_mono mm_K_Paper_eq, (all_cons et0_2 (all_cons et1_2 (all_cons et2_2 (all_cons et3_2 (all_cons et4_2 (all_cons et5_2 all_nil)))))), (all_cons e0_2 (all_cons e1_2 (all_cons e2_2 all_nil))), f5, _, _, rfl, fn_ok F5 sc_K_Paper_eq (fun cdv A outer s H E hr => d_K_Paper_eq (cl := (clOf [C0, C1, C2])) T g_Paper q_Known x_Paper hr), a5, i5, b5⟩ (by decide)
  have c__law_number : Cal l.prog w K mg base "_law_number" 1 ["_law_script", "_law_k"] [] (runD 5 m__law_number) := cal_mk F6 sc__law_number (PySem.W.mg_of X G a6) b6 (fun cdv A outer s H E hr => d__law_number T hr) ⟨rfl, by decide, by decide⟩
  have c__law_near : Cal l.prog w K mg base "_law_near" 1 ["_law_cell"] [] (runD 3 m__law_near) := cal_mk F7 sc__law_near (PySem.W.mg_of X G a7) b7 (fun cdv A outer s H E hr => d__law_near T hr) ⟨rfl, by decide, by decide⟩
  have c__law_length : Cal l.prog w K mg base "_law_length" 1 ["_law_cell"] [] (runD 3 m__law_length) := cal_mk F8 sc__law_length (PySem.W.mg_of X G a8) b8 (fun cdv A outer s H E hr => d__law_length T hr) ⟨rfl, by decide, by decide⟩
  have c__law_box : Cal l.prog w K mg base "_law_box" 2 ["_law_script", "_law_k", "_law_sides"] [] (runD 6 m__law_box) := cal_mk F9 sc__law_box (PySem.W.mg_of X G a9) b9 (fun cdv A outer s H E hr => d__law_box T c__law_near c__law_number c__law_length hr) ⟨rfl, by decide, by decide⟩
  have c__law_truth : Cal l.prog w K mg base "_law_truth" 1 ["_law_actual", "_law_expected"] [] (runD 2 m__law_truth) := cal_mk F10 sc__law_truth (PySem.W.mg_of X G a10) b10 (fun cdv A outer s H E hr => d__law_truth T hr) ⟨rfl, by decide, by decide⟩
  exact (fn_ok F11 sc_law fun cdv A outer s H E hr => d_law (cl := (clOf [C0, C1, C2])) T c__law_number c__law_near c__law_box c__law_truth c_Held c_Known c_Paper e_Held e_Known e_Paper o_Held o_Known o_Paper q_Known hr).imp fun vs H Q E ⟨h1, F, es, h2, h3, h4⟩ => ⟨h1, F, es, h2, h3, h4 _ good⟩
end DL

open PySem PySem.W PyProof.Rows
set_option maxHeartbeats 0 in
theorem PySem.Challenge.cw_sureplace_k34_papers_as_values_holds : PySem.Challenge.rw_sureplace_k34_papers_as_values.Holds := by
  w_on; o_law; k_head; (case hw => w_witness2)
  k_fill
  refine DL.walk_D (l := PySem.Challenge.rw_sureplace_k34_papers_as_values) (n := 63) (k := 19) (x := "_law_script") (m := fun ds Q => ∀ cl, DL.GoodC 3 cl → DL.runD 12 (DL.m_law cl) ds Q) rfl (by decide) rfl ⟨rfl, by decide, by decide⟩ (fun w h Y => PySem.W.kIn_of Y) ?F DL.law_D
  case F =>
    intro w mg fa h KX G hmg
    refine' DL.all_mk KX G hmg ?aC0 ?aC1 ?aC2 ?a0 ?i0 ?l0 ?c0 ?k0 ?a1 ?i1 ?l1 ?c1 ?k1 ?a2 ?i2 ?l2 ?c2 ?k2 ?a3 ?i3 ?l3 ?c3 ?k3 ?a4 ?i4 ?l4 ?c4 ?k4 ?a5 ?i5 ?l5 ?c5 ?k5 ?a6 ?l6 ?c6 ?k6 ?a7 ?l7 ?c7 ?k7 ?a8 ?l8 ?c8 ?k8 ?a9 ?l9 ?c9 ?k9 ?a10 ?l10 ?c10 ?k10 ?a11 ?l11 ?c11 ?k11 ?pg0 ?hd0 ?po0 ?sa0 ?mk0 ?kc0 ?ha0 ?hn0 ?ht0 ?hm0 ?n0_0 ?n0_1 ?n0_2 ?pg1 ?hd1 ?po1 ?sa1 ?mk1 ?kc1 ?ha1 ?hn1 ?ht1 ?hm1 ?n1_0 ?n1_1 ?n1_2 ?pg2 ?hd2 ?po2 ?sa2 ?mk2 ?kc2 ?ha2 ?hn2 ?ht2 ?hm2 ?n2_0 ?n2_1 ?n2_2 ?ty0 ?x1_0 ?x2_0 ?xt0_0 ?xt1_0 ?xt2_0 ?xt3_0 ?xt4_0 ?xt5_0 ?ty1 ?x0_1 ?x2_1 ?xt0_1 ?xt1_1 ?xt2_1 ?xt3_1 ?xt4_1 ?xt5_1 ?ty2 ?x0_2 ?x1_2 ?xt0_2 ?xt1_2 ?xt2_2 ?xt3_2 ?xt4_2 ?xt5_2 ?ob0 ?ne0 ?ob1 ?ne1 ?ob2 ?ne2 ?e0_0 ?e1_0 ?e2_0 ?et0_0 ?et1_0 ?et2_0 ?et3_0 ?et4_0 ?et5_0 ?e0_1 ?e1_1 ?e2_1 ?et0_1 ?et1_1 ?et2_1 ?et3_1 ?et4_1 ?et5_1 ?e0_2 ?e1_2 ?e2_2 ?et0_2 ?et1_2 ?et2_2 ?et3_2 ?et4_2 ?et5_2 ?nd ?z_bool ?z_int ?z_isinstance ?z_len ?z_range ?z_tuple
    (case aC0 => k_is); (case aC1 => k_is); (case aC2 => k_is); (case a0 => k_is); (case i0 => k_is); (case l0 => k_is); (case c0 => k_is); (case k0 => k_is); (case a1 => k_is); (case i1 => k_is); (case l1 => k_is); (case c1 => k_is); (case k1 => k_is); (case a2 => k_is); (case i2 => k_is); (case l2 => k_is); (case c2 => k_is); (case k2 => k_is); (case a3 => k_is); (case i3 => k_is); (case l3 => k_is); (case c3 => k_is); (case k3 => k_is); (case a4 => k_is); (case i4 => k_is); (case l4 => k_is); (case c4 => k_is); (case k4 => k_is); (case a5 => k_is); (case i5 => k_is); (case l5 => k_is); (case c5 => k_is); (case k5 => k_is); (case a6 => k_is); (case l6 => k_is); (case c6 => k_is); (case k6 => k_is); (case a7 => k_is); (case l7 => k_is); (case c7 => k_is); (case k7 => k_is); (case a8 => k_is); (case l8 => k_is); (case c8 => k_is); (case k8 => k_is); (case a9 => k_is); (case l9 => k_is); (case c9 => k_is); (case k9 => k_is); (case a10 => k_is); (case l10 => k_is); (case c10 => k_is); (case k10 => k_is); (case a11 => k_is); (case l11 => k_is); (case c11 => k_is); (case k11 => k_is); (case pg0 => k_is); (case hd0 => k_is); (case po0 => k_is); (case sa0 => k_is); (case mk0 => k_is); (case kc0 => k_is); (case ha0 => k_is); (case hn0 => k_is); (case ht0 => k_is); (case hm0 => k_is); (case n0_0 => k_is); (case n0_1 => k_is); (case n0_2 => k_is); (case pg1 => k_is); (case hd1 => k_is); (case po1 => k_is); (case sa1 => k_is); (case mk1 => k_is); (case kc1 => k_is); (case ha1 => k_is); (case hn1 => k_is); (case ht1 => k_is); (case hm1 => k_is); (case n1_0 => k_is); (case n1_1 => k_is); (case n1_2 => k_is); (case pg2 => k_is); (case hd2 => k_is); (case po2 => k_is); (case sa2 => k_is); (case mk2 => k_is); (case kc2 => k_is); (case ha2 => k_is); (case hn2 => k_is); (case ht2 => k_is); (case hm2 => k_is); (case n2_0 => k_is); (case n2_1 => k_is); (case n2_2 => k_is); (case ty0 => k_is); (case x1_0 => k_is); (case x2_0 => k_is); (case xt0_0 => k_is); (case xt1_0 => k_is); (case xt2_0 => k_is); (case xt3_0 => k_is); (case xt4_0 => k_is); (case xt5_0 => k_is); (case ty1 => k_is); (case x0_1 => k_is); (case x2_1 => k_is); (case xt0_1 => k_is); (case xt1_1 => k_is); (case xt2_1 => k_is); (case xt3_1 => k_is); (case xt4_1 => k_is); (case xt5_1 => k_is); (case ty2 => k_is); (case x0_2 => k_is); (case x1_2 => k_is); (case xt0_2 => k_is); (case xt1_2 => k_is); (case xt2_2 => k_is); (case xt3_2 => k_is); (case xt4_2 => k_is); (case xt5_2 => k_is); (case ob0 => k_is); (case ne0 => k_is); (case ob1 => k_is); (case ne1 => k_is); (case ob2 => k_is); (case ne2 => k_is); (case e0_0 => k_is); (case e1_0 => k_is); (case e2_0 => k_is); (case et0_0 => k_is); (case et1_0 => k_is); (case et2_0 => k_is); (case et3_0 => k_is); (case et4_0 => k_is); (case et5_0 => k_is); (case e0_1 => k_is); (case e1_1 => k_is); (case e2_1 => k_is); (case et0_1 => k_is); (case et1_1 => k_is); (case et2_1 => k_is); (case et3_1 => k_is); (case et4_1 => k_is); (case et5_1 => k_is); (case e0_2 => k_is); (case e1_2 => k_is); (case e2_2 => k_is); (case et0_2 => k_is); (case et1_2 => k_is); (case et2_2 => k_is); (case et3_2 => k_is); (case et4_2 => k_is); (case et5_2 => k_is); (case nd => decide); (case z_bool => k_is); (case z_int => k_is); (case z_isinstance => k_is); (case z_len => k_is); (case z_range => k_is); (case z_tuple => k_is)

