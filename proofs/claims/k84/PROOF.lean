import PyProof.Rows.All
import Wide.All
import OpenK.AllK
import Wide.FinOn
import PyProof.EqAt
import PyProof.EqKinds
import PyProof.TupleCall
import HandS.ForMost
import HandS.Walk
import KE.LtData
import HandS.Deep
import HandS.TupAny
import HandS.TupMul
import HandS.Style
import HandS.IsInst
import HandS.More
import HandS.Flow
import HandS.Zip
import HandS.RevRange
import HandS.TryOnly
import KE.DataCmp
import KE.DataMinMax
import HandS.Strs
import HandS.ExcInit
import HandS.ExcField
import HandS.WordsExc
import PyProof.Rows.SortShellAny
import KE.SortData
import KE.GoesEnum
import HandS.Rev
import HandS.DictComp
import HandS.Conv
import HandS.TryMany
import HandS.ExcIs
import KE.KExcIs
import HandS.Words
import HandS.Ends
import PySem.Challenge.RW_fewestrules_k84_refusals_of_paths
set_option Elab.async false
set_option linter.all false
set_option maxRecDepth 100000
set_option autoImplicit false
/-! Values without a heap, and how a value of the heap stands for one. -/
namespace Pv
open PySem PySem.Spec PyProof.Rows L2
abbrev St := L2.St

/-- a value without addresses: None, bools, ints, texts, tuples, lists, the script; a dict with texts as keys -/
inductive D where
  | non | bl (b : Bool) | int (i : Int) | str (x : Str) | tup (xs : List D) | lst (xs : List D) | scr (ns : List Int) | dct (ks : List Str) (vs : List D)
  | obj (nm : Str) (ks : List Str) (vs : List D)
  deriving Inhabited

/-- the greatest length that a step lets -/
def LIM : Nat := 1000000
/-- a text of signs, no longer than the bound -/
def okT (x : Str) : Bool := PyData.strOk x && decide (x.length ≤ LIM)
/-- at a stands a tuple of vs that no owner of a list may touch -/
def TupAt (K : PySem.W.Frag) (ex : Addr → Prop) (H : Hp) (a : Addr) (xs : List V) : Prop :=
  ((∃ o : Obj, H a = some (.frz o (.tup xs)) ∧ o.dict = none) ∧ ¬ ex a) ∨
    ∃ (o : Obj) (its : Array Value) (n : Nat), K.lookup a = some o ∧ o.cls = .type "tuple" ∧ o.dict = none ∧ o.data = .seq its n ∧ its.size ≤ sizeLine ∧ Vals xs its.toList
def ScrAt (K : PySem.W.Frag) (ex : Addr → Prop) (H : Hp) (a : Addr) (xs : List V) : Prop :=
  ((∃ o, H a = some (.frz o (.lst xs))) ∧ ¬ ex a) ∨
    ∃ (o : Obj) (its : Array Value) (n : Nat), K.lookup a = some o ∧ o.cls = .type "list" ∧ o.dict = none ∧ o.data = .seq its n ∧ its.size ≤ sizeLine ∧ Vals xs its.toList

/-- what the written part says of an own class -/
structure ClF (K : PySem.W.Frag) (C : Addr) : Prop where
  cls : Cls K C
  nb : PySem.W.findIn K (.ref C) "__bool__" = some none
  nl : PySem.W.findIn K (.ref C) "__len__" = some none
  cl : PySem.W.findIn K (.ref C) "__class__" = some (some (.builtin "object.__class__"))
  gs : PySem.W.specialIn K (.builtin "object.__class__") "__get__" = some (some (.builtin "getset_descriptor.__get__"))
  tk : PySem.W.takesIn K (.builtin "object.__class__") = some true
  mr : PySem.W.mroIn K C (.type "object") = some true
  nk : ∀ T : String, T ∈ ["int", "bool", "str", "tuple", "list"] → PySem.W.subIn K (.ref C) (.type T) = some false
/-- the class C, bound to nm; its instances may have the attributes ks -/
structure ObF (K : PySem.W.Frag) (C : Addr) (nm : Str) (ks : List Str) : Prop where
  ns : PySem.W.nsIn K mainGlobals nm = some (some (.ref C))
  cf : ClF K C
  no : ∀ f, f ∈ ks → NoAttr K C f
/-- what changes in place: a list, a dict, an instance -/
inductive Shp where
  | lst | dct (ks : List Str) | obj (C dx : Addr) (nm : Str) (ks : List Str)
def kvZ (ks : List Str) (vs : List V) : List (Key × V) := (ks.map Sum.inr).zip vs
def Shp.ho : Shp → List V → HO
  | .lst, vs => .lst vs
  | .dct ks, vs => .dK (kvZ ks vs)
  | .obj C dx _ ks, vs => .ins C dx (ks.zip vs)
def Shp.d : Shp → List D → D
  | .lst, ds => .lst ds
  | .dct ks, ds => .dct ks ds
  | .obj _ _ nm ks, ds => .obj nm ks ds
def Shp.ok (K : PySem.W.Frag) : Shp → Prop
  | .lst => True
  | .dct _ => True
  | .obj C _ nm ks => ObF K C nm ks
mutual
/-- v of the heap H stands for d, by no address of ex -/
inductive Rep (K : PySem.W.Frag) (ex : Addr → Prop) (H : Hp) : V → D → Prop
  | non : Rep K ex H .non .non
  | bl (b : Bool) : Rep K ex H (.bl b) (.bl b)
  | int (i : Int) : Rep K ex H (.int i) (.int i)
  | str (x : Str) : okT x = true → Rep K ex H (.str x) (.str x)
  | tup {a : Addr} {vs : List V} {ds : List D} : TupAt K ex H a vs → Reps K ex H vs ds → Rep K ex H (.ref a) (.tup ds)
  | lst {a : Addr} {vs : List V} {ds : List D} : H a = some (.lst vs) → ¬ ex a → Reps K ex H vs ds → Rep K ex H (.ref a) (.lst ds)
  | scr {a : Addr} {ns : List Int} : ScrAt K ex H a (ns.map V.int) → Rep K ex H (.ref a) (.scr ns)
  | dct {a : Addr} {ks : List Str} {vs : List V} {ds : List D} : H a = some (.dK (kvZ ks vs)) → ¬ ex a → Reps K ex H vs ds → Rep K ex H (.ref a) (.dct ks ds)
  | obj {a C dx : Addr} {nm : Str} {ks : List Str} {vs : List V} {ds : List D} : H a = some (.ins C dx (ks.zip vs)) → ObF K C nm ks → ¬ ex a → Reps K ex H vs ds → Rep K ex H (.ref a) (.obj nm ks ds)
inductive Reps (K : PySem.W.Frag) (ex : Addr → Prop) (H : Hp) : List V → List D → Prop
  | nil : Reps K ex H [] []
  | cons {v : V} {vs : List V} {d : D} {ds : List D} : Rep K ex H v d → Reps K ex H vs ds → Reps K ex H (v :: vs) (d :: ds)
end

/-- all that was tracked is as it was, but what ex may change -/
structure Frame (ex : Addr → Prop) (H H' : Hp) : Prop where
  keep : ∀ b o, H b = some o → ¬ ex b → H' b = some o
  there : ∀ b o, H b = some o → ∃ o', H' b = some o'
theorem Frame.refl {ex : Addr → Prop} (H : Hp) : Frame ex H H := ⟨fun _ _ h _ => h, fun _ o h => ⟨o, h⟩⟩
theorem Frame.trans {ex : Addr → Prop} {H H1 H2 : Hp} (a : Frame ex H H1) (b : Frame ex H1 H2) : Frame ex H H2 :=
  ⟨fun c o h n => b.keep c o (a.keep c o h n) n, fun c o h => let ⟨o', e⟩ := a.there c o h; b.there c o' e⟩
theorem Frame.mono {ex ex' : Addr → Prop} {H H1 : Hp} (a : Frame ex H H1) (h : ∀ b, ex b → ex' b) : Frame ex' H H1 := ⟨fun c o e n => a.keep c o e fun z => n (h _ z), a.there⟩
theorem Frame.same {ex : Addr → Prop} {H H1 : Hp} (h : ∀ b o, H b = some o → H1 b = some o) : Frame ex H H1 := ⟨fun b o e _ => h b o e, fun b o e => ⟨o, h b o e⟩⟩
theorem Frame.new {ex : Addr → Prop} {H : Hp} {p : Addr} {o : HO} (n : H p = none) : Frame ex H (upd H p o) := .same fun b u e => by rw [upd_ne (ne_of_none e n)]; exact e
theorem Frame.set {ex : Addr → Prop} {H : Hp} {p : Addr} {o : HO} (n : ex p) : Frame ex H (upd H p o) :=
  ⟨fun b u e nb => by rw [upd_ne (fun z => nb (by rw [z]; exact n))]; exact e, fun b u e => by
    by_cases z : b = p
    · exact ⟨o, by rw [z]; exact upd_same⟩
    · exact ⟨u, by rw [upd_ne z]; exact e⟩⟩
theorem Frame.free {ex : Addr → Prop} {H H1 : Hp} {p : Addr} (a : Frame ex H H1) (n : H1 p = none) : H p = none := by
  cases e : H p with
  | none => rfl
  | some o =>
    obtain ⟨o', e'⟩ := a.there p o e
    rw [n] at e'; cases e'

section
variable {K : PySem.W.Frag} {ex ex' : Addr → Prop} {H H' : Hp} {v : V} {vs ws : List V} {d : D} {ds es : List D} {a p : Addr}
theorem TupAt.sq (h : TupAt K ex H a vs) : SqT K H a vs := h.elim (fun z => let ⟨⟨o, e, _⟩, _⟩ := z; .inl (.inr ⟨o, e⟩)) fun ⟨o, its, n, h1, h2, _, h3⟩ => .inr ⟨o, its, n, h1, h2, h3⟩
theorem ScrAt.sq (h : ScrAt K ex H a vs) : SqL K H a vs := h.elim (fun z => let ⟨⟨o, e⟩, _⟩ := z; .inl (.inr ⟨o, e⟩)) .inr
theorem TupAt.frame (h : TupAt K ex H a vs) (f : Frame ex H H') : TupAt K ex H' a vs := h.elim (fun z => let ⟨⟨o, e, d⟩, n⟩ := z; .inl ⟨⟨o, f.keep _ _ e n, d⟩, n⟩) .inr
theorem ScrAt.frame (h : ScrAt K ex H a vs) (f : Frame ex H H') : ScrAt K ex H' a vs := h.elim (fun z => let ⟨⟨o, e⟩, n⟩ := z; .inl ⟨⟨o, f.keep _ _ e n⟩, n⟩) .inr
theorem TupAt.grow (h : TupAt K ex H a vs) (f : ∀ b, ex' b → ex b ∨ H b = none) : TupAt K ex' H a vs :=
  h.elim (fun z => let ⟨⟨o, e, d⟩, m⟩ := z; .inl ⟨⟨o, e, d⟩, fun q => (f _ q).elim m fun n => by rw [n] at e; cases e⟩) .inr
theorem ScrAt.grow (h : ScrAt K ex H a vs) (f : ∀ b, ex' b → ex b ∨ H b = none) : ScrAt K ex' H a vs :=
  h.elim (fun z => let ⟨⟨o, e⟩, m⟩ := z; .inl ⟨⟨o, e⟩, fun q => (f _ q).elim m fun n => by rw [n] at e; cases e⟩) .inr
mutual
theorem Rep.frame (f : Frame ex H H') : ∀ {v : V} {d : D}, Rep K ex H v d → Rep K ex H' v d
  | _, _, .non => .non
  | _, _, .bl b => .bl b
  | _, _, .int i => .int i
  | _, _, .str x o => .str x o
  | _, _, .tup t r => .tup (t.frame f) (Reps.frame f r)
  | _, _, .lst t n r => .lst (f.keep _ _ t n) n (Reps.frame f r)
  | _, _, .scr t => .scr (t.frame f)
  | _, _, .dct t n r => .dct (f.keep _ _ t n) n (Reps.frame f r)
  | _, _, .obj t g n r => .obj (f.keep _ _ t n) g n (Reps.frame f r)
theorem Reps.frame (f : Frame ex H H') : ∀ {vs : List V} {ds : List D}, Reps K ex H vs ds → Reps K ex H' vs ds
  | _, _, .nil => .nil
  | _, _, .cons r t => .cons (Rep.frame f r) (Reps.frame f t)
end
mutual
/-- other addresses are shut out, that do not stand yet, or fewer -/
theorem Rep.grow (f : ∀ b, ex' b → ex b ∨ H b = none) : ∀ {v : V} {d : D}, Rep K ex H v d → Rep K ex' H v d
  | _, _, .non => .non
  | _, _, .bl b => .bl b
  | _, _, .int i => .int i
  | _, _, .str x o => .str x o
  | _, _, .tup t r => .tup (t.grow f) (Reps.grow f r)
  | _, _, .lst t n r => .lst t (fun q => (f _ q).elim n fun z => by rw [z] at t; cases t) (Reps.grow f r)
  | _, _, .scr t => .scr (t.grow f)
  | _, _, .dct t n r => .dct t (fun q => (f _ q).elim n fun z => by rw [z] at t; cases t) (Reps.grow f r)
  | _, _, .obj t g n r => .obj t g (fun q => (f _ q).elim n fun z => by rw [z] at t; cases t) (Reps.grow f r)
theorem Reps.grow (f : ∀ b, ex' b → ex b ∨ H b = none) : ∀ {vs : List V} {ds : List D}, Reps K ex H vs ds → Reps K ex' H vs ds
  | _, _, .nil => .nil
  | _, _, .cons r t => .cons (Rep.grow f r) (Reps.grow f t)
end
theorem Rep.less (h : Rep K ex H v d) (f : ∀ b, ex' b → ex b) : Rep K ex' H v d := h.grow fun b q => .inl (f b q)
theorem Reps.less (h : Reps K ex H vs ds) (f : ∀ b, ex' b → ex b) : Reps K ex' H vs ds := h.grow fun b q => .inl (f b q)
/-- the content of what stands in the shape sh -/
structure Repz (K : PySem.W.Frag) (ex : Addr → Prop) (H : Hp) (sh : Shp) (vs : List V) (ds : List D) : Prop where
  r : Reps K ex H vs ds
  ok : sh.ok K
theorem Repz.frame {sh : Shp} (f : Frame ex H H') (h : Repz K ex H sh vs ds) : Repz K ex H' sh vs ds := ⟨h.r.frame f, h.ok⟩
theorem Repz.grow {sh : Shp} (f : ∀ b, ex' b → ex b ∨ H b = none) (h : Repz K ex H sh vs ds) : Repz K ex' H sh vs ds := ⟨h.r.grow f, h.ok⟩
theorem Repz.less {sh : Shp} (h : Repz K ex H sh vs ds) (f : ∀ b, ex' b → ex b) : Repz K ex' H sh vs ds := ⟨h.r.less f, h.ok⟩
theorem Reps.z (h : Reps K ex H vs ds) : Repz K ex H .lst vs ds := ⟨h, trivial⟩
theorem Reps.zd {ks : List Str} (h : Reps K ex H vs ds) : Repz K ex H (.dct ks) vs ds := ⟨h, trivial⟩
theorem Rep.shp (sh : Shp) (h : H a = some (sh.ho vs)) (n : ¬ ex a) (r : Repz K ex H sh vs ds) : Rep K ex H (.ref a) (sh.d ds) := by
  cases sh with
  | lst => exact .lst h n r.r
  | dct ks => exact .dct h n r.r
  | obj C dx nm ks => exact .obj h r.ok n r.r
theorem Reps.length : ∀ {vs : List V} {ds : List D}, Reps K ex H vs ds → vs.length = ds.length
  | _, _, .nil => rfl
  | _, _, .cons _ t => congrArg (· + 1) (Reps.length t)
theorem Reps.append : ∀ {vs ws : List V} {ds es : List D}, Reps K ex H vs ds → Reps K ex H ws es → Reps K ex H (vs ++ ws) (ds ++ es)
  | _, _, _, _, .nil, s => s
  | _, _, _, _, .cons r t, s => .cons r (Reps.append t s)
theorem Reps.take : ∀ {vs : List V} {ds : List D} (n : Nat), Reps K ex H vs ds → Reps K ex H (vs.take n) (ds.take n)
  | _, _, 0, _ => by rw [List.take_zero, List.take_zero]; exact .nil
  | _, _, _ + 1, .nil => .nil
  | _, _, n + 1, .cons r t => .cons r (Reps.take n t)
theorem Reps.drop : ∀ {vs : List V} {ds : List D} (n : Nat), Reps K ex H vs ds → Reps K ex H (vs.drop n) (ds.drop n)
  | _, _, 0, r => r
  | _, _, _ + 1, .nil => .nil
  | _, _, n + 1, .cons _ t => Reps.drop n t
theorem Reps.reverse : ∀ {vs : List V} {ds : List D}, Reps K ex H vs ds → Reps K ex H vs.reverse ds.reverse
  | _, _, .nil => .nil
  | _, _, .cons r t => by
    rw [List.reverse_cons, List.reverse_cons]
    exact (Reps.reverse t).append (.cons r .nil)
theorem Reps.set (r : Rep K ex H v d) : ∀ {vs : List V} {ds : List D} (i : Nat), Reps K ex H vs ds → Reps K ex H (vs.set i v) (ds.set i d)
  | _, _, _, .nil => .nil
  | _, _, 0, .cons _ t => .cons r t
  | _, _, i + 1, .cons q t => .cons q (Reps.set r i t)
theorem Reps.eraseIdx : ∀ {vs : List V} {ds : List D} (i : Nat), Reps K ex H vs ds → Reps K ex H (vs.eraseIdx i) (ds.eraseIdx i)
  | _, _, _, .nil => .nil
  | _, _, 0, .cons _ t => t
  | _, _, i + 1, .cons q t => .cons q (Reps.eraseIdx i t)
theorem Reps.get : ∀ {vs : List V} {ds : List D} {i : Nat} {d : D}, Reps K ex H vs ds → ds[i]? = some d → ∃ v, vs[i]? = some v ∧ Rep K ex H v d
  | _, _, _, _, .nil, e => by simp at e
  | _, _, 0, d, .cons r _, e => by
    have e' : _ = d := Option.some.inj e
    subst e'; exact ⟨_, rfl, r⟩
  | _, _, i + 1, d, .cons _ t, e => by
    obtain ⟨v, h1, h2⟩ := Reps.get (i := i) t (by simpa using e)
    exact ⟨v, by simpa using h1, h2⟩
theorem Reps.get' : ∀ {vs : List V} {ds : List D} {i : Nat} {v : V}, Reps K ex H vs ds → vs[i]? = some v → ∃ d, ds[i]? = some d ∧ Rep K ex H v d
  | _, _, _, _, .nil, e => by simp at e
  | _, _, 0, v, .cons r _, e => by
    have e' : _ = v := Option.some.inj e
    subst e'; exact ⟨_, rfl, r⟩
  | _, _, i + 1, v, .cons _ t, e => by
    obtain ⟨d, h1, h2⟩ := Reps.get' (i := i) t (by simpa using e)
    exact ⟨d, by simpa using h1, h2⟩
theorem Reps.flatten : ∀ (k : Nat) {vs : List V} {ds : List D}, Reps K ex H vs ds → Reps K ex H (List.replicate k vs).flatten (List.replicate k ds).flatten
  | 0, _, _, _ => by simp only [List.replicate_zero, List.flatten_nil]; exact .nil
  | k + 1, _, _, r => by
    simp only [List.replicate_succ, List.flatten_cons]
    exact r.append (Reps.flatten k r)
theorem Reps.one (r : Rep K ex H v d) : Reps K ex H [v] [d] := .cons r .nil
theorem Reps.ints (ns : List Int) : Reps K ex H (ns.map V.int) (ns.map D.int) := by
  induction ns with
  | nil => exact .nil
  | cons n ns ih => exact .cons (.int n) ih
end

/-! ### the slots -/
abbrev Env := List (Option D)
/-- the addresses of the lists that the slots own -/
def EX (own : List Nat) (σ : St) : Addr → Prop := fun a => ∃ i, i ∈ own ∧ σ[i]? = some (some (V.ref a))
/-- what stays through a def's body: the written part, the heap at its entry, the lists that it may change (M), where the parameters hold them -/
structure Amb where
  K : PySem.W.Frag
  H0 : Hp
  M : Addr → Prop
  mp : List (Nat × Addr)
  n : Nat
/-- the addresses that no value may come by -/
abbrev XX (own : List Nat) (σ : St) (ex : Addr → Prop) : Addr → Prop := fun a => EX own σ a ∨ ex a
structure R (A : Amb) (ex : Addr → Prop) (own : List Nat) (σ : St) (H : Hp) (env : Env) : Prop where
  len : env.length = σ.length
  ln : σ.length = A.n
  non : ∀ i d, i ∉ own → env[i]? = some (some d) → ∃ v, σ[i]? = some (some v) ∧ Rep A.K (XX own σ ex) H v d
  owl : ∀ i, i ∈ own → ∃ p sh vs ds, σ[i]? = some (some (V.ref p)) ∧ H p = some (Shp.ho sh vs) ∧ Repz A.K (XX own σ ex) H sh vs ds ∧ env[i]? = some (some (sh.d ds))
  inj : ∀ i j p, i ∈ own → j ∈ own → σ[i]? = some (some (V.ref p)) → σ[j]? = some (some (V.ref p)) → i = j
  ent : Frame A.M A.H0 H
  new : ∀ a, EX own σ a → A.M a ∨ A.H0 a = none
  tr : ∀ a, ex a → ∃ o, H a = some o
  dis : ∀ a, EX own σ a → ¬ ex a
  pin : ∀ i p, (i, p) ∈ A.mp → σ[i]? = some (some (V.ref p))
section
variable {A : Amb} {ex ex' : Addr → Prop} {own own' : List Nat} {σ : St} {H H' : Hp} {env : Env} {a p : Addr} {i j : Nat} {v : V} {d : D}
theorem EX.sub (h : ∀ i, i ∈ own' → i ∈ own) : ∀ a, EX own' σ a → EX own σ a := fun _ ⟨i, h1, h2⟩ => ⟨i, h i h1, h2⟩
theorem R.trE (r : R A ex own σ H env) : ∀ a, EX own σ a → ∃ o, H a = some o := fun a ⟨i, h1, h2⟩ => by
  obtain ⟨p, sh, vs, ds, e1, e2, _⟩ := r.owl i h1
  rw [h2] at e1; cases e1
  exact ⟨_, e2⟩
theorem R.trX (r : R A ex own σ H env) : ∀ a, XX own σ ex a → ∃ o, H a = some o := fun a h => h.elim (r.trE a) (r.tr a)
theorem R.fresh (r : R A ex own σ H env) (n : H p = none) : ¬ XX own σ ex p := fun h => by
  obtain ⟨o, e⟩ := r.trX p h
  rw [n] at e; cases e
/-- the heap grows, no list that is owned changes -/
theorem R.keep (r : R A ex own σ H env) (f : ∀ b o, H b = some o → H' b = some o) : R A ex own σ H' env where
  len := r.len
  ln := r.ln
  non := fun i d h e => let ⟨v, h1, h2⟩ := r.non i d h e; ⟨v, h1, h2.frame (.same f)⟩
  owl := fun i h => let ⟨p, sh, vs, ds, h1, h2, h3, h4⟩ := r.owl i h; ⟨p, sh, vs, ds, h1, f _ _ h2, h3.frame (.same f), h4⟩
  inj := r.inj
  ent := r.ent.trans (.same f)
  new := r.new
  tr := fun a h => let ⟨o, e⟩ := r.tr a h; ⟨o, f _ _ e⟩
  dis := r.dis
  pin := r.pin
theorem R.laid (r : R A ex own σ H env) (n : H p = none) (o : HO) : R A ex own σ (upd H p o) env := r.keep fun b u e => by rw [upd_ne (ne_of_none e n)]; exact e
/-- fewer addresses are shut out -/
theorem R.less (r : R A ex own σ H env) (f : ∀ b, ex' b → ex b) : R A ex' own σ H env where
  len := r.len
  ln := r.ln
  non := fun i d h e => let ⟨v, h1, h2⟩ := r.non i d h e; ⟨v, h1, h2.less fun b q => q.imp id (f b)⟩
  owl := fun i h => let ⟨p, sh, vs, ds, h1, h2, h3, h4⟩ := r.owl i h; ⟨p, sh, vs, ds, h1, h2, h3.less fun b q => q.imp id (f b), h4⟩
  inj := r.inj
  ent := r.ent
  new := r.new
  tr := fun a h => r.tr a (f a h)
  dis := fun a h q => r.dis a h (f a q)
  pin := r.pin
/-- a further address that does not stand yet is shut out, and comes -/
theorem R.shut (r : R A ex own σ H env) (n : H p = none) (o : HO) : R A (fun a => ex a ∨ a = p) own σ (upd H p o) env where
  len := r.len
  ln := r.ln
  non := fun i d h e => let ⟨v, h1, h2⟩ := r.non i d h e; ⟨v, h1, (h2.grow fun b q => by
    rcases q with q | q | q
    · exact .inl (.inl q)
    · exact .inl (.inr q)
    · exact .inr (by rw [q]; exact n)).frame (Frame.new n)⟩
  owl := fun i h => let ⟨p', sh, vs, ds, h1, h2, h3, h4⟩ := r.owl i h; ⟨p', sh, vs, ds, h1, by rw [upd_ne (ne_of_none h2 n)]; exact h2, (h3.grow fun b q => by
    rcases q with q | q | q
    · exact .inl (.inl q)
    · exact .inl (.inr q)
    · exact .inr (by rw [q]; exact n)).frame (Frame.new n), h4⟩
  inj := r.inj
  ent := r.ent.trans (Frame.new n)
  new := r.new
  tr := fun a h => by
    rcases h with h | h
    · obtain ⟨o', e⟩ := r.tr a h
      exact ⟨o', by rw [upd_ne (ne_of_none e n)]; exact e⟩
    · exact ⟨o, by rw [h]; exact upd_same⟩
  dis := fun a h q => q.elim (r.dis a h) fun e => by
    obtain ⟨o', e'⟩ := r.trE a h
    rw [e, n] at e'; cases e'
  pin := r.pin
/-- a list that was owned is let go -/
theorem R.free (r : R A ex own σ H env) (h : ∀ i, i ∈ own' → i ∈ own) : R A ex own' σ H env where
  len := r.len
  ln := r.ln
  non := fun i d hi e => by
    by_cases ho : i ∈ own
    · obtain ⟨p, sh, vs, ds, h1, h2, h3, h4⟩ := r.owl i ho
      rw [e] at h4; cases h4
      refine ⟨_, h1, .shp sh h2 ?_ (h3.less fun b q => q.imp (EX.sub h b) id)⟩
      rintro (⟨j, hj, ej⟩ | q)
      · exact hi (by rw [r.inj i j p ho (h j hj) h1 ej]; exact hj)
      · exact r.dis _ ⟨i, ho, h1⟩ q
    · obtain ⟨v, h1, h2⟩ := r.non i d ho e
      exact ⟨v, h1, h2.less fun b q => q.imp (EX.sub h b) id⟩
  owl := fun i hi => let ⟨p, sh, vs, ds, h1, h2, h3, h4⟩ := r.owl i (h i hi); ⟨p, sh, vs, ds, h1, h2, h3.less fun b q => q.imp (EX.sub h b) id, h4⟩
  inj := fun i j p hi hj => r.inj i j p (h i hi) (h j hj)
  ent := r.ent
  new := fun a q => r.new a (EX.sub h a q)
  tr := r.tr
  dis := fun a q => r.dis a (EX.sub h a q)
  pin := r.pin
end
end Pv

/-! A small language upon values without a heap, and what its texts give. -/
namespace Pv
open PySem L2

structure Exn where
  cls : Nat
  fs : List (Str × D)
inductive Out (α : Type) where
  | ok (a : α) | err (x : Exn) | stuck
@[inline] def Out.bind {α β : Type} (x : Out α) (f : α → Out β) : Out β := match x with
  | .ok a => f a
  | .err e => .err e
  | .stuck => .stuck
def Out.of {α : Type} : Option α → Out α
  | some a => .ok a
  | none => .stuck

/-! ### values -/
def truth : D → Bool
  | .non => false
  | .bl b => b
  | .int i => i != 0
  | .str x => x.length != 0
  | .tup xs => !xs.isEmpty
  | .lst xs => !xs.isEmpty
  | .scr ns => !ns.isEmpty
  | .dct ks vs => !(ks.zip vs).isEmpty
  | .obj _ _ _ => true
mutual
def toPy : D → PyData
  | .non => .none
  | .bl b => .bool b
  | .int i => .int i
  | .str x => .str x
  | .tup xs => .tuple (toPys xs)
  | .lst xs => .list (toPys xs)
  | .scr _ => .dict []
  | .dct _ _ => .dict []
  | .obj _ _ _ => .dict []
def toPys : List D → List PyData
  | [] => []
  | d :: ds => toPy d :: toPys ds
end
mutual
/-- how deep it is; the script counts as too deep -/
def dep : D → Nat
  | .non => 0 | .bl _ => 0 | .int _ => 0 | .str _ => 0
  | .tup xs => deps xs + 1
  | .lst xs => deps xs + 1
  | .scr _ => 1000
  | .dct _ _ => 1000
  | .obj _ _ _ => 1000
def deps : List D → Nat
  | [] => 0
  | d :: ds => max (dep d) (deps ds)
end
/-- == -/
def eqD (a b : D) : Bool := PyData.eqv (toPy a) (toPy b)
def shal (a : D) : Bool := decide (dep a ≤ 60)

inductive Uop | neg
inductive Bop | add | sub | mul | div | mod | pow | addI | subI
inductive Cop | eq | ne | lt | le | gt | ge | isN | notN | inn | notIn | isB (b : Bool) | notB (b : Bool)
inductive Bi
  | len | abs | int | str | list | tuple | all | any | min2 | max2 | minS | maxS | sum | sorted | isInt | isBool | isStr | isTuple | isList
  | index | count | join | rev | idx | bool
/-- what changes an owned list -/
inductive Om | append | extend | insert | popAt | pop

def unF : Uop → D → Option D
  | .neg, .int i => some (.int (-i))
  | _, _ => none
def smallI (i : Int) : Bool := decide (-(2 ^ 64) < i ∧ i < 2 ^ 64)
def binF : Bop → D → D → Option D
  | .add, .int i, .int j => some (.int (i + j))
  | .add, .str x, .str y => if x.length + y.length ≤ LIM then some (.str (x ++ y)) else none
  | .add, .tup xs, .tup ys => if xs.length + ys.length ≤ LIM then some (.tup (xs ++ ys)) else none
  | .add, .lst xs, .lst ys => if xs.length + ys.length ≤ LIM then some (.lst (xs ++ ys)) else none
  | .sub, .int i, .int j => some (.int (i - j))
  | .addI, .int i, .int j => some (.int (i + j))
  | .subI, .int i, .int j => some (.int (i - j))
  | .mul, .int i, .int j => if smallI i || smallI j then some (.int (i * j)) else none
  | .mul, .tup xs, .int k => if decide (0 ≤ k ∧ k ≤ 1000 ∧ xs.length ≤ 1000) then some (.tup (List.replicate k.toNat xs).flatten) else none
  | .mul, .lst xs, .int k => if 0 ≤ k ∧ k ≤ 1000 ∧ xs.length * k.toNat ≤ LIM then some (.lst (List.replicate k.toNat xs).flatten) else none
  | .div, .int i, .int j => if 0 < j ∧ j < 1073741824 then some (.int (i / j)) else none
  | .mod, .int i, .int j => if 0 < j then some (.int (i % j)) else none
  | .pow, .int i, .int j => if 0 ≤ j ∧ j ≤ 1000000 ∧ i.natAbs < 2 ^ 64 then some (.int (i ^ j.toNat)) else none
  | _, _, _ => none
def seqOf : D → Option (List D)
  | .tup xs => some xs
  | .lst xs => some xs
  | _ => none
/-- the value of a key -/
def dGet {α : Type} : List Str → List α → Str → Option α
  | k :: ks, v :: vs, x => if k = x then some v else dGet ks vs x
  | _, _, _ => none
/-- a key's value, in its place or at the end -/
def dSet {α : Type} : List Str → List α → Str → α → List α
  | k :: ks, v :: vs, x, y => (if k = x then y else v) :: dSet ks vs x y
  | _, vs, _, _ => vs
def dPut {α : Type} (ks : List Str) (vs : List α) (x : Str) (y : α) : List Str × List α := if x ∈ ks then (ks, dSet ks vs x y) else (ks ++ [x], vs ++ [y])
/-- an attribute's value, in its place or at the end -/
def oPut {α : Type} : List Str → List α → Str → α → List Str × List α
  | k :: ks, v :: vs, x, y => if k = x then (k :: ks, y :: vs) else (k :: (oPut ks vs x y).1, v :: (oPut ks vs x y).2)
  | _, _, x, y => ([x], [y])
def atF : D → Str → Option D
  | .obj _ ks vs, f => dGet ks vs f
  | _, _ => none
/-- an instance of the class nm, without an attribute m -/
def isOb (nm m : Str) : D → Bool
  | .obj n ks _ => decide (n = nm) && !ks.contains m
  | _ => false
def inF (x y : D) : Option Bool := match y, x with
  | .tup ys, x => if shal x && ys.all shal then some (ys.any fun z => eqD z x) else none
  | .lst ys, x => if shal x && ys.all shal then some (ys.any fun z => eqD z x) else none
  | .str z, .str c => if c.cps.size = 1 then some (decide (c.cps.getD 0 0 ∈ z.cps.toList)) else none
  | .dct ks vs, .str x => some (dGet ks vs x).isSome
  | _, _ => none
def isNon : D → Bool | .non => true | _ => false
/-- a before b, of data alike -/
def ltP (a b : D) : Bool := PySem.W.dataLt (toPy a) (toPy b)
def likeD (a b : D) : Bool := PySem.W.alike (toPy a) (toPy b)
def ordOk (a b : D) : Bool := shal a && (shal b && (likeD a b && !isNon a))
def ordF (f : Int → Int → Bool) (g : D → D → Bool) : D → D → Option Bool
  | .int i, .int j => some (f i j)
  | a, b => if ordOk a b then some (g a b) else none
def isTupD : D → Bool | .tup _ => true | _ => false
def isTup1 : D → Bool | .tup (_ :: _) => true | _ => false
def allLike (xs : List D) : Bool := xs.all shal && (xs.all (fun d => !isNon d) && xs.all fun a => xs.all fun b => likeD a b)
def isLstD : D → Bool | .lst _ => true | _ => false
/-- the first of the best -/
def bestF (lt : D → D → Bool) : List D → Option D
  | [] => none
  | x :: r => if allLike (x :: r) && (x :: r).all (fun d => !isLstD d) then some (r.foldl (fun a y => if lt y a then y else a) x) else none
def isF (f : Bool → Bool) : D → Option Bool
  | .bl c => some (f c)
  | _ => none
def cmpF (o : Cop) (a b : D) : Option Bool := match o with
  | .eq => if shal a && shal b then some (eqD a b) else none
  | .ne => if shal a && shal b then some (!eqD a b) else none
  | .lt => ordF (fun i j => decide (i < j)) ltP a b
  | .le => ordF (fun i j => decide (i ≤ j)) (fun x y => !ltP y x) a b
  | .gt => ordF (fun i j => decide (j < i)) (fun x y => ltP y x) a b
  | .ge => ordF (fun i j => decide (j ≤ i)) (fun x y => !ltP x y) a b
  | .isN => some (isNon a)
  | .notN => some (!isNon a)
  | .isB b => isF (fun c => c == b) a
  | .notB b => isF (fun c => !(c == b)) a
  | .inn => inF a b
  | .notIn => (inF a b).map (!·)
/-- the place that an index names in n places -/
def ixP (n : Nat) (i : Int) : Option Nat := if 0 ≤ i then (if i < n then some i.toNat else none) else if -(n : Int) ≤ i then some (i + n).toNat else none
def atP {α : Type} (xs : List α) (i : Int) : Option α := (ixP xs.length i).bind fun j => xs[j]?
def idxF : D → D → Option D
  | .tup xs, .int i => atP xs i
  | .lst xs, .int i => atP xs i
  | .scr ns, .int i => (atP ns i).map .int
  | .str x, .int i => (atP x.cps.toList i).map fun c => .str ⟨#[c]⟩
  | .dct ks vs, .str x => dGet ks vs x
  | _, _ => none
/-- no addresses in it -/
def scalD : D → Bool
  | .tup _ => false
  | .lst _ => false
  | .scr _ => false
  | .dct _ _ => false
  | .obj _ _ _ => false
  | _ => true
/-- a list of such -/
def scalL : D → Bool
  | .lst xs => xs.all scalD
  | _ => false
/-- a slice's bound in n places -/
def cutN (n d : Nat) : Option Int → Nat
  | none => d
  | some v => if v < 0 then (v + n).toNat else min v.toNat n
def cutL {α : Type} (xs : List α) (lo hi : Option Int) : List α := (xs.drop (cutN xs.length 0 lo)).take (cutN xs.length xs.length hi - cutN xs.length 0 lo)
def slF : D → Option Int → Option Int → Option D
  | .tup xs, lo, hi => some (.tup (cutL xs lo hi))
  | .lst xs, lo, hi => some (.lst (cutL xs lo hi))
  | .str x, lo, hi => some (.str ⟨(cutL x.cps.toList lo hi).toArray⟩)
  | _, _, _ => none
def intsOf : List D → Option (List Int)
  | [] => some []
  | .int i :: r => (intsOf r).map (i :: ·)
  | _ => none
def blsOf : List D → Option (List Bool)
  | [] => some []
  | .bl b :: r => (blsOf r).map (b :: ·)
  | _ => none
def strsOf : List D → Option (List Str)
  | [] => some []
  | .str b :: r => (strsOf r).map (b :: ·)
  | _ => none
def minI : List Int → Int → Int
  | [], m => m
  | x :: r, m => minI r (if x < m then x else m)
def maxI : List Int → Int → Int
  | [], m => m
  | x :: r, m => maxI r (if m < x then x else m)
def strLe (a b : Str) : Bool := !decide (b.cps.toList < a.cps.toList)
def insBy {α : Type} (le : α → α → Bool) (x : α) : List α → List α
  | [] => [x]
  | y :: r => if le x y then x :: y :: r else y :: insBy le x r
def sortBy {α : Type} (le : α → α → Bool) : List α → List α
  | [] => []
  | x :: r => insBy le x (sortBy le r)
def sortSF (xs : List D) : Option (List D) := (strsOf xs).map fun ss => (sortBy strLe ss).map D.str
def sortF (xs : List D) : Option (List D) :=
  if xs.length < 64 then (match intsOf xs with
    | some ns => some ((sortBy (fun a b => decide (a ≤ b)) ns).map D.int)
    | none => sortSF xs)
  else none
/-- sorted, of data alike -/
def sortDF (xs : List D) : Option (List D) :=
  if decide (xs.length ≤ LIM) && (allLike xs && (xs.all isTup1 || (xs.all (fun d => !isTupD d) || decide (xs.length ≤ 1)))) then some (sortBy (fun a b => !ltP b a) xs) else none
def minSF (d : D) : Option D := (seqOf d).bind fun xs => match intsOf xs with | some (n :: r) => some (.int (minI r n)) | _ => none
def maxSF (d : D) : Option D := (seqOf d).bind fun xs => match intsOf xs with | some (n :: r) => some (.int (maxI r n)) | _ => none
def sortTF (xs : List D) : Option (List D) := if xs.length < 64 then sortSF xs else none
def findIx {α : Type} (p : α → Bool) : List α → Nat → Option Nat
  | [], _ => none
  | x :: r, k => if p x then some k else findIx p r (k + 1)
def joinS (sep : List Nat) : List Str → List Nat
  | [] => []
  | [x] => x.cps.toList
  | x :: y :: r => x.cps.toList ++ sep ++ joinS sep (y :: r)
def bltF : Bi → List D → Option D
  | .len, [.tup xs] => some (.int xs.length)
  | .len, [.lst xs] => some (.int xs.length)
  | .len, [.scr xs] => some (.int xs.length)
  | .len, [.str x] => some (.int x.length)
  | .abs, [.int i] => some (.int (if i < 0 then -i else i))
  | .int, [.int i] => some (.int i)
  | .int, [.bl b] => some (.int (if b then 1 else 0))
  | .bool, [.int i] => some (.bl (i != 0))
  | .bool, [.bl b] => some (.bl b)
  | .str, [.int i] => if decide (i.natAbs.log2 < 1920) && okT (toString i : String) then some (.str (toString i : String)) else none
  | .list, [.tup xs] => some (.lst xs)
  | .list, [.lst xs] => some (.lst xs)
  | .list, [.scr ns] => some (.lst (ns.map D.int))
  | .tuple, [.tup xs] => some (.tup xs)
  | .tuple, [.lst xs] => some (.tup xs)
  | .all, [.lst xs] => (blsOf xs).map fun bs => .bl (bs.all id)
  | .any, [.lst xs] => (blsOf xs).map fun bs => .bl (bs.any id)
  | .min2, [.int i, .int j] => some (.int (if j < i then j else i))
  | .max2, [.int i, .int j] => some (.int (if j > i then j else i))
  | .minS, [d] => (minSF d).or ((seqOf d).bind (bestF ltP))
  | .maxS, [d] => (maxSF d).or ((seqOf d).bind (bestF fun y a => ltP a y))
  | .sum, [.lst xs] => (intsOf xs).map fun ns => .int ns.sum
  | .sorted, [.lst xs] => ((sortF xs).or (sortDF xs)).map .lst
  | .sorted, [.tup xs] => (sortTF xs).map .lst
  | .isInt, [d] => some (.bl (match d with | .int _ => true | .bl _ => true | _ => false))
  | .isBool, [d] => some (.bl (match d with | .bl _ => true | _ => false))
  | .isStr, [d] => some (.bl (match d with | .str _ => true | _ => false))
  | .isTuple, [d] => some (.bl (match d with | .tup _ => true | _ => false))
  | .isList, [d] => some (.bl (match d with | .lst _ => true | .scr _ => true | _ => false))
  | .index, [d, x] => (seqOf d).bind fun xs => if shal x && xs.all shal then (findIx (fun z => eqD z x) xs 0).map fun (n : Nat) => D.int (n : Int) else none
  | .count, [d, x] => (seqOf d).bind fun xs => if shal x && xs.all shal then some (.int (xs.countP fun z => eqD z x)) else none
  | .join, [.str s, d] => ((seqOf d).bind strsOf).bind fun ss => if (joinS s.cps.toList ss).length ≤ LIM then some (.str ⟨(joinS s.cps.toList ss).toArray⟩) else none
  | .rev, [.tup xs] => some (.tup xs.reverse)
  | .rev, [.lst xs] => some (.lst xs.reverse)
  | .idx, [a, b] => idxF a b
  | _, _ => none
/-- a change of an owned list: what comes back, the list behind it -/
def omF : Om → List D → List D → Option (D × List D)
  | .append, xs, [x] => if xs.length < LIM then some (.non, xs ++ [x]) else none
  | .extend, xs, [.lst ys] => if xs.length + ys.length ≤ LIM then some (.non, xs ++ ys) else none
  | .insert, xs, [.int i, x] => if 0 ≤ i ∧ i ≤ xs.length ∧ xs.length < LIM then some (.non, xs.take i.toNat ++ x :: xs.drop i.toNat) else none
  | .popAt, xs, [.int i] => if xs.length ≤ LIM then (ixP xs.length i).bind fun k => xs[k]?.map fun x => (x, xs.eraseIdx k) else none
  | .pop, xs, [] => xs[xs.length - 1]?.map fun x => (x, xs.dropLast)
  | _, _, _ => none

/-- is an exception of the class x one of the class c (0: the base of all; 90 and above: built-in ones) -/
def subX (x c : Nat) : Bool := x == c || c == 0 || decide (90 ≤ c)
/-- what an except suite hands back -/
inductive Hi where
  | lit (d : D) | fld (f : Str)
inductive Hx where
  | one (h : Hi) | tup (hs : List Hi) | lst (hs : List Hi) | isa (cs : List Nat) (a b : Hx)
def evHi (x : Exn) : Hi → Option D
  | .lit d => if scalD d then some d else none
  | .fld f => x.fs.lookup f
def evHis (x : Exn) : List Hi → Option (List D)
  | [] => some []
  | h :: r => (evHi x h).bind fun d => (evHis x r).map (d :: ·)
def evH (x : Exn) : Hx → Option D
  | .one h => evHi x h
  | .tup hs => (evHis x hs).map .tup
  | .lst hs => (evHis x hs).map .lst
  | .isa cs a b => if cs.all (subX x.cls) then evH x a else evH x b
/-- the clause that takes it -/
def clauseOf (x : Exn) : List (Nat × Hx) → Option Hx
  | [] => none
  | (c, h) :: r => if subX x.cls c then some h else clauseOf x r

/-! ### texts -/
inductive Ex where
  | var (i : Nat) | lit (d : D)
  | un (o : Uop) (a : Ex) | bin (o : Bop) (a b : Ex) | cmp (o : Cop) (a b : Ex) | chain (o p : Cop) (a b c : Ex)
  | and (a b : Ex) | or (a b : Ex) | not (a : Ex) | ite (c a b : Ex)
  | nil | cons (a r : Ex)
  | tup (es : Ex) | lst (es : Ex)
  | sl (a lo hi : Ex)
  | blt (f : Bi) (es : Ex) | call (f : Nat) (ms : List (Nat × Nat)) (es : Ex) | callB (f : Nat) (es : Ex) | om (f : Om) (i : Nat) (es : Ex)
  | lc (e : Ex) (tg : List Nat) (tt : Bool) (src t : Ex)
  | at (a : Ex) (f : Str) | ob (nm m : Str) (a : Ex) | new (nm : Str) (f : Nat) (es : Ex) | callL (f : Nat) (es : Ex) | mth (e : Ex) | lrng (a : Ex)
  | dnew | dc (k e : Ex) (tg : List Nat) (tt : Bool) (src t : Ex)
  | sVal (a : Ex) | sRng1 (a : Ex) | sRng2 (a b : Ex) | sRng3 (a b c : Ex) | sEnum (a : Ex) | sZip (a b : Ex) | sRev (a : Ex) | sRevR (a : Ex)
inductive Sm where
  | skip | seq (a b : Sm) | ex (e : Ex) | set (i : Nat) (e : Ex) | sets (is : List Nat) (e : Ex) | par (i j : Nat) (a b : Ex) | setI (i : Nat) (k e : Ex) | setA (i : Nat) (nm f : Str) (e : Ex) | swp (i : Nat) (k l : Ex) (a b : Ex)
  | ret (e : Ex) | ite (c : Ex) (a b : Sm) | whl (c : Ex) (b : Sm) | for (tg : List Nat) (tt : Bool) (src : Ex) (b : Sm) | brk | cnt | rai (c : Nat) (ns : List Str) (es : Ex) | tr (b : Sm) (hs : List (Nat × Hx)) | no

/-! ### what they give -/
abbrev Cf := Nat → List D → Out (D × List D)
/-- the lists that a call may change, as they stand when the call begins -/
def patch (env : Env) : List (Nat × Nat) → List D → List D
  | [], xs => xs
  | (j, i) :: r, xs => patch env r (xs.set j (((env[i]?).getD none).getD .non))
/-- a target's store -/
def setAll (env : Env) : List Nat → List D → Env
  | i :: is, d :: ds => setAll (env.set i (some d)) is ds
  | _, _ => env
def tgF (tg : List Nat) (tt : Bool) (d : D) (env : Env) : Option Env :=
  if tt then match d with
    | .tup ds => if ds.length = tg.length then some (setAll env tg ds) else none
    | _ => none
  else match tg with
    | [i] => some (env.set i (some d))
    | _ => none
def wipeE (env : Env) : List Nat → Env
  | [] => env
  | i :: is => (wipeE env is).set i none
/-- the slots is as they stand in env0 -/
def backE (env0 env : Env) : List Nat → Env
  | [] => env
  | i :: is => (backE env0 env is).set i ((env0[i]?).getD none)
def lcLoop (el : Env → Out (D × Env)) (ts : Env → Out (D × Env)) (tg : List Nat) (tt : Bool) : List D → Env → List D → Out (List D × Env)
  | [], env, acc => .ok (acc, env)
  | d :: ds, env, acc => match tgF tg tt d env with
    | none => .stuck
    | some env1 => match ts env1 with
      | .ok (b, env2) => if truth b then match el env2 with
          | .ok (x, env3) => if acc.length < LIM then lcLoop el ts tg tt ds (wipeE env3 tg) (acc ++ [x]) else .stuck
          | .err _ => .stuck
          | .stuck => .stuck
        else lcLoop el ts tg tt ds (wipeE env2 tg) acc
      | .err _ => .stuck
      | .stuck => .stuck
def dcLoop (kl el : Env → Out (D × Env)) (ts : Env → Out (D × Env)) (tg : List Nat) (tt : Bool) : List D → Env → List Str → List D → Out (List Str × List D × Env)
  | [], env, ks, acc => .ok (ks, acc, env)
  | d :: ds, env, ks, acc => match tgF tg tt d env with
    | none => .stuck
    | some env1 => match ts env1 with
      | .ok (b, env2) => if truth b then match kl env2 with
          | .ok (.str x, env3) => match el env3 with
            | .ok (y, env4) => if acc.length < LIM ∧ ks.length = acc.length then dcLoop kl el ts tg tt ds (wipeE env4 tg) (dPut ks acc x y).1 (dPut ks acc x y).2 else .stuck
            | _ => .stuck
          | _ => .stuck
        else dcLoop kl el ts tg tt ds (wipeE env2 tg) ks acc
      | _ => .stuck
def rngL (lo : Int) (n : Nat) (st : Int) : List D := (List.range n).map fun (k : Nat) => D.int (lo + (k : Int) * st)
def pairL : List D → List D → List D
  | x :: xs, y :: ys => .tup [x, y] :: pairL xs ys
  | _, _ => []
def enumL (k : Nat) : List D → List D
  | [] => []
  | x :: xs => .tup [.int k, x] :: enumL (k + 1) xs
def big (i : Int) : Bool := decide (-1000000000 ≤ i ∧ i ≤ 1000000000)
def itF : D → Option (List D)
  | .tup xs => some xs
  | .lst xs => some xs
  | .str x => some (x.cps.toList.map fun c => .str ⟨#[c]⟩)
  | _ => none
/-- a slot that holds a list -/
def lstB : Option (Option D) → Bool
  | some (some (.lst _)) => true
  | _ => false
mutual
def evE (cf : Cf) : Ex → Env → Out (D × Env)
  | .var i, env => match env[i]? with
    | some (some d) => .ok (d, env)
    | _ => .stuck
  | .lit d, env => .ok (d, env)
  | .un o a, env => (evE cf a env).bind fun (x, e1) => (Out.of (unF o x)).bind fun z => .ok (z, e1)
  | .bin o a b, env => (evE cf a env).bind fun (x, e1) => (evE cf b e1).bind fun (y, e2) => (Out.of (binF o x y)).bind fun z => .ok (z, e2)
  | .cmp o a b, env => (evE cf a env).bind fun (x, e1) => (evE cf b e1).bind fun (y, e2) => (Out.of (cmpF o x y)).bind fun z => .ok (.bl z, e2)
  | .chain o p a b c, env => (evE cf a env).bind fun (x, e1) => (evE cf b e1).bind fun (y, e2) => (Out.of (cmpF o x y)).bind fun z =>
      if z then (evE cf c e2).bind fun (w, e3) => (Out.of (cmpF p y w)).bind fun z => .ok (.bl z, e3) else .ok (.bl false, e2)
  | .and a b, env => (evE cf a env).bind fun (x, e1) => if truth x then evE cf b e1 else .ok (x, e1)
  | .or a b, env => (evE cf a env).bind fun (x, e1) => if truth x then .ok (x, e1) else evE cf b e1
  | .not a, env => (evE cf a env).bind fun (x, e1) => .ok (.bl (!truth x), e1)
  | .ite c a b, env => (evE cf c env).bind fun (x, e1) => if truth x then evE cf a e1 else evE cf b e1
  | .tup es, env => (evA cf es env).bind fun (xs, e1) => if xs.length ≤ LIM then .ok (.tup xs, e1) else .stuck
  | .lst es, env => (evA cf es env).bind fun (xs, e1) => if xs.length ≤ LIM then .ok (.lst xs, e1) else .stuck
  | .sl a lo hi, env => (evE cf a env).bind fun (x, e1) => (evO cf lo e1).bind fun (l, e2) => (evO cf hi e2).bind fun (h, e3) => (Out.of (slF x l h)).bind fun z => .ok (z, e3)
  | .blt f es, env => (evA cf es env).bind fun (xs, e1) => (Out.of (bltF f xs)).bind fun z => .ok (z, e1)
  | .call f ms es, env => (evA cf es env).bind fun (xs, e1) => (cf f (patch e1 ms xs)).bind fun (d, os) => .ok (d, setAll e1 (ms.map (·.2)) os)
  | .callB f es, env => (evA cf es env).bind fun (xs, e1) => (cf f xs).bind fun (d, os) => if scalD d then .ok (d, e1) else .stuck
  | .om f i es, env => if lstB (env[i]?) then (evA cf es env).bind fun (xs, e1) => match e1[i]? with
      | some (some (.lst ys)) => (Out.of (omF f ys xs)).bind fun (d, zs) => .ok (d, e1.set i (some (.lst zs)))
      | _ => .stuck
    else .stuck
  | .at a f, env => (evE cf a env).bind fun (x, e1) => (Out.of (atF x f)).bind fun z => .ok (z, e1)
  | .ob nm m a, env => (evE cf a env).bind fun (x, e1) => if isOb nm m x then .ok (x, e1) else .stuck
  | .new nm f es, env => (evA cf es env).bind fun (xs, e1) => (cf f (.obj nm [] [] :: xs)).bind fun (d, os) => match d, os with
      | .non, [o] => .ok (o, e1)
      | _, _ => .stuck
  | .mth e, env => evE cf e env
  | .lrng a, env => (evE cf a env).bind fun (x, e1) => match x with
    | .int j => if big j && decide (j ≤ LIM) then .ok (.lst (rngL 0 j.toNat 1), e1) else .stuck
    | _ => .stuck
  | .callL f es, env => (evA cf es env).bind fun (xs, e1) => (cf f xs).bind fun (d, os) => if scalL d then .ok (d, e1) else .stuck
  | .dnew, env => .ok (.dct [] [], env)
  | .dc k e tg tt src t, env => (evI cf src env).bind fun (xs, e1) => (dcLoop (fun v => evE cf k v) (fun v => evE cf e v) (fun v => evE cf t v) tg tt xs (wipeE e1 tg) [] []).bind fun (ks, ys, e2) => .ok (.dct ks ys, backE e1 e2 tg)
  | .lc e tg tt src t, env => (evI cf src env).bind fun (xs, e1) => (lcLoop (fun v => evE cf e v) (fun v => evE cf t v) tg tt xs (wipeE e1 tg) []).bind fun (ys, e2) => .ok (.lst ys, backE e1 e2 tg)
  | _, _ => .stuck
def evA (cf : Cf) : Ex → Env → Out (List D × Env)
  | .nil, env => .ok ([], env)
  | .cons a r, env => (evE cf a env).bind fun (x, e1) => (evA cf r e1).bind fun (xs, e2) => .ok (x :: xs, e2)
  | _, _ => .stuck
/-- a slice's part -/
def evO (cf : Cf) : Ex → Env → Out (Option Int × Env)
  | .nil, env => .ok (none, env)
  | .cons a .nil, env => (evE cf a env).bind fun (x, e1) => match x with
    | .int i => .ok (some i, e1)
    | _ => .stuck
  | _, _ => .stuck
/-- what is walked -/
def evI (cf : Cf) : Ex → Env → Out (List D × Env)
  | .sVal a, env => (evE cf a env).bind fun (x, e1) => (Out.of (itF x)).bind fun xs => .ok (xs, e1)
  | .sRng1 a, env => (evE cf a env).bind fun (x, e1) => match x with
    | .int j => if big j then .ok (rngL 0 j.toNat 1, e1) else .stuck
    | _ => .stuck
  | .sRng2 a b, env => (evE cf a env).bind fun (x, e1) => (evE cf b e1).bind fun (y, e2) => match x, y with
    | .int i, .int j => if big i && big j then .ok (rngL i (j - i).toNat 1, e2) else .stuck
    | _, _ => .stuck
  | .sRng3 a b c, env => (evE cf a env).bind fun (x, e1) => (evE cf b e1).bind fun (y, e2) => (evE cf c e2).bind fun (z, e3) => match x, y, z with
    | .int i, .int j, .int k => if big i && big j && k == -1 then .ok (rngL i (i - j).toNat (-1), e3) else .stuck
    | _, _, _ => .stuck
  | .sEnum a, env => (evE cf a env).bind fun (x, e1) => (Out.of (seqOf x)).bind fun xs => .ok (enumL 0 xs, e1)
  | .sZip a b, env => (evE cf a env).bind fun (x, e1) => (evE cf b e1).bind fun (y, e2) => match x, y with
    | .lst xs, .lst ys => .ok (pairL xs ys, e2)
    | .tup xs, .tup ys => .ok (pairL xs ys, e2)
    | _, _ => .stuck
  | .sRev a, env => (evE cf a env).bind fun (x, e1) => (Out.of (seqOf x)).bind fun xs => .ok (xs.reverse, e1)
  | .sRevR a, env => (evE cf a env).bind fun (x, e1) => match x with
    | .int j => if big j then .ok ((rngL 0 j.toNat 1).reverse, e1) else .stuck
    | _ => .stuck
  | _, _ => .stuck
end
inductive Fl where
  | nx (env : Env) | rt (d : D) (env : Env) | bk (env : Env) | ct (env : Env) | er (x : Exn) (env : Env) | no
def whl (c : Env → Out (D × Env)) (b : Env → Fl) : Nat → Env → Fl
  | 0, _ => .no
  | n + 1, env => match c env with
    | .ok (x, e1) => if truth x then match b e1 with
        | .nx e2 => whl c b n e2
        | .ct e2 => whl c b n e2
        | .bk e2 => .nx e2
        | .rt d e2 => .rt d e2
        | .er x e2 => .er x e2
        | .no => .no
      else .nx e1
    | .err _ => .no
    | .stuck => .no
def forL (tg : List Nat) (tt : Bool) (b : Env → Fl) : List D → Env → Fl
  | [], env => .nx env
  | d :: ds, env => match tgF tg tt d env with
    | none => .no
    | some e1 => match b e1 with
      | .nx e2 => forL tg tt b ds e2
      | .ct e2 => forL tg tt b ds e2
      | .bk e2 => .nx e2
      | .rt d e2 => .rt d e2
      | .er x e2 => .er x e2
      | .no => .no
/-- the most turns of a while -/
def WF : Nat := 5000
def onOk {α : Type} (x : Out α) (env : Env) (f : α → Fl) : Fl := match x with
  | .ok a => f a
  | .err _ => .no
  | .stuck => .no
/-- what the call itself raises, its arguments reckoned -/
def errC (cf : Cf) (f : Nat) (es : Ex) (env : Env) : Option (Exn × Env) := match evA cf es env with
  | .ok (xs, e1) => match cf f xs with
    | .err x => some (x, e1)
    | _ => none
  | _ => none
mutual
/-- what a call that hands no list over raises, as itself, as the first argument of such a call, or ahead of a comparison -/
def errOf (cf : Cf) : Ex → Env → Option (Exn × Env)
  | .call f ms es, env => match ms with
    | [] => (errA cf es env).or (errC cf f es env)
    | _ => none
  | .callB f es, env => (errA cf es env).or (errC cf f es env)
  | .mth e, env => errM cf e env
  | .ob _ _ a, env => errOf cf a env
  | .cmp _ a _, env => errOf cf a env
  | .lc _ _ _ src _, env => errI cf src env
  | _, _ => none
/-- of what a comprehension walks -/
def errI (cf : Cf) : Ex → Env → Option (Exn × Env)
  | .sVal a, env => errOf cf a env
  | _, _ => none
def errA (cf : Cf) : Ex → Env → Option (Exn × Env)
  | .cons a _, env => errOf cf a env
  | _, _ => none
/-- of a method's call: what its receiver raises -/
def errM (cf : Cf) : Ex → Env → Option (Exn × Env)
  | .call _ _ es, env => errA cf es env
  | .callB _ es, env => errA cf es env
  | .callL _ es, env => errA cf es env
  | _, _ => none
end
def orEr (x : Option (Exn × Env)) (f : Fl) : Fl := match x with
  | some (x, e) => .er x e
  | none => f
def evS (cf : Cf) : Sm → Env → Fl
  | .skip, env => .nx env
  | .seq a b, env => match evS cf a env with
    | .nx e1 => evS cf b e1
    | .rt d e1 => .rt d e1
    | .bk e1 => .bk e1
    | .ct e1 => .ct e1
    | .er x e1 => .er x e1
    | .no => .no
  | .ex e, env => orEr (errOf cf e env) (onOk (evE cf e env) env fun (_, e1) => .nx e1)
  | .set i e, env => orEr (errOf cf e env) (onOk (evE cf e env) env fun (x, e1) => .nx (e1.set i (some x)))
  | .sets is e, env => orEr (errOf cf e env) (onOk (evE cf e env) env fun (x, e1) => match seqOf x with
    | some ds => if ds.length = is.length then .nx (setAll e1 is ds) else .no
    | none => .no)
  | .par i j a b, env => onOk (evE cf a env) env fun (x, e1) => onOk (evE cf b e1) e1 fun (y, e2) => .nx ((e2.set i (some x)).set j (some y))
  | .setI i k e, env => onOk (evE cf e env) env fun (x, e1) => onOk (evE cf k e1) e1 fun (y, e2) => match e2[i]?, y with
    | some (some (.lst xs)), .int z => match ixP xs.length z with
      | some j => .nx (e2.set i (some (.lst (xs.set j x))))
      | none => .no
    | some (some (.dct ks ds)), .str z => if ds.length < LIM ∧ ks.length = ds.length then .nx (e2.set i (some (.dct (dPut ks ds z x).1 (dPut ks ds z x).2))) else .no
    | _, _ => .no
  | .swp i k l a b, env => onOk (evE cf a env) env fun (x, e1) => onOk (evE cf b e1) e1 fun (y, e2) => onOk (evE cf k e2) e2 fun (u, e3) => match e3[i]?, u with
    | some (some (.lst xs)), .int z => match ixP xs.length z with
      | some j => onOk (evE cf l (e3.set i (some (.lst (xs.set j x))))) e3 fun (w, e4) => match e4[i]?, w with
        | some (some (.lst ys)), .int v => match ixP ys.length v with
          | some m => .nx (e4.set i (some (.lst (ys.set m y))))
          | none => .no
        | _, _ => .no
      | none => .no
    | _, _ => .no
  | .setA i nm f e, env => onOk (evE cf e env) env fun (x, e1) => match e1[i]? with
    | some (some (.obj n ks ds)) => if n = nm ∧ ks.length < 1000 then .nx (e1.set i (some (.obj n (oPut ks ds f x).1 (oPut ks ds f x).2))) else .no
    | _ => .no
  | .ret e, env => orEr (errOf cf e env) (onOk (evE cf e env) env fun (x, e1) => .rt x e1)
  | .ite c a b, env => onOk (evE cf c env) env fun (x, e1) => if truth x then evS cf a e1 else evS cf b e1
  | .whl c b, env => whl (fun v => evE cf c v) (fun v => evS cf b v) WF env
  | .for tg tt src b, env => onOk (evI cf src env) env fun (xs, e1) => forL tg tt (fun v => evS cf b v) xs e1
  | .brk, env => .bk env
  | .cnt, env => .ct env
  | .rai c ns es, env => onOk (evA cf es env) env fun (xs, e1) => if xs.all scalD && xs.length == ns.length then .er ⟨c, ns.zip xs⟩ e1 else .no
  | .tr b hs, env => match evS cf b env with
    | .er x e1 => match clauseOf x hs with
      | some h => match evH x h with
        | some d => .rt d e1
        | none => .no
      | none => .er x e1
    | .nx e1 => .nx e1
    | .rt d e1 => .rt d e1
    | .bk e1 => .bk e1
    | .ct e1 => .ct e1
    | .no => .no
  | .no, _ => .no

/-- a def: how many parameters, how many slots, which parameters it changes -/
structure Fd where
  np : Nat
  nl : Nat
  muts : List Nat
  body : Sm
abbrev Tab := Nat → Option Fd
def outsOf (env : Env) (ms : List Nat) : List D := ms.map fun i => ((env[i]?).getD none).getD .non
def run (cf : Cf) (F : Fd) (ds : List D) : Out (D × List D) :=
  if ds.length = F.np then match evS cf F.body (ds.map some ++ List.replicate (F.nl - F.np) none) with
    | .rt d env => .ok (d, outsOf env F.muts)
    | .nx env => .ok (.non, outsOf env F.muts)
    | .er x _ => .err x
    | _ => .stuck
  else .stuck
def evC (T : Tab) : Nat → Cf
  | 0 => fun _ _ => .stuck
  | n + 1 => fun f ds => match T f with
    | some F => run (evC T n) F ds
    | none => .stuck
end Pv

/-! From the text as it stands to the small language. -/
namespace Pv
open PySem L2

/-- a def as its callers see it -/
structure FSig where
  id : Nat
  np : Nat
  muts : List Nat
  fresh : Bool
  scal : Bool := false
/-- a class of exceptions: its number, the fields that its __init__ stores -/
structure XSig where
  id : Nat
  fs : List Str
/-- an own class: the attributes that are stored, its __init__, its methods -/
structure CSig where
  as : List Str
  init : Option FSig
  ms : List (Str × FSig)
structure Ctx where
  N : List Str
  sc : Scope
  fn : Str → Bool
  fns : List (Str × FSig)
  consts : List (Str × D)
  nos : List Str
  muts : List Nat
  fresh : Bool
  exs : List (Str × XSig)
  cls : List (Str × CSig)
/-- how a value comes: as any; a list that is new; the list that slot i owns -/
inductive Kd | val | fresh | peek (i : Nat)
  deriving DecidableEq

/-! ### which slots a text's lists are changed at -/
def tch : Ex → List Nat
  | .var _ | .lit _ | .nil | .dnew => []
  | .un _ a | .not a | .tup a | .lst a | .blt _ a | .sVal a | .sRng1 a | .sEnum a | .sRev a => tch a
  | .bin _ a b | .cmp _ a b | .and a b | .or a b | .cons a b | .sRng2 a b | .sZip a b => tch a ++ tch b
  | .chain _ _ a b c | .ite a b c | .sl a b c | .sRng3 a b c => tch a ++ (tch b ++ tch c)
  | .call _ ms es => tch es ++ ms.map (·.2)
  | .callB _ es => tch es
  | .at a _ => tch a
  | .ob _ _ a => tch a
  | .new _ _ es => tch es
  | .callL _ es => tch es
  | .mth e => tch e
  | .lrng a => tch a
  | .sRevR a => tch a
  | .om _ i es => tch es ++ [i]
  | .lc e _ _ src t => tch src ++ (tch t ++ tch e)
  | .dc k e _ _ src t => tch src ++ (tch t ++ (tch k ++ tch e))
abbrev Own := List Nat
abbrev Cr := Ex × Kd × Own
def subB (a b : List Nat) : Bool := a.all b.contains
def slotOf (N : List Str) (x : Str) : Option Nat := (List.range N.length).find? fun i => decide (N[i]? = some x)
def visB (sc : Scope) (x : Str) : Bool := match sc.names.lookup x with
  | some .local => true
  | some .cell => true
  | some .free => true
  | _ => false
def locB (c : Ctx) (x : Str) : Bool := match c.sc.names.lookup x with
  | some .local => true
  | some .cell => c.fn x
  | _ => false
def glB (sc : Scope) (x : Str) : Bool := match sc.names.lookup x with
  | some .globalImplicit => true
  | _ => false
def oddName (x : Str) : Bool := x == ("__debug__" : Str) || x == ("__classdict__" : Str) || x == ("__name__" : Str)
/-- a built-in's name, not bound by the module -/
def bltB (c : Ctx) (x : Str) : Bool := glB c.sc x && c.nos.contains x && !oddName x
def varOf (c : Ctx) (x : Str) : Option Nat := if visB c.sc x && !oddName x then slotOf c.N x else none
def stoOf (c : Ctx) (x : Str) : Option Nat := if locB c x && !oddName x then (slotOf c.N x).bind fun i => if c.muts.contains i then none else some i else none
def rem (o : Own) (i : Nat) : Own := o.filter fun j => j != i
/-- the list at slot i is owned no more -/
def noPk : Cr → Cr
  | (e, .peek i, o) => (e, .val, rem o i)
  | r => r
/-- a list that is looked at stays as it is while e is reckoned -/
def okPk (k : Kd) (e : Ex) (o : Own) : Bool := match k with
  | .peek i => !(tch e).contains i && o.contains i
  | _ => true
def isL : Kd → Bool | .val => false | _ => true

abbrev Rec := Ctx → Own → Expr → Option Cr
abbrev RecT := Ctx → Own → Expr → Option (Ex × Own)
abbrev RecA := Ctx → Own → List Expr → Option (Ex × Own)

def cName (c : Ctx) (o : Own) (x : Str) : Option Cr := match varOf c x with
  | some i => if o.contains i then some (.var i, .peek i, o) else some (.var i, .val, o)
  | none => if glB c.sc x && !oddName x then (c.consts.lookup x).map fun d => (.lit d, .val, o) else none
def cConst (o : Own) : Const → Option Cr
  | .none => some (.lit .non, .val, o)
  | .bool b => some (.lit (.bl b), .val, o)
  | .int i => some (.lit (.int i), .val, o)
  | .str x => if okT x then some (.lit (.str x), .val, o) else none
  | _ => none
def bopOf : Operator → Option Bop
  | .Add => some .add | .Sub => some .sub | .Mult => some .mul | .FloorDiv => some .div | .Mod => some .mod | .Pow => some .pow
  | _ => none
def cBin (rec : Rec) (c : Ctx) (o : Own) (a : Expr) (op : Operator) (b : Expr) : Option Cr := do
  let p ← bopOf op
  let (x, k, o1) ← rec c o a
  let (y, l, o2) ← rec c o1 b
  guard (okPk k y o2)
  let isList := isL k || isL l
  match p with
  | .add => some (.bin p x y, if isList then .fresh else .val, o2)
  | .mul => some (.bin p x y, if isL k then .fresh else .val, o2)
  | _ => if isList then none else some (.bin p x y, .val, o2)
def copOf (op : CmpOp) (b : Expr) : Option Cop := match op, b with
  | .Eq, _ => some .eq | .NotEq, _ => some .ne | .Lt, _ => some .lt | .LtE, _ => some .le | .Gt, _ => some .gt | .GtE, _ => some .ge
  | .In, _ => some .inn | .NotIn, _ => some .notIn
  | .Is, .Constant .none _ _ => some .isN | .IsNot, .Constant .none _ _ => some .notN
  | .Is, .Constant (.bool k) _ _ => some (.isB k) | .IsNot, .Constant (.bool k) _ _ => some (.notB k)
  | _, _ => none
def cCmp (rec : Rec) (c : Ctx) (o : Own) (a : Expr) (op : CmpOp) (b : Expr) : Option Cr := do
  let p ← copOf op b
  let (x, k, o1) ← rec c o a
  let (y, l, o2) ← rec c o1 b
  guard (okPk k y o2)
  guard (!behindInMarks op b)
  some (.cmp p x y, .val, o2)
def cChain (rec : Rec) (c : Ctx) (o : Own) (a : Expr) (op op' : CmpOp) (b b' : Expr) : Option Cr := do
  let p ← copOf op b
  let p' ← copOf op' b'
  let (x, k, o1) ← (rec c o a).map noPk
  let (y, l, o2) ← (rec c o1 b).map noPk
  let (z, m, o3) ← (rec c o2 b').map noPk
  guard (subB o2 o3)
  match p, p' with
  | .lt, .lt | .le, .le | .le, .lt | .lt, .le | .eq, .ne | .eq, .eq => some (.chain p p' x y z, .val, o2)
  | _, _ => none
def cUn (rec : Rec) (c : Ctx) (o : Own) (op : UnaryOp) (a : Expr) : Option Cr := match op with
  | .USub => do
    let (x, k, o1) ← (rec c o a).map noPk
    some (.un .neg x, .val, o1)
  | .Not => do
    let (x, k, o1) ← rec c o a
    some (.not x, .val, o1)
  | _ => none
/-- and, or as values: from the left -/
def cBool (rec : Rec) (op : BoolOp) (c : Ctx) (o : Own) : List Expr → Option Cr
  | [] => none
  | [a] => (rec c o a).map noPk
  | a :: r => do
    let (x, k, o1) ← (rec c o a).map noPk
    let (y, l, o2) ← cBool rec op c o1 r
    some (match op with | .And => .and x y | .Or => .or x y, .val, o2)
def cBoolT (rec : RecT) (op : BoolOp) (c : Ctx) (o : Own) : List Expr → Option (Ex × Own)
  | [] => none
  | [a] => rec c o a
  | a :: r => do
    let (x, o1) ← rec c o a
    let (y, o2) ← cBoolT rec op c o1 r
    some (match op with | .And => .and x y | .Or => .or x y, o2)
def cIf (rec : Rec) (recT : RecT) (c : Ctx) (o : Own) (t a b : Expr) : Option Cr := do
  let (x, o1) ← recT c o t
  let (y, k, o2) ← (rec c o1 a).map noPk
  let (z, l, o3) ← (rec c o1 b).map noPk
  some (.ite x y z, if isL k && isL l then .fresh else .val, o2.filter o3.contains)
def cArgs (rec : Rec) (c : Ctx) (o : Own) : List Expr → Option (Ex × Own)
  | [] => some (.nil, o)
  | a :: r => do
    let (x, k, o1) ← (rec c o a).map noPk
    let (y, o2) ← cArgs rec c o1 r
    match a with
    | .Starred _ _ => none
    | _ => some (.cons x y, o2)
/-- arguments at which a list may be looked at -/
def cArgsP (rec : Rec) (c : Ctx) (o : Own) : List Expr → Option (Ex × Own)
  | [] => some (.nil, o)
  | a :: r => do
    let (x, k, o1) ← rec c o a
    let (y, o2) ← cArgsP rec c o1 r
    guard (okPk k y o2)
    match a with
    | .Starred _ _ => none
    | _ => some (.cons x y, o2)
def isMinus1 : Option Expr → Bool
  | some (.UnaryOp .USub (.Constant (.int 1) _ _) _) => true
  | _ => false
def cPart (rec : Rec) (c : Ctx) (o : Own) : Option Expr → Option (Ex × Own)
  | none => some (.nil, o)
  | some e => do
    let (x, k, o1) ← (rec c o e).map noPk
    some (.cons x .nil, o1)
def cSub (rec : Rec) (c : Ctx) (o : Own) (a i : Expr) : Option Cr := do
  let (x, k, o1) ← rec c o a
  match i with
  | .Slice lo hi st _ =>
    match st with
    | none => do
      let (l, o2) ← cPart rec c o1 lo
      let (h, o3) ← cPart rec c o2 hi
      guard (okPk k l o2 && okPk k h o3)
      some (.sl x l h, if isL k then .fresh else .val, o3)
    | some st => if lo.isNone && hi.isNone && isMinus1 (some st) then some (.blt .rev (.cons x .nil), if isL k then .fresh else .val, o1) else none
  | _ => do
    let (y, l, o2) ← (rec c o1 i).map noPk
    guard (okPk k y o2)
    some (.blt .idx (.cons x (.cons y .nil)), .val, o2)
/-- the arguments of a def: at a place of ms, a slot's owned list -/
def cMuts (c : Ctx) (o : Own) (ms : List Nat) : Nat → List Expr → Option (List (Nat × Nat))
  | _, [] => some []
  | j, a :: r => do
    let is ← cMuts c o ms (j + 1) r
    if ms.contains j then match a with
      | .Name x _ => (varOf c x).bind fun i => if o.contains i && !(is.map (·.2)).contains i then some ((j, i) :: is) else none
      | _ => none
    else some is
def recM (rec : Rec) (c : Ctx) (ms : List Nat) (o : Own) (j : Nat) (a : Expr) : Option Cr := if ms.contains j then rec c o a else (rec c o a).map noPk
def cArgsM (rec : Rec) (c : Ctx) (ms : List Nat) (o : Own) : Nat → List Expr → Option (Ex × Own)
  | _, [] => some (.nil, o)
  | j, a :: r => do
    let (x, k, o1) ← recM rec c ms o j a
    let (y, o2) ← cArgsM rec c ms o1 (j + 1) r
    match a with
    | .Starred _ _ => none
    | _ => some (.cons x y, o2)
def biOf (x : Str) (n : Nat) : Option Bi :=
  if x == ("len" : Str) && n == 1 then some .len
  else if x == ("abs" : Str) && n == 1 then some .abs
  else if x == ("int" : Str) && n == 1 then some .int
  else if x == ("bool" : Str) && n == 1 then some .bool
  else if x == ("str" : Str) && n == 1 then some .str
  else if x == ("list" : Str) && n == 1 then some .list
  else if x == ("tuple" : Str) && n == 1 then some .tuple
  else if x == ("all" : Str) && n == 1 then some .all
  else if x == ("any" : Str) && n == 1 then some .any
  else if x == ("min" : Str) && n == 2 then some .min2
  else if x == ("max" : Str) && n == 2 then some .max2
  else if x == ("min" : Str) && n == 1 then some .minS
  else if x == ("max" : Str) && n == 1 then some .maxS
  else if x == ("sum" : Str) && n == 1 then some .sum
  else if x == ("sorted" : Str) && n == 1 then some .sorted
  else none
def freshBi : Bi → Bool
  | .list | .sorted => true
  | _ => false
def isaOf (c : Ctx) : Expr → Option Bi
  | .Name t _ => if bltB c t then
      if t == ("int" : Str) then some .isInt
      else if t == ("bool" : Str) then some .isBool
      else if t == ("str" : Str) then some .isStr
      else if t == ("tuple" : Str) then some .isTuple
      else if t == ("list" : Str) then some .isList
      else none
    else none
  | _ => none
def rngArg (c : Ctx) : Expr → Option Expr
  | .Call (.Name y _) [b] [] _ => if y == ("range" : Str) && bltB c y then some b else none
  | _ => none
/-- list(range(b)) -/
def cLRng (rec : Rec) (c : Ctx) (o : Own) (x : Str) : List Expr → Option Cr
  | [e] => if x == ("list" : Str) then do
      let b ← rngArg c e
      let (y, k, o1) ← (rec c o b).map noPk
      some (.lrng y, .fresh, o1)
    else none
  | _ => none
def cCall (rec : Rec) (c : Ctx) (o : Own) (x : Str) (es : List Expr) : Option Cr :=
  if glB c.sc x && !oddName x then match c.fns.lookup x with
    | some F => if F.scal && F.muts.isEmpty then do
      guard (es.length == F.np && 0 < es.length)
      let (y, o1) ← cArgsP rec c o es
      some (.callB F.id y, .val, o1)
     else do
      guard (es.length == F.np && 0 < es.length)
      let (y, o1) ← cArgsM rec c F.muts o 0 es
      let is ← cMuts c o1 F.muts 0 es
      guard (is.map (·.1) == F.muts)
      some (.call F.id is y, if F.fresh then .fresh else .val, o1)
    | none => match c.cls.lookup x with
     | some G => do
       let F ← G.init
       guard (F.muts == [0] && !F.fresh && (es.length + 1 == F.np && decide (0 < es.length)))
       let (y, o1) ← cArgs rec c o es
       some (.new x F.id y, .fresh, o1)
     | none => if c.nos.contains x then
        if x == ("isinstance" : Str) then match es with
          | [a, t] => do
            let b ← isaOf c t
            let (y, k, o1) ← rec c o a
            some (.blt b (.cons y .nil), .val, o1)
          | _ => none
        else (cLRng rec c o x es).orElse fun _ => do
          let b ← biOf x es.length
          let (y, o1) ← cArgsP rec c o es
          some (.blt b y, if freshBi b then .fresh else .val, o1)
      else none
  else none
def omOf (m : Str) (n : Nat) : Option Om :=
  if m == ("append" : Str) && n == 1 then some .append
  else if m == ("extend" : Str) && n == 1 then some .extend
  else if m == ("insert" : Str) && n == 2 then some .insert
  else if m == ("pop" : Str) && n == 1 then some .popAt
  else if m == ("pop" : Str) && n == 0 then some .pop
  else none
/-- a method of an own class, by its name -/
def methOf : List (Str × CSig) → Str → Option Str
  | [], _ => none
  | (nm, G) :: r, m => if (G.ms.lookup m).isSome then some nm else methOf r m
/-- a method's call: its receiver first -/
def obE (nm m : Str) : Ex → Ex
  | .cons a r => .cons (.ob nm m a) r
  | e => e
def cMethO (rec : Rec) (c : Ctx) (o : Own) (a : Expr) (m : Str) (es : List Expr) (nm : Str) : Option Cr := do
  let G ← c.cls.lookup nm
  let F ← G.ms.lookup m
  guard (es.length + 1 == F.np)
  if F.scal && F.muts.isEmpty then do
    let (y, o1) ← cArgsP rec c o (a :: es)
    some (if F.fresh then (.mth (.callL F.id (obE nm m y)), .fresh, o1) else (.mth (.callB F.id (obE nm m y)), .val, o1))
  else do
    let (y, o1) ← cArgsM rec c F.muts o 0 (a :: es)
    let is ← cMuts c o1 F.muts 0 (a :: es)
    guard (is.map (·.1) == F.muts)
    some (.mth (.call F.id is (obE nm m y)), if F.fresh then .fresh else .val, o1)
def cAt (rec : Rec) (c : Ctx) (o : Own) (a : Expr) (f : Str) : Option Cr := do
  let (x, k, o1) ← rec c o a
  some (.at x f, .val, o1)
def cMeth (rec : Rec) (c : Ctx) (o : Own) (a : Expr) (m : Str) (es : List Expr) : Option Cr :=
  match methOf c.cls m with
  | some nm => cMethO rec c o a m es nm
  | none => match omOf m es.length with
  | some f => match a with
    | .Name x _ => do
      let i ← varOf c x
      guard (o.contains i)
      let (y, o1) ← cArgs rec c o es
      guard (o1.contains i)
      some (.om f i y, .val, o1)
    | _ => none
  | none => do
    let b ← (if m == ("index" : Str) && es.length == 1 then some Bi.index else if m == ("count" : Str) && es.length == 1 then some Bi.count
      else if m == ("join" : Str) && es.length == 1 then some Bi.join else none)
    let (y, o1) ← cArgsP rec c o (a :: es)
    some (.blt b y, .val, o1)
/-- a target: its slots, whether it is a tuple -/
def namesOf (c : Ctx) : List Expr → Option (List Nat)
  | [] => some []
  | .Name x _ :: r => do
    let i ← stoOf c x
    let is ← namesOf c r
    guard (!is.contains i)
    some (i :: is)
  | _ => none
def cTg (c : Ctx) : Expr → Option (List Nat × Bool)
  | .Name x _ => (stoOf c x).map fun i => ([i], false)
  | .Tuple es _ _ => (namesOf c es).map fun is => (is, true)
  | _ => none
def cRevR (rec : Rec) (c : Ctx) (o : Own) : Expr → Option Cr
  | .Call (.Name y _) [b] [] _ => if y == ("range" : Str) && bltB c y then do
      let (z, k, o1) ← (rec c o b).map noPk
      some (.sRevR z, .val, o1)
    else none
  | _ => none
/-- what a for walks; the list that is looked at -/
def cSrc (rec : Rec) (c : Ctx) (o : Own) (tt : Bool) (e : Expr) : Option Cr := match e with
  | .Call (.Name x _) es [] _ =>
    if bltB c x && (x == ("range" : Str) || x == ("enumerate" : Str) || x == ("zip" : Str) || x == ("reversed" : Str)) then match es with
      | [a] => do
        if x == ("range" : Str) then
          let (y, k, o1) ← (rec c o a).map noPk
          some (.sRng1 y, .val, o1)
        else if x == ("enumerate" : Str) && tt then
          let (y, k, o1) ← rec c o a
          some (.sEnum y, k, o1)
        else if x == ("reversed" : Str) then cRevR rec c o a
        else none
      | [a, b] => do
        if x == ("range" : Str) then
          let (y, k, o1) ← (rec c o a).map noPk
          let (z, l, o2) ← (rec c o1 b).map noPk
          some (.sRng2 y z, .val, o2)
        else if x == ("zip" : Str) && tt then
          let (y, k, o1) ← (rec c o a).map noPk
          let (z, l, o2) ← (rec c o1 b).map noPk
          some (.sZip y z, .val, o2)
        else none
      | [a, b, d] => do
        if x == ("range" : Str) then
          let (y, k, o1) ← (rec c o a).map noPk
          let (z, l, o2) ← (rec c o1 b).map noPk
          let (w, m, o3) ← (rec c o2 d).map noPk
          some (.sRng3 y z w, .val, o3)
        else none
      | _ => none
    else (rec c o e).map fun (y, k, o1) => (.sVal y, k, o1)
  | _ => (rec c o e).map fun (y, k, o1) => (.sVal y, k, o1)
def isSetE : Expr → Bool | .Set _ _ _ => true | _ => false
def blkCtx (c : Ctx) (scope : Scope) : Ctx := { c with sc := relS scope c.sc, fn := fun x => scope.names.lookup x == some .cell }
def ownOf (N : List Str) (tg : List Nat) : List (Str × Nat) := tg.filterMap fun i => N[i]?.map fun x => (x, i)
def cLc (rec : Rec) (recT : RecT) (c : Ctx) (o : Own) (elt tg iter : Expr) (ifs : List Expr) (scope : Scope) : Option Cr := do
  let c' := blkCtx c scope
  let (is, tt) ← cTg c' tg
  guard (!isSetE iter)
  let (src, k, o1) ← cSrc rec c o tt iter
  guard (is.all fun i => !o1.contains i)
  guard (L2.blkC c.N c.sc scope (ownOf c.N is) && decide ((ownOf c.N is).map (·.2) = is))
  let (t, o2) ← (match ifs with
    | [] => some (Ex.lit (.bl true), o1)
    | [t] => recT c' o1 t
    | _ => none)
  let (e, l, o3) ← (rec c' o2 elt).map noPk
  guard (o3 == o1 && okPk k t o2 && okPk k e o3)
  some (.lc e is tt src t, .fresh, o1)
def cDc (rec : Rec) (recT : RecT) (c : Ctx) (o : Own) (kx elt tg iter : Expr) (ifs : List Expr) (scope : Scope) : Option Cr := do
  let c' := blkCtx c scope
  let (is, tt) ← cTg c' tg
  guard (!isSetE iter)
  let (src, k, o1) ← cSrc rec c o tt iter
  guard (is.all fun i => !o1.contains i)
  guard (L2.blkC c.N c.sc scope (ownOf c.N is) && decide ((ownOf c.N is).map (·.2) = is))
  let (t, o2) ← (match ifs with
    | [] => some (Ex.lit (.bl true), o1)
    | [t] => recT c' o1 t
    | _ => none)
  let (y, m, o3) ← (rec c' o2 kx).map noPk
  let (e, l, o4) ← (rec c' o3 elt).map noPk
  guard (o4 == o1 && okPk k t o2 && (okPk k y o3 && okPk k e o4))
  some (.dc y e is tt src t, .fresh, o1)
def isCall0 : Expr → Bool
  | .Call (.Name _ _) [] [] _ => true
  | _ => false
/-- as it stands, its sub-texts by rec -/
def cExpr (rec : Rec) (recT : RecT) (c : Ctx) (o : Own) : Expr → Option Cr
  | .Name x _ => cName c o x
  | .Constant k _ _ => cConst o k
  | .BinOp a op b _ => cBin rec c o a op b
  | .Compare a [op] [b] _ => cCmp rec c o a op b
  | .Compare a [op, op'] [b, b'] _ => cChain rec c o a op op' b b'
  | .UnaryOp op a _ => cUn rec c o op a
  | .BoolOp op (a :: b :: es) _ => cBool rec op c o (a :: b :: es)
  | .IfExp t a b _ => cIf rec recT c o t a b
  | .Tuple es _ _ => (cArgs rec c o es).map fun (y, o1) => (.tup y, .val, o1)
  | .List es _ => (cArgs rec c o es).map fun (y, o1) => (.lst y, .fresh, o1)
  | .Subscript a i _ => cSub rec c o a i
  | .Call (.Name x _) es [] _ => cCall rec c o x es
  | .Call (.Attribute a m ap) es [] cp => if (ap.endLine == cp.line) && decide (es.length < 28) && !isCall0 a then cMeth rec c o a m es else none
  | .Attribute a f _ => if !isCall0 a then cAt rec c o a f else none
  | .ListComp elt [⟨tg, iter, ifs, 0⟩] scope _ => cLc rec recT c o elt tg iter ifs scope
  | .Dict [] [] _ => some (.dnew, .fresh, o)
  | .DictComp kx elt [⟨tg, iter, ifs, 0⟩] scope _ => cDc rec recT c o kx elt tg iter ifs scope
  | _ => none
/-- a test -/
def cTest (rec : Rec) (recT : RecT) (c : Ctx) (o : Own) : Expr → Option (Ex × Own)
  | .BoolOp op es _ => cBoolT recT op c o es
  | .UnaryOp .Not a _ => (recT c o a).map fun (x, o1) => (.not x, o1)
  | .Compare a [op] [b] _ => (cCmp rec c o a op b).map fun (x, _, o1) => (x, o1)
  | .Compare a [op, op'] [b, b'] _ => (cChain rec c o a op op' b b').map fun (x, _, o1) => (x, o1)
  | .Compare _ _ _ _ => none
  | .IfExp _ _ _ _ => none
  | e => (rec c o e).map fun (x, _, o1) => (x, o1)
def okS (o : Own) : Cr → Bool := fun (e, k, o1) => subB o1 o && subB (tch e) o1 && (match k with | .peek i => o1.contains i | _ => true)
mutual
def compE : Nat → Rec
  | 0 => fun _ _ _ => none
  | n + 1 => fun c o e => (cExpr (compE n) (compT n) c o e).bind fun r => if okS o r then some r else none
def compT : Nat → RecT
  | 0 => fun _ _ _ => none
  | n + 1 => fun c o e => (cTest (compE n) (compT n) c o e).bind fun r => if subB r.2 o && subB (tch r.1) r.2 then some r else none
end

/-! ### statements -/
abbrev RecS := Ctx → Own → Option Own → List Stmt → Option (Sm × Option Own)
def meet : Option Own → Option Own → Option Own
  | none, b => b
  | a, none => a
  | some a, some b => some (a.filter b.contains)
def setOwn (o : Own) (i : Nat) (k : Kd) : Own := match k with
  | .fresh => i :: rem o i
  | _ => rem o i
def eraseAll (o : Own) (is : List Nat) : Own := o.filter fun i => !is.contains i
/-- a store that the model does in another order -/
def swapB (c : Ctx) (value : Expr) (t : Str) (tp : Pos) : Bool := match value with
  | .ListComp _ _ s _ => (if c.sc.kind.isAnnotationScope then ScopeKind.function else c.sc.kind) == .function && c.sc.names.lookup t == some .local && tp.line == value.pos.line
      && !(s.names.any fun (n, k) => n == t && (k == .local || k == .cell))
  | _ => false
def isTupE : Expr → Bool | .Tuple _ _ _ => true | .List _ _ => true | _ => false
def isLcE : Expr → Bool | .ListComp _ _ _ _ => true | .SetComp _ _ _ _ => true | .DictComp _ _ _ _ _ => true | _ => false
def isDcE : Expr → Bool | .DictComp _ _ _ _ _ => true | _ => false
/-- two stores at once, that the model does from the right -/
def plainTg (c : Ctx) : Expr → Bool
  | .Name id _ => decide (c.sc.names.lookup id = some .local)
  | _ => false
def isTup : Expr → Bool | .Tuple _ _ _ => true | _ => false
/-- stores of a display's items that are done from the left -/
def leftB (c : Ctx) (es : List Expr) (value : Expr) : Bool := !isTupE value || (isTup value && es.any fun t => !plainTg c t)
def parB (c : Ctx) (x y : Str) (px py : Pos) (a b : Expr) : Bool :=
  (py.line == px.line) && !(foldedForSure 8 a && foldedForSure 8 b) && !(constantsAlone 8 a && constantsAlone 8 b) && (match c.sc.kind with | .function => true | _ => false) && !decide (x = y)
    && decide (c.sc.names.lookup x = some .local) && decide (c.sc.names.lookup y = some .local)
def notPk : Kd → Bool
  | .peek _ => false
  | _ => true
def recNp (n : Nat) : Rec := fun c o e => ((compE n c o e).map noPk).bind fun r => if okS o r then some r else none
/-- the class that stores an attribute -/
def clsAt : List (Str × CSig) → Str → Option Str
  | [], _ => none
  | (nm, G) :: r, f => if G.as.contains f then some nm else clsAt r f
def cAssign (n : Nat) (c : Ctx) (o : Own) (t value : Expr) : Option (Sm × Own) := match t with
  | .Name x tp => do
    let i ← stoOf c x
    if swapB c value x tp then match value with
      | .ListComp elt [⟨tg, iter, ifs, 0⟩] scope _ => do
        let r ← cLc (compE n) (compT n) c o elt tg iter ifs scope
        guard (okS o r)
        some (.set i r.1, setOwn r.2.2 i .fresh)
      | _ => none
    else do
      guard (!isDcE value)
      let (e, k, o1) ← (compE n c o value).map noPk
      some (.set i e, setOwn o1 i k)
  | .Tuple es _ _ => do
    if !leftB c es value then
      match es, value with
      | [.Name x px, .Name y py], .Tuple [a, b] _ _ => do
        guard (parB c x y px py a b)
        let i ← stoOf c x
        let j ← stoOf c y
        guard (i != j)
        let (e, k, o1) ← (compE n c o a).map noPk
        let (f, l, o2) ← (compE n c o1 b).map noPk
        some (.par i j e f, eraseAll o2 [i, j])
      | _, _ => none
    else (match es, value with
     | [.Subscript (.Name x _) k _, .Subscript (.Name y _) l _], .Tuple [a, b] _ _ => do
      let i ← varOf c x
      let j ← varOf c y
      guard (i == j)
      let (e, _, o1) ← (compE n c o a).map noPk
      let (f, _, o2) ← (compE n c o1 b).map noPk
      let (u, _, o3) ← (compE n c o2 k).map noPk
      let (w, _, o4) ← (compE n c o3 l).map noPk
      guard (o4.contains i && !(tch u).contains i && !(tch w).contains i && (match k with | .Slice _ _ _ _ => false | _ => true) && (match l with | .Slice _ _ _ _ => false | _ => true))
      some (Sm.swp i u w e f, o4)
     | _, _ => none).orElse fun _ => do
      let is ← namesOf c es
      let (e, k, o1) ← (compE n c o value).map noPk
      some (.sets is e, eraseAll o1 is)
  | .Attribute (.Name x _) f _ => do
    let i ← varOf c x
    let nm ← clsAt c.cls f
    let G ← c.cls.lookup nm
    guard (G.as.contains f)
    let (e, _, o1) ← (compE n c o value).map noPk
    guard (o1.contains i)
    some (.setA i nm f e, o1)
  | .Subscript (.Name x _) k _ => do
    let i ← varOf c x
    let (e, _, o1) ← (compE n c o value).map noPk
    let (f, _, o2) ← (compE n c o1 k).map noPk
    guard (o2.contains i && !(tch f).contains i && !isLcE value && (match k with | .Slice _ _ _ _ => false | _ => true))
    some (.setI i f e, o2)
  | _ => none
def augOf : Operator → Option Bop
  | .Add => some .addI
  | .Sub => some .subI
  | _ => none
def leB (o : Own) : Option Own → Bool
  | some p => subB o p
  | none => true
/-- what a clause hands back, e the exception's name -/
def cHi (e : Option Str) : Expr → Option Hi
  | .Constant k j p => match cConst [] k with
    | some (.lit d, _, _) => some (.lit d)
    | _ => none
  | .Attribute (.Name y _) f _ => if e == some y then some (.fld f) else none
  | _ => none
def cHis (e : Option Str) : List Expr → Option (List Hi)
  | [] => some []
  | a :: r => do
    let x ← cHi e a
    let y ← cHis e r
    some (x :: y)
def cIsa (c : Ctx) (e : Option Str) : Expr → Option Nat
  | .Call (.Name i _) [.Name y _, .Name t _] [] _ => if i == ("isinstance" : Str) && bltB c i && e == some y && !oddName t && glB c.sc t then
      (match c.exs.lookup t with
      | some G => some G.id
      | none => if t == ("ValueError" : Str) && c.nos.contains t then some 90 else none)
    else none
  | _ => none
def cIsas (c : Ctx) (e : Option Str) : List Expr → Option (List Nat)
  | [] => some []
  | a :: r => do
    let x ← cIsa c e a
    let y ← cIsas c e r
    some (x :: y)
def cHt (c : Ctx) (e : Option Str) : Expr → Option (List Nat)
  | .BoolOp .And (a :: b :: es) _ => cIsas c e (a :: b :: es)
  | t => (cIsa c e t).map fun x => [x]
def cHx (c : Ctx) (e : Option Str) : Expr → Option Hx
  | .Tuple es _ _ => if es.length ≤ 100 then (cHis e es).map .tup else none
  | .List es _ => if es.length ≤ 100 then (cHis e es).map .lst else none
  | .IfExp t a b _ => do
    let cs ← cHt c e t
    let x ← cHi e a
    let y ← cHi e b
    some (.isa cs (.one x) (.one y))
  | a => (cHi e a).map .one
def cHs (c : Ctx) (e : Option Str) : List Stmt → Option Hx
  | [.Return (some v) _] => cHx c e v
  | .If t [.Return (some v) _] [] _ :: r => do
    let cs ← cHt c e t
    let x ← cHx c e v
    let y ← cHs c e r
    some (.isa cs x y)
  | _ => none
def hxL : Hx → Bool
  | .lst _ => true
  | .isa _ a b => hxL a && hxL b
  | _ => false
def nmOk (c : Ctx) : Option Str → Bool
  | some n => (stoOf c n).isSome && decide (c.sc.names.lookup n = some .local)
  | none => true
/-- the clauses of a try -/
def cCls (c : Ctx) : List ExceptHandler → Option (List (Nat × Hx))
  | [] => some []
  | .ExceptHandler (some (.Name x _)) nm st _ :: r => do
    guard (glB c.sc x && !oddName x)
    guard (nmOk c nm)
    let G ← c.exs.lookup x
    let h ← cHs c nm st
    guard (!c.fresh || hxL h)
    let r' ← cCls c r
    some ((G.id, h) :: r')
  | _ => none
def cRai (n : Nat) (c : Ctx) (o : Own) : Expr → Option Sm
  | .Call (.Name x _) es [] _ => do
    guard (glB c.sc x && !oddName x)
    let G ← c.exs.lookup x
    guard (es.length == G.fs.length && 0 < es.length)
    let (y, o1) ← cArgs (compE n) c o es
    some (.rai G.id G.fs y)
  | _ => none
/-- what a body's end still owns -/
def endB : Option (Sm × Option Own) → Own
  | some (_, some o) => o
  | _ => []
def cStmt (rs : RecS) (n : Nat) (c : Ctx) (o : Own) (l : Option Own) : Stmt → Option (Sm × Option Own)
  | .Assign [t] v _ => (cAssign n c o t v).map fun (s, o1) => (s, some o1)
  | .AugAssign (.Name x _) op v _ => do
    let p ← augOf op
    let i ← stoOf c x
    guard (!o.contains i)
    let (e, k, o1) ← (compE n c o v).map noPk
    some (.set i (.bin p (.var i) e), some o1)
  | .Expr (.Call f es kw p) q => do
    let (e, k, o1) ← compE n c o (.Call f es kw p)
    some (.ex e, some (noPk (e, k, o1)).2.2)
  | .Return (some v) _ => do
    let (e, k, o1) ← (compE n c o v)
    if c.fresh then match k with
      | .fresh => if subB c.muts o1 then some (.ret e, none) else none
      | .peek i => if subB c.muts (rem o1 i) && !c.muts.contains i then some (.ret e, none) else none
      | .val => none
    else if subB c.muts (noPk (e, k, o1)).2.2 then some (.ret e, none) else none
  | .Return none _ => if c.fresh || !subB c.muts o then none else some (.ret (.lit .non), none)
  | .If t a b _ => do
    let (x, o1) ← compT n c o t
    let (y, oa) ← rs c o1 l a
    let (z, ob) ← rs c o1 l b
    some (.ite x y z, meet oa ob)
  | .Pass _ => some (.skip, some o)
  | .Break _ => l.bind fun l => if subB l o then some (.brk, none) else none
  | .Continue _ => l.bind fun l => if subB l o then some (.cnt, none) else none
  | .Raise (some e) none _ => match cRai n c o e with
    | some s => some (s, none)
    | none => some (.no, none)
  | .Raise _ _ _ => some (.no, none)
  | .Try b hds [] [] _ => do
    guard (c.muts.isEmpty && !hds.isEmpty)
    let hs ← cCls c hds
    let (y, ob) ← rs c o l b
    some (.tr y hs, ob)
  | .While t b [] _ =>
    let go (o0 : Own) : Option (Sm × Option Own) := do
      let (x, o1) ← compT n c o0 t
      guard (subB o0 o1)
      let (y, ob) ← rs c o1 (some o0) b
      guard (leB o0 ob)
      some (.whl x y, some o0)
    (go o).orElse fun _ => (go (o.filter (endB ((compT n c o t).bind fun r => rs c r.2 (some o) b)).contains)).orElse fun _ => (go (o.filter c.muts.contains)).orElse fun _ => go []
  | .For tg iter b [] _ => do
    let (is, tt) ← cTg c tg
    guard (!isSetE iter)
    let (src, k, o1) ← cSrc (recNp n) c o tt iter
    guard (notPk k && subB o1 o && subB (tch src) o)
    let go (o0 : Own) : Option (Sm × Option Own) := do
      let (y, ob) ← rs c o0 (some o0) b
      guard (leB o0 ob)
      some (.for is tt src y, some o0)
    let o2 := eraseAll o1 is
    (go o2).orElse fun _ => (go (o2.filter (endB (rs c o2 (some o2) b)).contains)).orElse fun _ => (go (o2.filter c.muts.contains)).orElse fun _ => go []
  | _ => none
def compS (n : Nat) : Nat → RecS
  | 0 => fun _ _ _ _ => none
  | m + 1 => fun c o l st => match st with
    | [] => some (.skip, some o)
    | [s] => cStmt (compS n m) n c o l s
    | s :: r => do
      let (x, o1) ← cStmt (compS n m) n c o l s
      match o1 with
      | some o1 => do
        let (y, o2) ← compS n m c o1 l r
        some (.seq x y, o2)
      | none => none
def endOk (fresh : Bool) (muts : List Nat) : Option Own → Bool
  | some o => !fresh && subB muts o
  | none => true
/-- a def's text: its names by slot, its parameters -/
def compD (N : List Str) (np : Nat) (muts : List Nat) (fresh : Bool) (fns : List (Str × FSig)) (consts : List (Str × D)) (nos : List Str) (exs : List (Str × XSig)) (cls : List (Str × CSig)) (sc : Scope) (body : List Stmt) : Option Fd :=
  (compS 60 40 ⟨N, sc, fun _ => true, fns, consts, nos, muts, fresh, exs, cls⟩ muts none body).bind fun (s, o) =>
    if endOk fresh muts o then some ⟨np, N.length, muts, s⟩ else none
end Pv

set_option maxHeartbeats 1000000
/-! The steps: what a rule of the hand layer asks, from what the small language gives. -/
namespace Pv
open PySem PySem.Spec PyProof.Rows L2

structure Rm (X : Cx) : Prop where
  calm : X.calm = true
  un : X.A.units + 100 < cLine

/-! ### a value, or a list that is looked at -/
abbrev TrZ (Z : Addr → Prop) (H : Hp) : Prop := ∀ a, Z a → ∃ o, H a = some o
def Pk (K : PySem.W.Frag) (Z : Addr → Prop) (H : Hp) (v : V) (d : D) : Prop := Rep K Z H v d ∨ ∃ p sh vs ds, v = .ref p ∧ d = Shp.d sh ds ∧ H p = some (Shp.ho sh vs) ∧ Repz K Z H sh vs ds
section
variable {K : PySem.W.Frag} {Z Z' : Addr → Prop} {H H' : Hp} {v w : V} {vs ws : List V} {d e : D} {ds es : List D}
theorem Rep.pk (h : Rep K Z H v d) : Pk K Z H v d := .inl h
theorem Pk.int {i : Int} (h : Pk K Z H v (.int i)) : v = .int i := by
  rcases h with h | ⟨_, sh, _, _, _, e, _⟩
  · cases h; rfl
  · cases sh <;> cases e
theorem Pk.bl {i : Bool} (h : Pk K Z H v (.bl i)) : v = .bl i := by
  rcases h with h | ⟨_, sh, _, _, _, e, _⟩
  · cases h; rfl
  · cases sh <;> cases e
theorem Pk.str {i : Str} (h : Pk K Z H v (.str i)) : v = .str i ∧ okT i = true := by
  rcases h with h | ⟨_, sh, _, _, _, e, _⟩
  · cases h with | str _ o => exact ⟨rfl, o⟩
  · cases sh <;> cases e
theorem Pk.non (h : Pk K Z H v .non) : v = .non := by
  rcases h with h | ⟨_, sh, _, _, _, e, _⟩
  · cases h; rfl
  · cases sh <;> cases e
theorem Pk.tup (h : Pk K Z H v (.tup ds)) : ∃ a vs, v = .ref a ∧ TupAt K Z H a vs ∧ Reps K Z H vs ds := by
  rcases h with h | ⟨_, sh, _, _, _, e, _⟩
  · cases h with | tup t r => exact ⟨_, _, rfl, t, r⟩
  · cases sh <;> cases e
theorem Pk.lst (h : Pk K Z H v (.lst ds)) : ∃ a vs, v = .ref a ∧ H a = some (.lst vs) ∧ Reps K Z H vs ds := by
  rcases h with h | ⟨p, sh, vs, ds', e1, e2, h3, h4⟩
  · cases h with | lst t n r => exact ⟨_, _, rfl, t, r⟩
  · cases sh <;> cases e2
    exact ⟨_, _, e1, h3, h4.r⟩
theorem Pk.dct {ks : List Str} (h : Pk K Z H v (.dct ks ds)) : ∃ a vs, v = .ref a ∧ H a = some (.dK (kvZ ks vs)) ∧ Reps K Z H vs ds := by
  rcases h with h | ⟨p, sh, vs, ds', e1, e2, h3, h4⟩
  · cases h with | dct t n r => exact ⟨_, _, rfl, t, r⟩
  · cases sh <;> cases e2
    exact ⟨_, _, e1, h3, h4.r⟩
theorem Pk.obj {nm : Str} {ks : List Str} (h : Pk K Z H v (.obj nm ks ds)) : ∃ a C dx vs, v = .ref a ∧ H a = some (.ins C dx (ks.zip vs)) ∧ ObF K C nm ks ∧ Reps K Z H vs ds := by
  rcases h with h | ⟨p, sh, vs, ds', e1, e2, h3, h4⟩
  · cases h with | obj t g n r => exact ⟨_, _, _, _, rfl, t, g, r⟩
  · cases sh <;> cases e2
    exact ⟨_, _, _, _, e1, h3, h4.ok, h4.r⟩
theorem Pk.scr {ns : List Int} (h : Pk K Z H v (.scr ns)) : ∃ a, v = .ref a ∧ ScrAt K Z H a (ns.map V.int) := by
  rcases h with h | ⟨_, sh, _, _, _, e, _⟩
  · cases h with | scr t => exact ⟨_, rfl, t⟩
  · cases sh <;> cases e
theorem Pk.seq (h : Pk K Z H v d) (e : seqOf d = some ds) : ∃ a vs, v = .ref a ∧ (SqL K H a vs ∨ SqT K H a vs) ∧ Reps K Z H vs ds := by
  cases d with
  | tup xs => cases e; obtain ⟨a, vs, e1, t, r⟩ := h.tup; exact ⟨a, vs, e1, .inr t.sq, r⟩
  | lst xs => cases e; obtain ⟨a, vs, e1, t, r⟩ := h.lst; exact ⟨a, vs, e1, .inl (SqL.of t), r⟩
  | non => cases e
  | bl _ => cases e
  | int _ => cases e
  | str _ => cases e
  | scr _ => cases e
  | dct _ _ => cases e
  | obj _ _ _ => cases e

/-- what is wanted of a value that comes: any; a list is new -/
def RVal (K : PySem.W.Frag) (Z : Addr → Prop) (H : Hp) (d : D) (Q : VK) : Prop := ∀ v H', Same H H' → Rep K Z H' v d → Q v H'
def RFr (K : PySem.W.Frag) (Z : Addr → Prop) (H : Hp) (ds : List D) (Q : VK) : Prop := ∀ p vs, H p = none → Reps K (fun a => Z a ∨ a = p) (upd H p (.lst vs)) vs ds → Q (.ref p) (upd H p (.lst vs))
def RD (K : PySem.W.Frag) (Z : Addr → Prop) (H : Hp) (d : D) (Q : VK) : Prop := match d with
  | .lst ds => RFr K Z H ds Q
  | d => RVal K Z H d Q
theorem same_new {H : Hp} {p : Addr} {o : HO} (n : H p = none) : Same H (upd H p o) := fun b u e => by rw [upd_ne (ne_of_none e n)]; exact e
theorem RVal.fr {Q : VK} (t : TrZ Z H) (h : RVal K Z H (.lst ds) Q) : RFr K Z H ds Q := fun p vs n r => h _ _ (same_new n) (.lst upd_same (fun z => by
  obtain ⟨o, e⟩ := t p z
  rw [n] at e; cases e) (r.less fun b z => .inl z))
theorem RVal.rd {Q : VK} (t : TrZ Z H) (h : RVal K Z H d Q) : RD K Z H d Q := by
  cases d with
  | lst ds => exact h.fr t
  | _ => exact h
theorem TrZ.free {p : Addr} (t : TrZ Z H) (n : H p = none) : ¬ Z p := fun z => by
  obtain ⟨o, e⟩ := t p z
  rw [n] at e; cases e
/-- a new tuple -/
theorem RVal.tup {Q : VK} (t : TrZ Z H) (h : RVal K Z H (.tup ds) Q) (r : Reps K Z H vs ds) {p : Addr} {ob : Obj} (n : H p = none) (hd : ob.dict = none) : Q (.ref p) (upd H p (.frz ob (.tup vs))) :=
  h _ _ (same_new n) (.tup (.inl ⟨⟨ob, upd_same, hd⟩, t.free n⟩) (r.frame (Frame.same (same_new n))))
/-- a new list -/
theorem RFr.new {Q : VK} (h : RFr K Z H ds Q) (r : Reps K Z H vs ds) {p : Addr} (n : H p = none) : Q (.ref p) (upd H p (.lst vs)) :=
  h p vs n ((r.grow (ex' := fun a => Z a ∨ a = p) fun b z => z.imp id fun e => by rw [e]; exact n).frame (Frame.new n))
theorem RVal.int {i : Int} {Q : VK} (h : RVal K Z H (.int i) Q) : Q (.int i) H := h _ _ (Same.refl H) (.int i)
theorem RVal.bl {i : Bool} {Q : VK} (h : RVal K Z H (.bl i) Q) : Q (.bl i) H := h _ _ (Same.refl H) (.bl i)
theorem RVal.str {i : Str} {Q : VK} (h : RVal K Z H (.str i) Q) (o : okT i = true) : Q (.str i) H := h _ _ (Same.refl H) (.str i o)
theorem RVal.here {Q : VK} (h : RVal K Z H d Q) (r : Rep K Z H v d) : Q v H := h _ _ (Same.refl H) r
end
theorem lim_line {n : Nat} (h : n ≤ LIM) : n ≤ sizeLine := Nat.le_trans h (by rw [sizeLine_eq]; decide)
theorem lim_lt {n : Nat} (h : n < LIM) : n < sizeLine := Nat.lt_of_lt_of_le h (by rw [sizeLine_eq]; decide)

/-! ### data -/
section
variable {K : PySem.W.Frag} {Z : Addr → Prop} {H : Hp}
mutual
theorem Rep.dp : ∀ {v : V} {d : D}, Rep K Z H v d → dep d ≤ 60 → Dp K H v (toPy d)
  | _, _, .non, _ => by simp only [toPy]; exact .non
  | _, _, .bl b, _ => by simp only [toPy]; exact .bl b
  | _, _, .int i, _ => by simp only [toPy]; exact .int i
  | _, _, .str x o, _ => by simp only [toPy]; exact .str x
  | _, _, .tup t r, h => by simp only [toPy]; exact .tup t.sq (Reps.dp r (by simp only [dep] at h; omega))
  | _, _, .lst t n r, h => by simp only [toPy]; exact .lst (SqL.of t) (Reps.dp r (by simp only [dep] at h; omega))
  | _, _, .scr t, h => by simp only [dep] at h; omega
  | _, _, .dct _ _ _, h => by simp only [dep] at h; omega
  | _, _, .obj _ _ _ _, h => by simp only [dep] at h; omega
theorem Reps.dp : ∀ {vs : List V} {ds : List D}, Reps K Z H vs ds → deps ds ≤ 60 → DpAll K H vs (toPys ds)
  | _, _, .nil, _ => by simp only [toPys]; exact .nil
  | _, _, .cons r t, h => by simp only [toPys]; exact .cons (Rep.dp r (by simp only [deps] at h; omega)) (Reps.dp t (by simp only [deps] at h; omega))
end
mutual
theorem Rep.lay : ∀ {v : V} {d : D}, Rep K Z H v d → dep d ≤ 60 → (toPy d).canLay0 = true
  | _, _, .non, _ => by simp only [toPy, PyData.canLay0]
  | _, _, .bl b, _ => by simp only [toPy, PyData.canLay0]
  | _, _, .int i, _ => by simp only [toPy, PyData.canLay0]
  | _, _, .str x o, _ => by simp only [toPy, PyData.canLay0]; exact (Bool.and_eq_true_iff.mp o).1
  | _, _, .tup t r, h => by simp only [toPy, PyData.canLay0]; exact Reps.lay r (by simp only [dep] at h; omega)
  | _, _, .lst t n r, h => by simp only [toPy, PyData.canLay0]; exact Reps.lay r (by simp only [dep] at h; omega)
  | _, _, .scr t, h => by simp only [dep] at h; omega
  | _, _, .dct _ _ _, h => by simp only [dep] at h; omega
  | _, _, .obj _ _ _ _, h => by simp only [dep] at h; omega
theorem Reps.lay : ∀ {vs : List V} {ds : List D}, Reps K Z H vs ds → deps ds ≤ 60 → PyData.canLayAll0 (toPys ds) = true
  | _, _, .nil, _ => by simp only [toPys, PyData.canLayAll0]
  | _, _, .cons r t, h => by
    simp only [toPys, PyData.canLayAll0, Bool.and_eq_true]
    exact ⟨Rep.lay r (by simp only [deps] at h; omega), Reps.lay t (by simp only [deps] at h; omega)⟩
end
end
mutual
theorem dep_py : ∀ d : D, dep d ≤ 60 → (toPy d).depth ≤ dep d
  | .non, _ | .bl _, _ | .int _, _ | .str _, _ => by simp only [toPy, PyData.depth]; exact Nat.zero_le _
  | .tup xs, h => by
    simp only [toPy, PyData.depth, dep] at h ⊢
    have := deps_py xs (by omega)
    omega
  | .lst xs, h => by
    simp only [toPy, PyData.depth, dep] at h ⊢
    have := deps_py xs (by omega)
    omega
  | .scr _, h => by simp only [dep] at h; omega
  | .dct _ _, h => by simp only [dep] at h; omega
  | .obj _ _ _, h => by simp only [dep] at h; omega
theorem deps_py : ∀ ds : List D, deps ds ≤ 60 → PyData.depthAll (toPys ds) ≤ deps ds
  | [], _ => by simp only [toPys, PyData.depthAll]; exact Nat.zero_le _
  | d :: ds, h => by
    simp only [toPys, PyData.depthAll, deps] at h ⊢
    have h1 := dep_py d (by omega)
    have h2 := deps_py ds (by omega)
    omega
end
section
variable {K : PySem.W.Frag} {Z : Addr → Prop} {H : Hp} {v : V} {d : D} {vs : List V} {ds : List D}
theorem deps_of : ∀ {ds : List D}, ds.all shal = true → deps ds ≤ 60
  | [], _ => by simp only [deps]; omega
  | d :: ds, h => by
    simp only [List.all_cons, Bool.and_eq_true, shal, decide_eq_true_eq] at h
    have := deps_of h.2
    simp only [deps]; omega
theorem Pk.dp (h : Pk K Z H v d) (s : shal d = true) : Dp K H v (toPy d) := by
  have s' : dep d ≤ 60 := of_decide_eq_true s
  rcases h with h | ⟨p, sh, vs, ds, rfl, rfl, h3, h4⟩
  · exact h.dp s'
  · cases sh <;> simp only [Shp.d, dep] at s' ⊢
    · simp only [toPy]; exact .lst (SqL.of h3) (h4.r.dp (by omega))
    · omega
    · omega
theorem Pk.shaped (h : Pk K Z H v d) (s : shal d = true) : SeqAt.shaped (toPy d) = true := by
  have s' : dep d ≤ 60 := of_decide_eq_true s
  unfold SeqAt.shaped
  rw [Bool.and_eq_true]
  refine ⟨?_, decide_eq_true (Nat.le_trans (dep_py d s') (by omega))⟩
  rcases h with h | ⟨p, sh, vs, ds, rfl, rfl, h3, h4⟩
  · exact h.lay s'
  · cases sh <;> simp only [Shp.d, dep] at s' ⊢
    · simp only [toPy, PyData.canLay0]; exact h4.r.lay (by omega)
    · omega
    · omega
theorem toPys_map : ∀ ds : List D, toPys ds = ds.map toPy
  | [] => by simp only [toPys, List.map_nil]
  | d :: ds => by simp only [toPys, List.map_cons, toPys_map ds]
end

/-! ### new tuples, known to have no dict of their own -/
section
variable {X : Cx}
abbrev tO (its : List Value) : Obj := { cls := .type "tuple", data := .seq its.toArray }
theorem laidT {pins : List (Addr × Obj)} {σ : L2.St} {H : Hp} {s : Shared} {xs : List V} {its : List Value} (I : Inv X pins σ H s) (r : Vals xs its) (hz : xs.length ≤ sizeLine) {t' : Nat} :
    Inv X pins σ (upd H s.heap.objs.size (.frz (tO its) (.tup xs))) { s with heap := s.heap.push (tO its), toks := t' } :=
  I.laid (t' := t') (fun b ob q => Heap.get?_push_of_some _ q) (Nat.le_refl _) ⟨Heap.get?_push_size _ rfl, hz, _, r, IsTup.new _ _⟩
abbrev NewT (H : Hp) (xs : List V) (Q : VK) : Prop := ∀ p ob, H p = none → Obj.dict ob = none → Q (.ref p) (upd H p (.frz ob (.tup xs)))
/-- (a, b, ..) -/
def tTupF (t : TA) : TE := fun σ H Q => t σ H fun xs H1 => xs.length ≤ sizeLine ∧ NewT H1 xs Q
theorem pe_tupF {es : List Expr} {t : TA} {x1 : Nat} {pos : Pos} (h : PA X es t) : PE X (.Tuple es x1 pos) (tTupF t) := by
  refine ⟨fun pins s σ H Q I hq => ?_⟩
  refine wpAny_Tuple_spliced (thn (h.run pos pins s σ H _ I hq) fun us s1 ⟨xs, H1, I1, r, z, q⟩ => ⟨by rw [← r.length]; exact z, ?_⟩)
  exact ⟨.ref s1.heap.objs.size, _, laidT (t' := s1.toks) I1 r z, rfl, q _ _ (I1.hok.fresh (Nat.le_refl _)) rfl⟩
def rCatF (K : PySem.W.Frag) : R2 := fun x y H Q => ∃ a b xs ys, x = .ref a ∧ y = .ref b ∧ SqT K H a xs ∧ SqT K H b ys ∧ xs.length + ys.length ≤ sizeLine ∧
  (xs = [] → Q (.ref b) H) ∧ (xs ≠ [] → ys = [] → Q (.ref a) H) ∧ (xs ≠ [] → ys ≠ [] → NewT H (xs ++ ys) Q)
theorem op_catF : OpR X (binaryOp .Add) (rCatF X.K) := by
  intro pins s σ H x y v u Q I rx ry h
  obtain ⟨a, b, xs, ys, rfl, rfl, ha, hb, hz, q0, q1, q2⟩ := h
  cases rx
  cases ry
  obtain ⟨its, r1, p1, _⟩ := I.tuple ha
  obtain ⟨its2, r2, p2, _⟩ := I.tuple hb
  by_cases hx : xs = []
  · subst hx
    cases r1
    exact cat_tup0 p1 p2 ⟨.ref b, H, I, rfl, q0 rfl⟩
  · refine HT.cat_tup p1 p2 (fun z => hx (r1.nil_iff.mp z)) (fun z => ⟨.ref a, H, I, rfl, q1 hx (r2.nil_iff.mp z)⟩) (fun z => ?_) (by rw [← r1.length, ← r2.length]; exact hz)
    exact ⟨.ref s.heap.objs.size, _, laidT (t' := s.toks) I (r1.append r2) (by rw [List.length_append]; exact hz), rfl, q2 hx (fun w => z (r2.nil_iff.mpr w)) _ _ (I.hok.fresh (Nat.le_refl _)) rfl⟩
def rSlF (K : PySem.W.Frag) : V → Option Int → Option Int → Hp → VK → Prop := fun x lo hi H Q => ∃ a xs, x = .ref a ∧ SqT K H a xs ∧
  (HT.sIx xs.length 0 lo = 0 ∧ HT.sIx xs.length xs.length hi = xs.length → Q (.ref a) H) ∧ (¬ (HT.sIx xs.length 0 lo = 0 ∧ HT.sIx xs.length xs.length hi = xs.length) → NewT H (cutV xs lo hi) Q)
theorem sl_tupF : SlR X (rSlF X.K) := by
  intro pins s σ H x v vl vu lo hi sl Q I rx hs pl pu h
  obtain ⟨a, xs, rfl, hx, q1, q2⟩ := h
  cases rx
  obtain ⟨its, r, ht, hz⟩ := I.tuple hx
  have hlen : its.toArray.size = xs.length := by rw [List.size_toArray]; exact r.length.symm
  refine ⟨"tuple", _, PyProof.Rows.slot_tuple_getitem.lookup, ht.typeIs, ?_⟩
  by_cases hw : HT.sIx xs.length 0 lo = 0 ∧ HT.sIx xs.length xs.length hi = xs.length
  · exact getItem_tuple_whole ht hs pl pu (by rw [hlen]; exact hw) ⟨.ref a, H, I, rfl, q1 hw⟩
  · refine HT.getItem_tuple_cut ht hs pl pu (by rw [hlen]; exact hw) ?_ (by rw [hlen]; exact hz)
    rw [hlen]
    exact ⟨.ref s.heap.objs.size, _, laidT (t' := s.toks) I ((r.drop (HT.sIx xs.length 0 lo)).take (HT.sIx xs.length xs.length hi - HT.sIx xs.length 0 lo)) (Nat.le_trans (cutV_length xs lo hi) hz), rfl, q2 hw _ _ (I.hok.fresh (Nat.le_refl _)) rfl⟩
theorem call_tupleF : CallR X (.type "tuple") (fun xs H Q => ∃ p ys, xs = [.ref p] ∧ ((SqL X.K H p ys ∧ NewT H ys Q) ∨ (SqT X.K H p ys ∧ Q (.ref p) H))) := by
  intro pins s σ H xs us Q I r h
  obtain ⟨p, ys, rfl, h⟩ := h
  obtain ⟨u, rfl, rx⟩ := vals1 r
  cases rx
  rcases h with ⟨hq, q⟩ | ⟨hq, q⟩
  · obtain ⟨its, r', pl, hz⟩ := I.list hq
    have hlen := r'.length
    refine call_tuple_list pl.isList (fun h' kp => ?_) (by simp only [List.size_toArray] <;> omega)
    have I1 : Inv X pins σ H { s with heap := h' } := I.kept (t' := s.toks) kp
    exact ⟨.ref h'.objs.size, _, laidT (t' := s.toks) I1 r' hz, rfl, q _ _ (I1.hok.fresh (Nat.le_refl _)) rfl⟩
  · obtain ⟨its, r', pl, hz⟩ := I.tuple hq
    exact call_tuple_same pl ⟨.ref p, H, I, rfl, q⟩
end

section
variable {X : Cx}
open PySem.AutoSeq1 (wpAny_loadPart') in
theorem mul_same (l : Addr) (vs : Array Value) (k : Nat) (sl : Array (Option Value)) (od : Option Addr) (i : Int) (t : Tok) (h0 : (decide (i < -(2 ^ 63)) || decide (i ≥ 2 ^ 63)) = false) (h1 : (vs.isEmpty || i == 1) = true) :
    Meets (Builtin.«tuple.__mul__» ⟨[.ref l, .int i t], []⟩) (fun _ R s => s.heap.get? l = some { cls := .type "tuple", dict := od, data := .seq vs k, slots := sl } ∧ R (.ok (.ret (Value.ref l))) s) :=
  .of_wp fun prog w A R s h => by
    obtain ⟨hp, g, d, tk, os⟩ := s
    obtain ⟨look, h⟩ := h
    have f1 := AutoSeq1.idx_int
    wp_walk using wpAny_loadPart' look
    repeat (first
      | (refine wpAny_ite_false (decide_eq_false (by rw [h0]; simp)) ?_; wp_walk using wpAny_loadPart' look)
      | (refine wpAny_ite_true (decide_eq_true (by rw [h1])) ?_; wp_walk using wpAny_loadPart' look))
    exact ⟨_, rfl, h⟩
open PySem.AutoSeq1 (wpAny_loadPart') in
theorem mul_none (l : Addr) (vs : Array Value) (k : Nat) (sl : Array (Option Value)) (od : Option Addr) (i : Int) (t : Tok) (h0 : (decide (i < -(2 ^ 63)) || decide (i ≥ 2 ^ 63)) = false) (h1 : (vs.isEmpty || i == 1) = false) (h2 : (decide (i ≤ 0) || vs.isEmpty) = true) :
    Meets (Builtin.«tuple.__mul__» ⟨[.ref l, .int i t], []⟩) (fun _ R s => s.heap.get? l = some { cls := .type "tuple", dict := od, data := .seq vs k, slots := sl } ∧
      R (.ok (.ret (Value.ref s.heap.objs.size))) { s with heap := s.heap.push { cls := Value.type "tuple", data := Data.seq #[] }, toks := s.toks }) :=
  .of_wp fun prog w A R s h => by
    obtain ⟨hp, g, d, tk, os⟩ := s
    obtain ⟨look, h⟩ := h
    have f1 := AutoSeq1.idx_int
    wp_walk using wpAny_loadPart' look
    repeat (first
      | (refine wpAny_ite_false (decide_eq_false (by rw [h0]; simp)) ?_; wp_walk using wpAny_loadPart' look)
      | (refine wpAny_ite_false (decide_eq_false (by rw [h1]; simp)) ?_; wp_walk using wpAny_loadPart' look)
      | (refine wpAny_ite_true (decide_eq_true (by rw [h2])) ?_; wp_walk using wpAny_loadPart' look))
    exact ⟨_, rfl, h⟩
/-- t * k, 0 ≤ k: the tuple itself, if it is empty or k is 1 -/
def rRepF (K : PySem.W.Frag) : R2 := fun x y H Q => ∃ l k xs, x = .ref l ∧ y = .int k ∧ SqT K H l xs ∧ 0 ≤ k ∧ k ≤ 1000 ∧ xs.length ≤ 1000 ∧ (xs = [] ∨ k = 1 → Q (.ref l) H) ∧ (xs ≠ [] → k = 0 → NewT H [] Q) ∧ (xs ≠ [] → 2 ≤ k → NewT H (List.replicate k.toNat xs).flatten Q)
theorem op_repF : OpR X (binaryOp .Mult) (rRepF X.K) := by
  intro pins s σ H x y v u Q I rx ry h
  obtain ⟨l, k, xs, rfl, rfl, hT, lo, up, few, qs, qz, q⟩ := h
  cases rx
  obtain ⟨tk, rfl⟩ := ry
  obtain ⟨us, rv, ⟨⟨cls, own, data, sl⟩, look, hc, n, hd⟩, _⟩ := I.tuple hT
  simp only at hc hd
  subst hc hd
  have same : us.length = xs.length := rv.length.symm
  have b0 : (decide (k < -(2 ^ 63)) || decide (k ≥ 2 ^ 63)) = false := by rw [Bool.or_eq_false_iff]; exact ⟨decide_eq_false (by omega), decide_eq_false (by omega)⟩
  refine wpAny_binaryOp_repeat_ref (T := "tuple") (U := "int") (by decide) ⟨_, look, rfl⟩ (fun s' => typeIs_int s' k tk) noFill_tuple_mul F.fills_int_mul F.slot_int_rmul repeat_tuple F.slot_int_index.lookup
    (call_meets F.slot_int_rmul (typeIs_int s k tk) F.entry_int_rmul (F.args_int_rmul_2 _ _) (int_rmul_tuple k tk l us.toArray n own sl) ⟨look, rfl, ⟨_, look, rfl⟩, ?_⟩)
  by_cases triv : xs = [] ∨ k = 1
  · have b1 : (us.toArray.isEmpty || k == 1) = true := by
      rcases triv with e | e
      · subst e
        cases us with
        | nil => rfl
        | cons _ _ => simp at same
      · rw [e]; simp
    exact call_meets F.slot_tuple_mul ⟨_, look, rfl⟩ F.entry_tuple_mul (F.args_tuple_mul_2 _ _) (mul_same l us.toArray n sl own k tk b0 b1) ⟨look, .ref l, H, I, rfl, qs triv⟩
  have hne : xs ≠ [] := fun e => triv (.inl e)
  have k1 : k ≠ 1 := fun e => triv (.inr e)
  have some1 : us.toArray.isEmpty = false := by
    cases us with
    | nil => exact absurd (List.eq_nil_of_length_eq_zero same.symm) hne
    | cons _ _ => rfl
  have b1 : (us.toArray.isEmpty || k == 1) = false := by rw [some1, Bool.false_or, beq_eq_false_iff_ne]; exact k1
  by_cases k0 : k = 0
  · have b2 : (decide (k ≤ 0) || us.toArray.isEmpty) = true := by rw [some1, Bool.or_false]; exact decide_eq_true (by omega)
    refine call_meets F.slot_tuple_mul ⟨_, look, rfl⟩ F.entry_tuple_mul (F.args_tuple_mul_2 _ _) (mul_none l us.toArray n sl own k tk b0 b1 b2) ⟨look, ?_⟩
    exact ⟨.ref s.heap.objs.size, _, laidT (its := []) (t' := s.toks) I .nil (Nat.zero_le _), rfl, qz hne k0 _ _ (I.hok.fresh (Nat.le_refl _)) rfl⟩
  have size : us.toArray.size = xs.length := by rw [List.size_toArray, same]
  have prod : ((us.toArray.size : Nat) : Int) * k ≤ 1000000 := by
    rw [size]
    exact Int.le_trans (Int.mul_le_mul_of_nonneg_right (by omega : ((xs.length : Nat) : Int) ≤ 1000) (by omega)) (by omega)
  have cells : k.toNat * xs.length ≤ 1000 * 1000 := Nat.mul_le_mul (by omega) few
  have room : (List.replicate k.toNat us).flatten.length ≤ sizeLine := by
    rw [PyProof.Rows.lm_len_rep_flat, same, sizeLine_eq]
    omega
  have b2 : (decide (k ≤ 0) || us.toArray.isEmpty) = false := by rw [some1, Bool.or_false]; exact decide_eq_false (by omega)
  have b3 : Builtin.Tuple.tupleTooMany (((us.toArray.size : Nat) : Int) * k) = false := by unfold Builtin.Tuple.tupleTooMany; rw [sizeLine_eq]; exact decide_eq_false (by omega)
  refine call_meets F.slot_tuple_mul ⟨_, look, rfl⟩ F.entry_tuple_mul (F.args_tuple_mul_2 _ _) (tuple_mulW l us.toArray n own sl k tk b0 b1 b2 (by omega) b3 (by rw [size_rep, List.size_toArray]; exact room)) ⟨look, ?_⟩
  rw [size_rep]
  exact ⟨.ref s.heap.objs.size, _, laidT (t' := s.toks) I (rv.rep k.toNat) (by rw [PyProof.Rows.lm_len_rep_flat, sizeLine_eq]; omega), rfl, q hne (by omega) _ _ (I.hok.fresh (Nat.le_refl _)) rfl⟩
/-- t[::-1] -/
theorem places_back (n : Nat) : Builtin.Slice.slicePlaces ((n : Int) - 1) (-1) (-1) = n := by
  unfold Builtin.Slice.slicePlaces
  rw [if_neg (by omega)]
  simp only [Int.neg_neg, Int.ediv_one]
  split <;> omega
theorem adjust_back (n : Nat) : Builtin.Slice.sliceAdjust none none (-1) (n : Int) = ((n : Int) - 1, -1) := rfl
theorem pick_back (us : List Value) : ((List.range us.length).filterMap fun (k : Nat) => us.toArray[(((us.length : Int) - 1) + (k : Int) * (-1)).toNat]?) = us.reverse := by
  have key : ∀ m, m ≤ us.length → ((List.range m).filterMap fun (k : Nat) => us.toArray[(((us.length : Int) - 1) + (k : Int) * (-1)).toNat]?) = us.reverse.take m := by
    intro m
    induction m with
    | zero => intro _; simp
    | succ m ih =>
      intro hm
      rw [List.range_succ, List.filterMap_append, ih (by omega), List.take_succ]
      congr 1
      have e1 : (((us.length : Int) - 1) + (m : Int) * (-1)).toNat = us.length - 1 - m := by omega
      simp only [List.filterMap_cons, List.filterMap_nil, e1, List.getElem?_toArray]
      rw [List.getElem?_reverse (by omega)]
      have h2 : us.length - 1 - m < us.length := by omega
      rw [List.getElem?_eq_getElem h2]
      rfl
  have := key us.length (Nat.le_refl _)
  rw [this, List.take_of_length_le (by simp)]
theorem getItem_tuple_back {prog : Program} {w : World} {A : Around} {E : Value → Shared → Prop} {s : Shared} {t sl : Addr} {us : List Value} {vs : Value} {Q : Value → Shared → Prop} (ht : IsTup s.heap t us.toArray) (hs : s.heap.IsSliceOf sl .none .none vs) (ps : IsPart vs (some (-1)))
    (h : Q (.ref s.heap.objs.size) { s with heap := s.heap.push (tO us.reverse) }) (hz : us.length ≤ sizeLine) : wpAny (model prog w) A (getItem (.ref t) (.ref sl)) Q E s := by
  obtain ⟨os, hos, hcs, hds⟩ := _root_.id hs
  have hTs : s.TypeIs (.ref sl) "slice" := ⟨os, hos, hcs⟩
  have fits : sizeOk (.seq us.reverse.toArray) := by
    show us.reverse.toArray.size ≤ sizeLine
    rw [List.size_toArray, List.length_reverse]; exact hz
  unfold getItem
  try with_reducible refine wpAny_holding ?_
  first | refine wpAny_bind (wpAny_pure ?_) | skip
  refine wpAny_bind (wpAny_sequenceKey ht.typeIs (by decide) ?_)
  refine wpAny_bind (wpAny_callSpecial?_slot (name := Str.ofString "__getitem__") ht.typeIs PyProof.Rows.slot_tuple_getitem
    (wpAny_call_entry PyProof.Rows.slot_tuple_getitem ht.typeIs entry_tuple_getitem ?_ (args_tuple_getitem _ _)))
  show wpAny _ _ (Builtin.Tuple.tupleItemsOf (.ref t) >>= _) _ _ s
  refine wpAny_bind (tupleItemsOf_ ht ?_)
  refine wpAny_bind (wpAny_typeOf hTs ?_)
  rw [if_pos (by decide)]
  have app : ∀ {A : Around} {E : Value → Shared → Prop} {P : Int × Int × Nat → Shared → Prop}, P (((us.toArray.size : Nat) : Int) - 1, -1, us.toArray.size) s → wpAny (model prog w) A (Builtin.Slice.sliceApplied (.ref sl) (pure ((us.toArray.size : Nat) : Int))) P E s := fun {A} {E} {P} hP => by
    unfold Builtin.Slice.sliceApplied Builtin.Slice.sliceFields
    refine wpAny_bind (wpAny_bind (wpAny_field hos hds (x := .none) rfl (wpAny_bind (wpAny_field hos hds (x := .none) rfl (wpAny_bind (wpAny_field hos hds (x := vs) rfl (wpAny_pure ?_)))))))
    refine wpAny_bind (HT.slicePart_ ps ?_)
    show wpAny _ _ (if ((-1 : Int) == 0) = true then _ else _) _ _ s
    rw [if_neg (by decide)]
    refine wpAny_bind (slicePart_none (wpAny_bind (slicePart_none (wpAny_bind (wpAny_pure ?_)))))
    show wpAny _ _ (match Builtin.Slice.sliceAdjust none none (-1) ((us.toArray.size : Nat) : Int) with | (lo, hi) => pure (lo, (-1 : Int), Builtin.Slice.slicePlaces lo hi (-1))) _ _ s
    rw [adjust_back]
    show wpAny _ _ (pure (((us.toArray.size : Nat) : Int) - 1, (-1 : Int), Builtin.Slice.slicePlaces (((us.toArray.size : Nat) : Int) - 1) (-1) (-1))) _ _ s
    rw [places_back]
    exact wpAny_pure hP
  refine wpAny_bind (app ?_)
  show wpAny _ _ (if ((((us.toArray.size : Nat) : Int) - 1) == 0 && (-1 : Int) == 1 && us.toArray.size == us.toArray.size) = true then _ else _) _ _ s
  rw [if_neg (by simp)]
  have pk := pick_back us
  have zz : us.toArray.size = us.length := by simp
  rw [zz, pk]
  first
    | exact wpAny_bind (m := Builtin.Tuple.tupleExact _) (wpAny_newObj_type (wpAny_pure ⟨_, rfl, wpAny_pure h⟩) fits)
    | exact wpAny_bind (m := Builtin.Tuple.tupleExact _) (wpAny_newObj_type (wpAny_bind (wpAny_pure (wpAny_pure ⟨_, rfl, wpAny_pure h⟩))) fits)
    | exact wpAny_bind (wpAny_bind (m := Builtin.Tuple.tupleExact _) (wpAny_newObj_type (wpAny_pure (wpAny_pure ⟨_, rfl, wpAny_pure h⟩)) fits))
    | exact wpAny_bind (wpAny_bind (m := Builtin.Tuple.tupleExact _) (wpAny_newObj_type (wpAny_pure ⟨_, rfl, wpAny_pure h⟩) fits))
def tRevT (K : PySem.W.Frag) (te : TE) : TE := fun σ H Q => te σ H fun x H1 => ∃ a xs, x = .ref a ∧ SqT K H1 a xs ∧ NewT H1 xs.reverse Q
theorem pe_revT {e : Expr} {te : TE} {k : Nat} {p1 p2 p3 pos : Pos} (he : PE X e te) : PE X (.Subscript e (.Slice none none (some (.UnaryOp .USub (.Constant (.int 1) k p1) p2)) p3) pos) (tRevT X.K te) := by
  refine ⟨fun pins s σ H Q I h => ?_⟩
  refine Subscript_ (thn (he.run pins s σ H _ I h) fun v s1 ⟨x, H1, I1, r1, a, xs, ex, hx, q⟩ => ?_)
  subst ex
  cases r1
  have hst : PO X (some (.UnaryOp .USub (.Constant (.int 1) k p1) p2)) (tPart (tUn (rU fun i => .int (-i)) (tC (.int 1)))) := po_some (pe_un un_neg pe_int)
  refine wpAny_Slice (thn (po_none.run pins s1 σ H1 (fun o H2 => o = none ∧ H2 = H1) I1 ⟨rfl, rfl⟩) fun vl s2 hl => ?_)
  obtain ⟨l, H2, I2, pl, el, e2⟩ := hl
  subst el e2
  refine thn (po_none.run pins s2 σ H2 (fun o H3 => o = none ∧ H3 = H2) I2 ⟨rfl, rfl⟩) fun vu s3 hu => ?_
  obtain ⟨u, H3, I3, pu, eu, e3⟩ := hu
  subst eu e3
  refine thn (hst.run pins s3 σ H3 (fun o H4 => o = some (-1) ∧ H4 = H3) I3 ⟨1, rfl, -1, rfl, rfl, rfl⟩) fun vs s4 hv => ?_
  obtain ⟨o, H4, I4, ps, eo, e4⟩ := hv
  subst eo e4
  have I5 : Inv X pins σ H4 { s4 with heap := s4.heap.push { cls := .type "slice", data := .fields #[vl, vu, vs] } } := I4.kept (t' := s4.toks) fun b ob q => Heap.get?_push_of_some _ q
  obtain ⟨its, r, ht, hz⟩ := I5.tuple hx
  have hlen := r.length
  cases pl
  cases pu
  show wpAny (model X.prog X.w) X.A (subscriptTail e (.Slice none none (some (.UnaryOp .USub (.Constant (.int 1) k p1) p2)) p3) (.ref a) (.ref s4.heap.objs.size)) (EP X pins σ Q) X.xe { s4 with heap := s4.heap.push { cls := .type "slice", data := .fields #[.none, .none, vs] } }
  refine tail_any (ops := [.ref a, .ref s4.heap.objs.size]) ht.typeIs (PyProof.Rows.slot_tuple_getitem.lookup) ?_ (by with_unfolding_all rfl)
  refine getItem_tuple_back ht (Heap.IsSliceOf.new _ .none .none vs) ps ?_ (by omega)
  exact ⟨.ref _, _, laidT (t' := s4.toks) I5 r.reverse (by rw [List.length_reverse]; exact hz), rfl, q _ _ (I5.hok.fresh (Nat.le_refl _)) rfl⟩
/-- o.m(..) of a built-in type's object, by what is known of it -/
def tBG (tyP : V → Hp → Prop) (r : V → List V → Hp → VK → Prop) (to : TE) (t : TA) : TE := fun σ H Q => to σ H fun x H1 => tyP x H1 ∧ t σ H1 fun xs H2 => r x xs H2 Q
def TyOk (X : Cx) (T : String) (tyP : V → Hp → Prop) : Prop := ∀ (pins : List (Addr × Obj)) (s : Shared) (σ : L2.St) (H : Hp) (x : V) (v : Value), Inv X pins σ H s → RelV x v → tyP x H → s.TypeIs v T ∧ ∀ a, v = .ref a → ∃ ob, s.heap.get? a = some ob ∧ ob.dict = none
theorem pe_bG {o e : Expr} {es : List Expr} {to : TE} {t : TA} {name : Str} {apos cpos : Pos} {T id : String} {r : V → List V → Hp → VK → Prop} {tyP : V → Hp → Prop} (hty : TyOk X T tyP) (pa : PlainAttrs T) (slot : Slot T name id) (hmd : typeOf (.builtin id) = pure (.type "method_descriptor")) (hm : MtR X id r)
    (ho : PE X o to) (ha : PA X (e :: es) t) (hbase : attributeBase o name X.env (eval o X.env) = eval o X.env)
    (hfew : ((backTo cpos (starEach (e :: es) X.env)).all (fun x => !x.1) && (backToKw cpos (keywordEach [] X.env)).all (fun x => x.1.isSome)
      && decide ((e :: es).length + ([] : List Keyword).length + (if ([] : List Keyword).isEmpty then 0 else 1) < 30)) = true)
    (hline : (apos.endLine == cpos.line) = true) (hs : starEach (e :: es) X.env = (false, eval e X.env) :: starEach es X.env) (hplain : (backTo cpos (starEach es X.env)).any (·.1) = false) :
    PE X (.Call (.Attribute o name apos) (e :: es) [] cpos) (tBG tyP r to t) := by
  refine ⟨fun pins s σ H Q I h => ?_⟩
  refine wpAny_Call_method_late hbase hfew hline rfl (thn (ho.run pins s σ H _ I h) fun v s1 hh => ?_)
  obtain ⟨x, H1, I1, r1, ty, q1⟩ := hh
  obtain ⟨h1, h2⟩ := hty pins s1 σ H1 x v I1 r1 ty
  refine ⟨T, id, pa, slot, hmd, h1, h2, ?_⟩
  have hA := ha.run cpos pins s1 σ H1 _ I1 q1
  rw [hs] at hA ⊢
  refine Calls.callWith_builtin (by show (false || (backTo cpos (starEach es X.env)).any (·.1)) = false; rw [hplain] <;> rfl) (Calls.evalArgs_plain ?_)
  exact thn hA fun us s2 hh => let ⟨vs, H2, I2, r2, q2⟩ := hh; hm pins s2 σ H2 x vs v us Q I2 r1 r2 q2
def tBG0 (tyP : V → Hp → Prop) (r : V → List V → Hp → VK → Prop) (to : TE) : TE := fun σ H Q => to σ H fun x H1 => tyP x H1 ∧ r x [] H1 Q
theorem pe_bG0 {o : Expr} {to : TE} {name : Str} {apos cpos : Pos} {T id : String} {r : V → List V → Hp → VK → Prop} {tyP : V → Hp → Prop} (hty : TyOk X T tyP) (pa : PlainAttrs T) (slot : Slot T name id) (hmd : typeOf (.builtin id) = pure (.type "method_descriptor")) (hm : MtR X id r)
    (ho : PE X o to) (hbase : attributeBase o name X.env (eval o X.env) = eval o X.env) (hline : (apos.endLine == cpos.line) = true) : PE X (.Call (.Attribute o name apos) [] [] cpos) (tBG0 tyP r to) := by
  refine ⟨fun pins s σ H Q I h => ?_⟩
  refine wpAny_Call_method0_late hbase hline (thn (ho.run pins s σ H _ I h) fun v s1 hh => ?_)
  obtain ⟨x, H1, I1, r1, ty, q1⟩ := hh
  obtain ⟨h1, h2⟩ := hty pins s1 σ H1 x v I1 r1 ty
  exact ⟨T, id, pa, slot, hmd, h1, h2, Calls.callWith_builtin rfl (PySem.evalArgs_none (hm pins s1 σ H1 x [] v [] Q I1 r1 .nil q1))⟩
theorem tyOk_list : TyOk X "list" (fun x H => ∃ p vs, x = .ref p ∧ SqL X.K H p vs) := by
  intro pins s σ H x v I r ty
  obtain ⟨p, vs, rfl, hq⟩ := ty
  cases r
  obtain ⟨its, _, pl, _⟩ := I.list hq
  refine ⟨pl.isList.typeIs, fun a e => ?_⟩
  cases e
  obtain ⟨o, n, e, c, hd, _⟩ := pl
  exact ⟨o, e, hd⟩
theorem tyOk_str : TyOk X "str" (fun x H => ∃ z, x = .str z) := by
  intro pins s σ H x v I r ty
  obtain ⟨z, rfl⟩ := ty
  obtain ⟨t, rfl⟩ := r
  exact ⟨typeIs_str s z t, fun _ e => nomatch e⟩
theorem tyOk_tup {Z : Addr → Prop} : TyOk X "tuple" (fun x H => ∃ p vs, x = .ref p ∧ TupAt X.K Z H p vs) := by
  intro pins s σ H x v I r ty
  obtain ⟨p, vs, rfl, hq⟩ := ty
  cases r
  rcases hq with ⟨⟨o, e, d⟩, _⟩ | ⟨o, its, n, e, c, d, _⟩
  · have hok : s.heap.get? p = some o ∧ ObjOk X.prog X.w H s.heap p (.tup vs) := I.hok p _ e
    obtain ⟨g, _, its, _, ht⟩ := hok
    exact ⟨ht.typeIs, fun a e => by cases e; exact ⟨o, g, d⟩⟩
  · exact ⟨⟨o, I.kIn p o e, c⟩, fun a e' => by cases e'; exact ⟨o, I.kIn _ o e, d⟩⟩
end

/-! ### two operands -/
def Op2 (X : Cx) (f : Value → Value → Sem Value) (F : D → D → Option D) : Prop :=
  ∃ r, OpR X f r ∧ ∀ Z H v w x y d Q, TrZ Z H → Pk X.K Z H v x → Pk X.K Z H w y → F x y = some d → RD X.K Z H d Q → r v w H Q
section
variable {X : Cx}
theorem Op2.of {f : Value → Value → Sem Value} {F : D → D → Option D} {r : R2} (h : OpR X f r) (g : ∀ Z H v w x y d Q, TrZ Z H → Pk X.K Z H v x → Pk X.K Z H w y → F x y = some d → RD X.K Z H d Q → r v w H Q) : Op2 X f F := ⟨r, h, g⟩
theorem okT_iff {x : Str} : okT x = true ↔ PyData.strOk x = true ∧ x.length ≤ LIM := by
  unfold okT; rw [Bool.and_eq_true, decide_eq_true_eq]
theorem length_app (x y : Str) : (x ++ y).length = x.length + y.length := by
  show (x.cps ++ y.cps).size = _
  rw [Array.size_append]; rfl
theorem strOk_app {x y : Str} (hx : okT x = true) (hy : okT y = true) (h : x.length + y.length ≤ LIM) : okT (x ++ y) = true := by
  rw [okT_iff] at *
  refine ⟨?_, by rw [length_app]; exact h⟩
  have hx := hx.1
  have hy := hy.1
  unfold PyData.strOk at *
  have e : (x ++ y).cps = x.cps ++ y.cps := rfl
  rw [e, Array.all_append, hx, hy]; rfl
theorem op2_add : Op2 X (binaryOp .Add) (binF .add) := by
  refine .of ((op_add.or op_add_str).or (op_catF.or op_cat)) fun Z H v w x y d Q t hx hy e q => ?_
  unfold binF at e
  split at e <;> try (first | contradiction | cases e; done)
  · cases e; obtain rfl := hx.int; obtain rfl := hy.int; exact .inl (.inl ⟨_, _, rfl, rfl, RVal.int q⟩)
  · split at e
    · rename_i h
      cases e
      obtain ⟨rfl, o1⟩ := hx.str
      obtain ⟨rfl, o2⟩ := hy.str
      exact .inl (.inr ⟨_, _, rfl, rfl, lim_line h, RVal.str q (strOk_app o1 o2 h)⟩)
    · cases e
  · split at e
    · rename_i h
      cases e
      obtain ⟨a, vs, rfl, t1, r1⟩ := hx.tup
      obtain ⟨b, ws, rfl, t2, r2⟩ := hy.tup
      refine .inr (.inl ⟨a, b, vs, ws, rfl, rfl, t1.sq, t2.sq, by rw [r1.length, r2.length]; exact lim_line h, ?_⟩)
      refine ⟨fun e0 => ?_, fun _ e0 => ?_, fun _ _ p ob n hd => RVal.tup t q (r1.append r2) n hd⟩
      · subst e0
        cases r1
        exact RVal.here q (.tup t2 r2)
      · subst e0
        cases r2
        exact RVal.here q (by rw [List.append_nil]; exact .tup t1 r1)
    · cases e
  · split at e
    · rename_i h
      cases e
      obtain ⟨a, vs, rfl, t1, r1⟩ := hx.lst
      obtain ⟨b, ws, rfl, t2, r2⟩ := hy.lst
      exact .inr (.inr ⟨a, b, vs, ws, rfl, rfl, t1, t2, by rw [r1.length, r2.length]; exact lim_line h, fun p n => RFr.new q (r1.append r2) n⟩)
    · cases e
theorem op2_sub : Op2 X (binaryOp .Sub) (binF .sub) := by
  refine .of op_sub fun Z H v w x y d Q t hx hy e q => ?_
  unfold binF at e
  split at e <;> try (first | contradiction | cases e; done)
  cases e; obtain rfl := hx.int; obtain rfl := hy.int; exact ⟨_, _, rfl, rfl, RVal.int q⟩
theorem op2_mul : Op2 X (binaryOp .Mult) (binF .mul) := by
  refine .of (op_mul.or (op_repF.or op_rep)) fun Z H v w x y d Q t hx hy e q => ?_
  unfold binF at e
  split at e <;> try (first | contradiction | cases e; done)
  · split at e
    · rename_i h
      cases e; obtain rfl := hx.int; obtain rfl := hy.int
      refine .inl ⟨_, _, rfl, rfl, ?_, RVal.int q⟩
      simp only [smallI, Bool.or_eq_true, decide_eq_true_eq] at h
      exact h
    · cases e
  · split at e
    · rename_i h
      cases e; obtain ⟨a, vs, rfl, t1, r1⟩ := hx.tup; obtain rfl := hy.int
      rw [decide_eq_true_eq] at h
      obtain ⟨h1, h2, h3⟩ := h
      refine .inr (.inl ⟨_, _, vs, rfl, rfl, t1.sq, h1, h2, by rw [r1.length]; exact h3, fun c => ?_, fun _ e p ob n hd => ?_, fun _ _ p ob n hd => RVal.tup t q (r1.flatten _) n hd⟩)
      · refine RVal.here q (.tup t1 ?_)
        rcases c with c | c
        · subst c
          cases r1
          simp only [List.flatten_replicate_nil]
          exact .nil
        · subst c
          simpa using r1
      · subst e
        exact RVal.tup t (ds := []) q .nil n hd
    · cases e
  · split at e
    · rename_i h
      cases e; obtain ⟨a, vs, rfl, t1, r1⟩ := hx.lst; obtain rfl := hy.int
      exact .inr (.inr ⟨_, _, vs, rfl, rfl, t1, by omega, by omega, by rw [r1.length]; exact lim_line h.2.2, fun p n => RFr.new q (r1.flatten _) n⟩)
    · cases e
theorem op2_div : Op2 X (binaryOp .FloorDiv) (binF .div) := by
  refine .of op_fdiv fun Z H v w x y d Q t hx hy e q => ?_
  unfold binF at e
  split at e <;> try (first | contradiction | cases e; done)
  split at e
  · rename_i h
    cases e; obtain rfl := hx.int; obtain rfl := hy.int; exact ⟨_, _, rfl, rfl, h, RVal.int q⟩
  · cases e
theorem op2_mod : Op2 X (binaryOp .Mod) (binF .mod) := by
  refine .of op_mod fun Z H v w x y d Q t hx hy e q => ?_
  unfold binF at e
  split at e <;> try (first | contradiction | cases e; done)
  split at e
  · rename_i h
    cases e; obtain rfl := hx.int; obtain rfl := hy.int; exact ⟨_, _, rfl, rfl, h, RVal.int q⟩
  · cases e
theorem op2_pow : Op2 X (binaryOp .Pow) (binF .pow) := by
  refine .of op_pow fun Z H v w x y d Q t hx hy e q => ?_
  unfold binF at e
  split at e <;> try (first | contradiction | cases e; done)
  split at e
  · rename_i h
    cases e; obtain rfl := hx.int; obtain rfl := hy.int; exact ⟨_, _, rfl, rfl, h, RVal.int q⟩
  · cases e
/-- the operator of a text -/
theorem op2_bin {op : Operator} {o : Bop} (h : bopOf op = some o) : Op2 X (binaryOp op) (binF o) := by
  cases op <;> first | (cases h; done) | (cases h; first | exact op2_add | exact op2_sub | exact op2_mul | exact op2_div | exact op2_mod | exact op2_pow)

/-! ### comparisons -/
abbrev cmpD (o : Cop) : D → D → Option D := fun x y => (cmpF o x y).map D.bl
theorem rd_bl {K : PySem.W.Frag} {Z : Addr → Prop} {H : Hp} {b : Bool} {Q : VK} (q : RD K Z H (.bl b) Q) : Q (.bl b) H := RVal.bl q
theorem op2_eq (rm : Rm X) : Op2 X (compareOp .Eq) (cmpD .eq) := by
  refine .of (op_eqD (by have := rm.un; omega)) fun Z H v w x y d Q t hx hy e q => ?_
  unfold cmpD cmpF at e
  simp only at e
  split at e
  · rename_i h
    rw [Bool.and_eq_true] at h
    cases e
    exact ⟨_, _, hx.dp h.1, hy.dp h.2, hx.shaped h.1, hy.shaped h.2, rd_bl q⟩
  · cases e
theorem op2_ne (rm : Rm X) : Op2 X (compareOp .NotEq) (cmpD .ne) := by
  refine .of (op_neD (by have := rm.un; omega)) fun Z H v w x y d Q t hx hy e q => ?_
  unfold cmpD cmpF at e
  simp only at e
  split at e
  · rename_i h
    rw [Bool.and_eq_true] at h
    cases e
    exact ⟨_, _, hx.dp h.1, hy.dp h.2, hx.shaped h.1, hy.shaped h.2, rd_bl q⟩
  · cases e
/-- two that read as data alike -/
def rOrdD (K : PySem.W.Frag) (g : PyData → PyData → Bool) : R2 := fun x y H Q => ∃ d e, Dp K H x d ∧ Dp K H y e ∧ PySem.W.alike d e = true ∧ d ≠ .none ∧ d.depth ≤ 60 ∧ Q (.bl (g d e)) H
theorem op_ltD (hu : X.A.units + 65 < cLine) : OpR X (compareOp .Lt) (rOrdD X.K PySem.W.dataLt) := by
  intro pins s σ H x y v u Q I rx ry h
  obtain ⟨d, e, hd, he, al, hn, dl, q⟩ := h
  obtain ⟨as, r1⟩ := Dp.reads I d x v hd rx
  obtain ⟨bs, r2⟩ := Dp.reads I e y u he ry
  exact PySem.W.lt_data r1 r2 al hn (by have := Nat.min_le_left d.depth e.depth; omega) ⟨.bl _, H, I, rfl, q⟩
theorem op_gtD (hu : X.A.units + 65 < cLine) : OpR X (compareOp .Gt) (rOrdD X.K fun d e => PySem.W.dataLt e d) := by
  intro pins s σ H x y v u Q I rx ry h
  obtain ⟨d, e, hd, he, al, hn, dl, q⟩ := h
  obtain ⟨as, r1⟩ := Dp.reads I d x v hd rx
  obtain ⟨bs, r2⟩ := Dp.reads I e y u he ry
  exact PySem.W.gt_data r1 r2 al hn (by have := Nat.min_le_left d.depth e.depth; omega) ⟨.bl _, H, I, rfl, q⟩
theorem op_leD (hu : X.A.units + 65 < cLine) : OpR X (compareOp .LtE) (rOrdD X.K fun d e => !PySem.W.dataLt e d) := by
  intro pins s σ H x y v u Q I rx ry h
  obtain ⟨d, e, hd, he, al, hn, dl, q⟩ := h
  obtain ⟨as, r1⟩ := Dp.reads I d x v hd rx
  obtain ⟨bs, r2⟩ := Dp.reads I e y u he ry
  exact PySem.W.le_data r1 r2 al hn (by have := Nat.min_le_left d.depth e.depth; omega) ⟨.bl _, H, I, rfl, q⟩
theorem op_geD (hu : X.A.units + 65 < cLine) : OpR X (compareOp .GtE) (rOrdD X.K fun d e => !PySem.W.dataLt d e) := by
  intro pins s σ H x y v u Q I rx ry h
  obtain ⟨d, e, hd, he, al, hn, dl, q⟩ := h
  obtain ⟨as, r1⟩ := Dp.reads I d x v hd rx
  obtain ⟨bs, r2⟩ := Dp.reads I e y u he ry
  exact PySem.W.ge_data r1 r2 al hn (by have := Nat.min_le_left d.depth e.depth; omega) ⟨.bl _, H, I, rfl, q⟩
theorem ordF_cases {f : Int → Int → Bool} {g : D → D → Bool} {x y : D} {b : Bool} (h : ordF f g x y = some b) : (∃ i j, x = .int i ∧ y = .int j ∧ b = f i j) ∨ (ordOk x y = true ∧ b = g x y) := by
  unfold ordF at h
  split at h
  · cases h; exact .inl ⟨_, _, rfl, rfl, rfl⟩
  · split at h
    · rename_i c
      cases h; exact .inr ⟨c, rfl⟩
    · cases h
theorem notN_py {d : D} (h : isNon d = false) : toPy d ≠ .none := by
  cases d <;> simp only [toPy, isNon] at h ⊢ <;> first | contradiction | (intro e; cases e)
theorem op2_ord {op : CmpOp} {o : Cop} {f : Int → Int → Bool} {g : D → D → Bool} {g' : PyData → PyData → Bool} (r : OpR X (compareOp op) (rI0 fun i j => .bl (f i j))) (r' : OpR X (compareOp op) (rOrdD X.K g')) (hg : ∀ x y, g x y = g' (toPy x) (toPy y)) (hf : ∀ x y, cmpF o x y = ordF f g x y) : Op2 X (compareOp op) (cmpD o) := by
  refine .of (r.or r') fun Z H v w x y d Q t hx hy e q => ?_
  obtain ⟨b, hb, rfl⟩ := Option.map_eq_some_iff.mp e
  rw [hf] at hb
  rcases ordF_cases hb with ⟨i, j, rfl, rfl, rfl⟩ | ⟨hk, rfl⟩
  · obtain rfl := hx.int; obtain rfl := hy.int; exact .inl ⟨_, _, rfl, rfl, rd_bl q⟩
  · unfold ordOk at hk
    simp only [Bool.and_eq_true, Bool.not_eq_true'] at hk
    obtain ⟨h1, h2, h3, h4⟩ := hk
    have hd : dep x ≤ 60 := of_decide_eq_true h1
    exact .inr ⟨_, _, hx.dp h1, hy.dp h2, h3, notN_py h4, Nat.le_trans (dep_py x hd) hd, by rw [← hg]; exact rd_bl q⟩
theorem op2_lt (rm : Rm X) : Op2 X (compareOp .Lt) (cmpD .lt) := op2_ord op_lt (op_ltD (by have := rm.un; omega)) (fun _ _ => rfl) fun _ _ => rfl
theorem op2_le (rm : Rm X) : Op2 X (compareOp .LtE) (cmpD .le) := op2_ord op_le (op_leD (by have := rm.un; omega)) (fun _ _ => rfl) fun _ _ => rfl
theorem op2_gt (rm : Rm X) : Op2 X (compareOp .Gt) (cmpD .gt) := op2_ord op_gt (op_gtD (by have := rm.un; omega)) (fun _ _ => rfl) fun _ _ => rfl
theorem op2_ge (rm : Rm X) : Op2 X (compareOp .GtE) (cmpD .ge) := op2_ord op_ge (op_geD (by have := rm.un; omega)) (fun _ _ => rfl) fun _ _ => rfl
theorem Pk.nonB {K : PySem.W.Frag} {Z : Addr → Prop} {H : Hp} {v : V} {d : D} (h : Pk K Z H v d) : decide (v = .non) = isNon d := by
  cases d with
  | non => rw [h.non]; rfl
  | bl b => rw [h.bl]; rfl
  | int b => rw [h.int]; rfl
  | str b => rw [h.str.1]; rfl
  | tup b => obtain ⟨a, vs, e, _⟩ := h.tup; rw [e]; rfl
  | lst b => obtain ⟨a, vs, e, _⟩ := h.lst; rw [e]; rfl
  | scr b => obtain ⟨a, e, _⟩ := h.scr; rw [e]; rfl
  | dct _ _ => obtain ⟨a, vs, e, _⟩ := h.dct; rw [e]; rfl
  | obj _ _ _ => obtain ⟨a, _, _, _, e, _⟩ := h.obj; rw [e]; rfl
theorem op2_isN : Op2 X (compareOp .Is) (fun x y => match y with | .non => cmpD .isN x y | _ => none) := by
  refine .of op_isN fun Z H v w x y d Q t hx hy e q => ?_
  split at e
  · cases e; obtain rfl := hy.non
    exact ⟨rfl, by rw [hx.nonB]; exact rd_bl q⟩
  · cases e
theorem op2_notN : Op2 X (compareOp .IsNot) (fun x y => match y with | .non => cmpD .notN x y | _ => none) := by
  refine .of op_notN fun Z H v w x y d Q t hx hy e q => ?_
  split at e
  · cases e; obtain rfl := hy.non
    exact ⟨rfl, by rw [hx.nonB]; exact rd_bl q⟩
  · cases e
theorem dec_beq (a b : Bool) : decide (a = b) = (a == b) := by cases a <;> cases b <;> rfl
theorem op2_isB (b : Bool) : Op2 X (compareOp .Is) (fun x y => match y with | .bl c => if c = b then cmpD (.isB b) x y else none | _ => none) := by
  refine .of op_isBl fun Z H v w x y d Q t hx hy e q => ?_
  split at e
  · split at e
    · rename_i hc
      subst hc
      unfold cmpD cmpF isF at e
      simp only at e
      split at e
      · cases e; obtain rfl := hy.bl; obtain rfl := hx.bl
        exact ⟨_, _, rfl, rfl, by rw [dec_beq]; exact rd_bl q⟩
      · cases e
    · cases e
  · cases e
theorem op2_notB (b : Bool) : Op2 X (compareOp .IsNot) (fun x y => match y with | .bl c => if c = b then cmpD (.notB b) x y else none | _ => none) := by
  refine .of op_notBl fun Z H v w x y d Q t hx hy e q => ?_
  split at e
  · split at e
    · rename_i hc
      subst hc
      unfold cmpD cmpF isF at e
      simp only at e
      split at e
      · cases e; obtain rfl := hy.bl; obtain rfl := hx.bl
        exact ⟨_, _, rfl, rfl, by rw [dec_beq]; exact rd_bl q⟩
      · cases e
    · cases e
  · cases e
/-- x in a list, a tuple, by any data -/
def rInA (K : PySem.W.Frag) (neg : Bool) : R2 := fun x y H Q => ∃ (p : Addr) (vs : List V) (d : PyData) (ds : List PyData), y = .ref p ∧ (SqL K H p vs ∨ SqT K H p vs) ∧ DpAll K H vs ds ∧ Dp K H x d ∧ PyData.canLayAll0 ds = true ∧ SeqAt.shaped d = true ∧
  Q (.bl (if neg then !(ds.any fun z => PyData.eqv z d) else ds.any fun z => PyData.eqv z d)) H
theorem any_read {h : Heap} {its : List Value} {ds : List PyData} {d : PyData} (e : its.map (SeqAt.readOf h) = ds) : its.toArray.any (fun u => PyData.eqv (SeqAt.readOf h u) d) = ds.any fun z => PyData.eqv z d := by
  subst e
  rw [show its.toArray.any (fun u => PyData.eqv (SeqAt.readOf h u) d) = its.any (fun u => PyData.eqv (SeqAt.readOf h u) d) by simp, List.any_map]
  rfl
theorem op_inA (hu : X.A.units + 65 < cLine) : OpR X (compareOp .In) (rInA X.K false) := by
  intro pins s σ H x y v u Q I rx ry h
  obtain ⟨p, vs, d, ds, rfl, hq, ha, hd, hl, sd, q⟩ := h
  cases ry
  obtain ⟨bs, r1⟩ := Dp.reads I d x v hd rx
  rcases hq with hq | hq
  · obtain ⟨its, r, pl, hz⟩ := I.list hq
    obtain ⟨as, h4⟩ := Dp.readsAll I ds _ its ha r
    refine SeqAt.in_listAt (fun u => PyData.eqv (SeqAt.readOf s.heap u) d) pl.isList (SeqAt.items_eqAt (vs := its.toArray) (show ReadsAll s.heap its.toArray.toList ds as from h4) r1 hl (SeqAt.canLay_of_shaped sd) (room_in_shaped sd hu)) ⟨.bl _, H, I, rfl, ?_⟩
    rw [any_read (SeqAt.readsAll_map ds its as hl h4)]
    exact q
  · obtain ⟨its, r, pl, hz⟩ := I.tuple hq
    obtain ⟨as, h4⟩ := Dp.readsAll I ds _ its ha r
    refine SeqAt.in_tupleAt (fun u => PyData.eqv (SeqAt.readOf s.heap u) d) pl (SeqAt.items_eqAt (vs := its.toArray) (show ReadsAll s.heap its.toArray.toList ds as from h4) r1 hl (SeqAt.canLay_of_shaped sd) (room_in_shaped sd hu)) ⟨.bl _, H, I, rfl, ?_⟩
    rw [any_read (SeqAt.readsAll_map ds its as hl h4)]
    exact q
theorem op_notInA (hu : X.A.units + 65 < cLine) : OpR X (compareOp .NotIn) (rInA X.K true) := by
  intro pins s σ H x y v u Q I rx ry h
  obtain ⟨p, vs, d, ds, rfl, hq, ha, hd, hl, sd, q⟩ := h
  cases ry
  obtain ⟨bs, r1⟩ := Dp.reads I d x v hd rx
  rcases hq with hq | hq
  · obtain ⟨its, r, pl, hz⟩ := I.list hq
    obtain ⟨as, h4⟩ := Dp.readsAll I ds _ its ha r
    refine SeqAt.notIn_listAt (fun u => PyData.eqv (SeqAt.readOf s.heap u) d) pl.isList (SeqAt.items_eqAt (vs := its.toArray) (show ReadsAll s.heap its.toArray.toList ds as from h4) r1 hl (SeqAt.canLay_of_shaped sd) (room_in_shaped sd hu)) ⟨.bl _, H, I, rfl, ?_⟩
    rw [any_read (SeqAt.readsAll_map ds its as hl h4)]
    exact q
  · obtain ⟨its, r, pl, hz⟩ := I.tuple hq
    obtain ⟨as, h4⟩ := Dp.readsAll I ds _ its ha r
    refine SeqAt.notIn_tupleAt (fun u => PyData.eqv (SeqAt.readOf s.heap u) d) pl (SeqAt.items_eqAt (vs := its.toArray) (show ReadsAll s.heap its.toArray.toList ds as from h4) r1 hl (SeqAt.canLay_of_shaped sd) (room_in_shaped sd hu)) ⟨.bl _, H, I, rfl, ?_⟩
    rw [any_read (SeqAt.readsAll_map ds its as hl h4)]
    exact q
theorem any_py (ds : List D) (d : D) : ((toPys ds).any fun z => PyData.eqv z (toPy d)) = ds.any fun z => eqD z d := by
  rw [toPys_map, List.any_map]; rfl
theorem sign_of {x : Str} (h : x.cps.size = 1) : x = ⟨#[x.cps.getD 0 0]⟩ := by
  obtain ⟨a⟩ := x
  obtain ⟨l⟩ := a
  match l, h with
  | [c], _ => rfl
theorem inF_cases {x y : D} {b : Bool} (h : inF x y = some b) : (∃ ys, seqOf y = some ys ∧ shal x = true ∧ ys.all shal = true ∧ b = ys.any fun z => eqD z x) ∨
    (∃ c z, y = .str z ∧ x = .str c ∧ c.cps.size = 1 ∧ b = decide (c.cps.getD 0 0 ∈ z.cps.toList)) ∨ ∃ ks vs z, y = .dct ks vs ∧ x = .str z ∧ b = (dGet ks vs z).isSome := by
  unfold inF at h
  split at h
  · split at h
    · rename_i h1; rw [Bool.and_eq_true] at h1; cases h; exact .inl ⟨_, rfl, h1.1, h1.2, rfl⟩
    · cases h
  · split at h
    · rename_i h1; rw [Bool.and_eq_true] at h1; cases h; exact .inl ⟨_, rfl, h1.1, h1.2, rfl⟩
    · cases h
  · split at h
    · rename_i h1; cases h; exact .inr (.inl ⟨_, _, rfl, rfl, h1, rfl⟩)
    · cases h
  · cases h; exact .inr (.inr ⟨_, _, _, rfl, rfl, rfl⟩)
  · cases h
/-- a dict's places -/
theorem valV_kvZ {x : Str} : ∀ {ks : List Str} {vs : List V}, valV (kvZ ks vs) (.inr x) = dGet ks vs x
  | [], vs => by cases vs <;> rfl
  | k :: ks, [] => rfl
  | k :: ks, v :: vs => by
    show valV ((Sum.inr k, v) :: kvZ ks vs) (.inr x) = if k = x then some v else dGet ks vs x
    by_cases h : k = x
    · rw [if_pos h, valV_pos (p := (Sum.inr k, v)) (by rw [h])]
    · rw [if_neg h, valV_neg (p := (Sum.inr k, v)) (fun e => h (Sum.inr.inj e)), valV_kvZ]
theorem Reps.dget {K : PySem.W.Frag} {Z : Addr → Prop} {H : Hp} {x : Str} : ∀ {ks : List Str} {vs : List V} {ds : List D}, Reps K Z H vs ds → ∀ d, dGet ks ds x = some d → ∃ v, dGet ks vs x = some v ∧ Rep K Z H v d
  | [], _, _, r, d, h => by cases r <;> cases h
  | k :: ks, _, _, .nil, d, h => by cases h
  | k :: ks, _, _, .cons (v := v) r t, d, h => by
    unfold dGet at h ⊢
    by_cases e : k = x
    · rw [if_pos e] at h ⊢
      cases h
      exact ⟨v, rfl, r⟩
    · rw [if_neg e] at h ⊢
      exact Reps.dget t d h
theorem Reps.dsome {K : PySem.W.Frag} {Z : Addr → Prop} {H : Hp} {x : Str} : ∀ {ks : List Str} {vs : List V} {ds : List D}, Reps K Z H vs ds → (dGet ks vs x).isSome = (dGet ks ds x).isSome
  | [], _, _, r => by cases r <;> rfl
  | k :: ks, _, _, .nil => rfl
  | k :: ks, _, _, .cons r t => by
    unfold dGet
    by_cases e : k = x
    · rw [if_pos e, if_pos e]; rfl
    · rw [if_neg e, if_neg e]; exact Reps.dsome t
theorem op_in_dict (hu : X.A.units + 1 < cLine) : OpR X (compareOp .In) (fun y x H Q => ∃ a o, x = .ref a ∧ DGet H a y o ∧ Q (.bl o.isSome) H) := by
  intro pins s σ H y x v u Q I ry rx h
  obtain ⟨a, o, rfl, g, q⟩ := h
  obtain rfl : u = Value.ref a := rx
  exact d_in hu I g ry fun s' I' => ⟨.bl o.isSome, H, I', rfl, q⟩
theorem op_notIn_dict (hu : X.A.units + 1 < cLine) : OpR X (compareOp .NotIn) (fun y x H Q => ∃ a o, x = .ref a ∧ DGet H a y o ∧ Q (.bl (!o.isSome)) H) := by
  intro pins s σ H y x v u Q I ry rx h
  obtain ⟨a, o, rfl, g, q⟩ := h
  obtain rfl : u = Value.ref a := rx
  exact d_notIn hu I g ry fun s' I' => ⟨.bl (!o.isSome), H, I', rfl, q⟩
theorem ix_dict (hu : X.A.units + 1 < cLine) : IxR X (fun x y H Q => ∃ a v, x = .ref a ∧ DGet H a y (some v) ∧ Q v H) := by
  intro value slice pins s σ H x y v u Q I rx ry h hs
  obtain ⟨a, z, rfl, g, q⟩ := h
  obtain rfl : v = Value.ref a := rx
  exact tail_any (dict_typeIs I g) PySem.F.slot_dict_getitem.lookup (d_getItem hu I g ry fun w' s' I' rw' => ⟨z, H, I', rw', q⟩) hs
theorem op2_in_gen {op : CmpOp} {neg : Bool} {o : Cop} (rm : Rm X) (r1 : OpR X (compareOp op) (rInA X.K neg)) (r2 : OpR X (compareOp op) (fun x y H Q => ∃ (c : Nat) (z : Str), x = .str ⟨#[c]⟩ ∧ y = .str z ∧ Q (.bl (if neg then !decide (c ∈ z.cps.toList) else decide (c ∈ z.cps.toList))) H))
    (r3 : OpR X (compareOp op) (fun y x H Q => ∃ a o, x = .ref a ∧ DGet H a y o ∧ Q (.bl (if neg then !o.isSome else o.isSome)) H))
    (ho : ∀ x y, cmpF o x y = (inF x y).map fun b => if neg then !b else b) : Op2 X (compareOp op) (cmpD o) := by
  refine .of (r1.or (r2.or r3)) fun Z H v w x y d Q t hx hy e q => ?_
  unfold cmpD at e
  rw [ho] at e
  obtain ⟨b1, e1, rfl⟩ := Option.map_eq_some_iff.mp e
  obtain ⟨b, e2, rfl⟩ := Option.map_eq_some_iff.mp e1
  rcases inF_cases e2 with ⟨ys, hs, h1, h2, rfl⟩ | ⟨c, z, rfl, rfl, h1, rfl⟩ | ⟨ks, ds, z, rfl, rfl, rfl⟩
  · obtain ⟨a, vs, rfl, hq, rr⟩ := hy.seq hs
    refine .inl ⟨a, vs, _, _, rfl, hq, rr.dp (deps_of h2), hx.dp h1, rr.lay (deps_of h2), hx.shaped h1, ?_⟩
    rw [any_py]
    exact rd_bl q
  · obtain ⟨rfl, _⟩ := hx.str
    obtain ⟨rfl, _⟩ := hy.str
    exact .inr (.inl ⟨_, _, by rw [← sign_of h1], rfl, rd_bl q⟩)
  · obtain ⟨a, vs, rfl, t1, r1⟩ := hy.dct
    obtain ⟨rfl, _⟩ := hx.str
    refine .inr (.inr ⟨a, _, rfl, DGet.k (k := .inr z) t1, ?_⟩)
    rw [valV_kvZ, r1.dsome]
    exact rd_bl q
theorem op2_in (rm : Rm X) : Op2 X (compareOp .In) (cmpD .inn) := op2_in_gen (neg := false) rm (op_inA (by have := rm.un; omega)) op_in_sign (op_in_dict (by have := rm.un; omega)) fun x y => by unfold cmpF; cases inF x y <;> rfl
theorem op2_notIn (rm : Rm X) : Op2 X (compareOp .NotIn) (cmpD .notIn) := op2_in_gen (neg := true) rm (op_notInA (by have := rm.un; omega)) op_notIn_sign (op_notIn_dict (by have := rm.un; omega)) fun x y => by unfold cmpF; cases inF x y <;> rfl

/-! ### an index -/
def Ix2 (X : Cx) : Prop := ∃ r, IxR X r ∧ ∀ Z H v w x y d Q, TrZ Z H → Pk X.K Z H v x → Pk X.K Z H w y → idxF x y = some d → RVal X.K Z H d Q → r v w H Q
theorem atP_eq {α : Type} (xs : List α) (i : Int) : atP xs i = atI xs i := rfl
theorem atI_map {α β : Type} (f : α → β) (xs : List α) (i : Int) : atI (xs.map f) i = (atI xs i).map f := by
  unfold atI
  rw [List.length_map]
  cases ixN xs.length i with
  | none => rfl
  | some j => simp
theorem Reps.at {K : PySem.W.Frag} {Z : Addr → Prop} {H : Hp} {vs : List V} {ds : List D} {i : Int} {d : D} (r : Reps K Z H vs ds) (h : atP ds i = some d) : ∃ v, atI vs i = some v ∧ Rep K Z H v d := by
  rw [atP_eq] at h
  unfold atI at h ⊢
  rw [r.length]
  cases e : ixN ds.length i with
  | none => rw [e] at h; cases h
  | some j =>
    rw [e] at h
    exact r.get h
theorem strOk_one {x : Str} (o : okT x = true) {c : Nat} (h : c ∈ x.cps.toList) : okT ⟨#[c]⟩ = true := by
  rw [okT_iff] at *
  refine ⟨?_, by show 1 ≤ LIM; decide⟩
  have o := o.1
  unfold PyData.strOk at *
  rw [Array.all_eq_true'] at o
  simp only [List.all_toArray, List.all_cons, List.all_nil, Bool.and_true]
  exact o c (by simpa using h)
theorem atI_mem {α : Type} {xs : List α} {i : Int} {c : α} (h : atI xs i = some c) : c ∈ xs := by
  obtain ⟨j, _, e, _⟩ := atI_get h
  exact List.mem_of_getElem? e
theorem ix2 (rm : Rm X) : Ix2 X := by
  refine ⟨_, ix_seq.or (ix_dict (by have := rm.un; omega)), fun Z H v w x y d Q t hx hy e q => ?_⟩
  unfold idxF at e
  split at e
  · obtain ⟨a, vs, rfl, t1, r1⟩ := hx.tup; obtain rfl := hy.int
    obtain ⟨u, h1, h2⟩ := r1.at e
    exact .inl (.inr (.inl ⟨a, vs, _, u, rfl, rfl, t1.sq, h1, RVal.here q h2⟩))
  · obtain ⟨a, vs, rfl, t1, r1⟩ := hx.lst; obtain rfl := hy.int
    obtain ⟨u, h1, h2⟩ := r1.at e
    exact .inl (.inl ⟨a, vs, _, u, rfl, rfl, SqL.of t1, h1, RVal.here q h2⟩)
  · obtain ⟨a, rfl, t1⟩ := hx.scr; obtain rfl := hy.int
    obtain ⟨n, hn, rfl⟩ := Option.map_eq_some_iff.mp e
    exact .inl (.inl ⟨a, _, _, .int n, rfl, rfl, t1.sq, by rw [atI_map, ← atP_eq, hn]; rfl, RVal.int q⟩)
  · obtain ⟨rfl, o⟩ := hx.str; obtain rfl := hy.int
    obtain ⟨n, hn, rfl⟩ := Option.map_eq_some_iff.mp e
    exact .inl (.inr (.inr ⟨_, _, n, rfl, rfl, lim_line (okT_iff.mp o).2, hn, RVal.str q (strOk_one o (atI_mem hn))⟩))
  · obtain ⟨a, vs, rfl, t1, r1⟩ := hx.dct; obtain ⟨rfl, _⟩ := hy.str
    obtain ⟨v, h1, h2⟩ := r1.dget _ e
    refine .inr ⟨a, v, rfl, ?_, RVal.here q h2⟩
    have g := fun x : Str => DGet.k (k := Sum.inr x) t1
    simp only [valV_kvZ] at g
    rw [← h1]
    exact g _
  · cases e

/-! ### a slice -/
def Sl2 (X : Cx) : Prop := ∃ r, SlR X r ∧ ∀ Z H v x lo hi d Q, TrZ Z H → Pk X.K Z H v x → slF x lo hi = some d → RD X.K Z H d Q → r v lo hi H Q
theorem cutN_eq (n d : Nat) (o : Option Int) : cutN n d o = HT.sIx n d o := by
  cases o with
  | none => rfl
  | some v =>
    unfold cutN
    have h := HT.clip_eq v n d
    show (if v < 0 then (v + (n : Int)).toNat else min v.toNat n) = _
    by_cases hv : v < 0
    · rw [if_pos hv]; rw [if_pos hv] at h; omega
    · rw [if_neg hv]; rw [if_neg hv] at h; omega
theorem cutL_cut (xs : List V) (lo hi : Option Int) : cutL xs lo hi = cutV xs lo hi := by
  unfold cutL cutV
  rw [cutN_eq, cutN_eq]
theorem Reps.cut {K : PySem.W.Frag} {Z : Addr → Prop} {H : Hp} {vs : List V} {ds : List D} (r : Reps K Z H vs ds) (lo hi : Option Int) : Reps K Z H (cutV vs lo hi) (cutL ds lo hi) := by
  rw [← cutL_cut]
  unfold cutL
  rw [r.length]
  exact (r.drop _).take _
theorem cut_str {x : Str} {lo hi : Option Int} : (⟨(cutL x.cps.toList lo hi).toArray⟩ : Str) = cutS x lo hi := by
  unfold cutL cutS
  rw [cutN_eq, cutN_eq]
  rfl
theorem strOk_sub {x : Str} (o : okT x = true) {l : List Nat} (hl : l.length ≤ x.length) (h : ∀ c ∈ l, c ∈ x.cps.toList) : okT ⟨l.toArray⟩ = true := by
  rw [okT_iff] at *
  refine ⟨?_, Nat.le_trans hl o.2⟩
  have o := o.1
  unfold PyData.strOk at *
  rw [Array.all_eq_true'] at o ⊢
  intro c hc
  exact o c (by simpa using h c (by simpa using hc))
theorem sl2 : Sl2 X := by
  refine ⟨_, (sl_tupF.or (sl_list.or sl_str)), fun Z H v x lo hi d Q t hx e q => ?_⟩
  unfold slF at e
  split at e
  · cases e
    obtain ⟨a, vs, rfl, t1, r1⟩ := hx.tup
    refine .inl ⟨a, vs, rfl, t1.sq, fun h => ?_, fun _ p ob n hd => RVal.tup t q (r1.cut lo hi) n hd⟩
    refine RVal.here q (.tup t1 ?_)
    have e : cutV vs lo hi = vs := by
      unfold cutV
      rw [h.1, h.2]
      simp
    have := r1.cut lo hi
    rw [e] at this
    exact this
  · cases e
    obtain ⟨a, vs, rfl, t1, r1⟩ := hx.lst
    exact .inr (.inl ⟨a, vs, rfl, SqL.of t1, fun p n => RFr.new q (r1.cut lo hi) n⟩)
  · cases e
    obtain ⟨rfl, o⟩ := hx.str
    refine .inr (.inr ⟨_, rfl, lim_line (okT_iff.mp o).2, ?_⟩)
    rw [← cut_str]
    exact RVal.str q (strOk_sub o (by
      unfold cutL
      rw [List.length_take, List.length_drop]
      exact Nat.le_trans (Nat.min_le_right _ _) (Nat.sub_le _ _)) fun c hc => List.mem_of_mem_drop (List.mem_of_mem_take hc))
  · cases e

/-! ### calls -/
def Ca (X : Cx) (f : Value) (F : List D → Option D) : Prop := ∃ r, CallR X f r ∧ ∀ Z H vs xs d Q, TrZ Z H → Paired (Pk X.K Z H) vs xs → F xs = some d → RD X.K Z H d Q → r vs H Q
def Me (X : Cx) (id : String) (F : D → List D → Option D) : Prop := ∃ r, MtR X id r ∧ ∀ Z H v vs x xs d Q, TrZ Z H → Pk X.K Z H v x → Paired (Pk X.K Z H) vs xs → F x xs = some d → RVal X.K Z H d Q → r v vs H Q
theorem Ca.of {f : Value} {F : List D → Option D} {r : List V → Hp → VK → Prop} (h : CallR X f r) (g : ∀ Z H vs xs d Q, TrZ Z H → Paired (Pk X.K Z H) vs xs → F xs = some d → RD X.K Z H d Q → r vs H Q) : Ca X f F := ⟨r, h, g⟩
theorem pk1 {K : PySem.W.Frag} {Z : Addr → Prop} {H : Hp} {vs : List V} {x : D} (h : Paired (Pk K Z H) vs [x]) : ∃ v, vs = [v] ∧ Pk K Z H v x := by
  cases h with | cons a b => cases b; exact ⟨_, rfl, a⟩
theorem pk2 {K : PySem.W.Frag} {Z : Addr → Prop} {H : Hp} {vs : List V} {x y : D} (h : Paired (Pk K Z H) vs [x, y]) : ∃ v w, vs = [v, w] ∧ Pk K Z H v x ∧ Pk K Z H w y := by
  cases h with | cons a b => cases b with | cons b c => cases c; exact ⟨_, _, rfl, a, b⟩
theorem ca_len : Ca X (.builtin "len") (bltF .len) := by
  refine .of (call_len_seq.or call_len_str) fun Z H vs xs d Q t hx e q => ?_
  unfold bltF at e
  split at e <;> try (first | contradiction | (cases e; done))
  · cases e; obtain ⟨v, rfl, h⟩ := pk1 hx; obtain ⟨a, ws, rfl, t1, r1⟩ := h.tup
    exact .inl ⟨a, ws, rfl, .inr t1.sq, by rw [r1.length]; exact RVal.int q⟩
  · cases e; obtain ⟨v, rfl, h⟩ := pk1 hx; obtain ⟨a, ws, rfl, t1, r1⟩ := h.lst
    exact .inl ⟨a, ws, rfl, .inl (SqL.of t1), by rw [r1.length]; exact RVal.int q⟩
  · cases e; obtain ⟨v, rfl, h⟩ := pk1 hx; obtain ⟨a, rfl, t1⟩ := h.scr
    exact .inl ⟨a, _, rfl, .inl t1.sq, by rw [List.length_map]; exact RVal.int q⟩
  · cases e; obtain ⟨v, rfl, h⟩ := pk1 hx; obtain ⟨rfl, o⟩ := h.str
    exact .inr ⟨_, rfl, lim_line (okT_iff.mp o).2, RVal.int q⟩
theorem ca_abs : Ca X (.builtin "abs") (bltF .abs) := by
  refine .of call_abs fun Z H vs xs d Q t hx e q => ?_
  unfold bltF at e
  split at e <;> try (first | contradiction | (cases e; done))
  cases e; obtain ⟨v, rfl, h⟩ := pk1 hx; obtain rfl := h.int
  exact ⟨_, rfl, RVal.int q⟩
theorem ca_int : Ca X (.type "int") (bltF .int) := by
  refine .of call_int1 fun Z H vs xs d Q t hx e q => ?_
  unfold bltF at e
  split at e <;> try (first | contradiction | (cases e; done))
  · cases e; obtain ⟨v, rfl, h⟩ := pk1 hx; obtain rfl := h.int
    exact .inl ⟨_, rfl, RVal.int q⟩
  · cases e; obtain ⟨v, rfl, h⟩ := pk1 hx; obtain rfl := h.bl
    exact .inr ⟨_, rfl, RVal.int q⟩
theorem ca_bool : Ca X (.type "bool") (bltF .bool) := by
  refine .of call_bool1 fun Z H vs xs d Q t hx e q => ?_
  unfold bltF at e
  split at e <;> try (first | contradiction | (cases e; done))
  · cases e; obtain ⟨v, rfl, h⟩ := pk1 hx; obtain rfl := h.int
    exact .inl ⟨_, rfl, RVal.bl q⟩
  · cases e; obtain ⟨v, rfl, h⟩ := pk1 hx; obtain rfl := h.bl
    exact .inr ⟨_, rfl, RVal.bl q⟩
theorem ca_list : Ca X (.type "list") (bltF .list) := by
  refine .of call_list_of fun Z H vs xs d Q t hx e q => ?_
  unfold bltF at e
  split at e <;> try (first | contradiction | (cases e; done))
  · cases e; obtain ⟨v, rfl, h⟩ := pk1 hx; obtain ⟨a, ws, rfl, t1, r1⟩ := h.tup
    exact ⟨a, ws, rfl, .inr t1.sq, fun p n => RFr.new q r1 n⟩
  · cases e; obtain ⟨v, rfl, h⟩ := pk1 hx; obtain ⟨a, ws, rfl, t1, r1⟩ := h.lst
    exact ⟨a, ws, rfl, .inl (SqL.of t1), fun p n => RFr.new q r1 n⟩
  · cases e; obtain ⟨v, rfl, h⟩ := pk1 hx; obtain ⟨a, rfl, t1⟩ := h.scr
    exact ⟨a, _, rfl, .inl t1.sq, fun p n => RFr.new q (Reps.ints _) n⟩
theorem ca_tuple : Ca X (.type "tuple") (bltF .tuple) := by
  refine .of call_tupleF fun Z H vs xs d Q t hx e q => ?_
  unfold bltF at e
  split at e <;> try (first | contradiction | (cases e; done))
  · cases e; obtain ⟨v, rfl, h⟩ := pk1 hx; obtain ⟨a, ws, rfl, t1, r1⟩ := h.tup
    exact ⟨a, ws, rfl, .inr ⟨t1.sq, RVal.here q (.tup t1 r1)⟩⟩
  · cases e; obtain ⟨v, rfl, h⟩ := pk1 hx; obtain ⟨a, ws, rfl, t1, r1⟩ := h.lst
    exact ⟨a, ws, rfl, .inl ⟨SqL.of t1, fun p ob n hd => RVal.tup t q r1 n hd⟩⟩
theorem Reps.bls {K : PySem.W.Frag} {Z : Addr → Prop} {H : Hp} : ∀ {vs : List V} {ds : List D} {bs : List Bool}, Reps K Z H vs ds → blsOf ds = some bs → vs = bs.map V.bl
  | _, _, _, .nil, e => by cases e; rfl
  | _, _, _, .cons r t, e => by
    cases r <;> try (first | contradiction | (cases e; done))
    obtain ⟨cs, h1, rfl⟩ := Option.map_eq_some_iff.mp e
    rw [Reps.bls t h1]; rfl
theorem Reps.intsD {K : PySem.W.Frag} {Z : Addr → Prop} {H : Hp} : ∀ {vs : List V} {ds : List D} {bs : List Int}, Reps K Z H vs ds → intsOf ds = some bs → vs = bs.map V.int
  | _, _, _, .nil, e => by cases e; rfl
  | _, _, _, .cons r t, e => by
    cases r <;> try (first | contradiction | (cases e; done))
    obtain ⟨cs, h1, rfl⟩ := Option.map_eq_some_iff.mp e
    rw [Reps.intsD t h1]; rfl
theorem Reps.strsD {K : PySem.W.Frag} {Z : Addr → Prop} {H : Hp} : ∀ {vs : List V} {ds : List D} {bs : List Str}, Reps K Z H vs ds → strsOf ds = some bs → vs = bs.map V.str ∧ ∀ b ∈ bs, okT b = true
  | _, _, _, .nil, e => by cases e; exact ⟨rfl, fun _ h => by cases h⟩
  | _, _, _, .cons r t, e => by
    cases r <;> try (first | contradiction | (cases e; done))
    rename_i o
    obtain ⟨cs, h1, rfl⟩ := Option.map_eq_some_iff.mp e
    obtain ⟨h2, h3⟩ := Reps.strsD t h1
    rw [h2]
    exact ⟨rfl, fun b hb => (List.mem_cons.mp hb).elim (fun e => by rw [e]; exact o) (h3 b)⟩
theorem ca_all (rm : Rm X) : Ca X (.builtin "all") (bltF .all) := by
  refine .of (cr_all rm.calm) fun Z H vs xs d Q t hx e q => ?_
  unfold bltF at e
  split at e <;> try (first | contradiction | (cases e; done))
  obtain ⟨bs, h1, rfl⟩ := Option.map_eq_some_iff.mp e
  obtain ⟨v, rfl, h⟩ := pk1 hx; obtain ⟨a, ws, rfl, t1, r1⟩ := h.lst
  obtain rfl := r1.bls h1
  exact ⟨a, bs, rfl, SqL.of t1, RVal.bl q⟩
theorem ca_any (rm : Rm X) : Ca X (.builtin "any") (bltF .any) := by
  refine .of (cr_any rm.calm) fun Z H vs xs d Q t hx e q => ?_
  unfold bltF at e
  split at e <;> try (first | contradiction | (cases e; done))
  obtain ⟨bs, h1, rfl⟩ := Option.map_eq_some_iff.mp e
  obtain ⟨v, rfl, h⟩ := pk1 hx; obtain ⟨a, ws, rfl, t1, r1⟩ := h.lst
  obtain rfl := r1.bls h1
  exact ⟨a, bs, rfl, SqL.of t1, RVal.bl q⟩
theorem ca_sum (rm : Rm X) : Ca X (.builtin "sum") (bltF .sum) := by
  refine .of (cr_sum rm.calm) fun Z H vs xs d Q t hx e q => ?_
  unfold bltF at e
  split at e <;> try (first | contradiction | (cases e; done))
  obtain ⟨bs, h1, rfl⟩ := Option.map_eq_some_iff.mp e
  obtain ⟨v, rfl, h⟩ := pk1 hx; obtain ⟨a, ws, rfl, t1, r1⟩ := h.lst
  obtain rfl := r1.intsD h1
  exact ⟨a, bs, rfl, SqL.of t1, RVal.int q⟩
/-- the least, the greatest -/
theorem minI_spec : ∀ (l : List Int) (m k : Int), (k ∈ m :: l) → (∀ y, y ∈ m :: l → k ≤ y) → minI l m = k
  | [], m, k, h1, h2 => by simp at h1; exact h1.symm
  | x :: r, m, k, h1, h2 => by
    unfold minI
    have a1 := h2 m (by simp)
    have a2 := h2 x (by simp)
    refine minI_spec r _ k ?_ fun y hy => ?_
    · rcases List.mem_cons.mp h1 with e | h1
      · split
        · omega
        · simp [e]
      · rcases List.mem_cons.mp h1 with e | h1
        · split
          · simp [e]
          · have : k = m := by omega
            simp [this]
        · exact List.mem_cons_of_mem _ h1
    · rcases List.mem_cons.mp hy with e | hy
      · rw [e]; split <;> assumption
      · exact h2 y (List.mem_cons_of_mem _ (List.mem_cons_of_mem _ hy))
theorem maxI_spec : ∀ (l : List Int) (m k : Int), (k ∈ m :: l) → (∀ y, y ∈ m :: l → y ≤ k) → maxI l m = k
  | [], m, k, h1, h2 => by simp at h1; exact h1.symm
  | x :: r, m, k, h1, h2 => by
    unfold maxI
    have a1 := h2 m (by simp)
    have a2 := h2 x (by simp)
    refine maxI_spec r _ k ?_ fun y hy => ?_
    · rcases List.mem_cons.mp h1 with e | h1
      · split
        · omega
        · simp [e]
      · rcases List.mem_cons.mp h1 with e | h1
        · split
          · simp [e]
          · have : k = m := by omega
            simp [this]
        · exact List.mem_cons_of_mem _ h1
    · rcases List.mem_cons.mp hy with e | hy
      · rw [e]; split <;> assumption
      · exact h2 y (List.mem_cons_of_mem _ (List.mem_cons_of_mem _ hy))
theorem ca_min2 (rm : Rm X) : Ca X (.builtin "min") (bltF .min2) := by
  refine .of (call_min2 rm.calm) fun Z H vs xs d Q t hx e q => ?_
  unfold bltF at e
  split at e <;> try (first | contradiction | (cases e; done))
  cases e; obtain ⟨v, w, rfl, h, h'⟩ := pk2 hx; obtain rfl := h.int; obtain rfl := h'.int
  exact ⟨_, _, rfl, RVal.int q⟩
theorem ca_max2 (rm : Rm X) : Ca X (.builtin "max") (bltF .max2) := by
  refine .of (call_max2 rm.calm) fun Z H vs xs d Q t hx e q => ?_
  unfold bltF at e
  split at e <;> try (first | contradiction | (cases e; done))
  cases e; obtain ⟨v, w, rfl, h, h'⟩ := pk2 hx; obtain rfl := h.int; obtain rfl := h'.int
  exact ⟨_, _, rfl, RVal.int q⟩
section
variable {prog : Program} {w : World} {A : Around} {E : Value → Shared → Prop} {s : Shared}
theorem iter_tupP {l : Addr} {items : Array Value} {Q : Value → Shared → Prop} (hl : s.heap.IsTuple l items)
    (h : ∀ s₂ : Shared, s₂ = { s with heap := s.heap.push { cls := .type "tuple_iterator", data := .fields #[.ref l, .int 0 0] } } →
      (s₂.heap.IsTupleIter s.heap.objs.size l 0 ∧ s₂.heap.IsTuple l items) → (∀ b ∈ [s.heap.objs.size, l], b < s₂.heap.objs.size) → l ≠ s.heap.objs.size → Q (.ref s.heap.objs.size) s₂) :
    wpAny (model prog w) A (pyIter (.ref l)) Q E s := by
  have hlt : l < s.heap.objs.size := by obtain ⟨_, e, _⟩ := hl; exact Heap.lt_size e
  refine wpAny_pyIter_tuple hl (h _ rfl ⟨⟨_, Heap.get?_push_size _ rfl, rfl, rfl⟩, hl.push _⟩ (fun b hb => ?_) (Nat.ne_of_lt hlt))
  show b < (s.heap.push _).objs.size
  rw [Heap.size_push]
  rcases List.mem_cons.mp hb with rfl | hb
  · exact Nat.lt_succ_self _
  · rcases List.mem_cons.mp hb with rfl | hb
    · exact Nat.lt_succ_of_lt hlt
    · cases hb
theorem old_keptT {l : Addr} {h' : Heap} (hk : ∀ b o, b ∉ [s.heap.objs.size] → (s.heap.push { cls := .type "tuple_iterator", data := .fields #[.ref l, .int 0 0] }).get? b = some o → h'.get? b = some o) :
    ∀ b o, s.heap.get? b = some o → h'.get? b = some o := fun b o e => by
  refine hk b o (fun hm => ?_) (Heap.get?_push_of_some _ e)
  rcases List.mem_cons.mp hm with e1 | hm
  · exact absurd (e1 ▸ Heap.lt_size e) (Nat.lt_irrefl _)
  · cases hm
theorem max_intTup {l : Addr} {xs : Array (Int × Tok)} {Q : Value → Shared → Prop} (hh : A.handled = none) (hl : s.heap.IsTuple l (intItems xs)) (hne : 0 < xs.size)
    (h : ∀ v h' tk, (intItems xs)[argBest (fun i j => decide (numAt xs i > numAt xs j)) (xs.size - 1)]? = some v → (∀ b o, s.heap.get? b = some o → h'.get? b = some o) → Q v { s with heap := h', toks := tk }) :
    wpAny (model prog w) A (call (.builtin "max") [.ref l]) Q E s := by
  refine call_max_walk (iter_tupP hl fun s₂ e st hfp hlI => ?_)
  subst e
  refine ⟨_, _, _, _, _, _, _, rfl, Walks.tuple (A := A.in1) hh _ l hlI (intItems xs), st, hfp, by simpa [intItems] using hne, CmpOf.ints_gt (numAt xs) (fun _ _ => intItems_at), fun v h' tk hP hk => ?_⟩
  exact h v h' tk (by simpa [intItems] using hP) (old_keptT hk)
theorem min_intTup {l : Addr} {xs : Array (Int × Tok)} {Q : Value → Shared → Prop} (hh : A.handled = none) (hl : s.heap.IsTuple l (intItems xs)) (hne : 0 < xs.size)
    (h : ∀ v h' tk, (intItems xs)[argBest (fun i j => decide (numAt xs i < numAt xs j)) (xs.size - 1)]? = some v → (∀ b o, s.heap.get? b = some o → h'.get? b = some o) → Q v { s with heap := h', toks := tk }) :
    wpAny (model prog w) A (call (.builtin "min") [.ref l]) Q E s := by
  refine call_min_walk (iter_tupP hl fun s₂ e st hfp hlI => ?_)
  subst e
  refine ⟨_, _, _, _, _, _, _, rfl, Walks.tuple (A := A.in1) hh _ l hlI (intItems xs), st, hfp, by simpa [intItems] using hne, CmpOf.ints_lt (numAt xs) (fun _ _ => intItems_at), fun v h' tk hP hk => ?_⟩
  exact h v h' tk (by simpa [intItems] using hP) (old_keptT hk)
theorem max_rawT {l : Addr} {its : List Value} {ns : List Int} {Q : Value → Shared → Prop} (hh : A.handled = none) (hl : s.heap.IsTuple l its.toArray) (hi : IntsAre its ns) (hne : 0 < ns.length)
    (h : ∀ h' tk M t', (∀ b o, s.heap.get? b = some o → h'.get? b = some o) → M ∈ ns → (∀ a, a ∈ ns → a ≤ M) → Q (.int M t') { s with heap := h', toks := tk }) : wpAny (model prog w) A (call (.builtin "max") [.ref l]) Q E s := by
  obtain ⟨xs, e⟩ := hi.allInts.items
  have hn : numsOf (intItems xs).toList = ns := by rw [← e]; exact hi.numsOf
  rw [nums_intItems] at hn
  subst hn
  rw [e] at hl
  have hsz : 0 < xs.size := by simpa using hne
  refine max_intTup hh hl hsz fun v h' tk hv hk => ?_
  obtain ⟨t, rfl⟩ := intItems_at hv
  obtain ⟨h1, h2⟩ := argBest_gt (numAt xs) (xs.size - 1)
  refine h h' tk _ t hk ?_ fun a ha => ?_
  · rw [numAt_eq]; exact PySem.getD_mem (by rw [List.length_map, Array.length_toList]; omega)
  · obtain ⟨j, hj, rfl⟩ := mem_getD ha
    rw [List.length_map, Array.length_toList] at hj
    rw [← numAt_eq]; exact h2 j (by omega)
theorem min_rawT {l : Addr} {its : List Value} {ns : List Int} {Q : Value → Shared → Prop} (hh : A.handled = none) (hl : s.heap.IsTuple l its.toArray) (hi : IntsAre its ns) (hne : 0 < ns.length)
    (h : ∀ h' tk M t', (∀ b o, s.heap.get? b = some o → h'.get? b = some o) → M ∈ ns → (∀ a, a ∈ ns → M ≤ a) → Q (.int M t') { s with heap := h', toks := tk }) : wpAny (model prog w) A (call (.builtin "min") [.ref l]) Q E s := by
  obtain ⟨xs, e⟩ := hi.allInts.items
  have hn : numsOf (intItems xs).toList = ns := by rw [← e]; exact hi.numsOf
  rw [nums_intItems] at hn
  subst hn
  rw [e] at hl
  have hsz : 0 < xs.size := by simpa using hne
  refine min_intTup hh hl hsz fun v h' tk hv hk => ?_
  obtain ⟨t, rfl⟩ := intItems_at hv
  obtain ⟨h1, h2⟩ := argBest_lt (numAt xs) (xs.size - 1)
  refine h h' tk _ t hk ?_ fun a ha => ?_
  · rw [numAt_eq]; exact PySem.getD_mem (by rw [List.length_map, Array.length_toList]; omega)
  · obtain ⟨j, hj, rfl⟩ := mem_getD ha
    rw [List.length_map, Array.length_toList] at hj
    rw [← numAt_eq]; exact h2 j (by omega)
end
def rMaxT (K : PySem.W.Frag) : List V → Hp → VK → Prop := fun vs H Q => ∃ (a : Addr) (ns : List Int), vs = [V.ref a] ∧ SqT K H a (ns.map V.int) ∧ 0 < ns.length ∧ ∀ m, m ∈ ns → (∀ y, y ∈ ns → y ≤ m) → Q (.int m) H
def rMinT (K : PySem.W.Frag) : List V → Hp → VK → Prop := fun vs H Q => ∃ (a : Addr) (ns : List Int), vs = [V.ref a] ∧ SqT K H a (ns.map V.int) ∧ 0 < ns.length ∧ ∀ m, m ∈ ns → (∀ y, y ∈ ns → m ≤ y) → Q (.int m) H
theorem cr_maxT (hc : X.calm = true) : CallR X (.builtin "max") (rMaxT X.K) := by
  intro pins s σ H vs us Q I r h
  obtain ⟨a, ns, rfl, hs, hne, q⟩ := h
  obtain ⟨its, rv, hl, _⟩ := I.tuple hs
  rw [Vals.ref1 r]
  exact max_rawT (I.ok.hd hc) hl rv.ints hne fun h' tk m t' hk h1 h2 => ⟨.int _, H, I.kept hk, ⟨_, rfl⟩, q m h1 h2⟩
theorem cr_minT (hc : X.calm = true) : CallR X (.builtin "min") (rMinT X.K) := by
  intro pins s σ H vs us Q I r h
  obtain ⟨a, ns, rfl, hs, hne, q⟩ := h
  obtain ⟨its, rv, hl, _⟩ := I.tuple hs
  rw [Vals.ref1 r]
  exact min_rawT (I.ok.hd hc) hl rv.ints hne fun h' tk m t' hk h1 h2 => ⟨.int _, H, I.kept hk, ⟨_, rfl⟩, q m h1 h2⟩
theorem bestCase {g : List Int → Int → Int} {xs : List D} {d : D} (e : (match intsOf xs with | some (n :: r) => some (D.int (g r n)) | _ => none) = some d) : ∃ n r, intsOf xs = some (n :: r) ∧ d = .int (g r n) := by
  split at e
  · rename_i n r h; cases e; exact ⟨n, r, h, rfl⟩
  · cases e
mutual
theorem toPy_inj : ∀ (a b : D), dep a ≤ 60 → dep b ≤ 60 → toPy a = toPy b → a = b
  | .non, b, _, h2, e => by cases b <;> simp only [toPy] at e <;> first | rfl | contradiction
  | .bl _, b, _, h2, e => by cases b <;> simp only [toPy] at e <;> first | contradiction | (cases e; rfl)
  | .int _, b, _, h2, e => by cases b <;> simp only [toPy] at e <;> first | contradiction | (cases e; rfl)
  | .str _, b, _, h2, e => by cases b <;> simp only [toPy] at e <;> first | contradiction | (cases e; rfl)
  | .tup xs, b, h1, h2, e => by
    cases b <;> simp only [toPy] at e <;> first | contradiction | skip
    simp only [dep] at h1 h2
    injection e with e
    rw [toPys_inj xs _ (by omega) (by omega) e]
  | .lst xs, b, h1, h2, e => by
    cases b <;> simp only [toPy] at e <;> first | contradiction | skip
    simp only [dep] at h1 h2
    injection e with e
    rw [toPys_inj xs _ (by omega) (by omega) e]
  | .scr _, _, h1, _, _ => by simp only [dep] at h1; omega
  | .dct _ _, _, h1, _, _ => by simp only [dep] at h1; omega
  | .obj _ _ _, _, h1, _, _ => by simp only [dep] at h1; omega
theorem toPys_inj : ∀ (a b : List D), deps a ≤ 60 → deps b ≤ 60 → toPys a = toPys b → a = b
  | [], b, _, _, e => by cases b <;> simp only [toPys] at e <;> first | rfl | contradiction
  | x :: xs, b, h1, h2, e => by
    cases b with
    | nil => simp only [toPys] at e; cases e
    | cons y ys =>
      simp only [toPys, List.cons.injEq] at e
      simp only [deps] at h1 h2
      rw [toPy_inj x y (by omega) (by omega) e.1, toPys_inj xs ys (by omega) (by omega) e.2]
end
/-- a built-in's call, as its function upon D tells -/
def rD (K : PySem.W.Frag) (F : List D → Option D) : List V → Hp → VK → Prop := fun vs H Q => ∃ Z xs d, TrZ Z H ∧ Paired (Pk K Z H) vs xs ∧ F xs = some d ∧ RD K Z H d Q
theorem like_spec {xs : List D} (h : allLike xs = true) : (∀ x ∈ xs, dep x ≤ 60) ∧ (∀ x ∈ xs, isNon x = false) ∧ ∀ x ∈ xs, ∀ y ∈ xs, PySem.W.alike (toPy x) (toPy y) = true := by
  unfold allLike at h
  simp only [Bool.and_eq_true, List.all_eq_true, Bool.not_eq_true'] at h
  exact ⟨fun x hx => of_decide_eq_true (h.1 x hx), h.2.1, fun x hx y hy => h.2.2 x hx y hy⟩
theorem like_all {xs : List D} (h : allLike xs = true) : PySem.W.AlikeAll (toPys xs) := by
  obtain ⟨_, h2, h3⟩ := like_spec h
  rw [toPys_map]
  refine ⟨fun a ha b hb => ?_, fun a ha => ?_⟩
  · obtain ⟨x, hx, rfl⟩ := List.mem_map.mp ha
    obtain ⟨y, hy, rfl⟩ := List.mem_map.mp hb
    exact h3 x hx y hy
  · obtain ⟨x, hx, rfl⟩ := List.mem_map.mp ha
    exact notN_py (h2 x hx)
theorem deps_all : ∀ {xs : List D}, (∀ x ∈ xs, dep x ≤ 60) → deps xs ≤ 60
  | [], _ => by simp only [deps]; omega
  | x :: xs, h => by
    simp only [deps]
    have := h x List.mem_cons_self
    have := deps_all fun y hy => h y (List.mem_cons_of_mem _ hy)
    omega
theorem fold_in {α : Type} (f : α → α → Bool) : ∀ (r : List α) (x : α), r.foldl (fun a y => if f y a = true then y else a) x ∈ x :: r
  | [], x => by simp
  | y :: r, x => by
    rw [List.foldl_cons]
    rcases List.mem_cons.mp (fold_in f r (if f y x = true then y else x)) with h | h
    · rw [h]; split <;> simp
    · exact List.mem_cons_of_mem _ (List.mem_cons_of_mem _ h)
theorem fold_py {f : D → D → Bool} {f' : PyData → PyData → Bool} (h : ∀ x y, f x y = f' (toPy x) (toPy y)) : ∀ (r : List D) (x : D), (r.map toPy).foldl (fun a y => if f' y a = true then y else a) (toPy x) = toPy (r.foldl (fun a y => if f y a = true then y else a) x)
  | [], _ => rfl
  | y :: r, x => by
    rw [List.map_cons, List.foldl_cons, List.foldl_cons, ← fold_py h r]
    congr 1
    rw [h]
    split <;> rfl
theorem best_done {pins : List (Addr × Obj)} {s : Shared} {σ : L2.St} {H : Hp} {Z : Addr → Prop} (I : Inv X pins σ H s) {ys : List D} {ws : List V} {its : List Value} (rr : Reps X.K Z H ws ys) (rv : Vals ws its) (hs : allLike ys = true) {d : D} (hd : d ∈ ys) (hl : isLstD d = false) {Q : VK} (q : RD X.K Z H d Q)
    {i : Nat} {v : Value} {h' : Heap} {tk : Nat} {bs : List Addr} (hi : its.toArray[i]? = some v) (hrd : Reads h' v (toPy d) bs) (hk : ∀ b o, s.heap.get? b = some o → h'.get? b = some o) : EP X pins σ Q v { s with heap := h', toks := tk } := by
  obtain ⟨h1, h2, h3⟩ := like_spec hs
  have hi' : its[i]? = some v := by simpa using hi
  have hil : i < its.length := by
    rcases Nat.lt_or_ge i its.length with c | c
    · exact c
    · rw [List.getElem?_eq_none c] at hi'; cases hi'
  have hwl : i < ws.length := by rw [rv.length]; exact hil
  obtain ⟨u, hu, ru⟩ := rv.get (List.getElem?_eq_getElem hwl)
  obtain rfl : u = v := Option.some.inj (hu.symm.trans hi')
  obtain ⟨y, hy, ry⟩ := rr.get' (List.getElem?_eq_getElem hwl)
  have hym := List.mem_of_getElem? hy
  obtain ⟨as, r1⟩ := Dp.reads I (toPy y) _ u (ry.dp (h1 y hym)) ru
  have e := PySem.W.alike_unique _ _ u _ _ (h3 y hym d hd) (PySem.W.reads_keeps hk r1) hrd
  obtain rfl := toPy_inj y d (h1 y hym) (h1 d hd) e
  refine ⟨_, H, I.kept hk, ru, ?_⟩
  cases y with
  | lst _ => cases hl
  | _ => exact RVal.here q ry
theorem best_cases {lt : D → D → Bool} {ys : List D} {d : D} (h : bestF lt ys = some d) : ∃ x r, ys = x :: r ∧ allLike ys = true ∧ d ∈ ys ∧ isLstD d = false ∧ d = r.foldl (fun a y => if lt y a = true then y else a) x := by
  cases ys with
  | nil => cases h
  | cons x r =>
    simp only [bestF] at h
    by_cases c : (allLike (x :: r) && (x :: r).all fun d => !isLstD d) = true
    · rw [if_pos c] at h
      cases h
      simp only [Bool.and_eq_true, List.all_eq_true, Bool.not_eq_true'] at c
      exact ⟨x, r, rfl, c.1, fold_in lt r x, c.2 _ (fold_in lt r x), rfl⟩
    · rw [if_neg c] at h; cases h
def bestS (lt : D → D → Bool) : List D → Option D
  | [d] => (seqOf d).bind (bestF lt)
  | _ => none
theorem bestS_cases {lt : D → D → Bool} {xs : List D} {d : D} (h : bestS lt xs = some d) : ∃ d0 ys, xs = [d0] ∧ seqOf d0 = some ys ∧ bestF lt ys = some d := by
  match xs, h with
  | [d0], h =>
    obtain ⟨ys, h1, h2⟩ := Option.bind_eq_some_iff.mp h
    exact ⟨d0, ys, rfl, h1, h2⟩
theorem cr_minD (rm : Rm X) : CallR X (.builtin "min") (rD X.K (bestS ltP)) := by
  intro pins s σ H vs us Q I rx h
  obtain ⟨Z, xs, d, t, hx, e, q⟩ := h
  obtain ⟨d0, ys, rfl, h1, h2⟩ := bestS_cases e
  obtain ⟨x, r, rfl, hs, hd, hl, ed⟩ := best_cases h2
  obtain ⟨v, rfl, hv⟩ := pk1 hx
  obtain ⟨a, ws, rfl, hq, rr⟩ := hv.seq h1
  rw [Vals.ref1 rx]
  have hun := rm.un
  have hdp := deps_all (like_spec hs).1
  have hpy := deps_py _ hdp
  have em := fold_py (f := ltP) (f' := PySem.W.dataLt) (fun _ _ => rfl) r x
  have e1 : PySem.W.minD (toPy x) (r.map toPy) = toPy d := by rw [ed]; exact em
  have e2 : toPys (x :: r) = toPy x :: r.map toPy := by rw [toPys_map]; rfl
  have al := like_all hs
  rcases hq with hq | hq
  · obtain ⟨its, rv, pl, _⟩ := I.list hq
    obtain ⟨as, rd⟩ := Dp.readsAll I (toPys (x :: r)) ws its (rr.dp hdp) rv
    rw [e2] at rd al hpy
    exact PySem.W.min_list_data (I.ok.hd rm.calm) pl.isList rd al (by omega) fun i v h' tk bs hi hrd hk => best_done I rr rv hs hd hl q hi (by rw [e1] at hrd; exact hrd) hk
  · obtain ⟨its, rv, pl, _⟩ := I.tuple hq
    obtain ⟨as, rd⟩ := Dp.readsAll I (toPys (x :: r)) ws its (rr.dp hdp) rv
    rw [e2] at rd al hpy
    exact PySem.W.min_tuple_data (I.ok.hd rm.calm) pl rd al (by omega) fun i v h' tk bs hi hrd hk => best_done I rr rv hs hd hl q hi (by rw [e1] at hrd; exact hrd) hk
theorem cr_maxD (rm : Rm X) : CallR X (.builtin "max") (rD X.K (bestS fun y a => ltP a y)) := by
  intro pins s σ H vs us Q I rx h
  obtain ⟨Z, xs, d, t, hx, e, q⟩ := h
  obtain ⟨d0, ys, rfl, h1, h2⟩ := bestS_cases e
  obtain ⟨x, r, rfl, hs, hd, hl, ed⟩ := best_cases h2
  obtain ⟨v, rfl, hv⟩ := pk1 hx
  obtain ⟨a, ws, rfl, hq, rr⟩ := hv.seq h1
  rw [Vals.ref1 rx]
  have hun := rm.un
  have hdp := deps_all (like_spec hs).1
  have hpy := deps_py _ hdp
  have em := fold_py (f := fun y a => ltP a y) (f' := fun y a => PySem.W.dataLt a y) (fun _ _ => rfl) r x
  have e1 : PySem.W.maxD (toPy x) (r.map toPy) = toPy d := by rw [ed]; exact em
  have e2 : toPys (x :: r) = toPy x :: r.map toPy := by rw [toPys_map]; rfl
  have al := like_all hs
  rcases hq with hq | hq
  · obtain ⟨its, rv, pl, _⟩ := I.list hq
    obtain ⟨as, rd⟩ := Dp.readsAll I (toPys (x :: r)) ws its (rr.dp hdp) rv
    rw [e2] at rd al hpy
    exact PySem.W.max_list_data (I.ok.hd rm.calm) pl.isList rd al (by omega) fun i v h' tk bs hi hrd hk => best_done I rr rv hs hd hl q hi (by rw [e1] at hrd; exact hrd) hk
  · obtain ⟨its, rv, pl, _⟩ := I.tuple hq
    obtain ⟨as, rd⟩ := Dp.readsAll I (toPys (x :: r)) ws its (rr.dp hdp) rv
    rw [e2] at rd al hpy
    exact PySem.W.max_tuple_data (I.ok.hd rm.calm) pl rd al (by omega) fun i v h' tk bs hi hrd hk => best_done I rr rv hs hd hl q hi (by rw [e1] at hrd; exact hrd) hk
theorem ca_maxS (rm : Rm X) : Ca X (.builtin "max") (bltF .maxS) := by
  refine .of (((cr_max rm.calm).or (cr_maxT rm.calm)).or (cr_maxD rm)) fun Z H vs xs d Q t hx e q => ?_
  unfold bltF at e
  split at e <;> try (first | contradiction | (cases e; done))
  rename_i d0 _
  rcases Option.or_eq_some_iff.mp e with e | ⟨_, e⟩
  · obtain ⟨ys, h1, e⟩ := Option.bind_eq_some_iff.mp e
    obtain ⟨n, r, h2, rfl⟩ := bestCase e
    obtain ⟨v, rfl, h⟩ := pk1 hx
    obtain ⟨a, ws, rfl, hq, rr⟩ := h.seq h1
    obtain rfl := rr.intsD h2
    rcases hq with hq | hq
    · exact .inl (.inl ⟨a, _, rfl, hq, by simp, fun m h3 h4 => by rw [← maxI_spec r n m h3 h4]; exact RVal.int q⟩)
    · exact .inl (.inr ⟨a, _, rfl, hq, by simp, fun m h3 h4 => by rw [← maxI_spec r n m h3 h4]; exact RVal.int q⟩)
  · exact .inr ⟨Z, _, d, t, hx, e, q⟩
theorem ca_minS (rm : Rm X) : Ca X (.builtin "min") (bltF .minS) := by
  refine .of (((cr_min rm.calm).or (cr_minT rm.calm)).or (cr_minD rm)) fun Z H vs xs d Q t hx e q => ?_
  unfold bltF at e
  split at e <;> try (first | contradiction | (cases e; done))
  rcases Option.or_eq_some_iff.mp e with e | ⟨_, e⟩
  · obtain ⟨ys, h1, e⟩ := Option.bind_eq_some_iff.mp e
    obtain ⟨n, r, h2, rfl⟩ := bestCase e
    obtain ⟨v, rfl, h⟩ := pk1 hx
    obtain ⟨a, ws, rfl, hq, rr⟩ := h.seq h1
    obtain rfl := rr.intsD h2
    rcases hq with hq | hq
    · exact .inl (.inl ⟨a, _, rfl, hq, by simp, fun m h3 h4 => by rw [← minI_spec r n m h3 h4]; exact RVal.int q⟩)
    · exact .inl (.inr ⟨a, _, rfl, hq, by simp, fun m h3 h4 => by rw [← minI_spec r n m h3 h4]; exact RVal.int q⟩)
  · exact .inr ⟨Z, _, d, t, hx, e, q⟩

/-! ### isinstance -/
def tyN : D → String
  | .non => "NoneType" | .bl _ => "bool" | .int _ => "int" | .str _ => "str" | .tup _ => "tuple" | .lst _ => "list" | .scr _ => "list" | .dct _ _ => "dict" | .obj _ _ _ => "object"
def obB : D → Bool
  | .obj _ _ _ => true
  | _ => false
theorem Pk.ty {K : PySem.W.Frag} {Z : Addr → Prop} {H : Hp} {v : V} {d : D} (h : Pk K Z H v d) (ho : obB d = false) : TyX K H v (.type (tyN d)) := by
  cases d with
  | non => rw [h.non]; exact .base .non
  | bl b => rw [h.bl]; exact .base (.bl b)
  | int b => rw [h.int]; exact .base (.int b)
  | str b => rw [h.str.1]; exact .base (.str b)
  | tup b =>
    obtain ⟨a, vs, e, t, _⟩ := h.tup
    rw [e]
    rcases t with ⟨⟨o, t, _⟩, _⟩ | ⟨o, its, n, h1, h2, _⟩
    · exact .fTuple t
    · exact .kTuple h1 h2
  | lst b => obtain ⟨a, vs, e, t, _⟩ := h.lst; rw [e]; exact .base (.lst t)
  | scr b =>
    obtain ⟨a, e, t⟩ := h.scr
    rw [e]
    rcases t with ⟨⟨o, t⟩, _⟩ | ⟨o, its, n, h1, h2, _⟩
    · exact .base (.frz t)
    · exact .kList h1 h2
  | dct _ _ => obtain ⟨a, vs, e, t, _⟩ := h.dct; rw [e]; exact .base (.dK t)
  | obj _ _ _ => cases ho
theorem obB_spec {d : D} (h : obB d = true) : ∃ nm ks vs, d = .obj nm ks vs := by
  cases d with
  | obj nm ks vs => exact ⟨nm, ks, vs, rfl⟩
  | _ => cases h
/-- isinstance(x, T) -/
def Isa (X : Cx) (T : String) (b : Bi) : Prop := ∃ r, CallR X (.builtin "isinstance") r ∧ ∀ Z H v x d Q, Pk X.K Z H v x → bltF b [x] = some d → RVal X.K Z H d Q → r [v, .ty T] H Q
theorem kit_own {K : PySem.W.Frag} {C : Addr} {T : String} (hT : T ∈ ["int", "bool", "str", "tuple", "list"]) (s : PySem.W.subIn K (.ref C) (.type T) = some false) : PySem.W.kitOne K (.ref C) (.type T) = some false := by
  unfold PySem.W.kitOne
  rw [if_neg (by simp)]
  unfold PySem.W.kitCls
  dsimp only
  rw [if_pos (by
    simp only [List.mem_cons, List.not_mem_nil, or_false] at hT
    rcases hT with rfl | rfl | rfl | rfl | rfl <;> decide +kernel)]
  exact s
theorem isa_of {T : String} {b : Bi} {f : D → Bool} (hT : T ∈ ["int", "bool", "str", "tuple", "list"]) (hf : ∀ x, bltF b [x] = some (.bl (f x))) (hk : ∀ x, obB x = false → kitB (tyN x) T = some (f x)) (ho : ∀ x, obB x = true → f x = false) : Isa X T b := by
  refine ⟨_, call_isi, fun Z H v x d Q h e q => ?_⟩
  rw [hf] at e
  cases e
  cases hb : obB x with
  | false => exact ⟨v, .ty T, _, _, f x, rfl, .ty T, h.ty hb, kit_ty (hk x hb), RVal.bl q⟩
  | true =>
    have hfx := ho x hb
    obtain ⟨nm, ks, ws, rfl⟩ := obB_spec hb
    obtain ⟨a, C, dx, vs, rfl, ha, g, _⟩ := h.obj
    refine ⟨_, .ty T, _, _, f (.obj nm ks ws), rfl, .ty T, .base (.ins ha g.cf.cls g.cf.cl g.cf.gs g.cf.tk g.cf.mr), ?_, RVal.bl q⟩
    rw [hfx]
    exact kit_own hT (g.cf.nk T hT)
theorem isa_int : Isa X "int" .isInt := isa_of (by decide) (fun _ => rfl) (fun x h => by cases x <;> first | (cases h; done) | (show kitB _ _ = _; simp only [tyN]; decide +kernel)) fun x h => by cases x <;> first | rfl | cases h
theorem isa_bool : Isa X "bool" .isBool := isa_of (by decide) (fun _ => rfl) (fun x h => by cases x <;> first | (cases h; done) | (show kitB _ _ = _; simp only [tyN]; decide +kernel)) fun x h => by cases x <;> first | rfl | cases h
theorem isa_str : Isa X "str" .isStr := isa_of (by decide) (fun _ => rfl) (fun x h => by cases x <;> first | (cases h; done) | (show kitB _ _ = _; simp only [tyN]; decide +kernel)) fun x h => by cases x <;> first | rfl | cases h
theorem isa_tuple : Isa X "tuple" .isTuple := isa_of (by decide) (fun _ => rfl) (fun x h => by cases x <;> first | (cases h; done) | (show kitB _ _ = _; simp only [tyN]; decide +kernel)) fun x h => by cases x <;> first | rfl | cases h
theorem isa_list : Isa X "list" .isList := isa_of (by decide) (fun _ => rfl) (fun x h => by cases x <;> first | (cases h; done) | (show kitB _ _ = _; simp only [tyN]; decide +kernel)) fun x h => by cases x <;> first | rfl | cases h

/-! ### truth -/
/-- an instance of a class without __bool__ and __len__ -/
def TruO (K : PySem.W.Frag) (x : V) (H : Hp) (k : Bool) : Prop := TruV K x H k ∨ ∃ a C dx fs, x = .ref a ∧ H a = some (.ins C dx fs) ∧ ClF K C ∧ k = true
theorem own_no {prog : Program} {w : World} {A : Around} {E : Value → Shared → Prop} {s : Shared} {K : PySem.W.Frag} {a C : Addr} {ox : Obj} {od : Option Obj} {name : Str} {args : List Value} {Q : Option Value → Shared → Prop} (X : K.In s.heap) (I : PySem.W.InstAt s.heap a ox C od) (hf : PySem.W.findIn K (.ref C) name = some none) (h : Q none s) :
    wpAny (model prog w) A (callSpecial? (.ref a) name args) Q E s := by
  unfold callSpecial? specialOf
  exact wpAny_bind (wpAny_bind (I.type.here ((PySem.W.looks_findIn X hf).here (wpAny_pure h))))
theorem truthy_own {prog : Program} {w : World} {A : Around} {E : Value → Shared → Prop} {s : Shared} {K : PySem.W.Frag} {a C : Addr} {ox : Obj} {od : Option Obj} {Q : Bool → Shared → Prop} (X : K.In s.heap) (I : PySem.W.InstAt s.heap a ox C od) (c : ClF K C) (h : Q true s) : wpAny (model prog w) A (truthy (.ref a)) Q E s := by
  have hsp : ∀ {Q' : Option Value → Shared → Prop}, Q' none s → wpAny (model prog w) A (specialOf (.ref a) "__len__") Q' E s := fun q => by
    unfold specialOf
    exact wpAny_bind (I.type.here ((PySem.W.looks_findIn X c.nl).here q))
  unfold truthy
  first
    | refine wpAny_bind (own_no (name := Str.ofString "__bool__") X I c.nb ?_)
    | refine wpAny_bind (wpAny_pure (wpAny_bind (own_no (name := Str.ofString "__bool__") X I c.nb ?_)))
  first
    | refine wpAny_bind (hsp ?_)
    | refine wpAny_bind (wpAny_pure (wpAny_bind (hsp ?_)))
  exact wpAny_pure h
theorem tru_own : TruR X (fun x H Q => ∃ k, TruO X.K x H k ∧ Q k H) := by
  intro pins s σ H x v Q I rx h
  obtain ⟨k, e | ⟨a, C, dx, fs, rfl, ha, c, rfl⟩, q⟩ := h
  · exact tru_ok pins s σ H x v Q I rx ⟨k, e, q⟩
  · cases rx
    obtain ⟨mA, O, r, wi, _, ho⟩ := ins_get I.hok ha
    obtain ⟨od, J, _⟩ := O.look
    exact truthy_own I.kIn J c ⟨H, I, q⟩
theorem Pk.tru {K : PySem.W.Frag} {Z : Addr → Prop} {H : Hp} {v : V} {d : D} (h : Pk K Z H v d) : TruO K v H (truth d) := by
  cases d with
  | non => rw [h.non]; exact .inl rfl
  | bl b => rw [h.bl]; exact .inl rfl
  | int b => rw [h.int]; exact .inl rfl
  | str b => obtain ⟨e, o⟩ := h.str; rw [e]; exact .inl ⟨lim_line (okT_iff.mp o).2, by simp only [truth]; rw [Bool.eq_iff_iff]; simp⟩
  | tup b =>
    obtain ⟨a, vs, e, t, r⟩ := h.tup
    rw [e]
    exact .inl (.inr (.inl ⟨vs, t.sq, by cases r <;> rfl⟩))
  | lst b =>
    obtain ⟨a, vs, e, t, r⟩ := h.lst
    rw [e]
    exact .inl (.inl ⟨vs, SqL.of t, by cases r <;> rfl⟩)
  | scr b =>
    obtain ⟨a, e, t⟩ := h.scr
    rw [e]
    exact .inl (.inl ⟨_, t.sq, by cases b <;> rfl⟩)
  | dct ks ds =>
    obtain ⟨a, vs, e, t, r⟩ := h.dct
    rw [e]
    exact .inl (.inr (.inr ⟨_, t, by cases ks <;> cases r <;> rfl⟩))
  | obj nm ks ds =>
    obtain ⟨a, C, dx, vs, e, t, g, r⟩ := h.obj
    exact .inr ⟨a, C, dx, _, e, t, g.cf, rfl⟩
section
variable {a b : Expr} {ta tb : TE} {rest : List Expr} {pos : Pos}
def tOrO (K : PySem.W.Frag) (ta tb : TE) : TE := fun σ H Q => ta σ H fun x H1 => ∃ k, TruO K x H1 k ∧ if k = true then Q x H1 else tb σ H1 Q
def tAndO (K : PySem.W.Frag) (ta tb : TE) : TE := fun σ H Q => ta σ H fun x H1 => ∃ k, TruO K x H1 k ∧ if k = true then tb σ H1 Q else Q x H1
theorem pe_orO (ha : PE X a ta) (hb : PE X (.BoolOp .Or (b :: rest) pos) tb) : PE X (.BoolOp .Or (a :: b :: rest) pos) (tOrO X.K ta tb) := by
  refine ⟨fun pins s σ H Q I h => ?_⟩
  refine BoolOp_or (thn (ha.run pins s σ H _ I h) fun v s1 ⟨x, H1, I1, r1, q1⟩ => ?_)
  obtain ⟨k, e, q1⟩ := q1
  refine thn (tru_own pins s1 σ H1 x v (fun c H2 => c = k ∧ H2 = H1) I1 r1 ⟨k, e, rfl, rfl⟩) fun c s2 hc => ?_
  obtain ⟨H2, I2, e1, e2⟩ := hc
  rw [e2] at I2
  rw [← e1] at q1
  cases c with
  | true => exact ⟨x, H1, I2, r1, q1⟩
  | false => exact hb.run pins s2 σ H1 Q I2 q1
theorem pe_andO (ha : PE X a ta) (hb : PE X (.BoolOp .And (b :: rest) pos) tb) : PE X (.BoolOp .And (a :: b :: rest) pos) (tAndO X.K ta tb) := by
  refine ⟨fun pins s σ H Q I h => ?_⟩
  refine BoolOp_and (thn (ha.run pins s σ H _ I h) fun v s1 ⟨x, H1, I1, r1, q1⟩ => ?_)
  obtain ⟨k, e, q1⟩ := q1
  refine thn (tru_own pins s1 σ H1 x v (fun c H2 => c = k ∧ H2 = H1) I1 r1 ⟨k, e, rfl, rfl⟩) fun c s2 hc => ?_
  obtain ⟨H2, I2, e1, e2⟩ := hc
  rw [e2] at I2
  rw [← e1] at q1
  cases c with
  | true => exact hb.run pins s2 σ H1 Q I2 q1
  | false => exact ⟨x, H1, I2, r1, q1⟩
def tNotO (K : PySem.W.Frag) (ta : TE) : TE := fun σ H Q => ta σ H fun x H1 => ∃ k, TruO K x H1 k ∧ Q (.bl (!k)) H1
theorem pe_notO (ha : PE X a ta) : PE X (.UnaryOp .Not a pos) (tNotO X.K ta) := by
  refine ⟨fun pins s σ H Q I h => ?_⟩
  refine UnaryOp_ (thn (ha.run pins s σ H _ I h) fun v s1 ⟨x, H1, I1, r1, q1⟩ => ?_)
  obtain ⟨k, e, q1⟩ := q1
  exact not_of (thn (tru_own pins s1 σ H1 x v (fun c H2 => Q (.bl (!c)) H2) I1 r1 ⟨k, e, q1⟩) fun c s2 ⟨H2, I2, q2⟩ => ⟨.bl (!c), H2, I2, rfl, q2⟩)
theorem pt_own (ha : PE X a ta) (he : ∀ whole, isTrue a X.env whole = (do let v ← whole; standAt a.pos; holding [v] (truthy v))) :
    PT X a (fun σ H Q => ta σ H fun x H' => ∃ k, TruO X.K x H' k ∧ Q k H') := by
  refine ⟨fun pins s σ H Q I h => ?_⟩
  exact isTrue_plain (thn (ha.run pins s σ H _ I h) fun v s1 ⟨x, H1, I1, r1, q1⟩ => tru_own pins s1 σ H1 x v Q I1 r1 q1) (he _)
end
end
end Pv

set_option maxHeartbeats 1000000
/-! Further steps: index, count, join, reversed slices, sorting, what changes an owned list. -/
namespace Pv
open PySem PySem.Spec PyProof.Rows L2
section
variable {X : Cx}
/-! ### t.index(x), t.count(x) of a list, a tuple, by any data -/
def rIdxT (K : PySem.W.Frag) : V → List V → Hp → VK → Prop := fun x xs H Q => ∃ (p : Addr) (vs : List V) (y : V) (d : PyData) (ds : List PyData) (j : Nat) (z : PyData), x = .ref p ∧ xs = [y] ∧ SqT K H p vs ∧ DpAll K H vs ds ∧ Dp K H y d ∧ PyData.canLayAll0 ds = true ∧ SeqAt.shaped d = true ∧
  ds[j]? = some z ∧ PyData.eqv z d = true ∧ (∀ (m : Nat) (z' : PyData), m < j → ds[m]? = some z' → PyData.eqv z' d = false) ∧ Q (.int (j : Nat)) H
def rCntT (K : PySem.W.Frag) : V → List V → Hp → VK → Prop := fun x xs H Q => ∃ (p : Addr) (vs : List V) (y : V) (d : PyData) (ds : List PyData), x = .ref p ∧ xs = [y] ∧ SqT K H p vs ∧ DpAll K H vs ds ∧ Dp K H y d ∧ PyData.canLayAll0 ds = true ∧ SeqAt.shaped d = true ∧
  Q (.int (ds.countP (fun z => PyData.eqv z d) : Nat)) H
def rCntL (K : PySem.W.Frag) : V → List V → Hp → VK → Prop := fun x xs H Q => ∃ (p : Addr) (vs : List V) (y : V) (d : PyData) (ds : List PyData), x = .ref p ∧ xs = [y] ∧ SqL K H p vs ∧ DpAll K H vs ds ∧ Dp K H y d ∧ PyData.canLayAll0 ds = true ∧ SeqAt.shaped d = true ∧
  Q (.int (ds.countP (fun z => PyData.eqv z d) : Nat)) H
theorem findIx_spec {α : Type} {p : α → Bool} : ∀ {l : List α} {k n : Nat}, findIx p l k = some n → ∃ j z, n = k + j ∧ l[j]? = some z ∧ p z = true ∧ ∀ m z', m < j → l[m]? = some z' → p z' = false
  | [], k, n, h => by cases h
  | x :: r, k, n, h => by
    unfold findIx at h
    split at h
    · rename_i hp
      cases h
      exact ⟨0, x, rfl, rfl, hp, fun m _ hm => absurd hm (Nat.not_lt_zero _)⟩
    · rename_i hp
      obtain ⟨j, z, e, h1, h2, h3⟩ := findIx_spec h
      refine ⟨j + 1, z, by omega, h1, h2, fun m z' hm hz => ?_⟩
      cases m with
      | zero =>
        have : x = z' := Option.some.inj hz
        subst this
        simpa using hp
      | succ m => exact h3 m z' (by omega) hz
theorem at_read {h : Heap} {its : List Value} {ds : List PyData} (e : its.map (SeqAt.readOf h) = ds) {m : Nat} (hm : m < its.toArray.size) {z : PyData} (hz : ds[m]? = some z) : SeqAt.readOf h its.toArray[m] = z := by
  have hml : m < its.length := by simpa using hm
  rw [← e, List.getElem?_map, List.getElem?_eq_getElem hml] at hz
  have e1 : SeqAt.readOf h its[m] = z := Option.some.inj hz
  simpa using e1
theorem count_read {h : Heap} {its : List Value} {ds : List PyData} {d : PyData} (e : its.map (SeqAt.readOf h) = ds) : its.toArray.toList.countP (fun u => PyData.eqv (SeqAt.readOf h u) d) = ds.countP fun z => PyData.eqv z d := by
  subst e
  rw [List.toList_toArray, List.countP_map]
  rfl
theorem mt_ixT (hu : X.A.units + 65 < cLine) : MtR X "tuple.index" (rIdxT X.K) := by
  intro pins s σ H x xs v us Q I rx rxs h
  obtain ⟨p, vs, y, d, ds, j, z, rfl, rfl, hq, ha, hy, hl, sd, hz, hzj, hno, q⟩ := h
  cases rx
  obtain ⟨uy, rfl, ry⟩ := vals1 rxs
  obtain ⟨bs, r1⟩ := Dp.reads I d y uy hy ry
  obtain ⟨its, rv, ht, hlen⟩ := I.tuple hq
  obtain ⟨⟨cls, dd, data, sl⟩, ho, hc, n, hd⟩ := ht
  simp only at hc hd
  subst hc hd
  obtain ⟨as, h4⟩ := Dp.readsAll I ds _ its ha rv
  have hmap : its.map (SeqAt.readOf s.heap) = ds := SeqAt.readsAll_map ds its as hl h4
  have hn : its.length = ds.length := SeqAt.ReadsAll.length ds its as h4
  obtain ⟨hjd, _⟩ := List.getElem?_eq_some_iff.mp hz
  have hj : j < its.toArray.size := by simpa using (by omega : j < its.length)
  have hroom : X.A.units + 1 + min (PyData.depthAll ds) d.depth < cLine := room_in_shaped sd hu
  refine call_meets PySem.F.slot_tuple_index ⟨_, ho, rfl⟩ PySem.F.entry_tuple_index (PySem.F.args_tuple_index_2 _ _)
    (TI.tuple_indexAt p its.toArray n dd sl uy (fun u => PyData.eqv (SeqAt.readOf s.heap u) d) j hj ?_ ?_) ⟨ho, SeqAt.items_eqAt (vs := its.toArray) (A := X.A) (show ReadsAll s.heap its.toArray.toList ds as from h4) r1 hl (SeqAt.canLay_of_shaped sd) hroom, ⟨.int (j : Nat), H, I.tok _, ⟨_, rfl⟩, q⟩⟩
  · show PyData.eqv (SeqAt.readOf s.heap its.toArray[j]) d = true
    rw [at_read hmap hj hz]
    exact hzj
  · intro m hm hmj
    have hmd : m < ds.length := by omega
    have hz' : ds[m]? = some ds[m] := List.getElem?_eq_getElem hmd
    show PyData.eqv (SeqAt.readOf s.heap its.toArray[m]) d = false
    rw [at_read hmap hm hz']
    exact hno m _ hmj hz'
theorem mt_cnT (hu : X.A.units + 65 < cLine) : MtR X "tuple.count" (rCntT X.K) := by
  intro pins s σ H x xs v us Q I rx rxs h
  obtain ⟨p, vs, y, d, ds, rfl, rfl, hq, ha, hy, hl, sd, q⟩ := h
  cases rx
  obtain ⟨uy, rfl, ry⟩ := vals1 rxs
  obtain ⟨bs, r1⟩ := Dp.reads I d y uy hy ry
  obtain ⟨its, rv, ht, hlen⟩ := I.tuple hq
  obtain ⟨⟨cls, dd, data, sl⟩, ho, hc, n, hd⟩ := ht
  simp only at hc hd
  subst hc hd
  obtain ⟨as, h4⟩ := Dp.readsAll I ds _ its ha rv
  have hmap : its.map (SeqAt.readOf s.heap) = ds := SeqAt.readsAll_map ds its as hl h4
  have hroom : X.A.units + 1 + min (PyData.depthAll ds) d.depth < cLine := room_in_shaped sd hu
  refine call_meets PySem.F.slot_tuple_count ⟨_, ho, rfl⟩ PySem.F.entry_tuple_count (PySem.F.args_tuple_count_2 _ _)
    (SeqAt.tuple_countAt p its.toArray n dd sl uy (fun u => PyData.eqv (SeqAt.readOf s.heap u) d)) ⟨ho, SeqAt.items_eqAt (vs := its.toArray) (A := X.A) (show ReadsAll s.heap its.toArray.toList ds as from h4) r1 hl (SeqAt.canLay_of_shaped sd) hroom, ?_⟩
  rw [count_read hmap]
  exact ⟨.int _, H, I.tok _, ⟨_, rfl⟩, q⟩
theorem mt_cnL (hu : X.A.units + 65 < cLine) : MtR X "list.count" (rCntL X.K) := by
  intro pins s σ H x xs v us Q I rx rxs h
  obtain ⟨p, vs, y, d, ds, rfl, rfl, hq, ha, hy, hl, sd, q⟩ := h
  cases rx
  obtain ⟨uy, rfl, ry⟩ := vals1 rxs
  obtain ⟨bs, r1⟩ := Dp.reads I d y uy hy ry
  obtain ⟨its, rv, ⟨⟨cls, dd, data, sls⟩, n, ho, hc, hdn, hdt⟩, hlen⟩ := I.list hq
  simp only at hc hdt
  subst hc hdt
  obtain ⟨as, h4⟩ := Dp.readsAll I ds _ its ha rv
  have hmap : its.map (SeqAt.readOf s.heap) = ds := SeqAt.readsAll_map ds its as hl h4
  have hroom : X.A.units + 1 + min (PyData.depthAll ds) d.depth < cLine := room_in_shaped sd hu
  refine call_meets PySem.F.slot_list_count ⟨_, ho, rfl⟩ PySem.F.entry_list_count (PySem.F.args_list_count_2 _ _)
    (SeqAt.list_countAt p its.toArray n dd sls uy (fun u => PyData.eqv (SeqAt.readOf s.heap u) d)) ⟨ho, SeqAt.items_eqAt (vs := its.toArray) (A := X.A) (show ReadsAll s.heap its.toArray.toList ds as from h4) r1 hl (SeqAt.canLay_of_shaped sd) hroom, ?_⟩
  rw [count_read hmap]
  exact ⟨.int _, H, I.tok _, ⟨_, rfl⟩, q⟩
theorem findIx_py {ds : List D} {d : D} : ∀ k, findIx (fun z => eqD z d) ds k = findIx (fun z => PyData.eqv z (toPy d)) (toPys ds) k := by
  induction ds with
  | nil => intro k; simp only [toPys, findIx]
  | cons x r ih =>
    intro k
    simp only [toPys, findIx]
    rw [ih (k + 1)]
    rfl
theorem countP_py {ds : List D} {d : D} : ds.countP (fun z => eqD z d) = (toPys ds).countP fun z => PyData.eqv z (toPy d) := by
  rw [toPys_map, List.countP_map]; rfl
theorem depthAll_le {ds : List D} (h : deps ds ≤ 60) : PyData.depthAll (toPys ds) ≤ 60 := Nat.le_trans (deps_py ds h) h

/-- index of a tuple -/
theorem me_ixT (rm : Rm X) : Me X "tuple.index" (fun x xs => match x, xs with | .tup ys, [z] => bltF .index [.tup ys, z] | _, _ => none) := by
  refine ⟨_, mt_ixT (by have := rm.un; omega), fun Z H v vs x xs d Q t hx hxs e q => ?_⟩
  dsimp only at e
  split at e
  · rename_i ys z
    obtain ⟨v2, rfl, hz⟩ := pk1 hxs
    obtain ⟨a, ws, rfl, t1, r1⟩ := hx.tup
    simp only [bltF, seqOf, Option.bind_some] at e
    split at e
    · rename_i hs
      rw [Bool.and_eq_true] at hs
      obtain ⟨k, hk, rfl⟩ := Option.map_eq_some_iff.mp e
      rw [findIx_py] at hk
      obtain ⟨j, z', e', h1, h2, h3⟩ := findIx_spec hk
      rw [Nat.zero_add] at e'
      subst e'
      exact ⟨a, ws, v2, _, _, k, z', rfl, rfl, t1.sq, r1.dp (deps_of hs.2), hz.dp hs.1, r1.lay (deps_of hs.2), hz.shaped hs.1, h1, h2, h3, RVal.int q⟩
    · cases e
  · cases e
theorem me_ixL (rm : Rm X) : Me X "list.index" (fun x xs => match x, xs with | .lst ys, [z] => bltF .index [.lst ys, z] | _, _ => none) := by
  refine ⟨_, mt_indexD (by have := rm.un; omega), fun Z H v vs x xs d Q t hx hxs e q => ?_⟩
  dsimp only at e
  split at e
  · rename_i ys z
    obtain ⟨v2, rfl, hz⟩ := pk1 hxs
    obtain ⟨a, ws, rfl, t1, r1⟩ := hx.lst
    simp only [bltF, seqOf, Option.bind_some] at e
    split at e
    · rename_i hs
      rw [Bool.and_eq_true] at hs
      obtain ⟨k, hk, rfl⟩ := Option.map_eq_some_iff.mp e
      rw [findIx_py] at hk
      obtain ⟨j, z', e', h1, h2, h3⟩ := findIx_spec hk
      rw [Nat.zero_add] at e'
      subst e'
      refine ⟨a, v2, _, toPys ys, k, z', rfl, rfl, .lst (SqL.of t1) (r1.dp (deps_of hs.2)), hz.dp hs.1, ?_, hz.shaped hs.1, h1, h2, h3, RVal.int q⟩
      unfold SeqAt.shaped
      rw [Bool.and_eq_true]
      refine ⟨by simp only [PyData.canLay0]; exact r1.lay (deps_of hs.2), decide_eq_true ?_⟩
      simp only [PyData.depth]
      have := depthAll_le (deps_of hs.2)
      omega
    · cases e
  · cases e
theorem me_cnT (rm : Rm X) : Me X "tuple.count" (fun x xs => match x, xs with | .tup ys, [z] => bltF .count [.tup ys, z] | _, _ => none) := by
  refine ⟨_, mt_cnT (by have := rm.un; omega), fun Z H v vs x xs d Q t hx hxs e q => ?_⟩
  dsimp only at e
  split at e
  · rename_i ys z
    obtain ⟨v2, rfl, hz⟩ := pk1 hxs
    obtain ⟨a, ws, rfl, t1, r1⟩ := hx.tup
    simp only [bltF, seqOf, Option.bind_some] at e
    split at e
    · rename_i hs
      rw [Bool.and_eq_true] at hs
      cases e
      exact ⟨a, ws, v2, _, _, rfl, rfl, t1.sq, r1.dp (deps_of hs.2), hz.dp hs.1, r1.lay (deps_of hs.2), hz.shaped hs.1, by rw [← countP_py]; exact RVal.int q⟩
    · cases e
  · cases e
theorem me_cnL (rm : Rm X) : Me X "list.count" (fun x xs => match x, xs with | .lst ys, [z] => bltF .count [.lst ys, z] | _, _ => none) := by
  refine ⟨_, mt_cnL (by have := rm.un; omega), fun Z H v vs x xs d Q t hx hxs e q => ?_⟩
  dsimp only at e
  split at e
  · rename_i ys z
    obtain ⟨v2, rfl, hz⟩ := pk1 hxs
    obtain ⟨a, ws, rfl, t1, r1⟩ := hx.lst
    simp only [bltF, seqOf, Option.bind_some] at e
    split at e
    · rename_i hs
      rw [Bool.and_eq_true] at hs
      cases e
      exact ⟨a, ws, v2, _, _, rfl, rfl, SqL.of t1, r1.dp (deps_of hs.2), hz.dp hs.1, r1.lay (deps_of hs.2), hz.shaped hs.1, by rw [← countP_py]; exact RVal.int q⟩
    · cases e
  · cases e
end
end Pv

set_option maxHeartbeats 1000000
/-! The meaning of a compiled expression, as a reading of the hand layer. -/
namespace Pv
open PySem PySem.Spec PyProof.Rows L2

/-! ### how a value comes behind an expression -/
def VK' (A : Amb) (k : Kd) (ex : Addr → Prop) (own : Own) (σ : St) (H H' : Hp) (v : V) (d : D) : Prop := match k with
  | .val => Rep A.K (XX own σ ex) H' v d
  | .peek i => i ∈ own ∧ ∃ p sh vs ds, v = .ref p ∧ d = Shp.d sh ds ∧ σ[i]? = some (some (V.ref p)) ∧ H' p = some (Shp.ho sh vs) ∧ Repz A.K (XX own σ ex) H' sh vs ds
  | .fresh => ∃ p sh vs ds, v = .ref p ∧ d = Shp.d sh ds ∧ H p = none ∧ ex p ∧ H' p = some (Shp.ho sh vs) ∧ Repz A.K (XX own σ ex) H' sh vs ds
/-- ex1: what is shut out behind it -/
def VR (A : Amb) (k : Kd) (ex : Addr → Prop) (own : Own) (σ : St) (H H' : Hp) (v : V) (d : D) (env : Env) : Prop :=
  ∃ ex1 : Addr → Prop, (∀ a, ex a → ex1 a) ∧ (∀ a, ex1 a → ex a ∨ H a = none) ∧ R A ex1 own σ H' env ∧ VK' A k ex1 own σ H H' v d
def tM (A : Amb) (o o' : Own) (k : Kd) (tc : List Nat) (m : Env → Out (D × Env)) : TE := fun σ H Q =>
  ∃ ex env d env', R A ex o σ H env ∧ m env = .ok (d, env') ∧ ∀ v H', Frame (EX tc σ) H H' → VR A k ex o' σ H H' v d env' → Q v H'
def tMT (A : Amb) (o o' : Own) (tc : List Nat) (m : Env → Out (D × Env)) : TT := fun σ H Q =>
  ∃ ex env d env', R A ex o σ H env ∧ m env = .ok (d, env') ∧ ∀ H', Frame (EX tc σ) H H' → R A ex o' σ H' env' → Q (truth d) H'
def tMA (A : Amb) (o o' : Own) (pk : Bool) (tc : List Nat) (m : Env → Out (List D × Env)) : TA := fun σ H Q =>
  ∃ ex env ds env', R A ex o σ H env ∧ m env = .ok (ds, env') ∧ ∀ vs H', Frame (EX tc σ) H H' →
    (∃ ex1 : Addr → Prop, (∀ a, ex a → ex1 a) ∧ (∀ a, ex1 a → ex a ∨ H a = none) ∧ R A ex1 o' σ H' env' ∧ if pk then Paired (Pk A.K (XX o' σ ex1) H') vs ds else Reps A.K (XX o' σ ex1) H' vs ds) → Q vs H'

section
variable {X : Cx} {A : Amb} {e a b : Expr} {t t' : TE}
theorem pimp (h : PE X e t) (w : ∀ σ H Q, t' σ H Q → t σ H Q) : PE X e t' := ⟨fun pins s σ H Q I q => h.run pins s σ H Q I (w σ H Q q)⟩
theorem pby (h : ∀ σ H Q, t' σ H Q → ∃ t, PE X e t ∧ t σ H Q) : PE X e t' := ⟨fun pins s σ H Q I q => let ⟨t, p, r⟩ := h σ H Q q; p.run pins s σ H Q I r⟩
theorem timp {t t' : TT} (h : PT X e t) (w : ∀ σ H Q, t' σ H Q → t σ H Q) : PT X e t' := ⟨fun pins s σ H Q I q => h.run pins s σ H Q I (w σ H Q q)⟩
theorem wimp {t t' : TT} (h : PW X e t) (w : ∀ σ H Q, t' σ H Q → t σ H Q) : PW X e t' := ⟨fun wh pins s σ H Q I q => h.run wh pins s σ H Q I (w σ H Q q)⟩
theorem aimp {es : List Expr} {t t' : TA} (h : PA X es t) (w : ∀ σ H Q, t' σ H Q → t σ H Q) : PA X es t' := ⟨fun pos pins s σ H Q I q => h.run pos pins s σ H Q I (w σ H Q q)⟩
end

section
variable {A : Amb} {k l : Kd} {ex ex1 : Addr → Prop} {o o1 o2 : Own} {σ : St} {H H1 H2 H' : Hp} {v w : V} {d x : D} {env env1 : Env} {tc : List Nat}
theorem sub_of {a b : List Nat} (h : subB a b = true) : ∀ i, i ∈ a → i ∈ b := fun i hi => by
  unfold subB at h
  rw [List.all_eq_true] at h
  simpa using h i hi
theorem VR.r (h : VR A k ex o σ H H' v d env) : R A ex o σ H' env := let ⟨_, h1, _, h2, _⟩ := h; h2.less h1
theorem VK'.pk (h : VK' A k ex o σ H H' v d) : Pk A.K (XX o σ ex) H' v d := by
  cases k with
  | val => exact .inl h
  | peek i => obtain ⟨_, p, sh, vs, ds, h1, h2, _, h3, h4⟩ := h; exact .inr ⟨p, sh, vs, ds, h1, h2, h3, h4⟩
  | fresh => obtain ⟨p, sh, vs, ds, h1, h2, _, _, h3, h4⟩ := h; exact .inr ⟨p, sh, vs, ds, h1, h2, h3, h4⟩
theorem VK'.grow (h : VK' A k ex o1 σ H H1 v x) (he : ∀ a, ex1 a → ex a ∨ H1 a = none) (hp : ∀ a, ex a → ex1 a) : VK' A k ex1 o1 σ H H1 v x := by
  have lx : ∀ b, XX o1 σ ex1 b → XX o1 σ ex b ∨ H1 b = none := fun b z => z.elim (fun q => .inl (.inl q)) fun q => (he b q).imp .inr id
  cases k with
  | val => exact Rep.grow lx h
  | peek i =>
    obtain ⟨hi, p, sh, vs, ds, h1, h2, hs, h3, h4⟩ := h
    exact ⟨hi, p, sh, vs, ds, h1, h2, hs, h3, Repz.grow lx h4⟩
  | fresh =>
    obtain ⟨p, sh, vs, ds, h1, h2, hn, hq, h3, h4⟩ := h
    exact ⟨p, sh, vs, ds, h1, h2, hn, hp _ hq, h3, Repz.grow lx h4⟩
/-- behind a further expression it stands as it stood -/
theorem VK'.after (h0 : VK' A k ex o1 σ H H1 v x) (r1 : R A ex o1 σ H1 env1) (f : Frame (EX tc σ) H1 H2) (he : ∀ a, ex1 a → ex a ∨ H1 a = none) (hp : ∀ a, ex a → ex1 a) (ht : ∀ i, i ∈ tc → i ∈ o1) (ho : ∀ i, i ∈ o2 → i ∈ o1)
    (hk : ∀ i, k = .peek i → i ∉ tc ∧ i ∈ o2) : VK' A k ex1 o2 σ H H2 v x := by
  have h := h0.grow he hp
  have fx : Frame (XX o1 σ ex1) H1 H2 := f.mono fun b z => .inl (EX.sub ht b z)
  have lx : ∀ b, XX o2 σ ex1 b → XX o1 σ ex1 b := fun b z => z.imp (EX.sub ho b) id
  cases k with
  | val => exact (Rep.frame fx h).less lx
  | peek i =>
    obtain ⟨hi, p, sh, vs, ds, h1, h2, hs, h3, h4⟩ := h
    obtain ⟨n1, n2⟩ := hk i rfl
    refine ⟨n2, p, sh, vs, ds, h1, h2, hs, f.keep _ _ h3 ?_, (Repz.frame fx h4).less lx⟩
    rintro ⟨j, hj, ej⟩
    exact n1 (by rw [r1.inj i j p hi (ht j hj) hs ej]; exact hj)
  | fresh =>
    obtain ⟨p, sh, vs, ds, h1, h2, hn, hq, h3, h4⟩ := h
    refine ⟨p, sh, vs, ds, h1, h2, hn, hq, f.keep _ _ h3 fun z => ?_, (Repz.frame fx h4).less lx⟩
    obtain ⟨p', _, _, _, e1, _, _, hq', _⟩ := h0
    have : p' = p := by have := e1.symm.trans h1; cases this; rfl
    subst this
    exact r1.dis _ (EX.sub ht _ z) hq'
theorem VK'.noPk (h : VK' A k ex o σ H H' v d) (r : R A ex o σ H' env) {e : Ex} {e' : Ex} {k' : Kd} {o' : Own} (hn : Pv.noPk (e, k, o) = (e', k', o')) : VK' A k' ex o' σ H H' v d ∧ R A ex o' σ H' env := by
  cases k with
  | val => cases hn; exact ⟨h, r⟩
  | fresh => cases hn; exact ⟨h, r⟩
  | peek i =>
    cases hn
    have hs : ∀ j, j ∈ rem o i → j ∈ o := fun j hj => (List.mem_filter.mp hj).1
    refine ⟨?_, r.free hs⟩
    obtain ⟨hi, p, sh, vs, ds, rfl, rfl, h1, h2, h3⟩ := h
    refine .shp sh h2 ?_ (h3.less fun b z => z.imp (EX.sub hs b) id)
    rintro (⟨j, hj, ej⟩ | z)
    · have := r.inj i j p hi (hs j hj) h1 ej
      subst this
      have := (List.mem_filter.mp hj).2
      simp at this
    · exact r.dis p ⟨i, hi, h1⟩ z
/-- what comes of a step that makes a value -/
theorem VR.val {ex0 : Addr → Prop} {H0 : Hp} (h1 : ∀ a, ex0 a → ex a) (h2 : ∀ a, ex a → ex0 a ∨ H0 a = none) (r : R A ex o σ H env) (s : Same H H') (q : Rep A.K (XX o σ ex) H' v d) : VR A .val ex0 o σ H0 H' v d env :=
  ⟨ex, h1, h2, r.keep s, q⟩
theorem VR.fresh {ex0 : Addr → Prop} {H0 : Hp} {p : Addr} {vs : List V} {ds : List D} (h1 : ∀ a, ex0 a → ex a) (h2 : ∀ a, ex a → ex0 a ∨ H0 a = none) (r : R A ex o σ H env) (n0 : H0 p = none) (n : H p = none)
    (q : Reps A.K (fun a => XX o σ ex a ∨ a = p) (upd H p (.lst vs)) vs ds) : VR A .fresh ex0 o σ H0 (upd H p (.lst vs)) (.ref p) (.lst ds) env :=
  ⟨fun a => ex a ∨ a = p, fun a z => .inl (h1 a z), fun a z => z.elim (h2 a) fun e => .inr (by rw [e]; exact n0), r.shut n _, p, .lst, vs, ds, rfl, rfl, n0, .inr rfl, upd_same, (q.less fun b z => by
    rcases z with z | z | z
    · exact .inl (.inl z)
    · exact .inl (.inr z)
    · exact .inr z).z⟩
end
/-- what an operator's answer is wanted for: kinds by what comes -/
theorem rd_of {A : Amb} {ex ex0 : Addr → Prop} {o : Own} {σ : St} {H0 H : Hp} {d : D} {env : Env} {k : Kd} {tc : List Nat} {Q : VK} (hk : k = .val ∨ (k = .fresh ∧ ∃ ds, d = .lst ds)) (h1 : ∀ a, ex0 a → ex a) (h2 : ∀ a, ex a → ex0 a ∨ H0 a = none) (r : R A ex o σ H env)
    (f : Frame (EX tc σ) H0 H) (q : ∀ v H', Frame (EX tc σ) H0 H' → VR A k ex0 o σ H0 H' v d env → Q v H') : RD A.K (XX o σ ex) H d Q := by
  rcases hk with rfl | ⟨rfl, ds, rfl⟩
  · exact RVal.rd r.trX fun v H' s p => q v H' (f.trans (.same s)) (VR.val h1 h2 r s p)
  · exact fun p vs n z => q _ _ (f.trans (.new n)) (VR.fresh h1 h2 r (f.free n) n z)

/-! ### what a def promises -/
def Mof (ms : List Nat) (vs : List V) : Addr → Prop := fun p => ∃ j, j ∈ ms ∧ vs[j]? = some (V.ref p)
structure CallIn (K : PySem.W.Frag) (Z : Addr → Prop) (H : Hp) (ms : List Nat) (vs : List V) (ds : List D) : Prop where
  len : vs.length = ds.length
  tr : TrZ Z H
  non : ∀ j d, j ∉ ms → ds[j]? = some d → ∃ v, vs[j]? = some v ∧ Rep K Z H v d
  mu : ∀ j, j ∈ ms → ∃ p sh ws es, vs[j]? = some (V.ref p) ∧ Z p ∧ H p = some (Shp.ho sh ws) ∧ Repz K Z H sh ws es ∧ ds[j]? = some (Shp.d sh es)
  inj : ∀ i j p, i ∈ ms → j ∈ ms → vs[i]? = some (V.ref p) → vs[j]? = some (V.ref p) → i = j
structure CallOut (K : PySem.W.Frag) (Z Z1 : Addr → Prop) (H : Hp) (ms : List Nat) (vs : List V) (fresh : Bool) (H' : Hp) (v : V) (d : D) (os : List D) : Prop where
  up : ∀ a, Z a → Z1 a
  dn : ∀ a, Z1 a → Z a ∨ H a = none
  tr : TrZ Z1 H'
  fr : Frame (Mof ms vs) H H'
  outs : ∀ (n j : Nat), ms[n]? = some j → ∃ p sh ws es, vs[j]? = some (V.ref p) ∧ H' p = some (Shp.ho sh ws) ∧ Repz K Z1 H' sh ws es ∧ os[n]? = some (Shp.d sh es)
  olen : os.length = ms.length
  res : if fresh then ∃ p sh ws es, v = .ref p ∧ d = Shp.d sh es ∧ H p = none ∧ Z1 p ∧ H' p = some (Shp.ho sh ws) ∧ Repz K Z1 H' sh ws es else Rep K Z1 H' v d
/-! ### exceptions -/
/-- what the written part says of a class of exceptions: XfC, and how it answers to the others -/
structure ClsOk (K : PySem.W.Frag) (mg : Str → Option Value) (XS : List (Str × XSig)) (G : XSig) (C : Addr) : Prop where
  xf : XfC K C
  no : ∀ f, f ∈ G.fs → PySem.W.findIn K (.ref C) f = some none
  ex : ∀ y G', XS.lookup y = some G' → ∃ C', mg y = some (.ref C') ∧ PySem.W.exmOne K (.ref C) (.ref C') = some (subX G.id G'.id) ∧ PySem.W.kitOne K (.ref C) (.ref C') = some (subX G.id G'.id)
  cl : PySem.W.findIn K (.ref C) "__class__" = some (some (.builtin "object.__class__"))
  gs : PySem.W.specialIn K (.builtin "object.__class__") "__get__" = some (some (.builtin "getset_descriptor.__get__"))
  tk : PySem.W.takesIn K (.builtin "object.__class__") = some true
  mr : PySem.W.mroIn K C (.type "object") = some true
  ve : PySem.W.kitOne K (.ref C) (.type "ValueError") = some true
/-- x, as it stands in the heap: its class, its dict -/
def XIs (K : PySem.W.Frag) (mg : Str → Option Value) (XS : List (Str × XSig)) (x : Exn) (cls : Value) (d : Option Addr) (H : Hp) : Prop :=
  ∃ (nm : Str) (G : XSig) (C dd : Addr) (fs : List (Str × V)), XS.lookup nm = some G ∧ G.id = x.cls ∧ ClsOk K mg XS G C ∧ cls = .ref C ∧ d = some dd ∧ H dd = some (.xd fs) ∧
    ∀ f e, x.fs.lookup f = some e → f ∈ G.fs ∧ ∃ v, fs.lookup f = some v ∧ ∀ Z H, Rep K Z H v e
/-- what an __init__ that stores its arguments keeps -/
def spI (K : PySem.W.Frag) (fs : List Str) : Sp := fun vs H Q _ => ∃ (a C : Addr) (ws : List V), vs = .ref a :: ws ∧ ws.length = fs.length ∧ OexC K C ∧ (∀ f, f ∈ fs → PySem.W.findIn K (.ref C) f = some none) ∧ H a = some (exo a C none) ∧
  ∀ (dx : Addr) (H2 : Hp), H dx = none → dx ≠ a → H2 a = some (exo a C (some dx)) → H2 dx = some (exd dx (fs.zip ws).reverse) → (∀ b, b ≠ a → b ≠ dx → H2 b = H b) → Q .non H2
/-- a class of exceptions, as the module binds it; raised are those alone that have fields -/
def ExP (P : Program) (w : World) (K : PySem.W.Frag) (mg : Str → Option Value) (base : Heap) (XS : List (Str × XSig)) (x : Str) (G : XSig) : Prop :=
  ∃ C, mg x = some (.ref C) ∧ (G.fs ≠ [] → ClsOk K mg XS G C ∧ OexC K C ∧ ((∃ f, G.fs = [f]) ∨ ∃ f g, G.fs = [f, g] ∧ f ≠ g) ∧ ∃ fI fd ps, PySem.W.findIn K (.ref C) "__init__" = some (some (.ref fI)) ∧ PySem.W.typeIn K (.ref fI) = some (.type "function") ∧
    FnOk P w K mg base (L2.CX P w) 1 fI fd ps (spI K G.fs) ∧ Binds K fd ps [])
def spEnd (K : PySem.W.Frag) (mg : Str → Option Value) (XS : List (Str × XSig)) (F : FSig) (Z : Addr → Prop) (vs : List V) (H : Hp) (Q : VK) (E : XK) : Out (D × List D) → Prop
  | .ok (d, os) => ∀ Z1 v H', CallOut K Z Z1 H F.muts vs F.fresh H' v d os → Q v H'
  | .err x => ∀ cls dx H', Frame (Mof F.muts vs) H H' → XIs K mg XS x cls dx H' → E cls dx H'
  | .stuck => False
def spF (K : PySem.W.Frag) (mg : Str → Option Value) (XS : List (Str × XSig)) (cf : Cf) (F : FSig) : Sp := fun vs H Q E => ∃ Z ds, vs.length = F.np ∧ CallIn K Z H F.muts vs ds ∧ spEnd K mg XS F Z vs H Q E (cf F.id ds)
theorem spF_ok {K : PySem.W.Frag} {mg : Str → Option Value} {XS : List (Str × XSig)} {cf : Cf} {F : FSig} {vs : List V} {H : Hp} {Q : VK} {E : XK}
    (h : ∃ Z ds d os, vs.length = F.np ∧ CallIn K Z H F.muts vs ds ∧ cf F.id ds = .ok (d, os) ∧ ∀ Z1 v H', CallOut K Z Z1 H F.muts vs F.fresh H' v d os → Q v H') : spF K mg XS cf F vs H Q E := by
  obtain ⟨Z, ds, d, os, h1, h2, h3, h4⟩ := h
  exact ⟨Z, ds, h1, h2, by rw [h3]; exact h4⟩
/-- an own class, as the module binds it: q what is known of each def of it -/
def ClP (K : PySem.W.Frag) (mg : Str → Option Value) (q : FSig → Addr → Prop) (x : Str) (G : CSig) : Prop :=
  ∃ C, mg x = some (.ref C) ∧ ObF K C x G.as ∧ (∀ F, G.init = some F → ∃ f, Mk K C f ∧ q F f) ∧ ∀ m F, G.ms.lookup m = some F → ∃ f, Meth K C m f ∧ q F f
/-- a def that does what the small language says -/
def DefP (P : Program) (w : World) (K : PySem.W.Frag) (mg : Str → Option Value) (base : Heap) (XS : List (Str × XSig)) (cf : Cf) (k : Nat) (F : FSig) (f : Addr) : Prop :=
  ∃ fd ps, FnOk P w K mg base (L2.CX P w) k f fd ps (spF K mg XS cf F) ∧ Binds K fd ps [] ∧ ps.length = F.np
/-- a context that fits what the texts were compiled for -/
structure XOk (X : Cx) (c : Ctx) (cf : Cf) (k : Nat) : Prop where
  rm : Rm X
  N : X.N = c.N
  nd : c.N.Nodup
  sc : X.env.scope = c.sc
  fn : X.fn = c.fn
  room : Room (2 * k + 3) X.A
  nos : ∀ x, x ∈ c.nos → X.mg x = none
  consts : ∀ x d, c.consts.lookup x = some d → ∃ u v, X.mg x = some u ∧ RelV v u ∧ ∀ Z H, Rep X.K Z H v d
  fns : ∀ x F, c.fns.lookup x = some F → ∃ f fd ps, X.mg x = some (.ref f) ∧ PySem.W.keepIn X.K (.ref f) = true ∧ FnOk X.prog X.w X.K X.mg X.base (L2.CX X.prog X.w) (2 * k + 2) f fd ps (spF X.K X.mg c.exs cf F) ∧ Binds X.K fd ps [] ∧ ps.length = F.np
  exs : ∀ x G, c.exs.lookup x = some G → ExP X.prog X.w X.K X.mg X.base c.exs x G
  cls : ∀ x G, c.cls.lookup x = some G → ClP X.K X.mg (DefP X.prog X.w X.K X.mg X.base c.exs cf (2 * k + 2)) x G
/-- parameters that are handed over are not stored -/
def AOk (A : Amb) (c : Ctx) : Prop := (∀ i p, (i, p) ∈ A.mp → i ∈ c.muts) ∧ A.n = c.N.length
def SndE (cf : Cf) (k : Nat) (c : Ctx) (o : Own) (e : Expr) (r : Cr) : Prop :=
  ∀ (X : Cx), XOk X c cf k → ∀ A : Amb, A.K = X.K → AOk A c → PE X e (tM A o r.2.2 r.2.1 (tch r.1) (evE cf r.1))
def SndT (cf : Cf) (k : Nat) (c : Ctx) (o : Own) (e : Expr) (x : Ex) (o1 : Own) : Prop :=
  ∀ (X : Cx), XOk X c cf k → ∀ A : Amb, A.K = X.K → AOk A c → PT X e (tMT A o o1 (tch x) (evE cf x))
def RecOk (cf : Cf) (k : Nat) (rec : Rec) : Prop := ∀ c o e r, rec c o e = some r → SndE cf k c o e r ∧ okS o r = true
def RecTOk (cf : Cf) (k : Nat) (rec : RecT) : Prop := ∀ c o e x o1, rec c o e = some (x, o1) → SndT cf k c o e x o1 ∧ (∀ i, i ∈ o1 → i ∈ o) ∧ ∀ i, i ∈ tch x → i ∈ o1
section
variable {cf : Cf} {k : Nat} {c : Ctx} {o : Own} {e : Expr} {r : Cr} {X : Cx}
theorem okS_sub (h : okS o r = true) : (∀ i, i ∈ r.2.2 → i ∈ o) ∧ (∀ i, i ∈ tch r.1 → i ∈ r.2.2) ∧ ∀ i, r.2.1 = .peek i → i ∈ r.2.2 := by
  obtain ⟨x, kd, o1⟩ := r
  unfold okS at h
  simp only [Bool.and_eq_true] at h
  obtain ⟨⟨h1, h2⟩, h3⟩ := h
  refine ⟨sub_of h1, sub_of h2, fun i e => ?_⟩
  have e' : kd = .peek i := e
  subst e'
  simpa using h3
theorem noPk_fst : (noPk r).1 = r.1 := by obtain ⟨x, kd, o1⟩ := r; cases kd <;> rfl
theorem noPk_kd : ∀ i, (noPk r).2.1 ≠ .peek i := by obtain ⟨x, kd, o1⟩ := r; cases kd <;> (intro i h; cases h)
theorem noPk_sub : ∀ i, i ∈ (noPk r).2.2 → i ∈ r.2.2 := by
  obtain ⟨x, kd, o1⟩ := r
  cases kd with
  | peek j => exact fun i hi => (List.mem_filter.mp hi).1
  | _ => exact fun i hi => hi
theorem SndE.noPk (h : SndE cf k c o e r) : SndE cf k c o e (noPk r) := fun X ok A hA hM => by
  refine pimp (h X ok A hA hM) fun σ H Q q => ?_
  obtain ⟨ex, env, d, env', hr, hm, q⟩ := q
  refine ⟨ex, env, d, env', hr, by rw [← noPk_fst]; exact hm, fun v H' f vr => q v H' (by rw [noPk_fst]; exact f) ?_⟩
  obtain ⟨ex1, h1, h2, h3, h4⟩ := vr
  obtain ⟨a, b⟩ := h4.noPk h3 (e := r.1) (e' := (Pv.noPk r).1) (k' := (Pv.noPk r).2.1) (o' := (Pv.noPk r).2.2) rfl
  exact ⟨ex1, h1, h2, b, a⟩
/-- two in a row -/
theorem two {A : Amb} {o o1 o2 : Own} {k l : Kd} {ta tb : List Nat} {ma mb : Env → Out (D × Env)} {σ : St} {H : Hp} {ex : Addr → Prop} {env e1 e2 : Env} {x y : D} {Q : V → V → Hp → Prop}
    (hr : R A ex o σ H env) (ha : ma env = .ok (x, e1)) (hb : mb e1 = .ok (y, e2)) (s1 : ∀ i, i ∈ ta → i ∈ o) (s2 : ∀ i, i ∈ tb → i ∈ o1) (s3 : ∀ i, i ∈ o2 → i ∈ o1) (hk : ∀ i, k = .peek i → i ∉ tb ∧ i ∈ o2)
    (q : ∀ v w H1 H2 ex2, (∀ a, ex a → ex2 a) → (∀ a, ex2 a → ex a ∨ H a = none) → R A ex2 o2 σ H2 e2 → Frame (EX (ta ++ tb) σ) H H2 → VK' A k ex2 o2 σ H H2 v x → VK' A l ex2 o2 σ H1 H2 w y → Q v w H2) :
    tM A o o1 k ta ma σ H fun v H1 => tM A o1 o2 l tb mb σ H1 fun w H2 => Q v w H2 := by
  refine ⟨ex, env, x, e1, hr, ha, fun v H1 f1 vr1 => ?_⟩
  obtain ⟨ex1, u1, d1, r1, k1⟩ := vr1
  refine ⟨ex1, e1, y, e2, r1, hb, fun w H2 f2 vr2 => ?_⟩
  obtain ⟨ex2, u2, d2, r2, k2⟩ := vr2
  have fa : Frame (EX (ta ++ tb) σ) H H1 := f1.mono fun b ⟨i, hi, e⟩ => ⟨i, List.mem_append_left _ hi, e⟩
  have fb : Frame (EX (ta ++ tb) σ) H1 H2 := f2.mono fun b ⟨i, hi, e⟩ => ⟨i, List.mem_append_right _ hi, e⟩
  refine q v w H1 H2 ex2 (fun a z => u2 a (u1 a z)) (fun a z => ?_) r2 (fa.trans fb) (k1.after r1 f2 d2 u2 s2 s3 hk) k2
  rcases d2 a z with z | z
  · exact d1 a z
  · exact .inr (f1.free z)
theorem bind_ok {α β : Type} {x : Out α} {f : α → Out β} {b : β} (h : x.bind f = .ok b) : ∃ a, x = .ok a ∧ f a = .ok b := by
  cases x with
  | ok a => exact ⟨a, rfl, h⟩
  | err _ => cases h
  | stuck => cases h
theorem of_ok {α : Type} {x : Option α} {b : α} (h : Out.of x = .ok b) : x = some b := by
  cases x with
  | none => cases h
  | some a => cases h; rfl

/-! ### names, constants -/
theorem slotOf_spec {N : List Str} {x : Str} {i : Nat} (h : slotOf N x = some i) : N[i]? = some x := by
  unfold slotOf at h
  have := List.find?_some h
  simpa using this
theorem odd_no {x : Str} (h : (!oddName x) = true) : (x == ("__debug__" : Str)) = false ∧ (x == ("__classdict__" : Str)) = false ∧ x ≠ "__name__" := by
  unfold oddName at h
  simp only [Bool.not_or, Bool.and_eq_true, Bool.not_eq_true'] at h
  obtain ⟨⟨h1, h2⟩, h3⟩ := h
  exact ⟨h1, h2, fun e => by rw [e] at h3; simp at h3⟩
theorem vis_of (ok : XOk X c cf k) {x : Str} (h : visB c.sc x = true) : Vis X.env.scope x := by
  rw [ok.sc]
  unfold visB at h
  unfold Vis
  split at h <;> simp_all
theorem varOf_spec (ok : XOk X c cf k) {x : Str} {i : Nat} (h : varOf c x = some i) {pos : Pos} : PE X (.Name x pos) (tVar i) := by
  unfold varOf at h
  split at h
  · rename_i h1
    rw [Bool.and_eq_true] at h1
    obtain ⟨n1, n2, _⟩ := odd_no h1.2
    exact pe_var (by rw [ok.N]; exact slotOf_spec h) (vis_of ok h1.1) n1 n2
  · cases h
theorem gl_of (ok : XOk X c cf k) {x : Str} (h : glB c.sc x = true) : Gl X x := by
  unfold Gl Env.kindOf
  rw [ok.sc]
  unfold glB at h
  split at h
  · assumption
  · cases h
theorem snd_name {x : Str} {pos : Pos} (h : cName c o x = some r) : SndE cf k c o (.Name x pos) r := fun X ok A hA hM => by
  unfold cName at h
  split at h
  · rename_i i hv
    have pv := varOf_spec ok (pos := pos) hv
    split at h
    · rename_i hi
      cases h
      have hi' : i ∈ o := by simpa using hi
      refine pimp pv fun σ H Q q => ?_
      obtain ⟨ex, env, d, env', hr, hm, q⟩ := q
      simp only [evE] at hm
      obtain ⟨p, sh, vs, ds, h1, h2, h3, h4⟩ := hr.owl i hi'
      rw [h4] at hm
      cases hm
      exact ⟨_, h1, q _ _ (Frame.refl H) ⟨ex, fun _ z => z, fun _ z => .inl z, hr, hi', p, sh, vs, ds, rfl, rfl, h1, h2, h3⟩⟩
    · rename_i hi
      cases h
      have hi' : i ∉ o := by simpa using hi
      refine pimp pv fun σ H Q q => ?_
      obtain ⟨ex, env, d, env', hr, hm, q⟩ := q
      simp only [evE] at hm
      split at hm
      · rename_i d' hd
        cases hm
        obtain ⟨v, h1, h2⟩ := hr.non i d hi' hd
        exact ⟨_, h1, q _ _ (Frame.refl H) ⟨ex, fun _ z => z, fun _ z => .inl z, hr, h2⟩⟩
      · cases hm
  · split at h
    · rename_i h1
      rw [Bool.and_eq_true] at h1
      obtain ⟨d, hd, rfl⟩ := Option.map_eq_some_iff.mp h
      obtain ⟨u, v, g1, g2, g3⟩ := ok.consts x d hd
      refine pimp (pe_glob (gl_of ok h1.1) g1 g2 (odd_no h1.2).1) fun σ H Q q => ?_
      obtain ⟨ex, env, d, env', hr, hm, q⟩ := q
      simp only [evE] at hm
      cases hm
      exact q _ _ (Frame.refl H) ⟨ex, fun _ z => z, fun _ z => .inl z, hr, by rw [VK', hA]; exact g3 _ _⟩
    · cases h
theorem snd_const {kc : Const} {j : Nat} {pos : Pos} (h : cConst o kc = some r) : SndE cf k c o (.Constant kc j pos) r := fun X ok A hA hM => by
  unfold cConst at h
  split at h
  · cases h
    refine pimp pe_non fun σ H Q q => ?_
    obtain ⟨ex, env, d, env', hr, hm, q⟩ := q
    simp only [evE] at hm
    cases hm
    exact q _ _ (Frame.refl H) ⟨ex, fun _ z => z, fun _ z => .inl z, hr, .non⟩
  · cases h
    refine pimp pe_bl fun σ H Q q => ?_
    obtain ⟨ex, env, d, env', hr, hm, q⟩ := q
    simp only [evE] at hm
    cases hm
    exact q _ _ (Frame.refl H) ⟨ex, fun _ z => z, fun _ z => .inl z, hr, .bl _⟩
  · cases h
    refine pimp pe_int fun σ H Q q => ?_
    obtain ⟨ex, env, d, env', hr, hm, q⟩ := q
    simp only [evE] at hm
    cases hm
    exact q _ _ (Frame.refl H) ⟨ex, fun _ z => z, fun _ z => .inl z, hr, .int _⟩
  · split at h
    · rename_i ho
      cases h
      refine pimp pe_str fun σ H Q q => ?_
      obtain ⟨ex, env, d, env', hr, hm, q⟩ := q
      simp only [evE] at hm
      cases hm
      exact q _ _ (Frame.refl H) ⟨ex, fun _ z => z, fun _ z => .inl z, hr, .str _ ho⟩
    · cases h
  · cases h

/-! ### operators -/
theorem okPk_of {kd : Kd} {y : Ex} {o2 : Own} (h : okPk kd y o2 = true) : ∀ i, kd = .peek i → i ∉ tch y ∧ i ∈ o2 := fun i e => by
  subst e
  unfold okPk at h
  simpa using h
theorem append_sub {a b : List Nat} {o : Own} (h1 : ∀ i, i ∈ a → i ∈ o) (h2 : ∀ i, i ∈ b → i ∈ o) : ∀ i, i ∈ a ++ b → i ∈ o := fun i hi => (List.mem_append.mp hi).elim (h1 i) (h2 i)
/-- two operands and an operator, as a value -/
theorem snd_op2 {f : Value → Value → Sem Value} {F : D → D → Option D} {A : Amb} (hA : A.K = X.K) {o o1 o2 : Own} {k l kr : Kd} {ta tb : List Nat} {ma mb m : Env → Out (D × Env)} {e : Expr} {ea eb : Expr} (op : Op2 X f F)
    (mk : ∀ {r : R2} {t1 t2 : TE}, OpR X f r → PE X ea t1 → PE X eb t2 → PE X e (tOp r t1 t2)) (pa : PE X ea (tM A o o1 k ta ma)) (pb : PE X eb (tM A o1 o2 l tb mb))
    (s1 : ∀ i, i ∈ ta → i ∈ o1) (s1' : ∀ i, i ∈ o1 → i ∈ o) (s2 : ∀ i, i ∈ tb → i ∈ o2) (s3 : ∀ i, i ∈ o2 → i ∈ o1) (hk : ∀ i, k = .peek i → i ∉ tb ∧ i ∈ o2)
    (hm : ∀ env d env', m env = .ok (d, env') → ∃ x e1 y, ma env = .ok (x, e1) ∧ mb e1 = .ok (y, env') ∧ F x y = some d)
    (hr : ∀ env x e1 y e2 d, ma env = .ok (x, e1) → mb e1 = .ok (y, e2) → F x y = some d → (∀ v H H' ex o σ, VK' A k ex o σ H H' v x → ∀ w H1 H1' ex' o' σ', VK' A l ex' o' σ' H1 H1' w y → kr = .val ∨ (kr = .fresh ∧ ∃ ds, d = .lst ds))) :
    PE X e (tM A o o2 kr (ta ++ tb) m) := by
  obtain ⟨r, hop, rule⟩ := op
  refine pimp (mk hop pa pb) fun σ H Q q => ?_
  obtain ⟨ex, env, d, env', rr, hmm, q⟩ := q
  obtain ⟨x, e1, y, h1, h2, h3⟩ := hm env d env' hmm
  refine two rr h1 h2 (fun i hi => s1' i (s1 i hi)) (fun i hi => s3 i (s2 i hi)) s3 hk fun v w H1 H2 ex2 u d2 r2 f k1 k2 => ?_
  have g := hr env x e1 y env' d h1 h2 h3 v H H2 ex2 o2 σ k1 w H1 H2 ex2 o2 σ k2
  refine rule _ _ v w x y d Q r2.trX (by rw [← hA]; exact k1.pk) (by rw [← hA]; exact k2.pk) h3 ?_
  rw [← hA]
  exact rd_of g u d2 r2 f q
theorem VK'.lst {A : Amb} {k : Kd} {ex : Addr → Prop} {o : Own} {σ : St} {H H' : Hp} {v : V} {d : D} (h : VK' A k ex o σ H H' v d) (hk : isL k = true) : ∃ sh ds, d = Shp.d sh ds := by
  cases k with
  | val => cases hk
  | peek i => obtain ⟨_, p, sh, vs, ds, _, e, _⟩ := h; exact ⟨sh, ds, e⟩
  | fresh => obtain ⟨p, sh, vs, ds, _, e, _⟩ := h; exact ⟨sh, ds, e⟩
theorem binF_add_lst {x y d : D} (h : binF .add x y = some d) (hl : (∃ sh ds, x = Shp.d sh ds) ∨ ∃ sh ds, y = Shp.d sh ds) : ∃ ds, d = .lst ds := by
  unfold binF at h
  split at h <;> first | contradiction | skip
  all_goals (first | (rcases hl with ⟨sh, ds, e⟩ | ⟨sh, ds, e⟩ <;> cases sh <;> cases e; done) | skip)
  all_goals (split at h <;> first | (cases h; exact ⟨_, rfl⟩) | (cases h; done))
theorem guard_eq {p : Prop} [Decidable p] {u : Unit} : (guard p : Option Unit) = some u ↔ p := by
  unfold guard
  split
  · rename_i h
    exact ⟨fun _ => h, fun _ => rfl⟩
  · rename_i h
    exact ⟨fun q => (by cases q), fun q => absurd q h⟩
theorem snd_bin {rec : Rec} (hrec : RecOk cf k rec) {a b : Expr} {op : Operator} {pos : Pos} (h : cBin rec c o a op b = some r) : SndE cf k c o (.BinOp a op b pos) r := fun X ok A hA hM => by
  unfold cBin at h
  simp only [Option.bind_eq_bind, Option.bind_eq_some_iff, guard_eq] at h
  obtain ⟨p, hp, ⟨x, kd, o1⟩, hx, ⟨y, l, o2⟩, hy, _, hk, h⟩ := h
  obtain ⟨sx, okx⟩ := hrec _ _ _ _ hx
  obtain ⟨sy, oky⟩ := hrec _ _ _ _ hy
  obtain ⟨x1, x2, _⟩ := okS_sub okx
  obtain ⟨y1, y2, _⟩ := okS_sub oky
  have core : ∀ kr : Kd, (kr = .val ∨ (kr = .fresh ∧ ((p = .add ∧ (isL kd || isL l) = true) ∨ (p = .mul ∧ isL kd = true)))) → SndE cf k c o (.BinOp a op b pos) (.bin p x y, kr, o2) := fun kr hkr X ok A hA hM => by
    refine snd_op2 hA (op2_bin hp) (fun h1 h2 h3 => pe_op h1 h2 h3) (sx X ok A hA hM) (sy X ok A hA hM) x2 x1 y2 y1 (okPk_of hk) (fun env d env' hm => ?_) (fun env x' e1 y' e2 d h1 h2 h3 v H H' ex o' σ k1 w H1 H1' ex' o'' σ' k2 => ?_)
    · simp only [evE] at hm
      obtain ⟨⟨x', e1⟩, h1, hm⟩ := bind_ok hm
      obtain ⟨⟨y', e2⟩, h2, hm⟩ := bind_ok hm
      obtain ⟨z, h3, hm⟩ := bind_ok hm
      cases hm
      exact ⟨x', e1, y', h1, h2, of_ok h3⟩
    · rcases hkr with rfl | ⟨rfl, hl⟩
      · exact .inl rfl
      · refine .inr ⟨rfl, ?_⟩
        rcases hl with ⟨rfl, hl⟩ | ⟨rfl, hl⟩
        · rw [Bool.or_eq_true] at hl
          exact binF_add_lst h3 (hl.imp (fun z => k1.lst z) fun z => k2.lst z)
        · obtain ⟨sh, ds, e⟩ := k1.lst hl
          subst e
          unfold binF at h3
          cases sh <;> (unfold Shp.d at h3; split at h3 <;> first | contradiction | skip)
          all_goals (first | (cases h3; done) | skip)
          split at h3
          · cases h3; exact ⟨_, rfl⟩
          · cases h3
  split at h
  · cases h
    by_cases z : (isL kd || isL l) = true
    · rw [if_pos z]; exact core _ (.inr ⟨rfl, .inl ⟨rfl, z⟩⟩) X ok A hA hM
    · rw [if_neg z]; exact core _ (.inl rfl) X ok A hA hM
  · cases h
    by_cases z : isL kd = true
    · rw [if_pos z]; exact core _ (.inr ⟨rfl, .inr ⟨rfl, z⟩⟩) X ok A hA hM
    · rw [if_neg z]; exact core _ (.inl rfl) X ok A hA hM
  · split at h
    · cases h
    · cases h; exact core _ (.inl rfl) X ok A hA hM
/-- the operator of a comparison -/
theorem op2_cmp (rm : Rm X) {op : CmpOp} {b : Expr} {p : Cop} (h : copOf op b = some p) :
    ∃ F : D → D → Option D, Op2 X (compareOp op) F ∧ ∀ (x y d : D), (cmpF p x y).map D.bl = some d → (∀ j kc pos, b = .Constant kc j pos → (kc = .none → y = .non) ∧ ∀ k, kc = .bool k → y = .bl k) → F x y = some d := by
  unfold copOf at h
  split at h <;> first | contradiction | skip
  all_goals (cases h)
  · exact ⟨_, op2_eq rm, fun _ _ _ e _ => e⟩
  · exact ⟨_, op2_ne rm, fun _ _ _ e _ => e⟩
  · exact ⟨_, op2_lt rm, fun _ _ _ e _ => e⟩
  · exact ⟨_, op2_le rm, fun _ _ _ e _ => e⟩
  · exact ⟨_, op2_gt rm, fun _ _ _ e _ => e⟩
  · exact ⟨_, op2_ge rm, fun _ _ _ e _ => e⟩
  · exact ⟨_, op2_in rm, fun _ _ _ e _ => e⟩
  · exact ⟨_, op2_notIn rm, fun _ _ _ e _ => e⟩
  · exact ⟨_, op2_isN, fun x y d e hb => by obtain rfl := (hb _ _ _ rfl).1 rfl; exact e⟩
  · exact ⟨_, op2_notN, fun x y d e hb => by obtain rfl := (hb _ _ _ rfl).1 rfl; exact e⟩
  · rename_i kb kj kp
    refine ⟨_, op2_isB kb, fun x y d e hb => ?_⟩
    obtain rfl := (hb _ _ _ rfl).2 _ rfl
    dsimp only
    rw [if_pos rfl]
    exact e
  · rename_i kb kj kp
    refine ⟨_, op2_notB kb, fun x y d e hb => ?_⟩
    obtain rfl := (hb _ _ _ rfl).2 _ rfl
    dsimp only
    rw [if_pos rfl]
    exact e
/-- a constant's meaning -/
theorem const_of {rec : Rec} {b : Expr} {y : Ex} {l : Kd} {o1 o2 : Own} (hrec : RecOk cf k rec) (hc : ∀ c o kc j pos r, rec c o (.Constant kc j pos) = some r → cConst o kc = some r) (h : rec c o1 b = some (y, l, o2)) {e1 e2 : Env} {w : D} (hy : evE cf y e1 = .ok (w, e2)) :
    ∀ j kc pos, b = .Constant kc j pos → (kc = .none → w = .non) ∧ ∀ k, kc = .bool k → w = .bl k := fun j kc pos e => by
  subst e
  have := hc _ _ _ _ _ _ h
  refine ⟨fun e => ?_, fun k e => ?_⟩
  · subst e; cases this; simp only [evE] at hy; cases hy; rfl
  · subst e; cases this; simp only [evE] at hy; cases hy; rfl
def RecC (rec : Rec) : Prop := ∀ c o kc j pos r, rec c o (.Constant kc j pos) = some r → cConst o kc = some r
/-- the parts of a comparison -/
theorem cmp_parts {rec : Rec} (hrec : RecOk cf k rec) (hc : RecC rec) {a b : Expr} {op : CmpOp} (h : cCmp rec c o a op b = some r) (X : Cx) (ok : XOk X c cf k) (A : Amb) (hA : A.K = X.K) (hM : AOk A c) :
    ∃ p x kd o1 y l o2 F, r = (.cmp p x y, .val, o2) ∧ Op2 X (compareOp op) F ∧ behindInMarks op b = false ∧ PE X a (tM A o o1 kd (tch x) (evE cf x)) ∧ PE X b (tM A o1 o2 l (tch y) (evE cf y)) ∧
      (∀ i, i ∈ tch x → i ∈ o1) ∧ (∀ i, i ∈ o1 → i ∈ o) ∧ (∀ i, i ∈ tch y → i ∈ o2) ∧ (∀ i, i ∈ o2 → i ∈ o1) ∧ (∀ i, kd = .peek i → i ∉ tch y ∧ i ∈ o2) ∧
      ∀ env d env', evE cf (.cmp p x y) env = .ok (d, env') → ∃ x' e1 y', evE cf x env = .ok (x', e1) ∧ evE cf y e1 = .ok (y', env') ∧ F x' y' = some d ∧ ∃ z, d = .bl z := by
  unfold cCmp at h
  simp only [Option.bind_eq_bind, Option.bind_eq_some_iff, guard_eq] at h
  obtain ⟨p, hp, ⟨x, kd, o1⟩, hx, ⟨y, l, o2⟩, hy, _, hk, _, hmk, h⟩ := h
  obtain ⟨sx, okx⟩ := hrec _ _ _ _ hx
  obtain ⟨sy, oky⟩ := hrec _ _ _ _ hy
  obtain ⟨x1, x2, _⟩ := okS_sub okx
  obtain ⟨y1, y2, _⟩ := okS_sub oky
  obtain ⟨F, hF, hF2⟩ := op2_cmp ok.rm (X := X) hp
  cases h
  refine ⟨p, x, kd, o1, y, l, o2, F, rfl, hF, by simpa using hmk, sx X ok A hA hM, sy X ok A hA hM, x2, x1, y2, y1, okPk_of hk, fun env d env' hm => ?_⟩
  simp only [evE] at hm
  obtain ⟨⟨x', e1⟩, h1, hm⟩ := bind_ok hm
  obtain ⟨⟨y', e2⟩, h2, hm⟩ := bind_ok hm
  obtain ⟨z, h3, hm⟩ := bind_ok hm
  cases hm
  exact ⟨x', e1, y', h1, h2, hF2 _ _ _ (by rw [of_ok h3]; rfl) (const_of hrec hc hy h2), z, rfl⟩
theorem snd_cmp {rec : Rec} (hrec : RecOk cf k rec) (hc : RecC rec) {a b : Expr} {op : CmpOp} {pos : Pos} (h : cCmp rec c o a op b = some r) : SndE cf k c o (.Compare a [op] [b] pos) r := fun X ok A hA hM => by
  obtain ⟨p, x, kd, o1, y, l, o2, F, rfl, hF, hm, pa, pb, x2, x1, y2, y1, hk, hev⟩ := cmp_parts hrec hc h X ok A hA hM
  refine snd_op2 hA hF (fun h1 h2 h3 => pe_cmpR h1 h2 h3 hm) pa pb x2 x1 y2 y1 hk (fun env d env' h => ?_) (fun _ _ _ _ _ _ _ _ _ _ _ _ _ _ _ _ _ _ _ _ _ _ _ => .inl rfl)
  obtain ⟨x', e1, y', h1, h2, h3, _⟩ := hev env d env' h
  exact ⟨x', e1, y', h1, h2, h3⟩
theorem snd_cmpT {rec : Rec} (hrec : RecOk cf k rec) (hc : RecC rec) {a b : Expr} {op : CmpOp} {pos : Pos} (h : cCmp rec c o a op b = some r) : SndT cf k c o (.Compare a [op] [b] pos) r.1 r.2.2 := fun X ok A hA hM => by
  obtain ⟨p, x, kd, o1, y, l, o2, F, rfl, hF, hm, pa, pb, x2, x1, y2, y1, hk, hev⟩ := cmp_parts hrec hc h X ok A hA hM
  obtain ⟨rr, hop, rule⟩ := hF
  refine timp (pt_cmpR hop pa pb hm) fun σ H Q q => ?_
  obtain ⟨ex, env, d, env', r0, hmm, q⟩ := q
  obtain ⟨x', e1, y', h1, h2, h3, z, rfl⟩ := hev env d env' hmm
  refine two r0 h1 h2 (fun i hi => x1 i (x2 i hi)) (fun i hi => y1 i (y2 i hi)) y1 hk fun v w H1 H2 ex2 u d2 r2 f k1 k2 => ?_
  refine rule _ _ v w x' y' _ _ r2.trX (by rw [← hA]; exact k1.pk) (by rw [← hA]; exact k2.pk) h3 ?_
  show RVal _ _ _ _ _
  refine fun v' H' s' r' => ?_
  cases r'
  exact ⟨z, rfl, q H' (f.trans (.same s')) ((r2.keep s').less u)⟩
/-! ### and, or, not, if -/
theorem tM.mono {A : Amb} {o o1 : Own} {kd : Kd} {tc : List Nat} {m : Env → Out (D × Env)} {σ : St} {H : Hp} {Q Q' : VK} (h : tM A o o1 kd tc m σ H Q) (w : ∀ v H', Q v H' → Q' v H') : tM A o o1 kd tc m σ H Q' := by
  obtain ⟨ex, env, d, env', r, hm, q⟩ := h
  exact ⟨ex, env, d, env', r, hm, fun v H' f vr => w v H' (q v H' f vr)⟩
theorem snd_notV {rec : Rec} (hrec : RecOk cf k rec) {a : Expr} {pos : Pos} {x : Ex} {kd : Kd} {o1 : Own} (h : rec c o a = some (x, kd, o1)) : SndE cf k c o (.UnaryOp .Not a pos) (.not x, .val, o1) := fun X ok A hA hM => by
  obtain ⟨sx, okx⟩ := hrec _ _ _ _ h
  refine pimp (pe_notO (sx X ok A hA hM)) fun σ H Q q => ?_
  obtain ⟨ex, env, d, env', r, hm, q⟩ := q
  simp only [evE] at hm
  obtain ⟨⟨x', e1⟩, h1, hm⟩ := bind_ok hm
  cases hm
  refine ⟨ex, env, x', e1, r, h1, fun v H' f vr => ?_⟩
  obtain ⟨ex1, u, dn, r1, k1⟩ := vr
  exact ⟨truth x', by rw [← hA]; exact k1.pk.tru, q _ _ f ⟨ex1, u, dn, r1, .bl _⟩⟩
theorem snd_neg {rec : Rec} (hrec : RecOk cf k rec) {a : Expr} {pos : Pos} {x : Ex} {kd : Kd} {o1 : Own} (h : (rec c o a).map noPk = some (x, kd, o1)) : SndE cf k c o (.UnaryOp .USub a pos) (.un .neg x, .val, o1) := fun X ok A hA hM => by
  obtain ⟨r', h, e⟩ := Option.map_eq_some_iff.mp h
  obtain ⟨sx, okx⟩ := hrec _ _ _ _ h
  have sx := sx.noPk
  rw [e] at sx
  refine pimp (pe_un un_neg (sx X ok A hA hM)) fun σ H Q q => ?_
  obtain ⟨ex, env, d, env', r, hm, q⟩ := q
  simp only [evE] at hm
  obtain ⟨⟨x', e1⟩, h1, hm⟩ := bind_ok hm
  obtain ⟨z, h2, hm⟩ := bind_ok hm
  cases hm
  have h2 := of_ok h2
  refine ⟨ex, env, x', _, r, h1, fun v H' f vr => ?_⟩
  obtain ⟨ex1, u, dn, r1, k1⟩ := vr
  cases x' <;> first | (cases h2; done) | skip
  cases h2
  obtain rfl := k1.pk.int
  exact ⟨_, rfl, q _ _ f ⟨ex1, u, dn, r1, .int _⟩⟩
theorem VR.less {A : Amb} {kd : Kd} {ex : Addr → Prop} {o o' : Own} {σ : St} {H H' : Hp} {v : V} {d : D} {env : Env} (h : VR A kd ex o σ H H' v d env) (s : ∀ i, i ∈ o' → i ∈ o) (hk : ∀ i, kd ≠ .peek i) : VR A kd ex o' σ H H' v d env := by
  obtain ⟨ex1, u, dn, r, k1⟩ := h
  refine ⟨ex1, u, dn, r.free s, ?_⟩
  have lx : ∀ b, XX o' σ ex1 b → XX o σ ex1 b := fun b z => z.imp (EX.sub s b) id
  cases kd with
  | val => exact Rep.less k1 lx
  | peek i => exact absurd rfl (hk i)
  | fresh =>
    obtain ⟨p, sh, vs, ds, h1, h2, hn, hq, h3, h4⟩ := k1
    exact ⟨p, sh, vs, ds, h1, h2, hn, hq, h3, h4.less lx⟩
/-- behind a first value, a second one is the whole's -/
theorem VR.then {A : Amb} {kd : Kd} {ex ex1 : Addr → Prop} {o : Own} {σ : St} {H H1 H' : Hp} {v : V} {d : D} {env : Env} (h : VR A kd ex1 o σ H1 H' v d env) (u : ∀ a, ex a → ex1 a) (dn : ∀ a, ex1 a → ex a ∨ H a = none) {tc : Addr → Prop} (f : Frame tc H H1) : VR A kd ex o σ H H' v d env := by
  obtain ⟨ex2, u2, d2, r, k1⟩ := h
  refine ⟨ex2, fun a z => u2 a (u a z), fun a z => ?_, r, ?_⟩
  · rcases d2 a z with z | z
    · exact dn a z
    · exact .inr (f.free z)
  · cases kd with
    | val => exact k1
    | peek i => exact k1
    | fresh =>
      obtain ⟨p, sh, vs, ds, h1, h2, hn, hq, h3, h4⟩ := k1
      exact ⟨p, sh, vs, ds, h1, h2, f.free hn, hq, h3, h4⟩
theorem EX.inl {a b : List Nat} {σ : St} : ∀ p, EX a σ p → EX (a ++ b) σ p := fun _ ⟨i, hi, e⟩ => ⟨i, List.mem_append_left _ hi, e⟩
theorem EX.inr {a b : List Nat} {σ : St} : ∀ p, EX b σ p → EX (a ++ b) σ p := fun _ ⟨i, hi, e⟩ => ⟨i, List.mem_append_right _ hi, e⟩
end
end Pv

set_option maxHeartbeats 1000000
/-! The further expressions: chains, and, or, if, displays, arguments. -/
namespace Pv
open PySem PySem.Spec PyProof.Rows L2

/-- a kind without a list that is new -/
def noFr : Kd → Kd
  | .peek i => .peek i
  | _ => .val
section
variable {A : Amb} {kd l kr : Kd} {ex : Addr → Prop} {o o1 o2 : Own} {σ : St} {H H1 H2 H' : Hp} {v w : V} {d x : D} {env e1 : Env} {ta tb tc : List Nat} {ma : Env → Out (D × Env)} {Q : VK}
theorem VR.settle (h : VR A kd ex o σ H H' v d env) (t : TrZ ex H) : R A ex o σ H' env ∧ VK' A (noFr kd) ex o σ H H' v d := by
  obtain ⟨ex1, u, dn, r, k1⟩ := h
  refine ⟨r.less u, ?_⟩
  have lx : ∀ b, XX o σ ex b → XX o σ ex1 b := fun b z => z.imp id (u b)
  cases kd with
  | val => exact Rep.less k1 lx
  | peek i =>
    obtain ⟨hi, p, sh, vs, ds, h1, h2, hs, h3, h4⟩ := k1
    exact ⟨hi, p, sh, vs, ds, h1, h2, hs, h3, h4.less lx⟩
  | fresh =>
    obtain ⟨p, sh, vs, ds, rfl, rfl, hn, hq, h3, h4⟩ := k1
    refine Rep.shp sh h3 ?_ (h4.less lx)
    rintro (z | z)
    · exact r.dis p z hq
    · obtain ⟨o', e⟩ := t p z
      rw [hn] at e; cases e
theorem noFr_val (h : ∀ i, kd ≠ .peek i) : noFr kd = .val := by
  cases kd with
  | peek i => exact absurd rfl (h i)
  | _ => rfl
theorem VR.settleV (h : VR A kd ex o σ H H' v d env) (t : TrZ ex H) (hk : ∀ i, kd ≠ .peek i) : R A ex o σ H' env ∧ Rep A.K (XX o σ ex) H' v d := by
  obtain ⟨a, b⟩ := h.settle t
  rw [noFr_val hk] at b
  exact ⟨a, b⟩
theorem VR.mk0 (r : R A ex o σ H' env) (q : Rep A.K (XX o σ ex) H' v d) : VR A .val ex o σ H H' v d env := ⟨ex, fun _ z => z, fun _ z => .inl z, r, q⟩
theorem VR.as (h : VR A kd ex o σ H H' v d env) (t : TrZ ex H) (hk : ∀ i, kd ≠ .peek i) (hr : kr = .val ∨ (kr = .fresh ∧ kd = .fresh)) : VR A kr ex o σ H H' v d env := by
  rcases hr with rfl | ⟨rfl, rfl⟩
  · obtain ⟨a, b⟩ := h.settleV t hk
    exact .mk0 a b
  · exact h
theorem step (hr : R A ex o σ H env) (ha : ma env = .ok (x, e1)) (q : ∀ v H1, R A ex o1 σ H1 e1 → Frame (EX ta σ) H H1 → VK' A (noFr kd) ex o1 σ H H1 v x → Q v H1) : tM A o o1 kd ta ma σ H Q :=
  ⟨ex, env, x, e1, hr, ha, fun v H1 f vr => let ⟨a, b⟩ := vr.settle hr.tr; q v H1 a f b⟩
theorem stepV (hk : ∀ i, kd ≠ .peek i) (hr : R A ex o σ H env) (ha : ma env = .ok (x, e1)) (q : ∀ v H1, R A ex o1 σ H1 e1 → Frame (EX ta σ) H H1 → Rep A.K (XX o1 σ ex) H1 v x → Q v H1) : tM A o o1 kd ta ma σ H Q :=
  ⟨ex, env, x, e1, hr, ha, fun v H1 f vr => let ⟨a, b⟩ := vr.settleV hr.tr hk; q v H1 a f b⟩
theorem keepV {K : PySem.W.Frag} (h : Rep K (XX o1 σ ex) H1 v x) (f : Frame (EX tb σ) H1 H2) (ht : ∀ i, i ∈ tb → i ∈ o1) (ho : ∀ i, i ∈ o2 → i ∈ o1) : Rep K (XX o2 σ ex) H2 v x :=
  (h.frame (f.mono fun b z => .inl (EX.sub ht b z))).less fun b z => z.imp (EX.sub ho b) id
theorem Frame.cat (f : Frame (EX ta σ) H H1) (g : Frame (EX tb σ) H1 H2) : Frame (EX (ta ++ tb) σ) H H2 := (f.mono EX.inl).trans (g.mono EX.inr)
theorem Frame.catL (f : Frame (EX ta σ) H H1) : Frame (EX (ta ++ tb) σ) H H1 := f.mono EX.inl
end

section
variable {cf : Cf} {k : Nat} {c : Ctx} {o : Own} {e : Expr} {r : Cr} {X : Cx}
theorem rec_np {rec : Rec} (hrec : RecOk cf k rec) {a : Expr} {x : Ex} {kd : Kd} {o1 : Own} (h : (rec c o a).map noPk = some (x, kd, o1)) :
    SndE cf k c o a (x, kd, o1) ∧ (∀ i, i ∈ o1 → i ∈ o) ∧ (∀ i, i ∈ tch x → i ∈ o) ∧ ∀ i, kd ≠ .peek i := by
  obtain ⟨r', h, e⟩ := Option.map_eq_some_iff.mp h
  obtain ⟨sx, okx⟩ := hrec _ _ _ _ h
  obtain ⟨x1, x2, _⟩ := okS_sub okx
  have sx := sx.noPk
  have f1 := noPk_fst (r := r')
  have f2 := noPk_kd (r := r')
  have f3 := noPk_sub (r := r')
  rw [e] at sx f1 f2 f3
  have f1 : x = r'.1 := f1
  exact ⟨sx, fun i hi => x1 i (f3 i hi), fun i hi => x1 i (x2 i (by rw [← f1]; exact hi)), f2⟩

/-! ### chains -/
theorem op2_simple (rm : Rm X) {op : CmpOp} {b : Expr} {p : Cop} (h : copOf op b = some p) (hp : p = .lt ∨ p = .le ∨ p = .eq ∨ p = .ne) : Op2 X (compareOp op) (cmpD p) ∧ op ≠ .In ∧ op ≠ .NotIn := by
  unfold copOf at h
  split at h <;> first | contradiction | (cases h; first | (rcases hp with z | z | z | z <;> cases z; done) | skip)
  · exact ⟨op2_eq rm, by decide, by decide⟩
  · exact ⟨op2_ne rm, by decide, by decide⟩
  · exact ⟨op2_lt rm, by decide, by decide⟩
  · exact ⟨op2_le rm, by decide, by decide⟩
theorem tMT_bool {A : Amb} {o o1 : Own} {tc : List Nat} {m : Env → Out (D × Env)} {σ : St} {H : Hp} {Q : Bool → Hp → Prop} (hb : ∀ env d env', m env = .ok (d, env') → ∃ b, d = .bl b) (h : tMT A o o1 tc m σ H Q) : tM A o o1 .val tc m σ H fun x H' => ∃ k, x = .bl k ∧ Q k H' := by
  obtain ⟨ex, env, d, env', r, hm, q⟩ := h
  refine ⟨ex, env, d, env', r, hm, fun v H' f vr => ?_⟩
  obtain ⟨b, rfl⟩ := hb _ _ _ hm
  have q' := q H' f vr.r
  obtain ⟨ex1, _, _, _, k1⟩ := vr
  cases k1
  exact ⟨b, rfl, q'⟩
theorem chain_parts {rec : Rec} (hrec : RecOk cf k rec) {a b b' : Expr} {op op' : CmpOp} (h : cChain rec c o a op op' b b' = some r) (X : Cx) (ok : XOk X c cf k) (A : Amb) (hA : A.K = X.K) (hM : AOk A c) :
    (∀ env d env', evE cf r.1 env = .ok (d, env') → ∃ z, d = .bl z) ∧ ∃ (ra rb : R2) (ta tb tc : TE), OpR X (compareOp op) ra ∧ OpR X (compareOp op') rb ∧ PE X a ta ∧ PE X b tb ∧ PE X b' tc ∧ lastMarks [op, op'] [b, b'] = false ∧
      ∀ σ H Q, tM A o r.2.2 r.2.1 (tch r.1) (evE cf r.1) σ H Q → tChain ra rb ta tb tc σ H Q := by
  unfold cChain at h
  simp only [Option.bind_eq_bind, Option.bind_eq_some_iff, guard_eq] at h
  obtain ⟨p, hp, p', hp', ⟨x, kx, o1⟩, hx, ⟨y, ky, o2⟩, hy, ⟨z, kz, o3⟩, hz, _, hs, h⟩ := h
  obtain ⟨sx, x1, x2, nx⟩ := rec_np hrec hx
  obtain ⟨sy, y1, y2, ny⟩ := rec_np hrec hy
  obtain ⟨sz, z1, z2, nz⟩ := rec_np hrec hz
  have hs := sub_of hs
  have key : (p = .lt ∨ p = .le ∨ p = .eq ∨ p = .ne) ∧ (p' = .lt ∨ p' = .le ∨ p' = .eq ∨ p' = .ne) ∧ r = (.chain p p' x y z, .val, o2) := by
    split at h <;> first | contradiction | (cases h; exact ⟨by simp, by simp, rfl⟩)
  obtain ⟨k1, k2, rfl⟩ := key
  obtain ⟨⟨ra, hra, wa⟩, _⟩ := op2_simple ok.rm (X := X) hp k1
  obtain ⟨⟨rb, hrb, wb⟩, n1, n2⟩ := op2_simple ok.rm (X := X) hp' k2
  have hev : ∀ env d env', evE cf (.chain p p' x y z) env = .ok (d, env') → ∃ xv e1 yv e2 g, evE cf x env = .ok (xv, e1) ∧ evE cf y e1 = .ok (yv, e2) ∧ cmpF p xv yv = some g ∧
      ((g = false ∧ d = .bl false ∧ env' = e2) ∨ (g = true ∧ ∃ zv g', evE cf z e2 = .ok (zv, env') ∧ cmpF p' yv zv = some g' ∧ d = .bl g')) := fun env d env' hm => by
    simp only [evE] at hm
    obtain ⟨⟨xv, e1⟩, h1, hm⟩ := bind_ok hm
    obtain ⟨⟨yv, e2⟩, h2, hm⟩ := bind_ok hm
    obtain ⟨g, h3, hm⟩ := bind_ok hm
    refine ⟨xv, e1, yv, e2, g, h1, h2, of_ok h3, ?_⟩
    cases g with
    | false => simp only [Bool.false_eq_true, if_false] at hm; cases hm; exact .inl ⟨rfl, rfl, rfl⟩
    | true =>
      simp only [if_true] at hm
      obtain ⟨⟨zv, e3⟩, h4, hm⟩ := bind_ok hm
      obtain ⟨g', h5, hm⟩ := bind_ok hm
      cases hm
      exact .inr ⟨rfl, zv, g', h4, of_ok h5, rfl⟩
  refine ⟨fun env d env' hm => ?_, ra, rb, _, _, _, hra, hrb, sx X ok A hA hM, sy X ok A hA hM, sz X ok A hA hM, ?_, fun σ H Q q => ?_⟩
  · obtain ⟨_, _, _, _, _, _, _, _, h | ⟨_, _, g', _, _, h⟩⟩ := hev _ _ _ hm
    · exact ⟨_, h.2.1⟩
    · exact ⟨_, h⟩
  · show behindInMarks op' b' = false
    exact nomark b' n1 n2
  · obtain ⟨ex, env, d, env', r0, hmm, q⟩ := q
    obtain ⟨xv, e1, yv, e2, g, h1, h2, h3, h4⟩ := hev _ _ _ hmm
    refine stepV nx r0 h1 fun v H1 r1 f1 v1 => stepV ny r1 h2 fun w H2 r2 f2 v2 => ?_
    have v1' := keepV v1 f2 y2 y1
    refine wa _ _ v w xv yv (.bl g) _ r2.trX (by rw [← hA]; exact v1'.pk) (by rw [← hA]; exact v2.pk) (by rw [cmpD, h3]; rfl) ?_
    show RVal _ _ _ _ _
    intro v' H3 s3 q3
    cases q3
    refine ⟨g, rfl, ?_⟩
    have r3 := r2.keep s3
    have f3 : Frame (EX (tch x ++ (tch y ++ tch z)) σ) H H3 := (f1.cat (f2.catL (tb := tch z))).trans (.same s3)
    rcases h4 with ⟨rfl, rfl, rfl⟩ | ⟨rfl, zv, g', h4, h5, rfl⟩
    · rw [if_neg Bool.false_ne_true]
      exact q _ _ f3 (.mk0 r3 (.bl _))
    · rw [if_pos rfl]
      refine stepV nz r3 h4 fun u H4 r4 f4 v4 => ?_
      have v2' := keepV (v2.frame (Frame.same s3)) f4 z2 z1
      refine wb _ _ w u yv zv (.bl g') _ r4.trX (by rw [← hA]; exact v2'.pk) (by rw [← hA]; exact v4.pk) (by rw [cmpD, h5]; rfl) ?_
      show RVal _ _ _ _ _
      intro v' H5 s5 q5
      cases q5
      exact q _ _ ((f1.cat ((f2.trans (.same s3)).cat f4)).trans (.same s5)) (.mk0 ((r4.free hs).keep s5) (.bl _))
theorem snd_chain {rec : Rec} (hrec : RecOk cf k rec) {a b b' : Expr} {op op' : CmpOp} {pos : Pos} (h : cChain rec c o a op op' b b' = some r) : SndE cf k c o (.Compare a [op, op'] [b, b'] pos) r := fun X ok A hA hM => by
  obtain ⟨_, ra, rb, ta, tb, tc, h1, h2, h3, h4, h5, hm, w⟩ := chain_parts hrec h X ok A hA hM
  exact pimp (pe_chain h1 h2 h3 h4 h5 hm) w
theorem cChain_val {rec : Rec} {a b b' : Expr} {op op' : CmpOp} (h : cChain rec c o a op op' b b' = some r) : r.2.1 = .val := by
  unfold cChain at h
  simp only [Option.bind_eq_bind, Option.bind_eq_some_iff, guard_eq] at h
  obtain ⟨p, hp, p', hp', ⟨x, kx, o1⟩, hx, ⟨y, ky, o2⟩, hy, ⟨z, kz, o3⟩, hz, _, hs, h⟩ := h
  split at h <;> first | contradiction | (cases h; rfl)
theorem snd_chainT {rec : Rec} (hrec : RecOk cf k rec) {a b b' : Expr} {op op' : CmpOp} {pos : Pos} (h : cChain rec c o a op op' b b' = some r) : SndT cf k c o (.Compare a [op, op'] [b, b'] pos) r.1 r.2.2 := fun X ok A hA hM => by
  obtain ⟨hb, ra, rb, ta, tb, tc, h1, h2, h3, h4, h5, hm, w⟩ := chain_parts hrec h X ok A hA hM
  rw [cChain_val h] at w
  exact timp (pt_chain h1 h2 h3 h4 h5 hm) fun σ H Q q => w _ _ _ (tMT_bool hb q)

/-! ### and, or as values -/
def boE : BoolOp → Ex → Ex → Ex
  | .And, x, y => .and x y
  | .Or, x, y => .or x y
theorem snd_bool {rec : Rec} (hrec : RecOk cf k rec) {op : BoolOp} {pos : Pos} : ∀ (es : List Expr) (o : Own) (x : Ex) (kd : Kd) (o1 : Own), cBool rec op c o es = some (x, kd, o1) →
    SndE cf k c o (.BoolOp op es pos) (x, kd, o1) ∧ (∀ i, i ∈ o1 → i ∈ o) ∧ (∀ i, i ∈ tch x → i ∈ o) ∧ ∀ i, kd ≠ .peek i
  | [], o, x, kd, o1, h => by simp only [cBool] at h; cases h
  | [a], o, x, kd, o1, h => by
    simp only [cBool] at h
    obtain ⟨sx, x1, x2, nx⟩ := rec_np hrec h
    exact ⟨fun X ok A hA hM => pe_one (sx X ok A hA hM), x1, x2, nx⟩
  | a :: b :: rest, o, x, kd, o1, h => by
    simp only [cBool, Option.bind_eq_bind, Option.bind_eq_some_iff] at h
    obtain ⟨⟨x', kx, oa⟩, hx, ⟨y, ky, ob⟩, hy, h⟩ := h
    obtain ⟨sx, x1, x2, nx⟩ := rec_np hrec hx
    obtain ⟨sy, y1, y2, ny⟩ := snd_bool hrec (op := op) (pos := pos) (b :: rest) _ _ _ _ hy
    have hxy : kd = .val ∧ o1 = ob ∧ x = boE op x' y := by cases op <;> (cases h; exact ⟨rfl, rfl, rfl⟩)
    obtain ⟨rfl, rfl, rfl⟩ := hxy
    refine ⟨fun X ok A hA hM => ?_, fun i hi => x1 i (y1 i hi), fun i hi => ?_, fun i => by simp⟩
    · cases op with
      | And =>
        refine pimp (pe_andO (sx X ok A hA hM) (sy X ok A hA hM)) fun σ H Q q => ?_
        obtain ⟨ex, env, d, env', r0, hm, q⟩ := q
        simp only [boE, evE] at hm
        obtain ⟨⟨xv, e1⟩, h1, hm⟩ := bind_ok hm
        refine stepV nx r0 h1 fun v H1 r1 f1 v1 => ⟨truth xv, by rw [← hA]; exact v1.pk.tru, ?_⟩
        try dsimp only
        by_cases ht : truth xv = true
        · rw [if_pos ht]
          simp only [ht, if_true] at hm
          exact stepV ny r1 hm fun w H2 r2 f2 v2 => q _ _ (f1.cat f2) (.mk0 r2 v2)
        · rw [if_neg ht]
          simp only [ht] at hm
          cases hm
          exact q _ _ f1.catL (.mk0 (r1.free y1) (v1.less fun b z => z.imp (EX.sub y1 b) id))
      | Or =>
        refine pimp (pe_orO (sx X ok A hA hM) (sy X ok A hA hM)) fun σ H Q q => ?_
        obtain ⟨ex, env, d, env', r0, hm, q⟩ := q
        simp only [boE, evE] at hm
        obtain ⟨⟨xv, e1⟩, h1, hm⟩ := bind_ok hm
        refine stepV nx r0 h1 fun v H1 r1 f1 v1 => ⟨truth xv, by rw [← hA]; exact v1.pk.tru, ?_⟩
        try dsimp only
        by_cases ht : truth xv = true
        · rw [if_pos ht]
          simp only [ht, if_true] at hm
          cases hm
          exact q _ _ f1.catL (.mk0 (r1.free y1) (v1.less fun b z => z.imp (EX.sub y1 b) id))
        · rw [if_neg ht]
          simp only [ht] at hm
          exact stepV ny r1 hm fun w H2 r2 f2 v2 => q _ _ (f1.cat f2) (.mk0 r2 v2)
    · have : i ∈ tch x' ++ tch y := by cases op <;> exact hi
      rcases List.mem_append.mp this with z | z
      · exact x2 i z
      · exact x1 i (y2 i z)
/-! ### if, as a value -/
theorem snd_ifE {rec : Rec} {recT : RecT} (hrec : RecOk cf k rec) (hT : RecTOk cf k recT) {t a b : Expr} {pos : Pos} (h : cIf rec recT c o t a b = some r) : SndE cf k c o (.IfExp t a b pos) r := fun X ok A hA hM => by
  unfold cIf at h
  simp only [Option.bind_eq_bind, Option.bind_eq_some_iff] at h
  obtain ⟨⟨x, o1⟩, hx, ⟨y, ky, o2⟩, hy, ⟨z, kz, o3⟩, hz, h⟩ := h
  obtain ⟨sx, x1, x2⟩ := hT _ _ _ _ _ hx
  obtain ⟨sy, y1, y2, ny⟩ := rec_np hrec hy
  obtain ⟨sz, z1, z2, nz⟩ := rec_np hrec hz
  cases h
  have s2 : ∀ i, i ∈ o2.filter o3.contains → i ∈ o2 := fun i hi => (List.mem_filter.mp hi).1
  have s3 : ∀ i, i ∈ o2.filter o3.contains → i ∈ o3 := fun i hi => by simpa using (List.mem_filter.mp hi).2
  have fr : ∀ kd : Kd, (∀ i, kd ≠ .peek i) → isL kd = true → kd = .fresh := fun kd n h => by
    cases kd with
    | val => cases h
    | fresh => rfl
    | peek i => exact absurd rfl (n i)
  have kk : ∀ kr, kr = (if isL ky && isL kz then Kd.fresh else Kd.val) → (kr = .val ∨ (kr = .fresh ∧ ky = .fresh)) ∧ (kr = .val ∨ (kr = .fresh ∧ kz = .fresh)) := fun kr e => by
    by_cases hh : (isL ky && isL kz) = true
    · rw [if_pos hh] at e
      rw [Bool.and_eq_true] at hh
      exact ⟨.inr ⟨e, fr _ ny hh.1⟩, .inr ⟨e, fr _ nz hh.2⟩⟩
    · rw [if_neg hh] at e
      exact ⟨.inl e, .inl e⟩
  obtain ⟨k1, k2⟩ := kk _ rfl
  have np : ∀ i, (if isL ky && isL kz then Kd.fresh else Kd.val) ≠ .peek i := fun i => by split <;> simp
  refine pimp (pe_ifExp (sx X ok A hA hM) (sy X ok A hA hM) (sz X ok A hA hM)) fun σ H Q q => ?_
  obtain ⟨ex, env, d, env', r0, hm, q⟩ := q
  simp only [evE] at hm
  obtain ⟨⟨xv, e1⟩, h1, hm⟩ := bind_ok hm
  refine ⟨ex, env, xv, e1, r0, h1, fun H1 f1 r1 => ?_⟩
  try dsimp only
  by_cases ht : truth xv = true
  · rw [if_pos ht]
    simp only [ht, if_true] at hm
    exact ⟨ex, e1, d, env', r1, hm, fun w H2 f2 vr => q _ _ (f1.cat f2.catL) (((vr.as r1.tr ny k1).less s2 np).then (fun _ z => z) (fun _ z => .inl z) f1)⟩
  · rw [if_neg ht]
    simp only [ht] at hm
    exact ⟨ex, e1, d, env', r1, hm, fun w H2 f2 vr => q _ _ (f1.cat (f2.mono EX.inr)) (((vr.as r1.tr nz k2).less s3 np).then (fun _ z => z) (fun _ z => .inl z) f1)⟩

/-! ### tests -/
theorem snd_boolT {recT : RecT} (hT : RecTOk cf k recT) {op : BoolOp} {pos : Pos} : ∀ (es : List Expr) (o : Own) (x : Ex) (o1 : Own), cBoolT recT op c o es = some (x, o1) →
    (∀ X : Cx, XOk X c cf k → ∀ A : Amb, A.K = X.K → AOk A c → PW X (.BoolOp op es pos) (tMT A o o1 (tch x) (evE cf x))) ∧ (∀ i, i ∈ o1 → i ∈ o) ∧ (∀ i, i ∈ tch x → i ∈ o)
  | [], o, x, o1, h => by simp only [cBoolT] at h; cases h
  | [a], o, x, o1, h => by
    simp only [cBoolT] at h
    obtain ⟨sx, x1, x2⟩ := hT _ _ _ _ _ h
    refine ⟨fun X ok A hA hM => ?_, x1, fun i hi => x1 i (x2 i hi)⟩
    cases op with
    | And => exact pw_and1 (sx X ok A hA hM)
    | Or => exact pw_or1 (sx X ok A hA hM)
  | a :: b :: rest, o, x, o1, h => by
    simp only [cBoolT, Option.bind_eq_bind, Option.bind_eq_some_iff] at h
    obtain ⟨⟨x', oa⟩, hx, ⟨y, ob⟩, hy, h⟩ := h
    obtain ⟨sx, x1, x2⟩ := hT _ _ _ _ _ hx
    obtain ⟨sy, y1, y2⟩ := snd_boolT hT (op := op) (pos := pos) (b :: rest) _ _ _ hy
    have hxy : o1 = ob ∧ x = boE op x' y := by cases op <;> (cases h; exact ⟨rfl, rfl⟩)
    obtain ⟨rfl, rfl⟩ := hxy
    refine ⟨fun X ok A hA hM => ?_, fun i hi => x1 i (y1 i hi), fun i hi => ?_⟩
    · cases op with
      | And =>
        refine wimp (pw_and (sx X ok A hA hM) (sy X ok A hA hM)) fun σ H Q q => ?_
        obtain ⟨ex, env, d, env', r0, hm, q⟩ := q
        simp only [boE, evE] at hm
        obtain ⟨⟨xv, e1⟩, h1, hm⟩ := bind_ok hm
        refine ⟨ex, env, xv, e1, r0, h1, fun H1 f1 r1 => ?_⟩
        try dsimp only
        by_cases ht : truth xv = true
        · rw [if_pos ht]
          simp only [ht, if_true] at hm
          exact ⟨ex, e1, d, env', r1, hm, fun H2 f2 r2 => q _ (f1.cat f2) r2⟩
        · rw [if_neg ht]
          simp only [ht] at hm
          cases hm
          have q' := q _ f1.catL (r1.free y1)
          rw [Bool.not_eq_true] at ht
          rw [ht] at q'
          exact q'
      | Or =>
        refine wimp (pw_or (sx X ok A hA hM) (sy X ok A hA hM)) fun σ H Q q => ?_
        obtain ⟨ex, env, d, env', r0, hm, q⟩ := q
        simp only [boE, evE] at hm
        obtain ⟨⟨xv, e1⟩, h1, hm⟩ := bind_ok hm
        refine ⟨ex, env, xv, e1, r0, h1, fun H1 f1 r1 => ?_⟩
        try dsimp only
        by_cases ht : truth xv = true
        · rw [if_pos ht]
          simp only [ht, if_true] at hm
          cases hm
          have q' := q _ f1.catL (r1.free y1)
          rw [ht] at q'
          exact q'
        · rw [if_neg ht]
          simp only [ht] at hm
          exact ⟨ex, e1, d, env', r1, hm, fun H2 f2 r2 => q _ (f1.cat f2) r2⟩
    · have : i ∈ tch x' ++ tch y := by cases op <;> exact hi
      rcases List.mem_append.mp this with z | z
      · exact x1 i (x2 i z)
      · exact x1 i (y2 i z)
theorem snd_notT {recT : RecT} (hT : RecTOk cf k recT) {a : Expr} {pos : Pos} {x : Ex} {o1 : Own} (h : recT c o a = some (x, o1)) : SndT cf k c o (.UnaryOp .Not a pos) (.not x) o1 := fun X ok A hA hM => by
  obtain ⟨sx, x1, x2⟩ := hT _ _ _ _ _ h
  refine timp (pt_not (sx X ok A hA hM)) fun σ H Q q => ?_
  obtain ⟨ex, env, d, env', r0, hm, q⟩ := q
  simp only [evE] at hm
  obtain ⟨⟨xv, e1⟩, h1, hm⟩ := bind_ok hm
  cases hm
  exact ⟨ex, env, xv, _, r0, h1, fun H1 f1 r1 => q _ f1 r1⟩
theorem snd_truT {rec : Rec} (hrec : RecOk cf k rec) {a : Expr} {x : Ex} {kd : Kd} {o1 : Own} (h : rec c o a = some (x, kd, o1)) (he : ∀ env whole, isTrue a env whole = (do let v ← whole; standAt a.pos; holding [v] (truthy v))) :
    SndT cf k c o a x o1 := fun X ok A hA hM => by
  obtain ⟨sx, okx⟩ := hrec _ _ _ _ h
  refine timp (pt_own (sx X ok A hA hM) (he _)) fun σ H Q q => ?_
  obtain ⟨ex, env, d, env', r0, hm, q⟩ := q
  refine ⟨ex, env, d, env', r0, hm, fun v H1 f1 vr => ⟨truth d, ?_, q _ f1 vr.r⟩⟩
  obtain ⟨ex1, _, _, _, k1⟩ := vr
  rw [← hA]
  exact k1.pk.tru
theorem snd_test {rec : Rec} {recT : RecT} (hrec : RecOk cf k rec) (hc : RecC rec) (hT : RecTOk cf k recT) {a : Expr} {x : Ex} {o1 : Own} (h : cTest rec recT c o a = some (x, o1)) : SndT cf k c o a x o1 := by
  unfold cTest at h
  split at h
  · exact fun X ok A hA hM => ((snd_boolT hT _ _ _ _ h).1 X ok A hA hM).pt
  · obtain ⟨⟨y, o2⟩, h1, h2⟩ := Option.map_eq_some_iff.mp h
    cases h2
    exact snd_notT hT h1
  · obtain ⟨⟨y, ky, o2⟩, h1, h2⟩ := Option.map_eq_some_iff.mp h
    cases h2
    exact snd_cmpT hrec hc h1
  · obtain ⟨⟨y, ky, o2⟩, h1, h2⟩ := Option.map_eq_some_iff.mp h
    cases h2
    exact snd_chainT hrec h1
  · cases h
  · cases h
  · rename_i n1 n2 n3 n4 n5 n6
    obtain ⟨⟨y, ky, o2⟩, h1, h2⟩ := Option.map_eq_some_iff.mp h
    cases h2
    refine snd_truT hrec h1 fun env whole => ?_
    cases a <;> first
      | rfl
      | exact absurd rfl (n1 _ _ _)
      | exact absurd rfl (n5 _ _ _ _)
      | exact absurd rfl (n6 _ _ _ _)
      | (rename_i op b p; cases op <;> first | rfl | exact absurd rfl (n2 _ _))
end
end Pv

set_option maxHeartbeats 1000000
/-! Arguments, displays, subscripts, built-in functions. -/
namespace Pv
open PySem PySem.Spec PyProof.Rows L2

/-! ### arguments -/
def isStar : Expr → Bool
  | .Starred _ _ => true
  | _ => false
theorem starEach_cons {e : Expr} {es : List Expr} {env : PySem.Env} (h : isStar e = false) : starEach (e :: es) env = (false, eval e env) :: starEach es env := by
  cases e <;> first | rfl | cases h
theorem plain_any {pos : Pos} {env : PySem.Env} : ∀ {es : List Expr}, (∀ e ∈ es, isStar e = false) → (backTo pos (starEach es env)).any (·.1) = false
  | [], _ => rfl
  | e :: es, h => by
    rw [starEach_cons (h e List.mem_cons_self)]
    show (false || (backTo pos (starEach es env)).any (·.1)) = false
    rw [plain_any fun x hx => h x (List.mem_cons_of_mem _ hx)]
    rfl
theorem plain_all {pos : Pos} {env : PySem.Env} : ∀ {es : List Expr}, (∀ e ∈ es, isStar e = false) → (backTo pos (starEach es env)).all (fun x => !x.1) = true
  | [], _ => rfl
  | e :: es, h => by
    rw [starEach_cons (h e List.mem_cons_self)]
    show (true && (backTo pos (starEach es env)).all (fun x => !x.1)) = true
    rw [plain_all fun x hx => h x (List.mem_cons_of_mem _ hx)]
    rfl
theorem star_of {a : Expr} {α : Type} {x : Option α} {y : α} (h : (match a with | .Starred _ _ => none | _ => x) = some y) : isStar a = false ∧ x = some y := by
  cases a <;> first | (cases h; done) | exact ⟨rfl, h⟩
theorem pa_cons' {X : Cx} {e : Expr} {es : List Expr} {te : TE} {t : TA} (ha : PE X e te) (hr : PA X es t) (h : isStar e = false) : PA X (e :: es) (tCons te t) := pa_cons ha hr (starEach_cons h)

section
variable {cf : Cf} {k : Nat} {c : Ctx} {o : Own} {e : Expr} {r : Cr} {X : Cx}
theorem snd_args {rec : Rec} (hrec : RecOk cf k rec) : ∀ (es : List Expr) (o : Own) (y : Ex) (o1 : Own), cArgs rec c o es = some (y, o1) →
    (∀ i, i ∈ o1 → i ∈ o) ∧ (∀ i, i ∈ tch y → i ∈ o) ∧ (∀ e ∈ es, isStar e = false) ∧ ∀ X : Cx, XOk X c cf k → ∀ A : Amb, A.K = X.K → AOk A c → PA X es (tMA A o o1 false (tch y) (evA cf y))
  | [], o, y, o1, h => by
    simp only [cArgs] at h
    cases h
    refine ⟨fun i hi => hi, fun i hi => by simp [tch] at hi, fun e he => by simp at he, fun X ok A hA hM => aimp pa_nil fun σ H Q q => ?_⟩
    obtain ⟨ex, env, ds, env', r0, hm, q⟩ := q
    simp only [evA] at hm
    cases hm
    exact q _ _ (Frame.refl H) ⟨ex, fun _ z => z, fun _ z => .inl z, r0, .nil⟩
  | a :: rest, o, y, o1, h => by
    simp only [cArgs, Option.bind_eq_bind, Option.bind_eq_some_iff] at h
    obtain ⟨⟨x, kx, oa⟩, hx, ⟨z, ob⟩, hz, h⟩ := h
    obtain ⟨sx, x1, x2, nx⟩ := rec_np hrec hx
    obtain ⟨z1, z2, z3, sz⟩ := snd_args hrec rest _ _ _ hz
    obtain ⟨ns, h⟩ := star_of h
    cases h
    refine ⟨fun i hi => x1 i (z1 i hi), fun i hi => ?_, fun e he => ?_, fun X ok A hA hM => aimp (pa_cons' (sx X ok A hA hM) (sz X ok A hA hM) ns) fun σ H Q q => ?_⟩
    · rcases List.mem_append.mp (show i ∈ tch x ++ tch z from hi) with w | w
      · exact x2 i w
      · exact x1 i (z2 i w)
    · rcases List.mem_cons.mp he with rfl | he
      · exact ns
      · exact z3 e he
    · obtain ⟨ex, env, ds, env', r0, hm, q⟩ := q
      simp only [evA] at hm
      obtain ⟨⟨xv, e1⟩, h1, hm⟩ := bind_ok hm
      obtain ⟨⟨xs, e2⟩, h2, hm⟩ := bind_ok hm
      cases hm
      refine stepV nx r0 h1 fun v H1 r1 f1 v1 => ?_
      refine ⟨ex, e1, xs, _, r1, h2, fun vs H2 f2 ⟨ex1, u, dn, r2, p⟩ => ?_⟩
      have p : Reps A.K (XX ob σ ex1) H2 vs xs := p
      refine q _ _ (f1.cat f2) ⟨ex, fun _ z => z, fun _ z => .inl z, r2.less u, ?_⟩
      exact .cons (keepV v1 f2 z2 z1) (p.less fun b z => z.imp id (u b))
theorem pk_less {K : PySem.W.Frag} {Z Z' : Addr → Prop} {H : Hp} {v : V} {d : D} (h : Pk K Z H v d) (f : ∀ b, Z' b → Z b) : Pk K Z' H v d := by
  rcases h with h | ⟨p, sh, vs, ds, e1, e2, h3, h4⟩
  · exact .inl (h.less f)
  · exact .inr ⟨p, sh, vs, ds, e1, e2, h3, h4.less f⟩
theorem pks_less {K : PySem.W.Frag} {Z Z' : Addr → Prop} {H : Hp} (f : ∀ b, Z' b → Z b) : ∀ {vs : List V} {ds : List D}, Paired (Pk K Z H) vs ds → Paired (Pk K Z' H) vs ds
  | _, _, .nil => .nil
  | _, _, .cons a b => .cons (pk_less a f) (pks_less f b)
theorem snd_argsP {rec : Rec} (hrec : RecOk cf k rec) : ∀ (es : List Expr) (o : Own) (y : Ex) (o1 : Own), cArgsP rec c o es = some (y, o1) →
    (∀ i, i ∈ o1 → i ∈ o) ∧ (∀ i, i ∈ tch y → i ∈ o) ∧ (∀ e ∈ es, isStar e = false) ∧ ∀ X : Cx, XOk X c cf k → ∀ A : Amb, A.K = X.K → AOk A c → PA X es (tMA A o o1 true (tch y) (evA cf y))
  | [], o, y, o1, h => by
    simp only [cArgsP] at h
    cases h
    refine ⟨fun i hi => hi, fun i hi => by simp [tch] at hi, fun e he => by simp at he, fun X ok A hA hM => aimp pa_nil fun σ H Q q => ?_⟩
    obtain ⟨ex, env, ds, env', r0, hm, q⟩ := q
    simp only [evA] at hm
    cases hm
    exact q _ _ (Frame.refl H) ⟨ex, fun _ z => z, fun _ z => .inl z, r0, .nil⟩
  | a :: rest, o, y, o1, h => by
    simp only [cArgsP, Option.bind_eq_bind, Option.bind_eq_some_iff, guard_eq] at h
    obtain ⟨⟨x, kx, oa⟩, hx, ⟨z, ob⟩, hz, _, hk, h⟩ := h
    obtain ⟨sx, okx⟩ := hrec _ _ _ _ hx
    obtain ⟨x1, x2, _⟩ := okS_sub okx
    obtain ⟨z1, z2, z3, sz⟩ := snd_argsP hrec rest _ _ _ hz
    obtain ⟨ns, h⟩ := star_of h
    cases h
    have hk := okPk_of hk
    refine ⟨fun i hi => x1 i (z1 i hi), fun i hi => ?_, fun e he => ?_, fun X ok A hA hM => aimp (pa_cons' (sx X ok A hA hM) (sz X ok A hA hM) ns) fun σ H Q q => ?_⟩
    · rcases List.mem_append.mp (show i ∈ tch x ++ tch z from hi) with w | w
      · exact x1 i (x2 i w)
      · exact x1 i (z2 i w)
    · rcases List.mem_cons.mp he with rfl | he
      · exact ns
      · exact z3 e he
    · obtain ⟨ex, env, ds, env', r0, hm, q⟩ := q
      simp only [evA] at hm
      obtain ⟨⟨xv, e1⟩, h1, hm⟩ := bind_ok hm
      obtain ⟨⟨xs, e2⟩, h2, hm⟩ := bind_ok hm
      cases hm
      refine step r0 h1 fun v H1 r1 f1 v1 => ?_
      refine ⟨ex, e1, xs, _, r1, h2, fun vs H2 f2 ⟨ex1, u, dn, r2, p⟩ => ?_⟩
      have p : Paired (Pk A.K (XX ob σ ex1) H2) vs xs := p
      have v2 := v1.after (o2 := ob) (ex1 := ex) r1 f2 (fun _ z => .inl z) (fun _ z => z) z2 z1 fun i hi => hk i (by
        cases kx with
        | peek j => exact hi
        | _ => cases hi)
      refine q _ _ (f1.cat f2) ⟨ex, fun _ z => z, fun _ z => .inl z, r2.less u, ?_⟩
      exact .cons v2.pk (pks_less (fun b z => z.imp id (u b)) p)
/-- behind arguments, few addresses are shut out -/
theorem stepA {A : Amb} {o o1 : Own} {ta : List Nat} {ma : Env → Out (List D × Env)} {σ : St} {H : Hp} {ex : Addr → Prop} {env e1 : Env} {xs : List D} {Q : List V → Hp → Prop} (hr : R A ex o σ H env) (ha : ma env = .ok (xs, e1))
    (q : ∀ vs H1, R A ex o1 σ H1 e1 → Frame (EX ta σ) H H1 → Reps A.K (XX o1 σ ex) H1 vs xs → Q vs H1) : tMA A o o1 false ta ma σ H Q :=
  ⟨ex, env, xs, e1, hr, ha, fun vs H1 f ⟨ex1, u, dn, r, p⟩ => q vs H1 (r.less u) f ((show Reps A.K (XX o1 σ ex1) H1 vs xs from p).less fun b z => z.imp id (u b))⟩
theorem stepP {A : Amb} {o o1 : Own} {ta : List Nat} {ma : Env → Out (List D × Env)} {σ : St} {H : Hp} {ex : Addr → Prop} {env e1 : Env} {xs : List D} {Q : List V → Hp → Prop} (hr : R A ex o σ H env) (ha : ma env = .ok (xs, e1))
    (q : ∀ vs H1, R A ex o1 σ H1 e1 → Frame (EX ta σ) H H1 → Paired (Pk A.K (XX o1 σ ex) H1) vs xs → Q vs H1) : tMA A o o1 true ta ma σ H Q :=
  ⟨ex, env, xs, e1, hr, ha, fun vs H1 f ⟨ex1, u, dn, r, p⟩ => q vs H1 (r.less u) f (pks_less (fun b z => z.imp id (u b)) (show Paired (Pk A.K (XX o1 σ ex1) H1) vs xs from p))⟩

theorem stepL {A : Amb} {kd : Kd} {ex : Addr → Prop} {o o1 : Own} {σ : St} {H : Hp} {x : D} {env e1 : Env} {ta : List Nat} {ma : Env → Out (D × Env)} {Q : VK} (hr : R A ex o σ H env) (ha : ma env = .ok (x, e1))
    (q : (isL kd = true → ∃ sh ds, x = Shp.d sh ds) → ∀ v H1, R A ex o1 σ H1 e1 → Frame (EX ta σ) H H1 → VK' A (noFr kd) ex o1 σ H H1 v x → Q v H1) : tM A o o1 kd ta ma σ H Q :=
  ⟨ex, env, x, e1, hr, ha, fun v H1 f vr => by
    have hl : isL kd = true → ∃ sh ds, x = Shp.d sh ds := by
      obtain ⟨_, _, _, _, k1⟩ := vr
      exact k1.lst
    obtain ⟨a, b⟩ := vr.settle hr.tr
    exact q hl v H1 a f b⟩

/-! ### displays -/
theorem snd_tup {rec : Rec} (hrec : RecOk cf k rec) {es : List Expr} {j : Nat} {pos : Pos} {y : Ex} {o1 : Own} (h : cArgs rec c o es = some (y, o1)) : SndE cf k c o (.Tuple es j pos) (.tup y, .val, o1) := fun X ok A hA hM => by
  obtain ⟨h1, h2, _, sa⟩ := snd_args hrec _ _ _ _ h
  refine pimp (pe_tupF (sa X ok A hA hM)) fun σ H Q q => ?_
  obtain ⟨ex, env, d, env', r0, hm, q⟩ := q
  simp only [evE] at hm
  obtain ⟨⟨xs, e1⟩, h1, hm⟩ := bind_ok hm
  refine stepA r0 h1 fun vs H1 r1 f1 p => ?_
  dsimp only at hm
  split at hm
  · rename_i hl
    cases hm
    refine ⟨by rw [p.length]; exact lim_line hl, fun q' ob n hd => ?_⟩
    exact RVal.tup (Q := Q) r1.trX (fun v H' s z => q v H' (f1.trans (.same s)) (.mk0 (r1.keep s) z)) p n hd
  · cases hm
theorem snd_lst {rec : Rec} (hrec : RecOk cf k rec) {es : List Expr} {pos : Pos} {y : Ex} {o1 : Own} (h : cArgs rec c o es = some (y, o1)) : SndE cf k c o (.List es pos) (.lst y, .fresh, o1) := fun X ok A hA hM => by
  obtain ⟨h1, h2, _, sa⟩ := snd_args hrec _ _ _ _ h
  refine pimp (pe_lst (sa X ok A hA hM)) fun σ H Q q => ?_
  obtain ⟨ex, env, d, env', r0, hm, q⟩ := q
  simp only [evE] at hm
  obtain ⟨⟨xs, e1⟩, h1, hm⟩ := bind_ok hm
  refine stepA r0 h1 fun vs H1 r1 f1 p => ?_
  dsimp only at hm
  split at hm
  · rename_i hl
    cases hm
    refine ⟨by rw [p.length]; exact lim_line hl, fun q' n => ?_⟩
    have g := rd_of (k := .fresh) (.inr ⟨rfl, xs, rfl⟩) (fun _ z => z) (fun _ z => .inl z) r1 f1 q
    exact RFr.new g p n
  · cases hm

/-! ### subscripts -/
theorem plainIx {b : Expr} (h : ∀ lo hi st p, b ≠ .Slice lo hi st p) : PlainIx b := fun o i => by
  cases b <;> first | rfl | exact absurd rfl (h _ _ _ _)
theorem snd_part {rec : Rec} (hrec : RecOk cf k rec) {e : Option Expr} {x : Ex} {o1 : Own} (h : cPart rec c o e = some (x, o1)) : (∀ i, i ∈ o1 → i ∈ o) ∧ (∀ i, i ∈ tch x → i ∈ o) ∧ ∀ X : Cx, XOk X c cf k → ∀ A : Amb, A.K = X.K → AOk A c →
    ∃ t, PO X e t ∧ ∀ σ H ex env d env' (Q : Option Int → Hp → Prop), R A ex o σ H env → evO cf x env = .ok (d, env') → (∀ H', R A ex o1 σ H' env' → Frame (EX (tch x) σ) H H' → Q d H') → t σ H Q := by
  cases e with
  | none =>
    simp only [cPart] at h
    cases h
    refine ⟨fun i hi => hi, fun i hi => by simp [tch] at hi, fun X ok A hA hM => ⟨_, po_none, fun σ H ex env d env' Q r0 hm q => ?_⟩⟩
    simp only [evO] at hm
    cases hm
    exact q H r0 (Frame.refl H)
  | some e =>
    simp only [cPart, Option.bind_eq_bind, Option.bind_eq_some_iff] at h
    obtain ⟨⟨x', kx, oa⟩, hx, h⟩ := h
    obtain ⟨sx, x1, x2, nx⟩ := rec_np hrec hx
    cases h
    refine ⟨x1, fun i hi => x2 i (by simpa [tch] using hi), fun X ok A hA hM => ⟨_, po_some (sx X ok A hA hM), fun σ H ex env d env' Q r0 hm q => ?_⟩⟩
    simp only [evO] at hm
    obtain ⟨⟨xv, e1⟩, h1, hm⟩ := bind_ok hm
    refine stepV nx r0 h1 fun v H1 r1 f1 v1 => ?_
    cases xv <;> first | (cases hm; done) | skip
    cases hm
    cases v1
    exact ⟨_, rfl, q H1 r1 (by simpa [tch] using f1)⟩
theorem slF_lst {xs : List D} {lo hi : Option Int} {d : D} (h : slF (.lst xs) lo hi = some d) : ∃ ds, d = .lst ds := by
  unfold slF at h
  cases h
  exact ⟨_, rfl⟩
theorem snd_sub {rec : Rec} (hrec : RecOk cf k rec) {a b : Expr} {pos : Pos} (h : cSub rec c o a b = some r) : SndE cf k c o (.Subscript a b pos) r := fun X ok A hA hM => by
  unfold cSub at h
  simp only [Option.bind_eq_bind, Option.bind_eq_some_iff] at h
  obtain ⟨⟨x, kx, oa⟩, hx, h⟩ := h
  obtain ⟨sx, okx⟩ := hrec _ _ _ _ hx
  obtain ⟨x1, x2, x3⟩ := okS_sub okx
  dsimp only at h
  split at h
  · rename_i lo hi st p
    cases st with
    | none =>
      simp only [Option.bind_eq_bind, Option.bind_eq_some_iff, guard_eq] at h
      obtain ⟨⟨l, ob⟩, hl, ⟨u, oc⟩, hu, _, hg, h⟩ := h
      obtain ⟨l1, l2, sl⟩ := snd_part hrec hl
      obtain ⟨u1, u2, su⟩ := snd_part hrec hu
      obtain ⟨tl, pl, wl⟩ := sl X ok A hA hM
      obtain ⟨tu, pu, wu⟩ := su X ok A hA hM
      rw [Bool.and_eq_true] at hg
      have k1 := okPk_of hg.1
      have k2 := okPk_of hg.2
      cases h
      obtain ⟨rr, hr, rule⟩ := sl2 (X := X)
      refine pimp (pe_slice hr (sx X ok A hA hM) pl pu) fun σ H Q q => ?_
      obtain ⟨ex, env, d, env', r0, hm, q⟩ := q
      simp only [evE] at hm
      obtain ⟨⟨xv, e1⟩, h1, hm⟩ := bind_ok hm
      obtain ⟨⟨lv, e2⟩, h2, hm⟩ := bind_ok hm
      obtain ⟨⟨uv, e3⟩, h3, hm⟩ := bind_ok hm
      obtain ⟨z, h4, hm⟩ := bind_ok hm
      cases hm
      have h4 := of_ok h4
      refine stepL r0 h1 fun hl1 v H1 r1 f1 v1 => wl _ _ _ _ _ _ _ r1 h2 fun H2 r2 f2 => wu _ _ _ _ _ _ _ r2 h3 fun H3 r3 f3 => ?_
      have kk : ∀ i, noFr kx = .peek i → kx = .peek i := fun i hi => by
        cases kx with
        | peek j => exact hi
        | _ => cases hi
      have v2 := v1.after (o2 := ob) (ex1 := ex) r1 f2 (fun _ z => .inl z) (fun _ z => z) l2 l1 fun i hi => ⟨(k1 i (kk i hi)).1, u1 i (k2 i (kk i hi)).2⟩
      have v3 := v2.after (o2 := oc) (ex1 := ex) r2 f3 (fun _ z => .inl z) (fun _ z => z) u2 u1 fun i hi => k2 i (kk i hi)
      refine rule _ _ v xv lv uv d Q r3.trX (by rw [← hA]; exact v3.pk) h4 ?_
      rw [← hA]
      refine rd_of (tc := tch x ++ (tch l ++ tch u)) ?_ (fun _ z => z) (fun _ z => .inl z) r3 (f1.cat (f2.cat f3)) q
      by_cases hL : isL kx = true
      · rw [if_pos hL]
        refine .inr ⟨rfl, ?_⟩
        obtain ⟨sh, ds, e⟩ := hl1 hL
        subst e
        cases sh with
        | lst => exact slF_lst h4
        | dct ks => cases h4
        | obj _ _ _ _ => cases h4
      · rw [if_neg hL]
        exact .inl rfl
    | some st =>
      dsimp only at h
      split at h
      · rename_i hg
        simp only [Bool.and_eq_true] at hg
        obtain ⟨⟨hlo, hhi⟩, hst⟩ := hg
        cases h
        obtain rfl : lo = none := by cases lo <;> first | rfl | cases hlo
        obtain rfl : hi = none := by cases hi <;> first | rfl | cases hhi
        have : ∃ j p1 p2, st = .UnaryOp .USub (.Constant (.int 1) j p1) p2 := by
          unfold isMinus1 at hst
          split at hst
          · rename_i e
            cases e
            exact ⟨_, _, _, rfl⟩
          · cases hst
        obtain ⟨j, p1, p2, rfl⟩ := this
        refine pby fun σ H Q q => ?_
        obtain ⟨ex, env, d, env', r0, hm, q⟩ := q
        simp only [evE, evA] at hm
        obtain ⟨⟨xs, e1⟩, h1, hm⟩ := bind_ok hm
        obtain ⟨z, h4, hm⟩ := bind_ok hm
        cases hm
        have h4 := of_ok h4
        obtain ⟨⟨xv, e1⟩, g1, g2⟩ := bind_ok h1
        cases g2
        have lstCase : ∀ ws, xv = .lst ws → d = .lst ws.reverse := fun ws e => by
          subst e
          unfold bltF at h4
          cases h4; rfl
        have tupCase : (∃ ws, xv = .lst ws) ∨ ∃ ws, xv = .tup ws ∧ d = .tup ws.reverse := by
          unfold bltF at h4
          split at h4 <;> first | contradiction | skip
          all_goals (rename_i e1 e2; first | (cases e1; done) | skip)
          all_goals first
            | (cases e2; cases h4; exact .inr ⟨_, rfl, rfl⟩)
            | (cases e2; cases h4; exact .inl ⟨_, rfl⟩)
        have hev : xv = xv := rfl
        rcases tupCase with ⟨ws, rfl⟩ | ⟨ws, rfl, rfl⟩
        · obtain rfl := lstCase ws rfl
          refine ⟨_, pe_revL (sx X ok A hA hM), ?_⟩
          refine step r0 g1 fun v H1 r1 f1 v1 => ?_
          obtain ⟨a', vs, rfl, hh, hrs⟩ := v1.pk.lst
          refine ⟨a', vs, rfl, SqL.of hh, fun p n => ?_⟩
          have g := rd_of (d := .lst ws.reverse) (tc := tch x) (k := if isL kx then .fresh else .val) (by
            by_cases hL : isL kx = true
            · rw [if_pos hL]; exact .inr ⟨rfl, _, rfl⟩
            · rw [if_neg hL]; exact .inl rfl) (fun _ z => z) (fun _ z => .inl z) r1 f1 (fun v' H' f' vr' => q v' H' (by simpa [tch] using f') vr')
          exact RFr.new g hrs.reverse n
        · refine ⟨_, pe_revT (sx X ok A hA hM), ?_⟩
          refine stepL r0 g1 fun hl1 v H1 r1 f1 v1 => ?_
          obtain ⟨a', vs, rfl, hh, hrs⟩ := v1.pk.tup
          refine ⟨a', vs, rfl, by rw [← hA]; exact hh.sq, fun p ob n hd => ?_⟩
          have nl : isL kx ≠ true := fun hL => by obtain ⟨sh, _, e⟩ := hl1 hL; cases sh <;> cases e
          rw [if_neg nl] at q
          exact RVal.tup (Q := Q) r1.trX (fun v H' s z => q v H' (by simpa [tch] using f1.trans (.same s)) (.mk0 (r1.keep s) z)) hrs.reverse n hd
      · cases h
  · rename_i hns
    simp only [Option.bind_eq_bind, Option.bind_eq_some_iff, guard_eq] at h
    obtain ⟨⟨y, ky, ob⟩, hy, _, hk, h⟩ := h
    obtain ⟨sy, y1, y2, ny⟩ := rec_np hrec hy
    have hk := okPk_of hk
    cases h
    obtain ⟨rr, hr, rule⟩ := ix2 (X := X) ok.rm
    refine pimp (pe_ix hr (sx X ok A hA hM) (sy X ok A hA hM) (plainIx fun lo hi st p e => hns _ _ _ _ e)) fun σ H Q q => ?_
    obtain ⟨ex, env, d, env', r0, hm, q⟩ := q
    simp only [evE, evA] at hm
    obtain ⟨⟨xs, e2⟩, h1, hm⟩ := bind_ok hm
    obtain ⟨z, h4, hm⟩ := bind_ok hm
    cases hm
    have h4 := of_ok h4
    obtain ⟨⟨xv, e1⟩, g1, g⟩ := bind_ok h1
    obtain ⟨⟨ys, e2'⟩, g2, g⟩ := bind_ok g
    obtain ⟨⟨yv, e3⟩, g3, g4⟩ := bind_ok g2
    cases g4
    cases g
    refine step r0 g1 fun v H1 r1 f1 v1 => stepV ny r1 g3 fun w H2 r2 f2 v2 => ?_
    have v1' := v1.after (o2 := ob) (ex1 := ex) r1 f2 (fun _ z => .inl z) (fun _ z => z) y2 y1 fun i hi => hk i (by
      cases kx with
      | peek j => exact hi
      | _ => cases hi)
    refine rule _ _ v w xv yv d Q r2.trX (by rw [← hA]; exact v1'.pk) (by rw [← hA]; exact v2.pk) h4 ?_
    rw [← hA]
    exact fun u H' s p => q u H' (by
      have := (f1.cat f2).trans (.same s)
      simpa [tch] using this) (.mk0 (r2.keep s) p)
end
end Pv

set_option maxHeartbeats 1000000
/-! sorted over tuples. -/
namespace Pv
open PySem PySem.Spec PyProof.Rows L2
section
variable {prog : Program} {w : World} {A : Around} {E : Value → Shared → Prop} {s : Shared}
theorem collect_tup {l : Addr} {vs : List Value} {Q : List Value → Shared → Prop} (hl : s.heap.IsTuple l vs.toArray)
    (h : Q vs { s with heap := (s.heap.push (seqObj "list" #[] 0)).update s.heap.objs.size (Obj.mapSeq (· ++ vs.toArray)) }) (hsz : vs.length ≤ sizeLine) :
    wpAny (model prog w) A (collect (.ref l)) Q E s := by
  obtain ⟨o, ho, hc, n, hd⟩ := id hl
  unfold collect
  refine wpAny_bind (wpAny_runValue (codeAny_builtin entry_proto_collect' ?_))
  show wpAny _ _ (do again (.builtin "list.__iadd__" ⟨[← newList [], .ref l], []⟩)) _ _ s
  refine wpAny_bind (wpAny_newList (wpAny_pure ⟨Code.quiet_builtin _ (by decide +kernel), codeAny_builtin entry_list_iadd' ?_⟩))
  show wpAny _ _ (Builtin.List.listExtendWith (.ref s.heap.objs.size) (.ref l) (.ref s.heap.objs.size)) _ _ { s with heap := s.heap.push (seqObj "list" #[] 0) }
  unfold Builtin.List.listExtendWith
  have ho' : (s.heap.push (seqObj "list" #[] 0)).get? l = some o := Heap.get?_push_of_some _ ho
  refine wpAny_bind (wpAny_typeOf (T := "tuple") ⟨o, ho', hc⟩ ?_)
  have ht : (Value.type "tuple" == Value.type "tuple") = true := by rfl
  rw [if_pos (by rw [ht]; simp)]
  refine wpAny_bind (listItems_at ho' hd ?_)
  refine wpAny_bind (listItems_at (xs := #[]) (n := 0) (Heap.get?_push_size _ rfl) rfl ?_)
  rw [if_neg (by simp)]
  refine wpAny_bind (listUpdate_at (xs := #[]) (n := 0) (Heap.get?_push_size _ rfl) rfl ?_ (Nat.zero_le _) (by show (#[] ++ vs.toArray).size ≤ sizeLine + 1; simp only [Array.size_append, List.size_toArray, List.length_nil]; omega))
  refine wpAny_pure ?_
  show wpAny (model prog w) A (do
      let o ← load s.heap.objs.size
      match o.data with
      | .seq xs _ => pure xs.toList
      | _ => unsupported "internal:collect") Q E { s with heap := (s.heap.push (seqObj "list" #[] 0)).update s.heap.objs.size (Obj.mapSeq (· ++ vs.toArray)) }
  refine wpAny_bind (wpAny_load (get?_update_seq (Heap.get?_push_size _ rfl) _) ?_)
  show wpAny _ _ (pure ((#[] : Array Value) ++ vs.toArray).toList) Q E _
  rw [show ((#[] : Array Value) ++ vs.toArray).toList = vs by simp]
  exact wpAny_pure h
theorem sortedKT {κ : KeyKind} (hO : κ.OneLt) {l : Addr} {vs : List Value} {Q : Value → Shared → Prop} (hl : s.heap.IsTuple l vs.toArray) (h0 : KeysOf κ (pairsOf vs)) (hkk : ∀ v₁ v₂ rest, vs = v₁ :: v₂ :: rest → keyKind' (v₁ :: v₂ :: rest).toArray = pure oneType') (hL : vs.length ≤ sizeLine)
    (h : ∀ st' : SortSt, (arrOf st').Perm (pairsOf vs) → SortedToK κ (arrOf st') (pairsOf vs).size → Q (.ref (s.heap.objs.size + 1)) { s with heap := sortedAll s.heap vs ((arrOf st').map (·.2)) }) :
    wpAny (model prog w) A (call (.builtin "sorted") [.ref l]) Q E s := by
  refine Calls.call_function_entry kind_sorted plain_sorted entry_sorted (args_sorted1 _) ?_
  unfold Builtin.«sorted»
  refine wpAny_bind (m := checkCount "sorted" 1 1 _) (wpAny_pure ?_)
  refine wpAny_bind (collect_tup hl ?_ hL)
  refine wpAny_bind (wpAny_newList ?_)
  have hsz : ((s.heap.push (seqObj "list" #[] 0)).update s.heap.objs.size (Obj.mapSeq (· ++ vs.toArray))).objs.size = s.heap.objs.size + 1 := by
    rw [Heap.size_update, size_push']
  have hoL : (((s.heap.push (seqObj "list" #[] 0)).update s.heap.objs.size (Obj.mapSeq (· ++ vs.toArray))).push (seqObj "list" vs.toArray 0)).get? (s.heap.objs.size + 1) = some (seqObj "list" vs.toArray 0) := by
    rw [← hsz]; exact Heap.get?_push_size _ rfl
  show wpAny _ _ _ _ _ { s with heap := ((s.heap.push (seqObj "list" #[] 0)).update s.heap.objs.size (Obj.mapSeq (· ++ vs.toArray))).push (seqObj "list" vs.toArray 0) }
  rw [hsz]
  refine wpAny_bind (wpAny_holding (wpAny_call_entry slot_list_sort ⟨_, hoL, rfl⟩ entry_list_sort (list_sort_treeKAny hO hoL h0 hkk hL fun st' a1 a2 => ⟨_, rfl, ?_⟩) (args_list_sort _)))
  exact wpAny_pure ⟨_, rfl, h st' a1 a2⟩
theorem sorted_strsT {l : Addr} {vs : List Value} {ss : List Str} {Q : Value → Shared → Prop} (hl : s.heap.IsTuple l vs.toArray) (hS : StrsAre vs ss) (hL : vs.length ≤ sizeLine)
    (h : ∀ (out : Array Value) (ss' : List Str), StrsAre out.toList ss' → ss'.Perm ss → sortedS ss' = true → Q (.ref (s.heap.objs.size + 1)) { s with heap := sortedAll s.heap vs out }) :
    wpAny (model prog w) A (call (.builtin "sorted") [.ref l]) Q E s := by
  refine sortedKT strKind_oneLt hl hS.keysOf (fun v₁ v₂ rest e => keyKind_strs (by rw [← e]; exact hS)) hL fun st' hp hs => ?_
  obtain ⟨ss', h1, h2, h3⟩ := sorted_out_str hS hp hs
  exact h _ ss' h1 h2 h3
end
variable {X : Cx}
def rSortedST (K : PySem.W.Frag) : List V → Hp → VK → Prop := fun vs H Q => ∃ (a : Addr) (xs : List Str), vs = [V.ref a] ∧ SqT K H a (xs.map V.str) ∧ xs.length < 64 ∧
  ∀ (ys : List Str) (p : Addr), ys.Perm xs → sortedS ys = true → H p = none → Q (.ref p) (upd H p (.lst (ys.map V.str)))
theorem cr_sortedST : CallR X (.builtin "sorted") (rSortedST X.K) := by
  intro pins s σ H vs us Q I r h
  obtain ⟨a, xs, rfl, hs, h64, q⟩ := h
  obtain ⟨its, rv, hl, _⟩ := I.tuple hs
  rw [Vals.ref1 r]
  have hlen0 := rv.length
  rw [List.length_map] at hlen0
  refine sorted_strsT hl rv.strs (by rw [← hlen0]; exact small64 h64) fun out ys h1 h2 h3 => ?_
  obtain ⟨ep, he'⟩ := PyProof.Rows.sortedAll_at s.heap its out
  have hlen : (ys.map V.str).length ≤ sizeLine := by rw [List.length_map, h2.length_eq]; exact small64 h64
  exact ⟨.ref _, upd H (s.heap.objs.size + 1) (.lst (ys.map V.str)), I.laid (t' := s.toks) (fun _ _ => PyProof.Rows.sortedAll_old) (Nat.le_succ _) ⟨hlen, out.toList, ep, vals_of_strs h1, he'⟩, rfl, q ys _ h2 h3 (I.hok.fresh (Nat.le_succ _))⟩
/-! ### the order of texts -/
theorem sle_anti {a b : Str} (h1 : strLe a b = true) (h2 : strLe b a = true) : a = b := by
  unfold strLe at h1 h2
  rw [Bool.not_eq_true', decide_eq_false_iff_not] at h1 h2
  have e : a.cps.toList = b.cps.toList := List.le_antisymm (List.not_lt.mp h1) (List.not_lt.mp h2)
  cases a; cases b
  congr 1
  exact Array.toList_inj.mp e
theorem sle_trans {a b c : Str} (h1 : strLe a b = true) (h2 : strLe b c = true) : strLe a c = true := by
  unfold strLe at h1 h2 ⊢
  rw [Bool.not_eq_true', decide_eq_false_iff_not] at h1 h2 ⊢
  exact List.not_lt.mpr (List.le_trans (List.not_lt.mp h1) (List.not_lt.mp h2))
theorem sle_total {a b : Str} (h : ¬ strLe a b = true) : strLe b a = true := by
  unfold strLe at h ⊢
  rw [Bool.not_eq_true', decide_eq_false_iff_not] at h ⊢
  exact fun q => h (List.lt_asymm q)
theorem insBy_perm' {α : Type} (le : α → α → Bool) (x : α) : ∀ l : List α, (insBy le x l).Perm (x :: l)
  | [] => .refl _
  | y :: r => by
    unfold insBy
    split
    · exact .refl _
    · exact ((insBy_perm' le x r).cons y).trans (.swap _ _ _)
theorem sortBy_perm' {α : Type} (le : α → α → Bool) : ∀ l : List α, (sortBy le l).Perm l
  | [] => .refl _
  | x :: r => (insBy_perm' le x _).trans ((sortBy_perm' le r).cons x)
theorem insBy_sortedS (x : Str) : ∀ {l : List Str}, l.Pairwise (fun a b => strLe a b = true) → (insBy strLe x l).Pairwise fun a b => strLe a b = true
  | [], _ => by simp [insBy]
  | y :: r, h => by
    unfold insBy
    split
    · rename_i hl
      refine List.pairwise_cons.mpr ⟨fun z hz => ?_, h⟩
      rcases List.mem_cons.mp hz with rfl | hz
      · exact hl
      · exact sle_trans hl ((List.pairwise_cons.mp h).1 z hz)
    · rename_i hl
      obtain ⟨h1, h2⟩ := List.pairwise_cons.mp h
      refine List.pairwise_cons.mpr ⟨fun z hz => ?_, insBy_sortedS x h2⟩
      rcases List.mem_cons.mp ((insBy_perm' _ x r).mem_iff.mp hz) with rfl | hz
      · exact sle_total hl
      · exact h1 z hz
theorem sortBy_sortedS : ∀ l : List Str, (sortBy strLe l).Pairwise fun a b => strLe a b = true
  | [] => .nil
  | x :: r => insBy_sortedS x (sortBy_sortedS r)
theorem rising_pw : ∀ (l : List Str) (p : Str), risingS p l = true → (∀ y ∈ l, strLe p y = true) ∧ l.Pairwise fun a b => strLe a b = true
  | [], _, _ => ⟨fun _ h => absurd h (List.not_mem_nil), List.Pairwise.nil⟩
  | x :: r, p, h => by
    simp only [risingS, Bool.and_eq_true, ltCps_eq] at h
    have hp : strLe p x = true := h.1
    obtain ⟨h1, h2⟩ := rising_pw r x h.2
    refine ⟨fun y hy => ?_, List.pairwise_cons.mpr ⟨h1, h2⟩⟩
    rcases List.mem_cons.mp hy with rfl | hy
    · exact hp
    · exact sle_trans hp (h1 y hy)
theorem sortedS_pw : ∀ {l : List Str}, sortedS l = true → l.Pairwise fun a b => strLe a b = true
  | [], _ => .nil
  | x :: r, h => List.pairwise_cons.mpr (rising_pw r x h)
/-- a sorted row of the same texts is the one that is reckoned -/
theorem sortS_uniq {xs ys : List Str} (hp : ys.Perm xs) (hs : sortedS ys = true) : ys = sortBy strLe xs :=
  List.Perm.eq_of_pairwise (fun _ _ _ _ a b => sle_anti a b) (sortedS_pw hs) (sortBy_sortedS xs) (hp.trans (sortBy_perm' _ xs).symm)
end Pv

set_option maxHeartbeats 1000000
/-! Built-in functions and methods by name. -/
namespace Pv
open PySem PySem.Spec PyProof.Rows L2

/-! ### sorted, str -/
theorem insBy_perm {α : Type} (le : α → α → Bool) (x : α) : ∀ l : List α, (insBy le x l).Perm (x :: l)
  | [] => .refl _
  | y :: r => by
    unfold insBy
    split
    · exact .refl _
    · exact ((insBy_perm le x r).cons y).trans (.swap _ _ _)
theorem sortBy_perm {α : Type} (le : α → α → Bool) : ∀ l : List α, (sortBy le l).Perm l
  | [] => .refl _
  | x :: r => (insBy_perm le x _).trans ((sortBy_perm le r).cons x)
theorem insBy_sorted (x : Int) : ∀ {l : List Int}, l.Pairwise (· ≤ ·) → (insBy (fun a b => decide (a ≤ b)) x l).Pairwise (· ≤ ·)
  | [], _ => by simp [insBy]
  | y :: r, h => by
    unfold insBy
    split
    · rename_i hl
      have hl := of_decide_eq_true hl
      refine List.pairwise_cons.mpr ⟨fun z hz => ?_, h⟩
      rcases List.mem_cons.mp hz with rfl | hz
      · exact hl
      · exact Int.le_trans hl ((List.pairwise_cons.mp h).1 z hz)
    · rename_i hl
      have hl : ¬ x ≤ y := fun q => hl (decide_eq_true q)
      obtain ⟨h1, h2⟩ := List.pairwise_cons.mp h
      refine List.pairwise_cons.mpr ⟨fun z hz => ?_, insBy_sorted x h2⟩
      rcases List.mem_cons.mp ((insBy_perm _ x r).mem_iff.mp hz) with rfl | hz
      · omega
      · exact h1 z hz
theorem sortBy_sorted : ∀ l : List Int, (sortBy (fun a b => decide (a ≤ b)) l).Pairwise (· ≤ ·)
  | [] => .nil
  | x :: r => insBy_sorted x (sortBy_sorted r)
section
variable {X : Cx}
theorem Reps.strs {K : PySem.W.Frag} {Z : Addr → Prop} {H : Hp} : ∀ (ss : List Str), (∀ b ∈ ss, okT b = true) → Reps K Z H (ss.map V.str) (ss.map D.str)
  | [], _ => .nil
  | x :: r, h => .cons (.str x (h x List.mem_cons_self)) (Reps.strs r fun b hb => h b (List.mem_cons_of_mem _ hb))
/-! ### sorted, of data alike -/
section
variable {α : Type} {le : α → α → Bool}
theorem insBy_pw (t : PySem.W.TotalLe le) (x : α) : ∀ {l : List α}, (l.Pairwise fun a b => le a b = true) → (insBy le x l).Pairwise fun a b => le a b = true
  | [], _ => by simp [insBy]
  | y :: r, h => by
    have h' := List.pairwise_cons.mp h
    simp only [insBy]
    by_cases c : le x y = true
    · rw [if_pos c]
      refine List.pairwise_cons.mpr ⟨fun z hz => ?_, h⟩
      rcases List.mem_cons.mp hz with e | hz
      · rw [e]; exact c
      · exact t.trans _ _ _ c (h'.1 z hz)
    · rw [if_neg c]
      refine List.pairwise_cons.mpr ⟨fun z hz => ?_, insBy_pw t x h'.2⟩
      rcases List.mem_cons.mp ((insBy_perm le x r).mem_iff.mp hz) with e | hz
      · rw [e]
        exact (t.total x y).resolve_left c
      · exact h'.1 z hz
theorem sortBy_pw (t : PySem.W.TotalLe le) : ∀ l : List α, (sortBy le l).Pairwise fun a b => le a b = true
  | [] => List.Pairwise.nil
  | x :: r => insBy_pw t x (sortBy_pw t r)
theorem insBy_rank (t : PySem.W.TotalLe le) (c x : α) : ∀ l : List α, (insBy le x l).filter (PySem.W.sameRank le c) = (x :: l).filter (PySem.W.sameRank le c)
  | [] => rfl
  | y :: r => by
    simp only [insBy]
    by_cases h : le x y = true
    · rw [if_pos h]
    · rw [if_neg h, List.filter_cons, insBy_rank t c x r]
      by_cases hx : PySem.W.sameRank le c x = true
      · have hy : PySem.W.sameRank le c y = false := by
          rw [← Bool.not_eq_true]
          intro hy
          unfold PySem.W.sameRank at hx hy
          simp only [Bool.and_eq_true] at hx hy
          exact h (t.trans _ _ _ hx.2 hy.1)
        simp [List.filter_cons, hx, hy]
      · simp [List.filter_cons, hx]
theorem sortBy_rank (t : PySem.W.TotalLe le) (c : α) : ∀ l : List α, (sortBy le l).filter (PySem.W.sameRank le c) = l.filter (PySem.W.sameRank le c)
  | [] => rfl
  | x :: r => by
    show (insBy le x (sortBy le r)).filter _ = _
    rw [insBy_rank t, List.filter_cons, sortBy_rank t c r, ← List.filter_cons]
theorem sortBy_merge (t : PySem.W.TotalLe le) (l : List α) : sortBy le l = l.mergeSort le := PySem.W.sort_unique t (sortBy_pw t l) fun c => sortBy_rank t c l
end
theorem leP_total : PySem.W.TotalLe (fun a b : D => !ltP b a) := PySem.W.sortLe_total (listOrd itemOrd) false fun d : D => PySem.W.keyToks (toPy d)
/-- one value alone can be sorted -/
theorem sorts_one {prog : Program} {w : World} {A : Around} {s : Shared} {v : Value} {d : PyData} {as : List Addr} (r : Reads s.heap v d as) (al : PySem.W.alike d d = true) (hn : d ≠ .none) (hu : A.units + d.depth < cLine) : PySem.W.SortsAt prog w A s (PySem.W.dataKind s.heap [d]) [v] := by
  have hal : PySem.W.AllAlike [d] := fun a ha b hb => by rw [List.mem_singleton.mp ha, List.mem_singleton.mp hb]; exact al
  refine ⟨fun u hv => ?_, general', fun E x y a b Q ha hb hq => ?_, fun h => absurd h (by simp)⟩
  · rw [List.mem_singleton.mp hv]
    exact ⟨_, PySem.W.dataKind_some hal (List.mem_singleton.mpr rfl) r⟩
  · obtain ⟨d1, as1, h1, r1, rfl⟩ := PySem.W.dataKind_inv ha
    obtain ⟨d2, as2, h2, r2, rfl⟩ := PySem.W.dataKind_inv hb
    obtain rfl := List.mem_singleton.mp h1
    obtain rfl := List.mem_singleton.mp h2
    have e : keyLt' general' x y = oneLt' false x y := rfl
    rw [e]
    exact PySem.W.oneLt_alike (fun h => absurd h (by simp)) r1 r2 al hn (by rw [Nat.min_self]; exact hu) hq
theorem sorted_one {prog : Program} {w : World} {A : Around} {E : Value → Shared → Prop} {s : Shared} {l : Addr} {v : Value} {d : PyData} {as : List Addr} {Q : Value → Shared → Prop} (hl : s.heap.IsList l [v].toArray)
    (r : Reads (PySem.W.sortingHeap (PySem.W.copyHeap s.heap [v]) (s.heap.objs.size + 1) [v]) v d as) (al : PySem.W.alike d d = true) (hn : d ≠ .none) (hu : A.units + 2 + d.depth < cLine)
    (h : Q (.ref (s.heap.objs.size + 1)) { s with heap := sortedAll s.heap [v] [v].toArray }) : wpAny (model prog w) A (call (.builtin "sorted") [.ref l]) Q E s := by
  have es : ∀ κ : PyProof.Rows.KeyKind, PySem.W.sortVals κ false [v] [v] = [v] := fun κ => by simp [PySem.W.sortVals]
  refine PySem.W.sorted_vals (κ := PySem.W.dataKind (PySem.W.sortingHeap (PySem.W.copyHeap s.heap [v]) (s.heap.objs.size + 1) [v]) [d]) hl (sorts_one r al hn hu) (by rw [sizeLine_eq]; show 1 ≤ _; omega) ?_
  rw [es]
  exact h
def sortS : List D → Option D
  | [.lst xs] => (sortDF xs).map .lst
  | _ => none
theorem each_of {β : Type} {R : Value → β → Prop} : ∀ {vs : List Value} {bs : List β}, vs.length = bs.length → (∀ (i : Nat) (v : Value) (b : β), vs[i]? = some v → bs[i]? = some b → R v b) → PySem.W.EachIs R vs bs
  | [], [], _, _ => .nil
  | v :: vs, b :: bs, h, g => .cons (g 0 v b rfl rfl) (each_of (by simpa using h) fun i v b h1 h2 => g (i + 1) v b (by simpa using h1) (by simpa using h2))
  | [], _ :: _, h, _ => by simp at h
  | _ :: _, [], h, _ => by simp at h
theorem reps_each {K : PySem.W.Frag} {Z : Addr → Prop} {H : Hp} : ∀ {out : List Value} {ds : List D}, PySem.W.EachIs (fun v b => ∃ x, RelV x v ∧ Rep K Z H x b) out ds → ∃ xs, Vals xs out ∧ Reps K Z H xs ds
  | _, _, .nil => ⟨[], .nil, .nil⟩
  | _, _, .cons ⟨x, r1, r2⟩ t => by
    obtain ⟨xs, h1, h2⟩ := reps_each t
    exact ⟨x :: xs, .cons r1 h1, .cons r2 h2⟩
theorem cr_sortD (rm : Rm X) : CallR X (.builtin "sorted") (rD X.K sortS) := by
  intro pins s σ H vs us Q I rx h
  obtain ⟨Z, xs, d, t, hx, e, q⟩ := h
  obtain ⟨ys, zs, rfl, e2, rfl⟩ : ∃ ys zs, xs = [.lst ys] ∧ sortDF ys = some zs ∧ d = .lst zs := by
    unfold sortS at e
    split at e
    · obtain ⟨zs, h1, h2⟩ := Option.map_eq_some_iff.mp e
      exact ⟨_, zs, rfl, h1, h2.symm⟩
    · cases e
  unfold sortDF at e2
  by_cases c : (decide (ys.length ≤ LIM) && (allLike ys && (ys.all isTup1 || (ys.all (fun d => !isTupD d) || decide (ys.length ≤ 1))))) = true
  · rw [if_pos c] at e2
    simp only [Option.some.injEq] at e2
    simp only [Bool.and_eq_true, Bool.or_eq_true, decide_eq_true_eq] at c
    obtain ⟨hlen, hs, hk⟩ := c
    obtain ⟨h1, h2, h3⟩ := like_spec hs
    obtain ⟨v, rfl, hv⟩ := pk1 hx
    obtain ⟨a, ws, rfl, hq, rr⟩ := hv.lst
    rw [Vals.ref1 rx]
    have hun := rm.un
    obtain ⟨its, rv, pl, _⟩ := I.list (SqL.of hq)
    have hil : its.length = ys.length := by rw [← rv.length, rr.length]
    have R : PySem.W.EachIs (fun v b => ∃ x, RelV x v ∧ Rep X.K Z H x b) its ys := each_of hil fun i v b hi hb => by
      obtain ⟨x, hx, rx⟩ := rr.get hb
      obtain ⟨u, hu, ru⟩ := rv.get hx
      obtain rfl : u = v := Option.some.inj (hu.symm.trans hi)
      exact ⟨x, ru, rx⟩
    have E : PySem.W.EachIs (fun v b => ∃ as, Reads s.heap v (toPy b) as) its ys := each_of hil fun i v b hi hb => by
      obtain ⟨x, hx, rx⟩ := rr.get hb
      obtain ⟨u, hu, ru⟩ := rv.get hx
      obtain rfl : u = v := Option.some.inj (hu.symm.trans hi)
      exact Dp.reads I (toPy b) x u (rx.dp (h1 b (List.mem_of_getElem? hb))) ru
    have hal : PySem.W.AllAlike (ys.map toPy) := fun a ha b hb => by
      obtain ⟨x, hx, rfl⟩ := List.mem_map.mp ha
      obtain ⟨y, hy, rfl⟩ := List.mem_map.mp hb
      exact h3 x hx y hy
    have fin : ∀ out : List Value, PySem.W.EachIs (fun v b => ∃ x, RelV x v ∧ Rep X.K Z H x b) out zs → EP X pins σ Q (.ref (s.heap.objs.size + 1)) { s with heap := sortedAll s.heap its out.toArray } := fun out ho => by
      obtain ⟨xs, g1, g2⟩ := reps_each ho
      obtain ⟨ep, he'⟩ := PyProof.Rows.sortedAll_at s.heap its out.toArray
      have hlz : xs.length ≤ sizeLine := by
        rw [g2.length, ← e2, (sortBy_perm _ ys).length_eq]
        exact lim_line hlen
      exact ⟨.ref _, upd H (s.heap.objs.size + 1) (.lst xs), I.laid (t' := s.toks) (fun _ _ => PyProof.Rows.sortedAll_old) (Nat.le_succ _) ⟨hlz, out, ep, g1, by simpa using he'⟩, rfl, RFr.new q g2 (I.hok.fresh (Nat.le_succ _))⟩
    have dp60 : ∀ b ∈ ys, (toPy b).depth ≤ 60 := fun b hb => Nat.le_trans (dep_py b (h1 b hb)) (h1 b hb)
    have ez : ys.mergeSort (PySem.W.dataLe false toPy) = zs := by rw [← e2]; exact (sortBy_merge leP_total ys).symm
    by_cases hk2 : ys.all isTup1 = true ∨ (ys.all fun d => !isTupD d) = true
    · have hk' : PySem.W.Sortable (ys.map toPy) := by
        rcases hk2 with g | g
        · refine .inl fun d hd => ?_
          obtain ⟨y, hy, rfl⟩ := List.mem_map.mp hd
          have := List.all_eq_true.mp g y hy
          cases y <;> simp only [isTup1] at this <;> try (contradiction)
          rename_i l
          cases l with
          | nil => simp only [isTup1] at this; contradiction
          | cons z l => exact ⟨toPy z, toPys l, by simp only [toPy, toPys]⟩
        · refine .inr fun d hd => ?_
          obtain ⟨y, hy, rfl⟩ := List.mem_map.mp hd
          refine ⟨notN_py (h2 y hy), fun xs he => ?_⟩
          have := List.all_eq_true.mp g y hy
          cases y <;> simp only [toPy] at he <;> first | contradiction | (simp [isTupD] at this)
      refine PySem.W.sorted_data (vs := its) (bs := ys) (enc := toPy) (R := fun v b => ∃ x, RelV x v ∧ Rep X.K Z H x b) pl.isList R E hal hk' (lim_line hlen) (fun b hb => by have := dp60 b hb; omega) fun out _ ho => fin out ?_
      rw [ez] at ho
      exact ho
    · have h1l : ys.length ≤ 1 := by
        rcases hk with g | g | g
        · exact absurd (.inl g) hk2
        · exact absurd (.inr g) hk2
        · exact g
      obtain ⟨y, rfl⟩ : ∃ y, ys = [y] := by
        match ys, h1l, hk2 with
        | [], _, hk2 => exact absurd (.inl rfl) hk2
        | [y], _, _ => exact ⟨y, rfl⟩
      obtain ⟨u, rfl⟩ : ∃ u, its = [u] := by
        match its, hil with
        | [u], _ => exact ⟨u, rfl⟩
      obtain ⟨as, ru⟩ : ∃ as, Reads s.heap u (toPy y) as := by cases E with | cons h _ => exact h
      have hz : zs = [y] := by rw [← e2]; rfl
      have hd := dp60 y (by simp)
      have ry := PyProof.Rows.Reads.keeps (h' := PySem.W.sortingHeap (PySem.W.copyHeap s.heap [u]) (s.heap.objs.size + 1) [u]) (fun _ _ => PySem.W.sorting_copy_old) ru
      exact sorted_one pl.isList ry (h3 y (by simp) y (by simp)) (notN_py (h2 y (by simp))) (by omega) (fin [u] (by rw [hz]; exact R))
  · rw [if_neg c] at e2; cases e2
theorem ca_sorted (rm : Rm X) : Ca X (.builtin "sorted") (bltF .sorted) := by
  refine .of ((cr_sorted.or (cr_sortedS.or cr_sortedST)).or (cr_sortD rm)) fun Z H vs xs d Q t hx e q => ?_
  unfold bltF at e
  split at e <;> first | contradiction | skip
  all_goals (rename_i e1; first | (cases e1; done) | skip)
  · rename_i ys
    obtain ⟨v, rfl, h1⟩ := pk1 hx
    obtain ⟨zs, e0, e3⟩ := Option.map_eq_some_iff.mp e
    rcases Option.or_eq_some_iff.mp e0 with e2 | ⟨_, e2⟩
    case inr => exact .inr ⟨Z, [.lst ys], d, t, hx, by rw [← e3]; exact congrArg (Option.map D.lst) e2, q⟩
    cases e3
    refine .inl ?_
    unfold sortF at e2
    split at e2
    · rename_i h64
      obtain ⟨a, ws, rfl, hh, r⟩ := h1.lst
      have hlen := r.length
      split at e2
      · rename_i ns e4
        cases e2
        obtain rfl := r.intsD e4
        refine .inl ⟨a, ns, rfl, SqL.of hh, ?_, fun ns' p hp hs n => ?_⟩
        · rw [List.length_map] at hlen
          omega
        · obtain rfl : ns' = sortBy (fun a b => decide (a ≤ b)) ns := List.Perm.eq_of_pairwise (fun _ _ _ _ a b => Int.le_antisymm a b) hs (sortBy_sorted ns) (hp.trans (sortBy_perm _ ns).symm)
          exact RFr.new q (Reps.ints _) n
      · obtain ⟨ss, e4, e5⟩ := Option.map_eq_some_iff.mp e2
        cases e5
        obtain ⟨rfl, ho⟩ := r.strsD e4
        refine .inr (.inl ⟨a, ss, rfl, SqL.of hh, ?_, fun ys p hp hs n => ?_⟩)
        · rw [List.length_map] at hlen
          omega
        · obtain rfl := sortS_uniq hp hs
          exact RFr.new q (Reps.strs _ fun b hb => ho b (hp.mem_iff.mp hb)) n
    · cases e2
  · rename_i ys
    obtain ⟨v, rfl, h1⟩ := pk1 hx
    obtain ⟨zs, e2, e3⟩ := Option.map_eq_some_iff.mp e
    cases e3
    unfold sortTF at e2
    split at e2
    · rename_i h64
      obtain ⟨a, ws, rfl, hq, r⟩ := h1.seq (ds := ys) rfl
      have hlen := r.length
      obtain ⟨ss, e4, e5⟩ := Option.map_eq_some_iff.mp e2
      cases e5
      obtain ⟨rfl, ho⟩ := r.strsD e4
      rw [List.length_map] at hlen
      refine .inl ?_
      rcases hq with hq | hq
      · refine .inr (.inl ⟨a, ss, rfl, hq, by omega, fun ys p hp hs n => ?_⟩)
        obtain rfl := sortS_uniq hp hs
        exact RFr.new q (Reps.strs _ fun b hb => ho b (hp.mem_iff.mp hb)) n
      · refine .inr (.inr ⟨a, ss, rfl, hq, by omega, fun ys p hp hs n => ?_⟩)
        obtain rfl := sortS_uniq hp hs
        exact RFr.new q (Reps.strs _ fun b hb => ho b (hp.mem_iff.mp hb)) n
    · cases e2
theorem ca_str : Ca X (.type "str") (bltF .str) := by
  refine .of call_str_int fun Z H vs xs d Q t hx e q => ?_
  unfold bltF at e
  split at e <;> first | contradiction | skip
  all_goals (rename_i e1; first | (cases e1; done) | skip)
  rename_i i
  obtain ⟨v, rfl, h1⟩ := pk1 hx
  obtain rfl := h1.int
  split at e
  · rename_i hg
    rw [Bool.and_eq_true, decide_eq_true_eq] at hg
    cases e
    exact ⟨i, rfl, hg.1, RVal.str (show RVal X.K Z H (.str _) Q from q) hg.2⟩
  · cases e

theorem ite_some {α : Type} {p : Prop} [Decidable p] {a b : α} {y : Option α} (h : (if p then some a else y) = some b) : (p ∧ a = b) ∨ y = some b := by
  by_cases g : p
  · rw [if_pos g] at h; exact .inl ⟨g, Option.some.inj h⟩
  · rw [if_neg g] at h; exact .inr h
/-- a built-in function's rule -/
theorem bi_rule (rm : Rm X) {x : Str} {n : Nat} {b : Bi} (h : biOf x n = some b) : (∃ id, bootBuiltins x = some (.builtin id) ∧ Ca X (.builtin id) (bltF b)) ∨ ∃ T, bootBuiltins x = some (.type T) ∧ Ca X (.type T) (bltF b) := by
  unfold biOf at h
  rcases ite_some h with ⟨g, rfl⟩ | h
  · rw [Bool.and_eq_true] at g; obtain rfl := LawfulBEq.eq_of_beq g.1; exact .inl ⟨_, rfl, ca_len⟩
  rcases ite_some h with ⟨g, rfl⟩ | h
  · rw [Bool.and_eq_true] at g; obtain rfl := LawfulBEq.eq_of_beq g.1; exact .inl ⟨_, rfl, ca_abs⟩
  rcases ite_some h with ⟨g, rfl⟩ | h
  · rw [Bool.and_eq_true] at g; obtain rfl := LawfulBEq.eq_of_beq g.1; exact .inr ⟨_, rfl, ca_int⟩
  rcases ite_some h with ⟨g, rfl⟩ | h
  · rw [Bool.and_eq_true] at g; obtain rfl := LawfulBEq.eq_of_beq g.1; exact .inr ⟨_, rfl, ca_bool⟩
  rcases ite_some h with ⟨g, rfl⟩ | h
  · rw [Bool.and_eq_true] at g; obtain rfl := LawfulBEq.eq_of_beq g.1; exact .inr ⟨_, rfl, ca_str⟩
  rcases ite_some h with ⟨g, rfl⟩ | h
  · rw [Bool.and_eq_true] at g; obtain rfl := LawfulBEq.eq_of_beq g.1; exact .inr ⟨_, rfl, ca_list⟩
  rcases ite_some h with ⟨g, rfl⟩ | h
  · rw [Bool.and_eq_true] at g; obtain rfl := LawfulBEq.eq_of_beq g.1; exact .inr ⟨_, rfl, ca_tuple⟩
  rcases ite_some h with ⟨g, rfl⟩ | h
  · rw [Bool.and_eq_true] at g; obtain rfl := LawfulBEq.eq_of_beq g.1; exact .inl ⟨_, rfl, ca_all rm⟩
  rcases ite_some h with ⟨g, rfl⟩ | h
  · rw [Bool.and_eq_true] at g; obtain rfl := LawfulBEq.eq_of_beq g.1; exact .inl ⟨_, rfl, ca_any rm⟩
  rcases ite_some h with ⟨g, rfl⟩ | h
  · rw [Bool.and_eq_true] at g; obtain rfl := LawfulBEq.eq_of_beq g.1; exact .inl ⟨_, rfl, ca_min2 rm⟩
  rcases ite_some h with ⟨g, rfl⟩ | h
  · rw [Bool.and_eq_true] at g; obtain rfl := LawfulBEq.eq_of_beq g.1; exact .inl ⟨_, rfl, ca_max2 rm⟩
  rcases ite_some h with ⟨g, rfl⟩ | h
  · rw [Bool.and_eq_true] at g; obtain rfl := LawfulBEq.eq_of_beq g.1; exact .inl ⟨_, rfl, ca_minS rm⟩
  rcases ite_some h with ⟨g, rfl⟩ | h
  · rw [Bool.and_eq_true] at g; obtain rfl := LawfulBEq.eq_of_beq g.1; exact .inl ⟨_, rfl, ca_maxS rm⟩
  rcases ite_some h with ⟨g, rfl⟩ | h
  · rw [Bool.and_eq_true] at g; obtain rfl := LawfulBEq.eq_of_beq g.1; exact .inl ⟨_, rfl, ca_sum rm⟩
  rcases ite_some h with ⟨g, rfl⟩ | h
  · rw [Bool.and_eq_true] at g; obtain rfl := LawfulBEq.eq_of_beq g.1; exact .inl ⟨_, rfl, ca_sorted rm⟩
  · cases h
end

section
variable {cf : Cf} {k : Nat} {c : Ctx} {o : Own} {e : Expr} {r : Cr} {X : Cx}
theorem freshBi_lst {b : Bi} {xs : List D} {d : D} (h : freshBi b = true) (e : bltF b xs = some d) : ∃ ds, d = .lst ds := by
  unfold freshBi at h
  split at h
  · unfold bltF at e
    split at e <;> first | contradiction | (cases e; exact ⟨_, rfl⟩) | skip
  · unfold bltF at e
    split at e <;> first | contradiction | (cases e; exact ⟨_, rfl⟩) | skip
    all_goals
      obtain ⟨_, _, e⟩ := Option.map_eq_some_iff.mp e
      exact ⟨_, e.symm⟩
  · cases h
theorem nos_of (ok : XOk X c cf k) {x : Str} (h : c.nos.contains x = true) : X.mg x = none := ok.nos x (by simpa using h)
theorem snd_blt {rec : Rec} (hrec : RecOk cf k rec) {x : Str} {es : List Expr} {b : Bi} {y : Ex} {o1 : Own} {p pos : Pos} (hg : glB c.sc x = true) (hd : (!oddName x) = true) (hn : c.nos.contains x = true) (hb : biOf x es.length = some b) (h : cArgsP rec c o es = some (y, o1)) :
    SndE cf k c o (.Call (.Name x p) es [] pos) (.blt b y, if freshBi b then .fresh else .val, o1) := fun X ok A hA hM => by
  obtain ⟨h1, h2, h3, sa⟩ := snd_argsP hrec _ _ _ _ h
  obtain ⟨e, rest, rfl⟩ : ∃ e rest, es = e :: rest := by
    cases es with
    | nil => exfalso; unfold biOf at hb; simp at hb
    | cons e rest => exact ⟨e, rest, rfl⟩
  have hs := starEach_cons (env := X.env) (es := rest) (h3 e List.mem_cons_self)
  have hpl := plain_any (pos := pos) (env := X.env) fun z hz => h3 z (List.mem_cons_of_mem e hz)
  obtain ⟨n1, n2, n3⟩ := odd_no hd
  have fin : ∀ (rr : List V → Hp → VK → Prop), (∀ Z H vs xs d Q, TrZ Z H → Paired (Pk X.K Z H) vs xs → bltF b xs = some d → RD X.K Z H d Q → rr vs H Q) → PE X (.Call (.Name x p) (e :: rest) [] pos) (tCB rr (tMA A o o1 true (tch y) (evA cf y))) →
      PE X (.Call (.Name x p) (e :: rest) [] pos) (tM A o o1 (if freshBi b then .fresh else .val) (tch (.blt b y)) (evE cf (.blt b y))) := fun rr rule pe => by
    refine pimp pe fun σ H Q q => ?_
    obtain ⟨ex, env, d, env', r0, hm, q⟩ := q
    simp only [evE] at hm
    obtain ⟨⟨xs, e1⟩, g1, hm⟩ := bind_ok hm
    obtain ⟨z, g2, hm⟩ := bind_ok hm
    cases hm
    have g2 := of_ok g2
    refine stepP r0 g1 fun vs H1 r1 f1 pk => ?_
    refine rule _ _ vs xs d Q r1.trX (by rw [← hA]; exact pk) g2 ?_
    rw [← hA]
    refine rd_of (tc := tch y) ?_ (fun _ z => z) (fun _ z => .inl z) r1 f1 q
    by_cases hf : freshBi b = true
    · rw [if_pos hf]; exact .inr ⟨rfl, freshBi_lst hf g2⟩
    · rw [if_neg hf]; exact .inl rfl
  rcases bi_rule ok.rm (X := X) hb with ⟨id, hv, rr, hc, rule⟩ | ⟨T, hv, rr, hc, rule⟩
  · exact fin rr rule (pe_callB hc (gl_of ok hg) (nos_of ok hn) hv (sa X ok A hA hM) n3 n1 hs hpl)
  · exact fin rr rule (pe_callTy hc (gl_of ok hg) (nos_of ok hn) hv (sa X ok A hA hM) n3 n1 hs hpl)
theorem bltB_of {t : Str} (h : bltB c t = true) : glB c.sc t = true ∧ c.nos.contains t = true ∧ (!oddName t) = true := by
  unfold bltB at h
  rw [Bool.and_eq_true, Bool.and_eq_true] at h
  exact ⟨h.1.1, h.1.2, h.2⟩
theorem isa_rule {t : Expr} {b : Bi} (h : isaOf c t = some b) : ∃ nm pos T, t = .Name nm pos ∧ bltB c nm = true ∧ bootBuiltins nm = some (.type T) ∧ Isa X T b := by
  unfold isaOf at h
  split at h
  · rename_i nm pos
    split at h
    · rename_i hb
      refine ⟨nm, pos, ?_⟩
      split at h
      · rename_i g; obtain rfl := LawfulBEq.eq_of_beq g; cases h; exact ⟨_, rfl, hb, rfl, isa_int⟩
      split at h
      · rename_i g; obtain rfl := LawfulBEq.eq_of_beq g; cases h; exact ⟨_, rfl, hb, rfl, isa_bool⟩
      split at h
      · rename_i g; obtain rfl := LawfulBEq.eq_of_beq g; cases h; exact ⟨_, rfl, hb, rfl, isa_str⟩
      split at h
      · rename_i g; obtain rfl := LawfulBEq.eq_of_beq g; cases h; exact ⟨_, rfl, hb, rfl, isa_tuple⟩
      split at h
      · rename_i g; obtain rfl := LawfulBEq.eq_of_beq g; cases h; exact ⟨_, rfl, hb, rfl, isa_list⟩
      · cases h
    · cases h
  · cases h
theorem snd_isa {rec : Rec} (hrec : RecOk cf k rec) {a t : Expr} {b : Bi} {y : Ex} {ky : Kd} {o1 : Own} {p pos : Pos} (hg : glB c.sc "isinstance" = true) (hn : c.nos.contains ("isinstance" : Str) = true) (hst : isStar a = false) (hb : isaOf c t = some b) (h : rec c o a = some (y, ky, o1)) :
    SndE cf k c o (.Call (.Name "isinstance" p) [a, t] [] pos) (.blt b (.cons y .nil), .val, o1) := fun X ok A hA hM => by
  obtain ⟨sy, oky⟩ := hrec _ _ _ _ h
  obtain ⟨nm, np, T, rfl, hbl, hbo, rr, hc, rule⟩ := isa_rule (X := X) hb
  obtain ⟨g1, g2, g3⟩ := bltB_of hbl
  obtain ⟨n1, n2, n3⟩ := odd_no g3
  have hT : PE X (.Name nm np) (tC (.ty T)) := pe_bltn (gl_of ok g1) (nos_of ok g2) hbo rfl n3 n1
  have hargs : PA X [a, .Name nm np] (tCons (tM A o o1 ky (tch y) (evE cf y)) (tCons (tC (.ty T)) tNil)) := pa_cons' (sy X ok A hA hM) (pa_cons' hT pa_nil rfl) hst
  refine pimp (pe_callB hc (gl_of ok hg) (nos_of ok hn) rfl hargs (by decide) (by decide) (starEach_cons hst) rfl) fun σ H Q q => ?_
  obtain ⟨ex, env, d, env', r0, hm, q⟩ := q
  simp only [evE, evA] at hm
  obtain ⟨⟨xs, e1⟩, h1, hm⟩ := bind_ok hm
  obtain ⟨z, h4, hm⟩ := bind_ok hm
  cases hm
  have h4 := of_ok h4
  obtain ⟨⟨xv, e1⟩, g1, g2⟩ := bind_ok h1
  cases g2
  refine step r0 g1 fun v H1 r1 f1 v1 => ?_
  refine rule (XX o1 σ ex) _ v xv d Q (by rw [← hA]; exact v1.pk) h4 ?_
  rw [← hA]
  exact fun u H' s p => q u H' (by simpa [tch] using f1.trans (.same s)) (.mk0 (r1.keep s) p)
end
end Pv

set_option maxHeartbeats 1000000
/-! Methods; the lists that a slot owns; calls of defs. -/
namespace Pv
open PySem PySem.Spec PyProof.Rows L2

/-! ### join -/
theorem joinS_len (sep : List Nat) : ∀ ss : List Str, (ss.map (·.length)).sum + ss.length * sep.length ≤ (joinS sep ss).length + sep.length
  | [] => by simp [joinS]
  | [x] => by simp [joinS, Str.length]
  | x :: y :: r => by
    have ih := joinS_len sep (y :: r)
    simp only [joinS, List.length_append, List.map_cons, List.sum_cons, List.length_cons] at ih ⊢
    have : x.cps.toList.length = x.length := by simp [Str.length]
    rw [this, Nat.add_mul, Nat.one_mul]
    omega
theorem joinS_mem (sep : List Nat) : ∀ (ss : List Str) (n : Nat), n ∈ joinS sep ss → n ∈ sep ∨ ∃ x ∈ ss, n ∈ x.cps.toList
  | [], n, h => by simp [joinS] at h
  | [x], n, h => .inr ⟨x, List.mem_cons_self, h⟩
  | x :: y :: r, n, h => by
    simp only [joinS, List.mem_append] at h
    rcases h with (h | h) | h
    · exact .inr ⟨x, List.mem_cons_self, h⟩
    · exact .inl h
    · exact (joinS_mem sep (y :: r) n h).imp id fun ⟨z, h1, h2⟩ => ⟨z, List.mem_cons_of_mem _ h1, h2⟩
theorem joinS_eq (s : Str) : ∀ ss : List Str, (Str.join s ss).cps.toList = joinS s.cps.toList ss
  | [] => rfl
  | [x] => rfl
  | x :: y :: r => by
    show (x ++ s ++ Str.join s (y :: r)).cps.toList = _
    have : ∀ a b : Str, (a ++ b).cps.toList = a.cps.toList ++ b.cps.toList := fun a b => Array.toList_append
    rw [this, this, joinS_eq s (y :: r)]
    rfl
section
variable {X : Cx}
theorem strOk_list {l : List Nat} (hl : l.length ≤ LIM) (h : ∀ n ∈ l, okT ⟨#[n]⟩ = true) : okT ⟨l.toArray⟩ = true := by
  rw [okT_iff]
  refine ⟨?_, by show l.toArray.size ≤ LIM; rw [List.size_toArray]; exact hl⟩
  unfold PyData.strOk
  rw [Array.all_eq_true_iff_forall_mem]
  intro n hn
  have h1 := (okT_iff.mp (h n (by simpa using hn))).1
  unfold PyData.strOk at h1
  rw [Array.all_eq_true_iff_forall_mem] at h1
  exact h1 n (by simp)
theorem join_str {x z d : D} (h : bltF .join [x, z] = some d) : ∃ s, x = .str s ∧ (((seqOf z).bind strsOf).bind fun ss => if (joinS s.cps.toList ss).length ≤ LIM then some (D.str ⟨(joinS s.cps.toList ss).toArray⟩) else none) = some d := by
  cases x <;> first | (cases h; done) | exact ⟨_, rfl, h⟩
theorem me_join : Me X "str.join" (fun x xs => match xs with | [z] => bltF .join [x, z] | _ => none) := by
  refine ⟨_, mt_join, fun Z H v vs x xs d Q t hx hxs e q => ?_⟩
  dsimp only at e
  split at e
  · rename_i z
    obtain ⟨s, rfl, e⟩ := join_str e
    obtain ⟨ss, g1, g2⟩ := Option.bind_eq_some_iff.mp e
    obtain ⟨zs, g3, g4⟩ := Option.bind_eq_some_iff.mp g1
    split at g2
    · rename_i hl
      cases g2
      obtain ⟨w, rfl, hw⟩ := pk1 hxs
      obtain ⟨rfl, hso⟩ := hx.str
      obtain ⟨a, us, rfl, hq, r⟩ := hw.seq g3
      obtain ⟨rfl, hok⟩ := r.strsD g4
      have h1 := joinS_len s.cps.toList ss
      have h2 := (okT_iff.mp hso).2
      have h3 : s.cps.toList.length = s.length := by simp [Str.length]
      refine ⟨s, a, ss, rfl, rfl, hq, ?_, ?_⟩
      · have hL : LIM = 1000000 := rfl
        rw [h3] at h1
        omega
      · have e3 : (⟨(joinS s.cps.toList ss).toArray⟩ : Str) = Txt.join s ss := by
          rw [TL.join_eq, ← joinS_eq]
        rw [← e3]
        refine RVal.str q (strOk_list hl fun n hn => ?_)
        rcases joinS_mem _ _ _ hn with hn | ⟨x, hx, hn⟩
        · exact strOk_one hso hn
        · exact strOk_one (hok x hx) hn
    · cases g2
  · cases e
end

section
variable {cf : Cf} {k : Nat} {c : Ctx} {o : Own} {e : Expr} {r : Cr} {X : Cx}
theorem meth_core {A : Amb} (hA : A.K = X.K) {T id : String} {name : Str} {F : D → List D → Option D} {tyP : V → Hp → Prop} (me : Me X id F) (hty : TyOk X T tyP) (pa : PlainAttrs T) (slot : Slot T name id) (hmd : typeOf (.builtin id) = pure (.type "method_descriptor"))
    {a e : Expr} {es : List Expr} {o oa ob : Own} {kx : Kd} {x z : Ex} {ap cp : Pos} (sx : PE X a (tM A o oa kx (tch x) (evE cf x))) (sz : PA X (e :: es) (tMA A oa ob true (tch z) (evA cf z)))
    (z1 : ∀ i, i ∈ ob → i ∈ oa) (z2 : ∀ i, i ∈ tch z → i ∈ oa) (hk : ∀ i, kx = .peek i → i ∉ tch z ∧ i ∈ ob) (hbase : attributeBase a name X.env (eval a X.env) = eval a X.env)
    (hfew : ((backTo cp (starEach (e :: es) X.env)).all (fun x => !x.1) && (backToKw cp (keywordEach [] X.env)).all (fun x => x.1.isSome)
      && decide ((e :: es).length + ([] : List Keyword).length + (if ([] : List Keyword).isEmpty then 0 else 1) < 30)) = true)
    (hline : (ap.endLine == cp.line) = true) (hs : starEach (e :: es) X.env = (false, eval e X.env) :: starEach es X.env) (hplain : (backTo cp (starEach es X.env)).any (·.1) = false)
    {σ : St} {H : Hp} {Q : VK} {ex : Addr → Prop} {env e1 env' : Env} {xv d : D} {xs : List D} (r0 : R A ex o σ H env) (g1 : evE cf x env = .ok (xv, e1)) (g2 : evA cf z e1 = .ok (xs, env')) (hP : ∀ H v, Pk X.K (XX oa σ ex) H v xv → tyP v H) (hF : F xv xs = some d)
    (q : ∀ v H', Frame (EX (tch x ++ tch z) σ) H H' → VR A .val ex ob σ H H' v d env' → Q v H') : ∃ t, PE X (.Call (.Attribute a name ap) (e :: es) [] cp) t ∧ t σ H Q := by
  obtain ⟨rr, hm, rule⟩ := me
  refine ⟨_, pe_bG hty pa slot hmd hm sx sz hbase hfew hline hs hplain, ?_⟩
  refine step r0 g1 fun v H1 r1 f1 v1 => ⟨hP _ _ (by rw [← hA]; exact v1.pk), stepP r1 g2 fun vs H2 r2 f2 p => ?_⟩
  have v2 := v1.after (o2 := ob) (ex1 := ex) r1 f2 (fun _ z => .inl z) (fun _ z => z) z2 z1 fun i hi => hk i (by
    cases kx with
    | peek j => exact hi
    | _ => cases hi)
  refine rule (XX ob σ ex) _ v vs xv xs d Q r2.trX (by rw [← hA]; exact v2.pk) (by rw [← hA]; exact p) hF ?_
  rw [← hA]
  exact fun u H' s p' => q u H' ((f1.cat f2).trans (.same s)) (.mk0 (r2.keep s) p')
theorem base_of {a : Expr} {env : PySem.Env} {name : Str} {w : Sem Value} (h : isCall0 a = false) : attributeBase a name env w = w := by
  unfold attributeBase
  split
  · cases h
  · rfl
theorem few_of {cp : Pos} {env : PySem.Env} {e : Expr} {es : List Expr} (h : ∀ x ∈ e :: es, isStar x = false) (hl : (e :: es).length < 28) : ((backTo cp (starEach (e :: es) env)).all (fun x => !x.1) && (backToKw cp (keywordEach [] env)).all (fun x => x.1.isSome)
      && decide ((e :: es).length + ([] : List Keyword).length + (if ([] : List Keyword).isEmpty then 0 else 1) < 30)) = true := by
  rw [plain_all h, Bool.true_and, Bool.and_eq_true]
  refine ⟨rfl, decide_eq_true ?_⟩
  show (e :: es).length + 0 + 0 < 30
  omega
theorem snd_meth {rec : Rec} (hrec : RecOk cf k rec) {a : Expr} {m : Str} {es : List Expr} {b : Bi} {y : Ex} {o1 : Own} {ap cp : Pos}
    (hb : (if m == ("index" : Str) && es.length == 1 then some Bi.index else if m == ("count" : Str) && es.length == 1 then some Bi.count else if m == ("join" : Str) && es.length == 1 then some Bi.join else none) = some b)
    (h : cArgsP rec c o (a :: es) = some (y, o1)) (hline : (ap.endLine == cp.line) = true) (hc0 : isCall0 a = false) : SndE cf k c o (.Call (.Attribute a m ap) es [] cp) (.blt b y, .val, o1) := fun X ok A hA hM => by
  simp only [cArgsP, Option.bind_eq_bind, Option.bind_eq_some_iff, guard_eq] at h
  obtain ⟨⟨x, kx, oa⟩, hx, ⟨z, ob⟩, hz, _, hk, h⟩ := h
  obtain ⟨sx, okx⟩ := hrec _ _ _ _ hx
  obtain ⟨z1, z2, z3, sz⟩ := snd_argsP hrec _ _ _ _ hz
  obtain ⟨ns, h⟩ := star_of h
  cases h
  have hk := okPk_of hk
  have hlen : es.length = 1 := by
    rcases ite_some hb with ⟨g, _⟩ | hb
    · rw [Bool.and_eq_true] at g; exact LawfulBEq.eq_of_beq g.2
    rcases ite_some hb with ⟨g, _⟩ | hb
    · rw [Bool.and_eq_true] at g; exact LawfulBEq.eq_of_beq g.2
    rcases ite_some hb with ⟨g, _⟩ | hb
    · rw [Bool.and_eq_true] at g; exact LawfulBEq.eq_of_beq g.2
    · cases hb
  obtain ⟨e1, rfl⟩ : ∃ e1, es = [e1] := by
    cases es with
    | nil => cases hlen
    | cons e1 r => cases r with
      | nil => exact ⟨e1, rfl⟩
      | cons _ _ => simp at hlen
  have hs := starEach_cons (env := X.env) (es := []) (z3 e1 List.mem_cons_self)
  have hfew := few_of (cp := cp) (env := X.env) (es := []) z3 (by show 1 < 28; decide)
  have sx' := sx X ok A hA hM
  have sz' := sz X ok A hA hM
  refine pby fun σ H Q q => ?_
  obtain ⟨ex, env, d, env', r0, hm, q⟩ := q
  simp only [evE, evA] at hm
  obtain ⟨⟨xs, e2⟩, h1, hm⟩ := bind_ok hm
  obtain ⟨w, h4, hm⟩ := bind_ok hm
  cases hm
  have h4 := of_ok h4
  obtain ⟨⟨xv, ea⟩, g1, g⟩ := bind_ok h1
  obtain ⟨⟨ys, eb⟩, g2, g⟩ := bind_ok g
  cases g
  have core : ∀ {T id : String} {F : D → List D → Option D} {tyP : V → Hp → Prop}, Me X id F → TyOk X T tyP → PlainAttrs T → Slot T m id → typeOf (.builtin id) = pure (.type "method_descriptor") → (∀ H v, Pk X.K (XX oa σ ex) H v xv → tyP v H) → F xv ys = some d →
      ∃ t, PE X (.Call (.Attribute a m ap) [e1] [] cp) t ∧ t σ H Q := fun {T id F tyP} me hty pa sl hmd hP hF =>
    meth_core hA me hty pa sl hmd sx' sz' z1 z2 hk (base_of hc0) hfew hline hs rfl r0 g1 g2 hP hF q
  have pTup : ∀ ws, xv = .tup ws → ∀ H v, Pk X.K (XX oa σ ex) H v xv → ∃ p vs, v = .ref p ∧ TupAt X.K (XX oa σ ex) H p vs := fun ws e H v h => by
    subst e; obtain ⟨p, vs, e, t, _⟩ := h.tup; exact ⟨p, vs, e, t⟩
  have pLst : ∀ ws, xv = .lst ws → ∀ H v, Pk X.K (XX oa σ ex) H v xv → ∃ p vs, v = .ref p ∧ SqL X.K H p vs := fun ws e H v h => by
    subst e; obtain ⟨p, vs, e, t, _⟩ := h.lst; exact ⟨p, vs, e, SqL.of t⟩
  have pStr : ∀ ws, xv = .str ws → ∀ H v, Pk X.K (XX oa σ ex) H v xv → ∃ z, v = .str z := fun ws e H v h => by
    subst e; exact ⟨_, h.str.1⟩
  have seqCase : ∀ {g : List D → Option D}, (seqOf xv).bind g = some d → (∃ ws, xv = .tup ws) ∨ ∃ ws, xv = .lst ws := fun {g} hg => by
    cases xv <;> first | (cases hg; done) | exact .inl ⟨_, rfl⟩ | exact .inr ⟨_, rfl⟩
  rcases ite_some hb with ⟨gg, rfl⟩ | hb
  · rw [Bool.and_eq_true] at gg
    obtain rfl := LawfulBEq.eq_of_beq gg.1
    have h5 := h4
    unfold bltF at h5
    split at h5 <;> first | contradiction | skip
    all_goals (rename_i e1 e2; first | (cases e1; done) | skip)
    cases e2
    rcases seqCase h5 with ⟨ws, rfl⟩ | ⟨ws, rfl⟩
    · exact core (me_ixT ok.rm) tyOk_tup PySem.F.plainAttrs_tuple PySem.F.slot_tuple_index PySem.F.type_tuple_index (pTup ws rfl) h4
    · exact core (me_ixL ok.rm) tyOk_list PySem.F.plainAttrs_list PySem.F.slot_list_index PySem.F.type_list_index (pLst ws rfl) h4
  rcases ite_some hb with ⟨gg, rfl⟩ | hb
  · rw [Bool.and_eq_true] at gg
    obtain rfl := LawfulBEq.eq_of_beq gg.1
    have h5 := h4
    unfold bltF at h5
    split at h5 <;> first | contradiction | skip
    all_goals (rename_i e1 e2; first | (cases e1; done) | skip)
    cases e2
    rcases seqCase h5 with ⟨ws, rfl⟩ | ⟨ws, rfl⟩
    · exact core (me_cnT ok.rm) tyOk_tup PySem.F.plainAttrs_tuple PySem.F.slot_tuple_count PySem.F.type_tuple_count (pTup ws rfl) h4
    · exact core (me_cnL ok.rm) tyOk_list PySem.F.plainAttrs_list PySem.F.slot_list_count PySem.F.type_list_count (pLst ws rfl) h4
  rcases ite_some hb with ⟨gg, rfl⟩ | hb
  · rw [Bool.and_eq_true] at gg
    obtain rfl := LawfulBEq.eq_of_beq gg.1
    have h5 := h4
    unfold bltF at h5
    split at h5 <;> first | contradiction | skip
    all_goals (rename_i e1 e2; first | (cases e1; done) | skip)
    cases e2
    exact core me_join tyOk_str PySem.F.plainAttrs_str PySem.F.slot_str_join PySem.F.type_str_join (pStr _ rfl) h4
  · cases hb
end
end Pv

set_option maxHeartbeats 1000000
/-! The lists that a slot owns; calls of defs. -/
namespace Pv
open PySem PySem.Spec PyProof.Rows L2

section
variable {A : Amb} {ex Z1 : Addr → Prop} {own : Own} {σ : St} {H H' : Hp} {env env' : Env} {tc : List Nat}
/-- lists of owned slots are changed -/
theorem R.touch (r : R A ex own σ H env) (f : Frame (EX tc σ) H H') (ht : ∀ i, i ∈ tc → i ∈ own) (up : ∀ a, XX own σ ex a → Z1 a) (dn : ∀ a, Z1 a → XX own σ ex a ∨ H a = none) (tr : TrZ Z1 H')
    (hn : ∀ i, i ∈ tc → ∃ p sh vs ds, σ[i]? = some (some (V.ref p)) ∧ H' p = some (Shp.ho sh vs) ∧ Repz A.K Z1 H' sh vs ds ∧ env'[i]? = some (some (Shp.d sh ds))) (ho : ∀ i, i ∉ tc → env'[i]? = env[i]?) (hl : env'.length = env.length) :
    R A (fun a => Z1 a ∧ ¬ EX own σ a) own σ H' env' := by
  have zz : ∀ b, XX own σ (fun a => Z1 a ∧ ¬ EX own σ a) b → Z1 b := fun b z => z.elim (fun q => up b (.inl q)) fun q => q.1
  have fz : Frame Z1 H H' := f.mono fun b z => up b (.inl (EX.sub ht b z))
  have lift : ∀ {v : V} {d : D}, Rep A.K (XX own σ ex) H v d → Rep A.K (XX own σ fun a => Z1 a ∧ ¬ EX own σ a) H' v d := fun h => ((Rep.grow dn h).frame fz).less zz
  have lifts : ∀ {sh : Shp} {v : List V} {d : List D}, Repz A.K (XX own σ ex) H sh v d → Repz A.K (XX own σ fun a => Z1 a ∧ ¬ EX own σ a) H' sh v d := fun h => ((Repz.grow dn h).frame fz).less zz
  refine ⟨by rw [hl]; exact r.len, r.ln, fun i d hi e => ?_, fun i hi => ?_, r.inj, ?_, r.new, fun a h => tr a h.1, fun a h q => q.2 h, r.pin⟩
  · rw [ho i fun z => hi (ht i z)] at e
    obtain ⟨v, h1, h2⟩ := r.non i d hi e
    exact ⟨v, h1, lift h2⟩
  · by_cases hc : i ∈ tc
    · obtain ⟨p, sh, vs, ds, h1, h2, h3, h4⟩ := hn i hc
      exact ⟨p, sh, vs, ds, h1, h2, h3.less zz, h4⟩
    · obtain ⟨p, sh, vs, ds, h1, h2, h3, h4⟩ := r.owl i hi
      refine ⟨p, sh, vs, ds, h1, f.keep _ _ h2 ?_, lifts h3, by rw [ho i hc]; exact h4⟩
      rintro ⟨j, hj, ej⟩
      exact hc (by rw [r.inj i j p hi (ht j hj) h1 ej]; exact hj)
  · refine ⟨fun b o e n => ?_, fun b o e => ?_⟩
    · refine f.keep _ _ (r.ent.keep b o e n) fun z => ?_
      rcases r.new b (EX.sub ht b z) with q | q
      · exact n q
      · rw [q] at e; cases e
    · obtain ⟨o', e'⟩ := r.ent.there b o e
      exact f.there _ _ e'
end

/-! ### methods that change a list -/
def OmOk (X : Cx) (id : String) (f : Om) : Prop := ∃ r, MtR X id r ∧ ∀ (Z : Addr → Prop) (H : Hp) (p : Addr) (vs : List V) (ds : List D) (args : List V) (xs : List D) (d : D) (zs : List D) (Q : VK), H p = some (.lst vs) → Z p → Reps X.K Z H vs ds → Reps X.K Z H args xs →
  omF f ds xs = some (d, zs) → (∀ v ws, Reps X.K Z H ws zs → Rep X.K Z H v d → Q v (upd H p (.lst ws))) → r (.ref p) args H Q
section
variable {X : Cx}
theorem reps1 {K : PySem.W.Frag} {Z : Addr → Prop} {H : Hp} {vs : List V} {x : D} (h : Reps K Z H vs [x]) : ∃ v, vs = [v] ∧ Rep K Z H v x := by
  cases h with | cons a b => cases b; exact ⟨_, rfl, a⟩
theorem reps2 {K : PySem.W.Frag} {Z : Addr → Prop} {H : Hp} {vs : List V} {x y : D} (h : Reps K Z H vs [x, y]) : ∃ v w, vs = [v, w] ∧ Rep K Z H v x ∧ Rep K Z H w y := by
  cases h with | cons a b => cases b with | cons b c => cases c; exact ⟨_, _, rfl, a, b⟩
theorem om_append : OmOk X "list.append" .append := by
  refine ⟨_, mt_append, fun Z H p vs ds args xs d zs Q hp hz r ra e q => ?_⟩
  unfold omF at e
  split at e <;> first | contradiction | skip
  all_goals (rename_i e1; first | (cases e1; done) | skip)
  rename_i xs' x'
  split at e
  · rename_i hl
    cases e
    obtain ⟨v, rfl, hv⟩ := reps1 ra
    exact ⟨p, vs, v, rfl, rfl, hp, by rw [r.length]; exact lim_lt hl, q _ _ (r.append (.one hv)) .non⟩
  · cases e
theorem om_extend : OmOk X "list.extend" .extend := by
  refine ⟨_, mt_extend, fun Z H p vs ds args xs d zs Q hp hz r ra e q => ?_⟩
  unfold omF at e
  split at e <;> first | contradiction | skip
  all_goals (rename_i e1; first | (cases e1; done) | skip)
  split at e
  · rename_i hl
    cases e
    obtain ⟨v, rfl, hv⟩ := reps1 ra
    cases hv with
    | lst hb _ hr => exact ⟨p, _, vs, _, rfl, rfl, hp, hb, by rw [r.length, hr.length]; exact lim_line hl, q _ _ (r.append hr) .non⟩
  · cases e
theorem om_insert : OmOk X "list.insert" .insert := by
  refine ⟨_, mt_insert, fun Z H p vs ds args xs d zs Q hp hz r ra e q => ?_⟩
  unfold omF at e
  split at e <;> first | contradiction | skip
  all_goals (rename_i e1; first | (cases e1; done) | skip)
  rename_i ds' i x'
  split at e
  · rename_i hl
    obtain ⟨h1, h2, h3⟩ := hl
    cases e
    obtain ⟨v, w, rfl, hv, hw⟩ := reps2 ra
    cases hv
    have hL : LIM = 1000000 := rfl
    refine ⟨p, vs, i, w, rfl, rfl, hp, by rw [r.length]; exact lim_lt h3, h1, by omega, ?_⟩
    rw [List.append_assoc]
    exact q _ _ ((r.take _).append (.cons hw (r.drop _))) .non
  · cases e
theorem ixP_spec {n : Nat} {i : Int} {k : Nat} (h : ixP n i = some k) (hn : n ≤ LIM) : -(2 ^ 63) ≤ i ∧ i < 2 ^ 63 ∧ seqIndex? i n = some k ∧ k < n := by
  have hL : LIM = 1000000 := rfl
  unfold ixP at h
  have h0 := h
  split at h
  · split at h
    · cases h
      refine ⟨by omega, by omega, ?_, by omega⟩
      unfold seqIndex?
      simp_all
      refine ⟨⟨?_, ?_⟩, ?_⟩ <;> split <;> omega
    · cases h
  · split at h
    · cases h
      refine ⟨by omega, by omega, ?_, by omega⟩
      unfold seqIndex?
      simp_all
      omega
    · cases h
theorem om_popAt : OmOk X "list.pop" .popAt := by
  refine ⟨_, mt_popAt, fun Z H p vs ds args xs d zs Q hp hz r ra e q => ?_⟩
  unfold omF at e
  split at e <;> first | contradiction | skip
  all_goals (rename_i e1; first | (cases e1; done) | skip)
  rename_i ds' i
  split at e
  · rename_i hl
    obtain ⟨k, hk, e2⟩ := Option.bind_eq_some_iff.mp e
    obtain ⟨x, hx, e3⟩ := Option.map_eq_some_iff.mp e2
    cases e3
    obtain ⟨v, rfl, hv⟩ := reps1 ra
    cases hv
    obtain ⟨h1, h2, h3, h4⟩ := ixP_spec hk hl
    obtain ⟨u, hu, ru⟩ := r.get hx
    exact ⟨p, vs, i, k, u, rfl, rfl, hp, h1, h2, by rw [r.length]; exact h3, hu, q _ _ (r.eraseIdx k) ru⟩
  · cases e
theorem om_pop : OmOk X "list.pop" .pop := by
  refine ⟨_, mt_pop, fun Z H p vs ds args xs d zs Q hp hz r ra e q => ?_⟩
  unfold omF at e
  split at e <;> first | contradiction | skip
  all_goals (rename_i e1; first | (cases e1; done) | skip)
  obtain ⟨x, hx, e3⟩ := Option.map_eq_some_iff.mp e
  cases e3
  cases ra
  obtain ⟨u, hu, ru⟩ := r.get hx
  refine ⟨p, vs, u, rfl, rfl, hp, by rw [r.length]; exact hu, q _ _ ?_ ru⟩
  rw [List.dropLast_eq_take, List.dropLast_eq_take, r.length]
  exact r.take _
end

section
variable {cf : Cf} {k : Nat} {c : Ctx} {o : Own} {e : Expr} {r : Cr} {X : Cx}
theorem om_rule {m : Str} {n : Nat} {f : Om} (h : omOf m n = some f) : ∃ id, OmOk X id f ∧ Slot "list" m id ∧ typeOf (.builtin id) = pure (.type "method_descriptor") ∧ (n = 0 ∨ n < 28) := by
  unfold omOf at h
  rcases ite_some h with ⟨g, rfl⟩ | h
  · rw [Bool.and_eq_true] at g; obtain rfl := LawfulBEq.eq_of_beq g.1; obtain rfl := LawfulBEq.eq_of_beq g.2; exact ⟨_, om_append, PySem.F.slot_list_append, PySem.F.type_list_append, .inr (by decide)⟩
  rcases ite_some h with ⟨g, rfl⟩ | h
  · rw [Bool.and_eq_true] at g; obtain rfl := LawfulBEq.eq_of_beq g.1; obtain rfl := LawfulBEq.eq_of_beq g.2; exact ⟨_, om_extend, PySem.F.slot_list_extend, PySem.F.type_list_extend, .inr (by decide)⟩
  rcases ite_some h with ⟨g, rfl⟩ | h
  · rw [Bool.and_eq_true] at g; obtain rfl := LawfulBEq.eq_of_beq g.1; obtain rfl := LawfulBEq.eq_of_beq g.2; exact ⟨_, om_insert, PySem.F.slot_list_insert, PySem.F.type_list_insert, .inr (by decide)⟩
  rcases ite_some h with ⟨g, rfl⟩ | h
  · rw [Bool.and_eq_true] at g; obtain rfl := LawfulBEq.eq_of_beq g.1; obtain rfl := LawfulBEq.eq_of_beq g.2; exact ⟨_, om_popAt, PySem.F.slot_list_pop, PySem.F.type_list_pop, .inr (by decide)⟩
  rcases ite_some h with ⟨g, rfl⟩ | h
  · rw [Bool.and_eq_true] at g; obtain rfl := LawfulBEq.eq_of_beq g.1; obtain rfl := LawfulBEq.eq_of_beq g.2; exact ⟨_, om_pop, PySem.F.slot_list_pop, PySem.F.type_list_pop, .inl rfl⟩
  · cases h
theorem get_set {α : Type} {l : List α} {i j : Nat} {x : α} : (l.set i x)[j]? = if i = j then (if i < l.length then some x else none) else l[j]? := by
  rw [List.getElem?_set]
theorem snd_om {rec : Rec} (hrec : RecOk cf k rec) {x m : Str} {es : List Expr} {f : Om} {y : Ex} {o1 : Own} {i : Nat} {np ap cp : Pos} (hf : omOf m es.length = some f) (hv : varOf c x = some i) (hi : o.contains i = true)
    (h : cArgs rec c o es = some (y, o1)) (hi1 : o1.contains i = true) (hline : (ap.endLine == cp.line) = true) : SndE cf k c o (.Call (.Attribute (.Name x np) m ap) es [] cp) (.om f i y, .val, o1) := fun X ok A hA hM => by
  obtain ⟨a1, a2, a3, sa⟩ := snd_args hrec _ _ _ _ h
  obtain ⟨id, ⟨rr, hm, rule⟩, slot, hmd, hn⟩ := om_rule (X := X) hf
  have hi : i ∈ o := by simpa using hi
  have hi1 : i ∈ o1 := by simpa using hi1
  have pv := varOf_spec ok (pos := np) hv
  -- what is behind the arguments
  have core : ∀ σ H Q, tM A o o1 .val (tch (.om f i y)) (evE cf (.om f i y)) σ H Q → ∃ p, σ[i]? = some (some (V.ref p)) ∧ (∃ vs, H p = some (.lst vs)) ∧ tMA A o o1 false (tch y) (evA cf y) σ H fun args H1 => rr (.ref p) args H1 Q := fun σ H Q q => by
    obtain ⟨ex, env, d, env', r0, hm, q⟩ := q
    simp only [evE] at hm
    obtain ⟨p, sh0, vs0, ds0, s1, s2, _, s4⟩ := r0.owl i hi
    rw [s4] at hm
    cases sh0 with
    | dct ks => cases hm
    | obj _ _ _ _ => cases hm
    | lst =>
    have hm := (if_pos (show lstB (some (some (Shp.d .lst ds0))) = true from rfl)).symm.trans hm
    obtain ⟨⟨xs, e1⟩, g1, hm⟩ := bind_ok hm
    refine ⟨p, s1, ⟨vs0, s2⟩, stepA r0 g1 fun args H1 r1 f1 ra => ?_⟩
    obtain ⟨p', sh, vs, ds, t1, t2, t3, t4⟩ := r1.owl i hi1
    obtain rfl : p' = p := by rw [s1] at t1; cases t1; rfl
    dsimp only at hm
    rw [t4] at hm
    cases sh with
    | dct ks => cases hm
    | obj _ _ _ _ => cases hm
    | lst =>
    dsimp only [Shp.d] at hm
    obtain ⟨⟨d', zs⟩, g2, hm⟩ := bind_ok hm
    cases hm
    have hZ : XX o1 σ ex p' := .inl ⟨i, hi1, t1⟩
    refine rule (XX o1 σ ex) H1 p' vs ds args xs _ zs Q t2 hZ (by rw [← hA]; exact t3.r) (by rw [← hA]; exact ra) (of_ok g2) fun v ws rw' rv => ?_
    have hfr : Frame (EX [i] σ) H1 (upd H1 p' (.lst ws)) := Frame.set ⟨i, List.mem_singleton.mpr rfl, t1⟩
    have hfz : Frame (XX o1 σ ex) H1 (upd H1 p' (.lst ws)) := Frame.set hZ
    have tr : TrZ (XX o1 σ ex) (upd H1 p' (.lst ws)) := fun b z => by
      obtain ⟨o', e⟩ := r1.trX b z
      exact hfr.there _ _ e
    have hlen : i < e1.length := by
      rw [List.getElem?_eq_some_iff] at t4
      exact t4.1
    have rn := r1.touch (env' := e1.set i (some (.lst zs))) hfr (fun j hj => by rw [List.mem_singleton.mp hj]; exact hi1) (fun _ z => z) (fun _ z => .inl z) tr (fun j hj => by
      rw [List.mem_singleton.mp hj]
      exact ⟨p', .lst, ws, zs, t1, upd_same, by rw [hA]; exact (rw'.frame hfz).z, by rw [get_set, if_pos rfl, if_pos hlen]; rfl⟩) (fun j hj => by rw [get_set, if_neg fun z => hj (by rw [z]; exact List.mem_singleton.mpr rfl)]) (by rw [List.length_set])
    have rn' := rn.less (ex' := ex) fun b z => ⟨.inr z, fun w => r1.dis b w z⟩
    refine q _ _ ?_ (.mk0 rn' (by rw [hA]; exact rv.frame hfz))
    exact f1.cat hfr
  cases es with
  | nil =>
    refine pimp (pe_bG0 tyOk_list PySem.F.plainAttrs_list slot hmd hm pv (base_of rfl) hline) fun σ H Q q => ?_
    obtain ⟨p, s1, ⟨vs, s2⟩, q⟩ := core σ H Q q
    refine ⟨_, s1, ⟨p, vs, rfl, SqL.of s2⟩, ?_⟩
    obtain ⟨ex, env, ds, env', r0, hm, q⟩ := q
    simp only [cArgs] at h
    cases h
    simp only [evA] at hm
    cases hm
    exact q [] H (Frame.refl H) ⟨ex, fun _ z => z, fun _ z => .inl z, r0, .nil⟩
  | cons e rest =>
    have hs := starEach_cons (env := X.env) (es := rest) (a3 e List.mem_cons_self)
    have hfew := few_of (cp := cp) (env := X.env) (es := rest) a3 (by
      rcases hn with hn | hn
      · simp at hn
      · exact hn)
    refine pimp (pe_bG tyOk_list PySem.F.plainAttrs_list slot hmd hm pv (sa X ok A hA hM) (base_of rfl) hfew hline hs (plain_any fun z hz => a3 z (List.mem_cons_of_mem e hz))) fun σ H Q q => ?_
    obtain ⟨p, s1, ⟨vs, s2⟩, q⟩ := core σ H Q q
    exact ⟨_, s1, ⟨p, vs, rfl, SqL.of s2⟩, q⟩
end
end Pv

set_option maxHeartbeats 1000000
/-! Calls of defs. -/
namespace Pv
open PySem PySem.Spec PyProof.Rows L2

section
variable {cf : Cf} {k : Nat} {c : Ctx} {o : Own} {e : Expr} {r : Cr} {X : Cx}
theorem Pk.free {K : PySem.W.Frag} {Z : Addr → Prop} {H : Hp} {v : V} {d : D} (h : Pk K Z H v d) : Rep K (fun _ => False) H v d := by
  rcases h with h | ⟨p, sh, vs, ds, rfl, rfl, h3, h4⟩
  · exact h.less fun _ z => z.elim
  · exact .shp sh h3 (fun z => z) (h4.less fun _ z => z.elim)
theorem paired_get {α β : Type} {P : α → β → Prop} : ∀ {xs : List α} {ys : List β} {j : Nat} {y : β}, Paired P xs ys → ys[j]? = some y → ∃ x, xs[j]? = some x ∧ P x y
  | _, _, _, _, .nil, e => by simp at e
  | _, _, 0, y, .cons a _, e => by simp at e; subst e; exact ⟨_, by simp, a⟩
  | _, _, j + 1, y, .cons _ t, e => by
    obtain ⟨x, h1, h2⟩ := paired_get (j := j) t (by simpa using e)
    exact ⟨x, by simpa using h1, h2⟩
theorem scal_same {K : PySem.W.Frag} {Z Z' : Addr → Prop} {H H' : Hp} {v : V} {d : D} (h : Rep K Z H v d) (s : scalD d = true) : Rep K Z' H' v d := by
  cases h with
  | non => exact .non
  | bl b => exact .bl b
  | int i => exact .int i
  | str x o => exact .str x o
  | tup _ _ => cases s
  | lst _ _ _ => cases s
  | scr _ => cases s
  | dct _ _ _ => cases s
  | obj _ _ _ _ => cases s
theorem orElse_some {α : Type} {a : Option α} {b : Unit → Option α} {x : α} (h : (a.orElse b) = some x) : a = some x ∨ b () = some x := by
  cases a with
  | none => exact .inr h
  | some y => exact .inl h
/-- the call of a def, arguments first -/
theorem call_rule {X : Cx} (ok : XOk X c cf k) {x : Str} {F : FSig} (hF : c.fns.lookup x = some F) (hg : glB c.sc x = true) (hd : (!oddName x) = true) {e : Expr} {es : List Expr} {p pos : Pos} {t : TA} (ha : PA X (e :: es) t) (hst : ∀ z ∈ e :: es, isStar z = false) :
    PE X (.Call (.Name x p) (e :: es) [] pos) (tCall (spF X.K X.mg c.exs cf F) [] E0 t) ∧ True := by
  obtain ⟨f, fd, ps, h1, h2, h3, h4, h5⟩ := ok.fns x F hF
  obtain ⟨n1, n2, n3⟩ := odd_no hd
  exact ⟨pe_call h3 (ok.room.mono (by omega)) (gl_of ok hg) h1 h2 h4 .nil passL ha n1 (starEach_cons (hst e List.mem_cons_self)) (plain_any fun z hz => hst z (List.mem_cons_of_mem e hz)), trivial⟩
theorem argsP_len {rec : Rec} : ∀ (es : List Expr) (o : Own) (y : Ex) (o1 : Own), cArgsP rec c o es = some (y, o1) → ∀ env xs e1, evA cf y env = .ok (xs, e1) → xs.length = es.length
  | [], o, y, o1, h, env, xs, e1, he => by
    simp only [cArgsP] at h
    cases h
    simp only [evA] at he
    cases he
    rfl
  | a :: rest, o, y, o1, h, env, xs, e1, he => by
    simp only [cArgsP, Option.bind_eq_bind, Option.bind_eq_some_iff, guard_eq] at h
    obtain ⟨⟨x, kx, oa⟩, hx, ⟨z, ob⟩, hz, _, hk, h⟩ := h
    obtain ⟨ns, h⟩ := star_of h
    cases h
    simp only [evA] at he
    obtain ⟨⟨_, _⟩, _, he⟩ := bind_ok he
    obtain ⟨⟨_, _⟩, h2, he⟩ := bind_ok he
    cases he
    rw [List.length_cons, argsP_len rest _ _ _ hz _ _ _ h2, List.length_cons]
/-- a def's call at arguments that are looked at alone: its start -/
theorem callB_in {A : Amb} (hA : A.K = X.K) {F : FSig} (hmu : F.muts = []) {Z : Addr → Prop} {H1 : Hp} {vs : List V} {xs : List D} (pk : Paired (Pk A.K Z H1) vs xs) : CallIn X.K (fun _ => False) H1 F.muts vs xs := by
  refine ⟨Paired.length pk, fun a z => z.elim, fun j dj _ hj => ?_, fun j hj => ?_, fun i j p hi => ?_⟩
  · obtain ⟨v, e1, e2⟩ := paired_get pk hj
    exact ⟨v, e1, by rw [← hA]; exact e2.free⟩
  · rw [hmu] at hj; cases hj
  · rw [hmu] at hi; cases hi
theorem callB_tail {A : Amb} (hA : A.K = X.K) {F : FSig} (hmu : F.muts = []) {ex : Addr → Prop} {o1 : Own} {σ : St} {H H1 : Hp} {e1 : Env} {vs : List V} {xs os : List D} {d : D} {Q : VK} {E : XK} {XS : List (Str × XSig)} (r1 : R A ex o1 σ H1 e1) (pk : Paired (Pk A.K (XX o1 σ ex) H1) vs xs) (hxl : xs.length = F.np)
    (g2 : cf F.id xs = .ok (d, os)) (hsc : scalD d = true) (q : ∀ v H', Same H1 H' → VR A .val ex o1 σ H H' v d e1 → Q v H') : spF X.K X.mg XS cf F vs H1 Q E := by
  refine spF_ok ⟨fun _ => False, xs, _, os, by rw [Paired.length pk]; exact hxl, callB_in hA hmu pk, g2, fun Z1 v H' co => ?_⟩
  have sm : ∀ b u, H1 b = some u → H' b = some u := fun b u e => co.fr.keep b u e fun ⟨j, hj, _⟩ => by rw [hmu] at hj; cases hj
  have hr : Rep X.K Z1 H' v d := by
    have := co.res
    split at this
    · obtain ⟨_, sh, _, _, _, e, _⟩ := this
      rw [e] at hsc; cases sh <;> cases hsc
    · exact this
  exact q _ _ sm (.mk0 (r1.keep sm) (by rw [hA]; exact scal_same hr hsc))
theorem scals_same {K : PySem.W.Frag} {Z Z' : Addr → Prop} {H H' : Hp} : ∀ {vs : List V} {ds : List D}, Reps K Z H vs ds → ds.all scalD = true → Reps K Z' H' vs ds
  | _, _, .nil, _ => .nil
  | _, _, .cons r t, s => by
    rw [List.all_cons, Bool.and_eq_true] at s
    exact .cons (scal_same r s.1) (scals_same t s.2)
theorem callL_tail {A : Amb} (hA : A.K = X.K) {F : FSig} (hmu : F.muts = []) (hfr : F.fresh = true) {ex : Addr → Prop} {o1 : Own} {σ : St} {H H1 : Hp} {e1 : Env} {vs : List V} {xs os : List D} {d : D} {Q : VK} {E : XK} {XS : List (Str × XSig)} (r1 : R A ex o1 σ H1 e1) (pk : Paired (Pk A.K (XX o1 σ ex) H1) vs xs) (hxl : xs.length = F.np)
    {tc : Addr → Prop} (f1 : Frame tc H H1) (g2 : cf F.id xs = .ok (d, os)) (hsc : scalL d = true) (q : ∀ v H', Same H1 H' → VR A .fresh ex o1 σ H H' v d e1 → Q v H') : spF X.K X.mg XS cf F vs H1 Q E := by
  refine spF_ok ⟨fun _ => False, xs, _, os, by rw [Paired.length pk]; exact hxl, callB_in hA hmu pk, g2, fun Z1 v H' co => ?_⟩
  have sm : ∀ b u, H1 b = some u → H' b = some u := fun b u e => co.fr.keep b u e fun ⟨j, hj, _⟩ => by rw [hmu] at hj; cases hj
  have res := co.res
  rw [hfr] at res
  obtain ⟨p, sh, ws, es, rfl, rfl, hn, _, hp, hz⟩ := res
  cases sh <;> first | (cases hsc; done) | skip
  have sm' : ∀ b u, (upd H1 p (.lst ws)) b = some u → H' b = some u := fun b u e => by
    by_cases hb : b = p
    · rw [hb, upd_same] at e
      cases e
      rw [hb]
      exact hp
    · rw [upd_ne hb] at e
      exact sm b u e
  exact q _ _ sm ⟨fun a => ex a ∨ a = p, fun a z => .inl z, fun a z => z.elim .inl fun e => .inr (by rw [e]; exact f1.free hn), (r1.shut hn (.lst ws)).keep sm', p, .lst, ws, es, rfl, rfl, f1.free hn, .inr rfl, hp, by rw [hA]; exact (scals_same hz.r hsc).z⟩
theorem snd_callB {rec : Rec} (hrec : RecOk cf k rec) {x : Str} {es : List Expr} {F : FSig} {y : Ex} {o1 : Own} {p pos : Pos} (hg : glB c.sc x = true) (hd : (!oddName x) = true) (hF : c.fns.lookup x = some F) (hs : F.scal = true) (hmu : F.muts = []) (hl : es.length = F.np) (hp : 0 < es.length)
    (h : cArgsP rec c o es = some (y, o1)) : SndE cf k c o (.Call (.Name x p) es [] pos) (.callB F.id y, .val, o1) := fun X ok A hA hM => by
  obtain ⟨h1, h2, h3, sa⟩ := snd_argsP hrec _ _ _ _ h
  obtain ⟨e, rest, rfl⟩ : ∃ e rest, es = e :: rest := by
    cases es with
    | nil => simp at hp
    | cons e rest => exact ⟨e, rest, rfl⟩
  refine pimp (call_rule ok hF hg hd (sa X ok A hA hM) h3).1 fun σ H Q q => ?_
  obtain ⟨ex, env, d, env', r0, hm, q⟩ := q
  simp only [evE] at hm
  obtain ⟨⟨xs, e1⟩, g1, hm⟩ := bind_ok hm
  obtain ⟨⟨d', os⟩, g2, hm⟩ := bind_ok hm
  dsimp only at hm
  split at hm
  · rename_i hsc
    cases hm
    refine stepP r0 g1 fun vs H1 r1 f1 pk => ?_
    show spF X.K X.mg c.exs cf F (vs ++ []) H1 Q E0
    rw [List.append_nil]
    exact callB_tail hA hmu r1 pk (by rw [argsP_len _ _ _ _ h _ _ _ g1, hl]) g2 hsc fun v H' sm vr => q v H' (f1.trans (.same sm)) vr
  · cases hm

/-! ### arguments of which some lists are handed over -/
/-- at a place of ms: the slot's list -/
def MArgs (A : Amb) (ms : List Nat) (is : List (Nat × Nat)) (o : Own) (ex : Addr → Prop) (σ : St) (H : Hp) (j : Nat) (vs : List V) (ds : List D) : Prop :=
  vs.length = ds.length ∧ (∀ n d, (j + n) ∉ ms → ds[n]? = some d → ∃ v, vs[n]? = some v ∧ Rep A.K (XX o σ ex) H v d) ∧ ∀ n i, (j + n, i) ∈ is → σ[i]? = some (vs[n]?) ∧ (vs[n]?).isSome
theorem cMuts_mem {ms : List Nat} : ∀ (es : List Expr) (j : Nat) (is : List (Nat × Nat)), cMuts c o ms j es = some is → (∀ m i, (m, i) ∈ is → j ≤ m ∧ m < j + es.length ∧ m ∈ ms ∧ i ∈ o) ∧ (is.map (·.2)).Nodup ∧ (is.map (·.1)).Nodup
  | [], j, is, h => by simp only [cMuts] at h; cases h; simp
  | a :: rest, j, is, h => by
    simp only [cMuts, Option.bind_eq_bind, Option.bind_eq_some_iff] at h
    obtain ⟨is', h1, h⟩ := h
    obtain ⟨h2, h3, h3'⟩ := cMuts_mem rest _ _ h1
    split at h
    · rename_i hc
      split at h
      · obtain ⟨i, hi, h⟩ := Option.bind_eq_some_iff.mp h
        split at h
        · rename_i hg
          cases h
          simp only [Bool.and_eq_true, Bool.not_eq_true'] at hg
          refine ⟨fun m i' hm => ?_, ?_, ?_⟩
          · rcases List.mem_cons.mp hm with e | hm
            · cases e
              exact ⟨Nat.le_refl _, by simp, by simpa using hc, by simpa using hg.1⟩
            · obtain ⟨a1, a2, a3, a4⟩ := h2 m i' hm
              exact ⟨by omega, by rw [List.length_cons]; omega, a3, a4⟩
          · rw [List.map_cons, List.nodup_cons]
            exact ⟨by simpa using hg.2, h3⟩
          · rw [List.map_cons, List.nodup_cons]
            refine ⟨fun z => ?_, h3'⟩
            obtain ⟨⟨m, i'⟩, hm, e⟩ := List.mem_map.mp z
            have := (h2 m i' hm).1
            have e : m = j := e
            omega
        · cases h
      · cases h
    · cases h
      refine ⟨fun m i' hm => ?_, h3, h3'⟩
      obtain ⟨a1, a2, a3, a4⟩ := h2 m i' hm
      exact ⟨by omega, by rw [List.length_cons]; omega, a3, a4⟩
def tMM (A : Amb) (ms : List Nat) (is : List (Nat × Nat)) (o o' : Own) (j : Nat) (tc : List Nat) (m : Env → Out (List D × Env)) : TA := fun σ H Q =>
  ∃ ex env ds env', R A ex o σ H env ∧ m env = .ok (ds, env') ∧ ∀ vs H', Frame (EX tc σ) H H' → R A ex o' σ H' env' → MArgs A ms is o' ex σ H' j vs ds → Q vs H'
theorem snd_argsM {rec : Rec} (hrec : RecOk cf k rec) (hn : ∀ c o x p r, rec c o (.Name x p) = some r → ∀ i, varOf c x = some i → r.1 = .var i) {ms : List Nat} {oe : Own} : ∀ (es : List Expr) (o : Own) (j : Nat) (y : Ex) (o1 : Own) (is : List (Nat × Nat)), cArgsM rec c ms o j es = some (y, o1) → (∀ i, i ∈ oe → i ∈ o1) → cMuts c oe ms j es = some is →
    (∀ i, i ∈ o1 → i ∈ o) ∧ (∀ i, i ∈ tch y → i ∈ o) ∧ (∀ e ∈ es, isStar e = false) ∧ ∀ X : Cx, XOk X c cf k → ∀ A : Amb, A.K = X.K → AOk A c → PA X es (tMM A ms is o o1 j (tch y) (evA cf y))
  | [], o, j, y, o1, is, h, ho, hi => by
    simp only [cArgsM] at h
    simp only [cMuts] at hi
    cases h
    cases hi
    refine ⟨fun i hi => hi, fun i hi => by simp [tch] at hi, fun e he => by simp at he, fun X ok A hA hM => aimp pa_nil fun σ H Q q => ?_⟩
    obtain ⟨ex, env, ds, env', r0, hm, q⟩ := q
    simp only [evA] at hm
    cases hm
    exact q _ _ (Frame.refl H) r0 ⟨rfl, fun n d _ e => by simp at e, fun n i e => by simp at e⟩
  | a :: rest, o, j, y, o1, is, h, ho, hi => by
    simp only [cArgsM, Option.bind_eq_bind, Option.bind_eq_some_iff] at h
    obtain ⟨⟨x, kx, oa⟩, hx, ⟨z, ob⟩, hz, h⟩ := h
    unfold recM at hx
    obtain ⟨ns, h⟩ := star_of h
    have hi0 := hi
    simp only [cMuts, Option.bind_eq_bind, Option.bind_eq_some_iff] at hi
    obtain ⟨is', hi1, hi⟩ := hi
    cases h
    obtain ⟨z1, z2, z3, sz⟩ := snd_argsM hrec hn rest _ _ _ _ _ hz ho hi1
    have hmem := (cMuts_mem _ _ _ hi1).1
    by_cases hc : ms.contains j = true
    · rw [if_pos hc] at hx hi
      obtain ⟨sx, okx⟩ := hrec _ _ _ _ hx
      obtain ⟨x1, x2, _⟩ := okS_sub okx
      split at hi
      · rename_i nm np
        obtain ⟨i, hv, hi⟩ := Option.bind_eq_some_iff.mp hi
        split at hi
        · rename_i hg
          cases hi
          simp only [Bool.and_eq_true, Bool.not_eq_true'] at hg
          have hie : i ∈ oe := by simpa using hg.1
          have hx1 : x = .var i := hn _ _ _ _ _ hx i hv
          refine ⟨fun i hi => x1 i (z1 i hi), fun i hi => ?_, fun e he => ?_, fun X ok A hA hM => aimp (pa_cons' (varOf_spec ok (pos := np) hv) (sz X ok A hA hM) ns) fun σ H Q q => ?_⟩
          · rcases List.mem_append.mp (show i ∈ tch x ++ tch z from hi) with w | w
            · exact x1 i (x2 i w)
            · exact x1 i (z2 i w)
          · rcases List.mem_cons.mp he with rfl | he
            · exact ns
            · exact z3 e he
          · obtain ⟨ex, env, ds, env', r0, hm, q⟩ := q
            subst hx1
            simp only [evA] at hm
            obtain ⟨⟨xv, e1⟩, h1, hm⟩ := bind_ok hm
            obtain ⟨⟨xs, e2⟩, h2, hm⟩ := bind_ok hm
            cases hm
            have e1e : e1 = env := by
              simp only [evE] at h1
              split at h1 <;> first | contradiction | (cases h1; rfl)
            subst e1e
            have hi2 : i ∈ ob := ho i hie
            have hi3 : i ∈ o := x1 i (z1 i hi2)
            obtain ⟨p, sh0, vs0, ds0, s1, s2, s3, s4⟩ := r0.owl i hi3
            refine ⟨_, s1, ex, e1, xs, _, r0.free x1, h2, fun vs H2 f2 r2 m2 => ?_⟩
            obtain ⟨m1, m2, m3⟩ := m2
            refine q _ _ (show Frame (EX (tch (.var i) ++ tch z) σ) H H2 from f2.mono EX.inr) r2 ⟨by rw [List.length_cons, List.length_cons, m1], fun n d hn' e => ?_, fun n i' hm => ?_⟩
            · cases n with
              | zero => exact absurd (by simpa using hc) hn'
              | succ n => 
                obtain ⟨v, w1, w2⟩ := m2 n d (by rw [show j + 1 + n = j + (n + 1) by omega]; exact hn') (by simpa using e)
                exact ⟨v, by simpa using w1, w2⟩
            · cases n with
              | zero =>
                rcases List.mem_cons.mp hm with e | hm
                · cases e
                  exact ⟨by simpa using s1, by simp⟩
                · have := (hmem _ _ hm).1
                  omega
              | succ n =>
                rcases List.mem_cons.mp hm with e | hm
                · have := congrArg Prod.fst e
                  simp at this
                · have := m3 n i' (by rw [show j + 1 + n = j + (n + 1) by omega]; exact hm)
                  simpa using this
        · cases hi
      · cases hi
    · rw [if_neg hc] at hx hi
      cases hi
      obtain ⟨sx, x1, x2, nx⟩ := rec_np hrec hx
      refine ⟨fun i hi => x1 i (z1 i hi), fun i hi => ?_, fun e he => ?_, fun X ok A hA hM => aimp (pa_cons' (sx X ok A hA hM) (sz X ok A hA hM) ns) fun σ H Q q => ?_⟩
      · rcases List.mem_append.mp (show i ∈ tch x ++ tch z from hi) with w | w
        · exact x2 i w
        · exact x1 i (z2 i w)
      · rcases List.mem_cons.mp he with rfl | he
        · exact ns
        · exact z3 e he
      · obtain ⟨ex, env, ds, env', r0, hm, q⟩ := q
        simp only [evA] at hm
        obtain ⟨⟨xv, e1⟩, h1, hm⟩ := bind_ok hm
        obtain ⟨⟨xs, e2⟩, h2, hm⟩ := bind_ok hm
        cases hm
        refine stepV nx r0 h1 fun v H1 r1 f1 v1 => ?_
        refine ⟨ex, e1, xs, _, r1, h2, fun vs H2 f2 r2 m2 => ?_⟩
        obtain ⟨m1, m2, m3⟩ := m2
        refine q _ _ (f1.cat f2) r2 ⟨by rw [List.length_cons, List.length_cons, m1], fun n d hn' e => ?_, fun n i' hm => ?_⟩
        · cases n with
          | zero =>
            obtain rfl : xv = d := by simpa using e
            exact ⟨v, by simp, keepV v1 f2 z2 z1⟩
          | succ n =>
            obtain ⟨v, w1, w2⟩ := m2 n d (by rw [show j + 1 + n = j + (n + 1) by omega]; exact hn') (by simpa using e)
            exact ⟨v, by simpa using w1, w2⟩
        · cases n with
          | zero =>
            have := (hmem _ _ hm).1
            omega
          | succ n =>
            have := m3 n i' (by rw [show j + 1 + n = j + (n + 1) by omega]; exact hm)
            simpa using this
theorem patch_len (env : Env) : ∀ (is : List (Nat × Nat)) (xs : List D), (patch env is xs).length = xs.length
  | [], xs => rfl
  | (j, i) :: r, xs => by simp only [patch]; rw [patch_len env r, List.length_set]
theorem patch_off (env : Env) : ∀ (is : List (Nat × Nat)) (xs : List D) (m : Nat), m ∉ is.map (·.1) → (patch env is xs)[m]? = xs[m]?
  | [], xs, m, _ => rfl
  | (j, i) :: r, xs, m, h => by
    simp only [patch]
    rw [patch_off env r _ m fun z => h (List.mem_cons_of_mem _ z), get_set, if_neg fun e => h (by rw [← e]; exact List.mem_cons_self)]
theorem patch_on (env : Env) : ∀ (is : List (Nat × Nat)) (xs : List D) (m i : Nat), (is.map (·.1)).Nodup → (m, i) ∈ is → m < xs.length → (patch env is xs)[m]? = some (((env[i]?).getD none).getD .non)
  | [], xs, m, i, _, h, _ => by cases h
  | (j, i') :: r, xs, m, i, hn, h, hl => by
    simp only [patch]
    rw [List.map_cons, List.nodup_cons] at hn
    rcases List.mem_cons.mp h with e | h
    · cases e
      rw [patch_off env r _ _ hn.1, get_set, if_pos rfl, if_pos hl]
    · exact patch_on env r _ m i hn.2 h (by rw [List.length_set]; exact hl)
theorem setAll_len : ∀ (is : List Nat) (ds : List D) (env : Env), (setAll env is ds).length = env.length
  | [], ds, env => by cases ds <;> rfl
  | i :: is, [], env => rfl
  | i :: is, d :: ds, env => by simp only [setAll]; rw [setAll_len is ds, List.length_set]
theorem setAll_off : ∀ (is : List Nat) (ds : List D) (env : Env) (j : Nat), j ∉ is → (setAll env is ds)[j]? = env[j]?
  | [], ds, env, j, _ => by cases ds <;> rfl
  | i :: is, [], env, j, _ => rfl
  | i :: is, d :: ds, env, j, h => by
    simp only [setAll]
    rw [setAll_off is ds _ j fun z => h (List.mem_cons_of_mem _ z), get_set, if_neg fun e => h (by rw [← e]; exact List.mem_cons_self)]
theorem setAll_on : ∀ (is : List Nat) (ds : List D) (env : Env) (n j : Nat) (d : D), is.Nodup → is[n]? = some j → ds[n]? = some d → j < env.length → (setAll env is ds)[j]? = some (some d)
  | [], ds, env, n, j, d, _, h, _, _ => by simp at h
  | i :: is, [], env, n, j, d, _, _, h, _ => by simp at h
  | i :: is, x :: ds, env, n, j, d, hn, h1, h2, hl => by
    simp only [setAll]
    rw [List.nodup_cons] at hn
    cases n with
    | zero =>
      obtain rfl : i = j := by simpa using h1
      obtain rfl : x = d := by simpa using h2
      rw [setAll_off is ds _ i hn.1, get_set, if_pos rfl, if_pos hl]
    | succ n => exact setAll_on is ds _ n j d hn.2 (by simpa using h1) (by simpa using h2) (by rw [List.length_set]; exact hl)
theorem nodup_snd {is : List (Nat × Nat)} (h : (is.map (·.2)).Nodup) {a b i : Nat} (h1 : (a, i) ∈ is) (h2 : (b, i) ∈ is) : a = b := by
  induction is with
  | nil => cases h1
  | cons q r ih =>
    rw [List.map_cons, List.nodup_cons] at h
    rcases List.mem_cons.mp h1 with e1 | h1 <;> rcases List.mem_cons.mp h2 with e2 | h2
    · rw [← e2] at e1; cases e1; rfl
    · exact absurd (List.mem_map.mpr ⟨_, h2, by rw [← e1]⟩) h.1
    · exact absurd (List.mem_map.mpr ⟨_, h1, by rw [← e2]⟩) h.1
    · exact ih h.2 h1 h2
theorem argsM_len {rec : Rec} {ms : List Nat} : ∀ (es : List Expr) (o : Own) (j : Nat) (y : Ex) (o1 : Own), cArgsM rec c ms o j es = some (y, o1) → ∀ env xs e1, evA cf y env = .ok (xs, e1) → xs.length = es.length
  | [], o, j, y, o1, h, env, xs, e1, he => by
    simp only [cArgsM] at h
    cases h
    simp only [evA] at he
    cases he
    rfl
  | a :: rest, o, j, y, o1, h, env, xs, e1, he => by
    simp only [cArgsM, Option.bind_eq_bind, Option.bind_eq_some_iff] at h
    obtain ⟨⟨x, kx, oa⟩, hx, ⟨z, ob⟩, hz, h⟩ := h
    obtain ⟨ns, h⟩ := star_of h
    cases h
    simp only [evA] at he
    obtain ⟨⟨_, _⟩, _, he⟩ := bind_ok he
    obtain ⟨⟨_, _⟩, h2, he⟩ := bind_ok he
    cases he
    rw [List.length_cons, argsM_len rest _ _ _ _ hz _ _ _ h2, List.length_cons]
/-- a def's promise, its arguments as they stand -/
theorem call_tail {A : Amb} (hA : A.K = X.K) {F : FSig} {es : List Expr} {is : List (Nat × Nat)} {o1 : Own} {ex : Addr → Prop} {σ : St} {H H1 : Hp} {e1 : Env} {vs : List V} {xs os : List D} {dd : D} {Q : VK} {E : XK} {XS : List (Str × XSig)} {tc : List Nat}
    (c1 : ∀ m i, (m, i) ∈ is → 0 ≤ m ∧ m < 0 + es.length ∧ m ∈ F.muts ∧ i ∈ o1) (c2 : (is.map (·.2)).Nodup) (c3 : (is.map (·.1)).Nodup) (him : is.map (·.1) = F.muts) (hxl : xs.length = es.length) (hl : es.length = F.np) (f1 : Frame (EX tc σ) H H1) (r1 : R A ex o1 σ H1 e1) (m : MArgs A F.muts is o1 ex σ H1 0 vs xs)
    (g2 : cf F.id (patch e1 is xs) = .ok (dd, os)) (q : ∀ v H', Frame (EX (tc ++ is.map (·.2)) σ) H H' → VR A (if F.fresh then .fresh else .val) ex o1 σ H H' v dd (setAll e1 (is.map (·.2)) os) → Q v H') : spF X.K X.mg XS cf F vs H1 Q E := by
  obtain ⟨m1, m2, m3⟩ := m
  refine spF_ok ?_
  -- at a place that is handed over
  have at_mu : ∀ j, j ∈ F.muts → ∃ i p sh ws es', (j, i) ∈ is ∧ i ∈ o1 ∧ σ[i]? = some (some (V.ref p)) ∧ vs[j]? = some (V.ref p) ∧ H1 p = some (Shp.ho sh ws) ∧ Repz A.K (XX o1 σ ex) H1 sh ws es' ∧ e1[i]? = some (some (Shp.d sh es')) := fun j hj => by
    rw [← him] at hj
    obtain ⟨⟨j', i⟩, hji, rfl⟩ := List.mem_map.mp hj
    obtain ⟨_, _, _, hio⟩ := c1 _ _ hji
    obtain ⟨p, sh, ws, es, s1, s2, s3, s4⟩ := r1.owl i hio
    obtain ⟨t1, t2⟩ := m3 j' i (by rw [Nat.zero_add]; exact hji)
    rw [s1] at t1
    exact ⟨i, p, sh, ws, es, hji, hio, s1, (Option.some.inj t1).symm, s2, s3, s4⟩
  refine ⟨XX o1 σ ex, patch e1 is xs, dd, os, by rw [m1, hxl, hl], ⟨by rw [patch_len, m1], r1.trX, fun j dj hj e => ?_, fun j hj => ?_, fun i j p hi' hj' e1' e2' => ?_⟩, g2, fun Z1 v H' co => ?_⟩
  · rw [patch_off _ _ _ _ (by rw [him]; exact hj)] at e
    obtain ⟨v, w1, w2⟩ := m2 j dj (by rw [Nat.zero_add]; exact hj) e
    exact ⟨v, w1, by rw [← hA]; exact w2⟩
  · obtain ⟨i, p, sh, ws, es', hji, hio, s1, s2, s3, s4, s5⟩ := at_mu j hj
    refine ⟨p, sh, ws, es', s2, .inl ⟨i, hio, s1⟩, s3, by rw [← hA]; exact s4, ?_⟩
    have hjl : j < xs.length := by
      have := (c1 _ _ hji).2.1
      omega
    rw [patch_on _ _ _ _ _ c3 hji hjl, s5]
    rfl
  · obtain ⟨a, pa, _, _, _, ha, hao, sa1, sa2, _⟩ := at_mu i hi'
    obtain ⟨b, pb, _, _, _, hb, hbo, sb1, sb2, _⟩ := at_mu j hj'
    rw [sa2] at e1'
    rw [sb2] at e2'
    cases e1'
    cases e2'
    obtain rfl := r1.inj a b _ hao hbo sa1 sb1
    exact nodup_snd c2 ha hb
  · have zz : ∀ b, XX o1 σ (fun a => Z1 a ∧ ¬ EX o1 σ a) b → Z1 b := fun b z => z.elim (fun q => co.up b (.inl q)) fun q => q.1
    have hfr : Frame (EX (is.map (·.2)) σ) H1 H' := co.fr.mono fun b ⟨j, hj, e⟩ => by
      obtain ⟨i, p', _, _, _, hji, hio, s1, s2, _⟩ := at_mu j hj
      rw [s2] at e
      cases e
      exact ⟨i, List.mem_map.mpr ⟨_, hji, rfl⟩, s1⟩
    have rn := r1.touch (env' := setAll e1 (is.map (·.2)) os) hfr (fun i hi' => by
      obtain ⟨⟨j, i'⟩, hji, rfl⟩ := List.mem_map.mp hi'
      exact (c1 _ _ hji).2.2.2) co.up co.dn co.tr (fun i hi' => by
      obtain ⟨n, hn⟩ := List.getElem?_of_mem hi'
      rw [List.getElem?_map] at hn
      obtain ⟨⟨j, i'⟩, hn1, hn2⟩ := Option.map_eq_some_iff.mp hn
      obtain rfl : i' = i := hn2
      have hji := List.mem_of_getElem? hn1
      have hmn : F.muts[n]? = some j := by rw [← him, List.getElem?_map, hn1]; rfl
      obtain ⟨p, sh, ws, es', t1, t2, t3, t4⟩ := co.outs n j hmn
      obtain ⟨u1, u2⟩ := m3 j i' (by rw [Nat.zero_add]; exact hji)
      obtain ⟨_, _, _, _, _, _, _, v4⟩ := r1.owl i' (c1 _ _ hji).2.2.2
      have hlt : i' < e1.length := by
        rw [List.getElem?_eq_some_iff] at v4
        exact v4.1
      exact ⟨p, sh, ws, es', by rw [u1, t1], t2, by rw [hA]; exact t3, setAll_on _ _ _ n i' _ c2 (by rw [List.getElem?_map, hn1]; rfl) t4 hlt⟩) (fun i hi' => setAll_off _ _ _ _ hi') (setAll_len _ _ _)
    refine q v H' (f1.cat hfr) ⟨fun a => Z1 a ∧ ¬ EX o1 σ a, fun a z => ⟨co.up a (.inr z), fun w => r1.dis a w z⟩, fun a z => ?_, rn, ?_⟩
    · rcases co.dn a z.1 with (w | w) | w
      · exact absurd w z.2
      · exact .inl w
      · exact .inr (f1.free w)
    · have res := co.res
      cases hfs : F.fresh with
      | true =>
        rw [hfs] at res
        obtain ⟨p, sh, ws, es', w1, w2, w3, w4, w5, w6⟩ := res
        exact ⟨p, sh, ws, es', w1, w2, f1.free w3, ⟨w4, fun z => by
          obtain ⟨o', e'⟩ := r1.trE p z
          rw [w3] at e'; cases e'⟩, w5, by rw [hA]; exact w6.less zz⟩
      | false =>
        rw [hfs] at res
        show Rep A.K _ H' v dd
        rw [hA]
        exact Rep.less res zz
def RecN (rec : Rec) : Prop := ∀ c o x p r, rec c o (.Name x p) = some r → ∀ i, varOf c x = some i → r.1 = .var i
theorem snd_call {rec : Rec} (hrec : RecOk cf k rec) (hN : RecN rec) {x : Str} {es : List Expr} {F : FSig} {y : Ex} {o1 : Own} {is : List (Nat × Nat)} {p pos : Pos} (hg : glB c.sc x = true) (hd : (!oddName x) = true) (hF : c.fns.lookup x = some F) (hl : es.length = F.np) (hp : 0 < es.length)
    (h : cArgsM rec c F.muts o 0 es = some (y, o1)) (hi : cMuts c o1 F.muts 0 es = some is) (him : is.map (·.1) = F.muts) : SndE cf k c o (.Call (.Name x p) es [] pos) (.call F.id is y, if F.fresh then .fresh else .val, o1) := fun X ok A hA hM => by
  obtain ⟨h1, h2, h3, sa⟩ := snd_argsM hrec hN (oe := o1) es o 0 y o1 is h (fun _ z => z) hi
  obtain ⟨c1, c2, c3⟩ := cMuts_mem _ _ _ hi
  obtain ⟨e, rest, rfl⟩ : ∃ e rest, es = e :: rest := by
    cases es with
    | nil => simp at hp
    | cons e rest => exact ⟨e, rest, rfl⟩
  refine pimp (call_rule ok hF hg hd (sa X ok A hA hM) h3).1 fun σ H Q q => ?_
  obtain ⟨ex, env, d, env', r0, hm, q⟩ := q
  simp only [evE] at hm
  obtain ⟨⟨xs, e1⟩, g1, hm⟩ := bind_ok hm
  obtain ⟨⟨dd, os⟩, g2, hm⟩ := bind_ok hm
  obtain ⟨rfl, rfl⟩ : dd = d ∧ setAll e1 (is.map (·.2)) os = env' := by cases hm; exact ⟨rfl, rfl⟩
  have hxl := argsM_len _ _ _ _ _ h _ _ _ g1
  refine ⟨ex, env, xs, e1, r0, g1, fun vs H1 f1 r1 m => ?_⟩
  show spF X.K X.mg c.exs cf F (vs ++ []) H1 Q E0
  rw [List.append_nil]
  exact call_tail hA c1 c2 c3 him hxl hl f1 r1 m g2 q
end
end Pv

set_option maxHeartbeats 1000000
/-! enumerate over a tuple. -/
namespace Pv
open PySem PySem.Spec PyProof.Rows L2

theorem meets_enum1 {v : Value} {o : Obj} {H : Heap → Prop} (B : Begins v o H) :
    Meets (Builtin.«enumerate.__new__» ⟨[.type "enumerate", v], []⟩) (fun _ R s => H s.heap ∧
      R (.ok (.ret (.ref (s.heap.push o).objs.size))) { s with heap := (s.heap.push o).push { cls := .type "enumerate", data := .fields #[.none, .bool false, .ref s.heap.objs.size, rawInt 0, .none, .none] } }) :=
  .of_wp fun prog w A R s h => by
    obtain ⟨hp, g, d, tk, os⟩ := s
    obtain ⟨h1, h⟩ := h
    have hsub := sub_enumerate
    have q1 : ∀ {A' : Around} {E : Value → Shared → Prop} {Q : Value → Shared → Prop}, Q (.ref hp.objs.size) ⟨hp.push o, g, d, tk, os⟩ → wpAny (model prog w) A' (pyIter v) Q E ⟨hp, g, d, tk, os⟩ :=
      fun q => B.iter prog w _ _ ⟨hp, g, d, tk, os⟩ _ h1 q
    wp_walk using q1
    refine wpAny_stack_any fun st => wpAny_pure ?_
    split
    · rename_i c _ _ _ _ _
      cases (c == Value.type "enumerate")
      · wp_walk using q1
        exact ⟨_, rfl, h⟩
      · wp_walk using q1
        exact ⟨_, rfl, h⟩
    · wp_walk using q1
      exact ⟨_, rfl, h⟩
theorem call_enum1 {prog : Program} {w : World} {A : Around} {E : Value → Shared → Prop} {s : Shared} {v : Value} {o : Obj} {H : Heap → Prop} {Q : Value → Shared → Prop} (B : Begins v o H) (h1 : H s.heap)
    (h : ∀ h', IsEnum h' (s.heap.objs.size + 1) s.heap.objs.size 0 .none → h'.get? s.heap.objs.size = some o → (∀ b o, s.heap.get? b = some o → h'.get? b = some o) → Q (.ref (s.heap.objs.size + 1)) { s with heap := h' }) :
    wpAny (model prog w) A (call (.type "enumerate") [v]) Q E s := by
  refine callType_new F.called_enumerate (by decide) (F.typeCall_enumerate_1 _) (F.newCall_enumerate_1 _) (fun obj => F.args_object_init_2 obj _) F.entry_enumerate_new (meets_enum1 B) ⟨h1, ?_⟩
  have hz : (s.heap.push o).objs.size = s.heap.objs.size + 1 := Heap.size_push ..
  show _ ∧ _
  rw [hz]
  have he : IsEnum ((s.heap.push o).push { cls := .type "enumerate", data := .fields #[.none, .bool false, .ref s.heap.objs.size, rawInt 0, .none, .none] }) (s.heap.objs.size + 1) s.heap.objs.size 0 .none := by
    have := Heap.get?_push_size (s.heap.push o) (o := { cls := .type "enumerate", data := .fields #[.none, .bool false, .ref s.heap.objs.size, rawInt 0, .none, .none] }) rfl
    rw [hz] at this
    exact this
  exact ⟨⟨_, he, rfl⟩, h _ he (Heap.get?_push_of_some _ (Heap.get?_push_size _ B.free)) fun b o x => Heap.get?_push_of_some _ (Heap.get?_push_of_some _ x)⟩
/-- the tuple at a, each item in a new pair -/
def IteT (K : PySem.W.Frag) (a : Addr) : It :=
  ⟨fun i H => ∃ (xs : List V) (x : V), SqT K H a xs ∧ xs[i]? = some x, fun i H v H' => ∃ T x, v = .ref T ∧ H T = none ∧ H' = upd H T (.tup [.int (i : Nat), x]) ∧ ∀ xs, SqT K H a xs → xs[i]? = some x, fun i H => ∃ xs : List V, SqT K H a xs ∧ xs.length = i⟩
theorem turn_enumT {P : Program} {w : World} {K : PySem.W.Frag} {elts : List Expr} {kk : Nat} {tpos : Pos} (a e it : Addr) (hae : a ≠ e) (hai : a ≠ it) :
    Turn P w K (.Tuple elts kk tpos) (IteT K a) [e, it] e (fun i h => (∃ old, IsEnum h e it ((i : Nat) : Int) old) ∧ h.IsTupleIter it a i ∧ e ≠ it) where
  mem := by simp
  obj := fun i h st b hb => by
    obtain ⟨⟨old, he⟩, ⟨o, ho, hc, hd⟩, _⟩ := st
    have e' : b = e ∨ b = it := by simpa using hb
    rcases e' with z | z
    · rw [z]; exact ⟨_, he, fun v q => nomatch q⟩
    · rw [z]; exact ⟨o, ho, fun v q => by rw [hd] at q; cases q⟩
  keep := fun i h h' st k => let ⟨⟨old, he⟩, hi, hne⟩ := st; ⟨⟨old, k e (by simp) _ he⟩, hi.at fun o q => k it (by simp) o q, hne⟩
  item := by
    intro X hP hw hK hc i pins s σ H E I hf st hg
    subst hP hw hK
    obtain ⟨⟨old, he⟩, hit, hne⟩ := st
    obtain ⟨xs, x, hq, hx⟩ := hg
    obtain ⟨its, rv, p, hz⟩ := I.tuple hq
    obtain ⟨u, hu, ru⟩ := rv.get hx
    have hel : e < s.heap.objs.size := Heap.lt_size he
    have hil : it < s.heap.objs.size := by obtain ⟨_, q, _⟩ := hit; exact Heap.lt_size q
    have hlt : i < its.toArray.size := by
      rw [List.getElem?_eq_some_iff] at hu
      simpa using hu.1
    have D := Draws.tuple (prog := X.prog) (w := X.w) (A := X.A.in1) (I.ok.hd hc) it a hai its.toArray
    refine wpAny_pyNext_enum_itemD D he ⟨hit, p⟩ hlt hne (by
      intro q
      have q' : e = it ∨ e = a := by simpa using q
      rcases q' with q' | q'
      · exact hne q'
      · exact hae q'.symm) fun x' h' tk hP' ho hst hT hsz hk => ?_
    have ex : x' = u := by
      have h1 : its.toArray[i]? = some u := by simpa using hu
      rw [h1] at hP'
      exact (Option.some.inj hP').symm
    subst ex
    refine ⟨_, rfl, wpAny_letOwnedTupleGo_enum (s := { s with heap := h', toks := tk + 1 }) ho fun h'' he' sb => ?_⟩
    have hT2 : h''.get? s.heap.objs.size = some { cls := .type "tuple", data := .seq #[.int i tk, x'] } := (sb.2 _ (Nat.ne_of_gt hel)).trans hT
    have new : ObjOk X.prog X.w (upd H s.heap.objs.size (.tup [.int (i : Nat), x])) h'' s.heap.objs.size (.tup [.int (i : Nat), x]) :=
      ⟨by show 2 ≤ sizeLine; decide, [.int i tk, x'], .cons ⟨_, rfl⟩ (.cons ru .nil), ⟨_, hT2, rfl, _, rfl⟩⟩
    have I1 : Inv X pins σ (upd H s.heap.objs.size (.tup [.int (i : Nat), x])) { s with heap := h'', toks := tk + 1 } :=
      I.turnedNew (t' := tk + 1) (ch := [e, it]) (fun b ob hb q => (sb.2 b (fun z => hb (by simp [z]))).trans (hk b ob (fun z => hb (by simp [z])) (fun z => hb (by simp [z])) q)) hf (Nat.le_refl _) new
    refine ⟨.ref s.heap.objs.size, _, I1, rfl, ⟨_, x, rfl, I.hok.fresh (Nat.le_refl _), rfl, fun ys hy => by rw [I.tuple_inj hy hq]; exact hx⟩, ⟨⟨x', ?_⟩, hst.1.at fun o q => (sb.2 it (Ne.symm hne)).trans q, hne⟩, fun b hb => ?_⟩
    · have e1 : ((i + 1 : Nat) : Int) = (i : Int) + 1 := by omega
      rw [e1]; exact he'
    · have hb' : b < s.heap.objs.size := by
        have e' : b = e ∨ b = it := by simpa using hb
        rcases e' with z | z
        · rw [z]; exact hel
        · rw [z]; exact hil
      rw [upd_ne (Nat.ne_of_lt hb')]
      exact (hf b hb).1
  done := by
    intro X hP hw hK hc i pins s σ H E I hf st hg
    subst hP hw hK
    obtain ⟨⟨old, he⟩, hit, hne⟩ := st
    obtain ⟨xs, hq, hx⟩ := hg
    obtain ⟨its, rv, p, hz⟩ := I.tuple hq
    obtain ⟨f0, f1, f2, f3, f4, f5⟩ := hf it (by simp)
    have hl := rv.length
    have hi : i = its.toArray.size := by rw [List.size_toArray, ← hl, hx]
    subst hi
    have D := Draws.tuple (prog := X.prog) (w := X.w) (A := X.A.in1) (I.ok.hd hc) it a hai its.toArray
    exact wpAny_pyNext_enum_endD D he ⟨hit, p⟩ fun h' eb => ⟨rfl, I.turned (t' := s.toks) (fun b o hb q => eb b o hb q) f0 f1 f3 f4 f5⟩
  self := fun A i s Q E st h => let ⟨⟨_, he⟩, _⟩ := st; wpAny_pyIter_enum he h
def iEnumT (K : PySem.W.Frag) (ta : TA) : TI := fun σ H R => ta σ H fun vs H1 => ∃ a xs, vs = [.ref a] ∧ SqT K H1 a xs ∧ R (IteT K a) H1
theorem pi_enumT {X : Cx} {e : Expr} {ta : TA} {p pos tpos : Pos} {elts : List Expr} {kk : Nat} (hg : Gl X "enumerate") (hm : X.mg "enumerate" = none) (ha : PA X [e] ta) (hs : starEach [e] X.env = [(false, eval e X.env)] := by rfl) :
    PI X (.Tuple elts kk tpos) (.Call (.Name "enumerate" p) [e] [] pos) (iEnumT X.K ta) := by
  refine ⟨fun pins s σ H R I h => ?_⟩
  refine Call_ (ld_blt I hg hm boot_enumerate (PyProof.Rows.callWith_type1 (thn (ha.run pos pins s σ H _ I h) fun us s1 ⟨vs, H1, I1, r1, q1⟩ => ?_) hs rfl))
  obtain ⟨a, xs, ex, hq, q⟩ := q1
  subst ex
  cases r1 with
  | cons r rr =>
    cases rr
    cases r
    obtain ⟨its, rv, p', hz⟩ := I1.tuple hq
    have pT : s1.heap.IsTuple a its.toArray := p'
    have hlt : a < s1.heap.objs.size := by obtain ⟨o, ho, _⟩ := id p'; exact Heap.lt_size ho
    refine call_enum1 (begins_tuple a its.toArray) pT fun h' he hit hk => wpAny_pyIter_enum he ?_
    have I2 : Inv X pins σ H1 { s1 with heap := h' } := I1.kept (t' := s1.toks) hk
    refine ⟨s1.heap.objs.size + 1, [s1.heap.objs.size + 1, s1.heap.objs.size], _, _, H1, rfl, I2, turn_enumT a (s1.heap.objs.size + 1) s1.heap.objs.size (Nat.ne_of_lt (Nat.lt_succ_of_lt hlt)) (Nat.ne_of_lt hlt), ⟨⟨.none, he⟩, ⟨_, hit, rfl, rfl⟩, Nat.succ_ne_self _⟩, fun b hb => ?_, q⟩
    have e' : b = s1.heap.objs.size + 1 ∨ b = s1.heap.objs.size := by simpa using hb
    have hle : s1.heap.objs.size ≤ b := by
      rcases e' with z | z
      · rw [z]; exact Nat.le_add_right _ _
      · rw [z]; exact Nat.le_refl _
    exact I1.fpOk hle (I1.hok.fresh hle)
end Pv

set_option maxHeartbeats 1000000
/-! What is walked. -/
namespace Pv
open PySem PySem.Spec PyProof.Rows L2

/-- a value as a turn gives it: a tuple that is taken apart, or any -/
def YD (K : PySem.W.Frag) (Z : Addr → Prop) (tt : Bool) (H : Hp) (x : V) (d : D) : Prop :=
  if tt then ∀ ds, d = .tup ds → ∃ T vs, x = .ref T ∧ SqT K H T vs ∧ Reps K Z H vs ds else Rep K Z H x d
theorem YD.rep {K : PySem.W.Frag} {Z : Addr → Prop} {tt : Bool} {H : Hp} {x : V} {d : D} (h : Rep K Z H x d) : YD K Z tt H x d := by
  cases tt with
  | false => exact h
  | true =>
    intro ds e
    subst e
    cases h with
    | tup t r => exact ⟨_, _, rfl, t.sq, r⟩
/-- J walks what stands for xs at H1, as long as no more changes than Z that pk does not hold -/
def Giv (K : PySem.W.Frag) (Z pk : Addr → Prop) (tt : Bool) (H1 : Hp) (J : It) (xs : List D) : Prop :=
  Walk J xs.length (fun H => Frame (fun b => Z b ∧ ¬ pk b) H1 H) fun i H x H' => Same H H' ∧ ∀ (Z' : Addr → Prop) (d : D), (∀ b, Z b → Z' b) → (∀ b, Z' b → Z b ∨ H1 b = none) → xs[i]? = some d → YD K Z' tt H' x d
section
variable {K : PySem.W.Frag} {Z Z' pk : Addr → Prop} {tt : Bool} {H1 H : Hp} {J : It} {xs ys : List D} {vs ws : List V} {a b : Addr} {i : Nat} {d : D} {v : V}
theorem giv_els (r : Reps K Z H1 vs xs) (f : Frame (fun b => Z b ∧ ¬ pk b) H1 H) (up : ∀ b, Z b → Z' b) (dn : ∀ b, Z' b → Z b ∨ H1 b = none) : Reps K Z' H vs xs :=
  (r.grow dn).frame (f.mono fun b z => up b z.1)
theorem giv_at (r : Reps K Z H1 vs xs) (f : Frame (fun b => Z b ∧ ¬ pk b) H1 H) (up : ∀ b, Z b → Z' b) (dn : ∀ b, Z' b → Z b ∨ H1 b = none) (hv : vs[i]? = some v) (hd : xs[i]? = some d) : Rep K Z' H v d := by
  obtain ⟨w, h1, h2⟩ := (giv_els r f up dn).get hd
  rw [hv] at h1
  cases h1
  exact h2
theorem giv_lst (h : H1 a = some (.lst vs)) (n : ¬ Z a ∨ pk a) (f : Frame (fun b => Z b ∧ ¬ pk b) H1 H) : SqL K H a vs := SqL.of (f.keep _ _ h fun z => n.elim (fun q => q z.1) z.2)
theorem giv_tup (h : TupAt K Z H1 a vs) (f : Frame (fun b => Z b ∧ ¬ pk b) H1 H) : SqT K H a vs := (h.frame (f := (f.mono fun b z => z.1))).sq
theorem giv_list (h : H1 a = some (.lst vs)) (n : ¬ Z a ∨ pk a) (r : Reps K Z H1 vs xs) : Giv K Z pk tt H1 (Itl K a) xs := by
  unfold Giv
  rw [← r.length]
  refine walk_list.mono (fun H f => giv_lst h n f) fun i H x H' hi f y => ?_
  obtain ⟨e, hx⟩ := y
  rw [e]
  exact ⟨Same.refl H, fun Z' d up dn hd => .rep (giv_at r f up dn hx hd)⟩
theorem giv_tuple (h : TupAt K Z H1 a vs) (r : Reps K Z H1 vs xs) : Giv K Z pk tt H1 (Itt K a) xs := by
  unfold Giv
  rw [← r.length]
  refine walk_tup.mono (fun H f => giv_tup h f) fun i H x H' hi f y => ?_
  obtain ⟨e, hx⟩ := y
  rw [e]
  exact ⟨Same.refl H, fun Z' d up dn hd => .rep (giv_at r f up dn hx hd)⟩
theorem rngL_len (lo : Int) (n : Nat) (st : Int) : (rngL lo n st).length = n := by simp [rngL]
theorem rngL_at {lo : Int} {n : Nat} {st : Int} (h : (rngL lo n st)[i]? = some d) : d = .int (lo + (i : Nat) * st) := by
  unfold rngL at h
  rw [List.getElem?_map] at h
  obtain ⟨k, h1, h2⟩ := Option.map_eq_some_iff.mp h
  rw [List.getElem?_range (by
    rw [List.getElem?_eq_some_iff] at h1
    simpa using h1.1)] at h1
  cases h1
  exact h2.symm
theorem giv_range (lo : Int) (n : Nat) : Giv K Z pk tt H1 (Itr lo n) (rngL lo n 1) := by
  unfold Giv
  rw [rngL_len]
  refine walk_range.mono (fun _ _ => trivial) fun i H x H' hi f y => ?_
  obtain ⟨e, hx⟩ := y
  rw [e, hx]
  refine ⟨Same.refl H, fun Z' d up dn hd => ?_⟩
  rw [rngL_at hd, Int.mul_one]
  exact .rep (.int _)
theorem giv_rangeC (lo c : Int) (n : Nat) : Giv K Z pk tt H1 (Itc lo c n) (rngL lo n c) := by
  unfold Giv
  rw [rngL_len]
  refine walk_rangeC.mono (fun _ _ => trivial) fun i H x H' hi f y => ?_
  obtain ⟨e, hx⟩ := y
  rw [e, hx]
  refine ⟨Same.refl H, fun Z' d up dn hd => ?_⟩
  rw [rngL_at hd]
  exact .rep (.int _)
theorem rev_rng (n : Nat) : (rngL 0 n 1).reverse = rngL (0 + ((n : Nat) : Int) - 1) n (-1) := by
  apply List.ext_getElem?
  intro i
  by_cases hi : i < n
  · rw [List.getElem?_reverse (by rw [rngL_len]; exact hi), rngL_len]
    unfold rngL
    rw [List.getElem?_map, List.getElem?_map, List.getElem?_range (by omega), List.getElem?_range hi]
    simp only [Option.map_some]
    congr 2
    omega
  · rw [List.getElem?_eq_none (by rw [List.length_reverse, rngL_len]; omega), List.getElem?_eq_none (by rw [rngL_len]; omega)]
theorem giv_str {z : Str} (o : okT z = true) : Giv K Z pk tt H1 (Its z) (z.cps.toList.map fun c => .str ⟨#[c]⟩) := by
  unfold Giv
  rw [List.length_map, Array.length_toList]
  refine walk_str.mono (fun _ _ => trivial) fun i H x H' hi f y => ?_
  obtain ⟨e, c, hc, hx⟩ := y
  rw [e, hx]
  refine ⟨Same.refl H, fun Z' d up dn hd => ?_⟩
  rw [List.getElem?_map, Array.getElem?_toList, hc] at hd
  cases hd
  refine .rep (.str _ (strOk_one o ?_))
  rw [← Array.getElem?_toList] at hc
  exact List.mem_of_getElem? hc
theorem enumL_len : ∀ (xs : List D) (k : Nat), (enumL k xs).length = xs.length
  | [], _ => rfl
  | x :: xs, k => by simp only [enumL, List.length_cons, enumL_len xs]
theorem enumL_at : ∀ (xs : List D) (k i : Nat) (d : D), (enumL k xs)[i]? = some d → ∃ x, xs[i]? = some x ∧ d = .tup [.int ((k + i : Nat) : Int), x]
  | [], _, _, _, h => by simp [enumL] at h
  | x :: xs, k, 0, d, h => by
    simp only [enumL, List.getElem?_cons_zero] at h
    cases h
    exact ⟨x, by simp, rfl⟩
  | x :: xs, k, i + 1, d, h => by
    simp only [enumL, List.getElem?_cons_succ] at h
    obtain ⟨y, h1, h2⟩ := enumL_at xs (k + 1) i d h
    exact ⟨y, by simpa using h1, by rw [h2, show k + 1 + i = k + (i + 1) by omega]⟩
theorem pair_tup {T : Addr} {x y : V} {d1 d2 : D} {H H' : Hp} (n : H T = none) (e : H' = upd H T (.tup [x, y])) (r1 : Rep K Z' H x d1) (r2 : Rep K Z' H y d2) : YD K Z' true H' (.ref T) (.tup [d1, d2]) := by
  intro ds e'
  cases e'
  rw [e]
  exact ⟨T, [x, y], rfl, SqT.of upd_same, .cons (r1.frame (Frame.new n)) (.cons (r2.frame (Frame.new n)) .nil)⟩
theorem giv_enum (h : H1 a = some (.lst vs)) (n : ¬ Z a ∨ pk a) (r : Reps K Z H1 vs xs) : Giv K Z pk true H1 (Ite K a) (enumL 0 xs) := by
  unfold Giv
  rw [enumL_len, ← r.length]
  refine walk_enum.mono (fun H f => giv_lst h n f) fun i H x H' hi f y => ?_
  obtain ⟨T, p, q, h1, h2, h3, h4, h5⟩ := y
  cases h4
  refine ⟨by rw [h3]; exact same_new h2, fun Z' d up dn hd => ?_⟩
  obtain ⟨w, g1, rfl⟩ := enumL_at _ _ _ _ hd
  rw [h1, Nat.zero_add]
  exact pair_tup h2 h3 (.int _) (giv_at r f up dn h5 g1)
theorem walk_enumT {vs : List V} : Walk (IteT K a) vs.length (fun H => SqT K H a vs) (YPair (fun i => some (.int (i : Nat))) (fun i => vs[i]?)) := by
  refine ⟨fun i _ hi q => ⟨vs, vs[i], q, by simp [hi]⟩, fun _ q => ⟨vs, q, rfl⟩, fun i H v H' _ q y => ?_⟩
  obtain ⟨T, x, h1, h2, h3, h4⟩ := y
  exact ⟨T, .int (i : Nat), x, h1, h2, h3, rfl, h4 vs q⟩
theorem giv_enumT (h : TupAt K Z H1 a vs) (r : Reps K Z H1 vs xs) : Giv K Z pk true H1 (IteT K a) (enumL 0 xs) := by
  unfold Giv
  rw [enumL_len, ← r.length]
  refine walk_enumT.mono (fun H f => giv_tup h f) fun i H x H' hi f y => ?_
  obtain ⟨T, p, q, h1, h2, h3, h4, h5⟩ := y
  cases h4
  refine ⟨by rw [h3]; exact same_new h2, fun Z' d up dn hd => ?_⟩
  obtain ⟨w, g1, rfl⟩ := enumL_at _ _ _ _ hd
  rw [h1, Nat.zero_add]
  exact pair_tup h2 h3 (.int _) (giv_at r f up dn h5 g1)
theorem pairL_len : ∀ (xs ys : List D), (pairL xs ys).length = min xs.length ys.length
  | [], ys => by simp [pairL]
  | x :: xs, [] => by simp [pairL]
  | x :: xs, y :: ys => by simp only [pairL, List.length_cons, pairL_len xs ys]; omega
theorem pairL_at : ∀ (xs ys : List D) (i : Nat) (d : D), (pairL xs ys)[i]? = some d → ∃ x y, xs[i]? = some x ∧ ys[i]? = some y ∧ d = .tup [x, y]
  | [], ys, i, d, h => by simp [pairL] at h
  | x :: xs, [], i, d, h => by simp [pairL] at h
  | x :: xs, y :: ys, 0, d, h => by
    simp only [pairL, List.getElem?_cons_zero] at h
    cases h
    exact ⟨x, y, by simp, by simp, rfl⟩
  | x :: xs, y :: ys, i + 1, d, h => by
    simp only [pairL, List.getElem?_cons_succ] at h
    obtain ⟨p, q, h1, h2, h3⟩ := pairL_at xs ys i d h
    exact ⟨p, q, by simpa using h1, by simpa using h2, h3⟩
theorem giv_zip (h : H1 a = some (.lst vs)) (n : ¬ Z a ∨ pk a) (r : Reps K Z H1 vs xs) (h' : H1 b = some (.lst ws)) (n' : ¬ Z b ∨ pk b) (r' : Reps K Z H1 ws ys) : Giv K Z pk true H1 (Itz K a b) (pairL xs ys) := by
  unfold Giv
  rw [pairL_len, ← r.length, ← r'.length]
  refine (walk_zip rfl).mono (fun H f => ⟨giv_lst h n f, giv_lst h' n' f⟩) fun i H x H' hi f y => ?_
  obtain ⟨T, p, q, h1, h2, h3, h4, h5⟩ := y
  refine ⟨by rw [h3]; exact same_new h2, fun Z' d up dn hd => ?_⟩
  obtain ⟨u, w, g1, g2, rfl⟩ := pairL_at _ _ _ _ hd
  rw [h1]
  exact pair_tup h2 h3 (giv_at r f up dn h4 g1) (giv_at r' f up dn h5 g2)
theorem walk_zipT {vs ws : List V} : Walk (RZ.ItzT K a b) (min vs.length ws.length) (fun H => SqT K H a vs ∧ SqT K H b ws) (YPair (fun i => vs[i]?) (fun i => ws[i]?)) := by
  refine ⟨fun i H hi q => ?_, fun _ q => ⟨vs, ws, q.1, q.2, by omega⟩, fun i H v H' _ q y => ?_⟩
  · have h1 : i < vs.length := by omega
    have h2 : i < ws.length := by omega
    exact ⟨vs, ws, vs[i], ws[i], q.1, q.2, by simp [h1], by simp [h2]⟩
  · obtain ⟨T, x, z, h1, h2, h3, h4, h5⟩ := y
    exact ⟨T, x, z, h1, h2, h3, h4 vs q.1, h5 ws q.2⟩
theorem giv_zipT (h : TupAt K Z H1 a vs) (r : Reps K Z H1 vs xs) (h' : TupAt K Z H1 b ws) (r' : Reps K Z H1 ws ys) : Giv K Z pk true H1 (RZ.ItzT K a b) (pairL xs ys) := by
  unfold Giv
  rw [pairL_len, ← r.length, ← r'.length]
  refine walk_zipT.mono (fun H f => ⟨giv_tup h f, giv_tup h' f⟩) fun i H x H' hi f y => ?_
  obtain ⟨T, p, q, h1, h2, h3, h4, h5⟩ := y
  refine ⟨by rw [h3]; exact same_new h2, fun Z' d up dn hd => ?_⟩
  obtain ⟨u, w, g1, g2, rfl⟩ := pairL_at _ _ _ _ hd
  rw [h1]
  exact pair_tup h2 h3 (giv_at r f up dn h4 g1) (giv_at r' f up dn h5 g2)
end

/-! ### the text that is walked -/
abbrev pkA (k : Kd) (σ : St) : Addr → Prop := fun a => ∃ i, k = .peek i ∧ σ[i]? = some (some (V.ref a))
def SrcW (A : Amb) (o o1 : Own) (kd : Kd) (tc : List Nat) (tt : Bool) (m : Env → Out (List D × Env)) : TI := fun σ H W => ∃ ex env xs env', R A ex o σ H env ∧ m env = .ok (xs, env') ∧
  ∀ J H1, R A ex o1 σ H1 env' → Frame (EX tc σ) H H1 → Giv A.K (XX o1 σ ex) (pkA kd σ) tt H1 J xs → W J H1
theorem piby {X : Cx} {tg e : Expr} {t' : TI} (h : ∀ σ H W, t' σ H W → ∃ t, PI X tg e t ∧ t σ H W) : PI X tg e t' := ⟨fun pins s σ H W I q => let ⟨t, p, r⟩ := h σ H W q; p.run pins s σ H W I r⟩
theorem piimp {X : Cx} {tg e : Expr} {t t' : TI} (p : PI X tg e t) (h : ∀ σ H W, t' σ H W → t σ H W) : PI X tg e t' := ⟨fun pins s σ H W I q => p.run pins s σ H W I (h σ H W q)⟩
def RecSt (rec : Rec) : Prop := ∀ c o e r, rec c o e = some r → isStar e = false
section
variable {cf : Cf} {k : Nat} {c : Ctx} {o : Own} {e : Expr} {r : Cr} {X : Cx}
/-- a list that comes, to be walked -/
theorem pk_walk {A : Amb} {kd : Kd} {ex : Addr → Prop} {o : Own} {σ : St} {H H1 : Hp} {v : V} {ds : List D} (h : VK' A (noFr kd) ex o σ H H1 v (.lst ds)) : ∃ a vs, v = .ref a ∧ H1 a = some (.lst vs) ∧ (¬ XX o σ ex a ∨ pkA kd σ a) ∧ Reps A.K (XX o σ ex) H1 vs ds := by
  cases kd with
  | val => cases h with | lst t n r => exact ⟨_, _, rfl, t, .inl n, r⟩
  | fresh => cases h with | lst t n r => exact ⟨_, _, rfl, t, .inl n, r⟩
  | peek i =>
    obtain ⟨_, p, sh, vs, ds', e1, e2, e3, e4, e5⟩ := h
    cases sh <;> cases e2
    exact ⟨p, vs, e1, e4, .inr ⟨i, rfl, e3⟩, e5.r⟩
theorem vk_tup {A : Amb} {kd : Kd} {ex : Addr → Prop} {o : Own} {σ : St} {H H1 : Hp} {v : V} {ds : List D} (h : VK' A (noFr kd) ex o σ H H1 v (.tup ds)) : ∃ a vs, v = .ref a ∧ TupAt A.K (XX o σ ex) H1 a vs ∧ Reps A.K (XX o σ ex) H1 vs ds := h.pk.tup
theorem big_of {i : Int} (h : big i = true) : -(2 ^ 62) ≤ i ∧ i < 2 ^ 62 := by
  unfold big at h
  have := of_decide_eq_true h
  omega
theorem snd_srcV {rec : Rec} (hrec : RecOk cf k rec) {tt : Bool} {a tg : Expr} {x : Ex} {kd : Kd} {o1 : Own} (h : rec c o a = some (x, kd, o1)) (X : Cx) (ok : XOk X c cf k) (A : Amb) (hA : A.K = X.K) (hM : AOk A c) : PI X tg a (SrcW A o o1 kd (tch (.sVal x)) tt (evI cf (.sVal x))) := by
  obtain ⟨sx, okx⟩ := hrec _ _ _ _ h
  have sx := sx X ok A hA hM
  refine piby fun σ H W q => ?_
  obtain ⟨ex, env, xs, env', r0, hm, q⟩ := q
  simp only [evI] at hm
  obtain ⟨⟨xv, e1⟩, h1, hm⟩ := bind_ok hm
  obtain ⟨z, h2, hm⟩ := bind_ok hm
  cases hm
  have h2 := of_ok h2
  cases xv <;> first | (cases h2; done) | skip
  · cases h2
    refine ⟨_, pi_str sx, step r0 h1 fun v H1 r1 f1 v1 => ?_⟩
    obtain ⟨rfl, o'⟩ := v1.pk.str
    exact ⟨_, rfl, q _ _ r1 f1 (giv_str o')⟩
  · cases h2
    refine ⟨_, pi_tup sx, step r0 h1 fun v H1 r1 f1 v1 => ?_⟩
    obtain ⟨a', vs, rfl, t, rr⟩ := vk_tup v1
    refine ⟨a', rfl, ⟨vs, by rw [← hA]; exact t.sq⟩, ?_⟩
    rw [← hA]
    exact q _ _ r1 f1 (giv_tuple t rr)
  · cases h2
    refine ⟨_, pi_list sx, step r0 h1 fun v H1 r1 f1 v1 => ?_⟩
    obtain ⟨a', vs, rfl, t, n, rr⟩ := pk_walk v1
    refine ⟨a', rfl, ⟨vs, SqL.of t⟩, ?_⟩
    rw [← hA]
    exact q _ _ r1 f1 (giv_list t n rr)
theorem snd_src {rec : Rec} (hrec : RecOk cf k rec) (hst : RecSt rec) {tt : Bool} {a tg : Expr} {x : Ex} {kd : Kd} {o1 : Own} (h : cSrc rec c o tt a = some (x, kd, o1)) (htg : tt = true → ∃ es j p, tg = .Tuple es j p) :
    (∀ i, i ∈ o1 → i ∈ o) ∧ (∀ i, i ∈ tch x → i ∈ o) ∧ ∀ X : Cx, XOk X c cf k → ∀ A : Amb, A.K = X.K → AOk A c → PI X tg a (SrcW A o o1 kd (tch x) tt (evI cf x)) := by
  have plain : (rec c o a).map (fun (y, k, o1) => ((.sVal y, k, o1) : Cr)) = some (x, kd, o1) → (∀ i, i ∈ o1 → i ∈ o) ∧ (∀ i, i ∈ tch x → i ∈ o) ∧ ∀ X : Cx, XOk X c cf k → ∀ A : Amb, A.K = X.K → AOk A c → PI X tg a (SrcW A o o1 kd (tch x) tt (evI cf x)) := fun h => by
    obtain ⟨⟨y, ky, oy⟩, h1, h2⟩ := Option.map_eq_some_iff.mp h
    cases h2
    obtain ⟨sx, okx⟩ := hrec _ _ _ _ h1
    obtain ⟨x1, x2, _⟩ := okS_sub okx
    exact ⟨x1, fun i hi => x1 i (x2 i hi), snd_srcV hrec h1⟩
  unfold cSrc at h
  split at h
  · rename_i nm np es cp
    split at h
    · rename_i hg
      simp only [Bool.and_eq_true] at hg
      obtain ⟨hb, hnm⟩ := hg
      obtain ⟨g1, g2, g3⟩ := bltB_of hb
      obtain ⟨n1, n2, n3⟩ := odd_no g3
      split at h
      · rename_i a
        simp only [Option.bind_eq_bind] at h
        split at h
        · rename_i hr
          obtain rfl := LawfulBEq.eq_of_beq hr
          obtain ⟨⟨y, ky, oy⟩, h1, h2⟩ := Option.bind_eq_some_iff.mp h
          cases h2
          obtain ⟨r', hr', _⟩ := Option.map_eq_some_iff.mp h1
          have hs := hst _ _ _ _ hr'
          obtain ⟨sy, y1, y2, ny⟩ := rec_np hrec h1
          refine ⟨y1, y2, fun X ok A hA hM => ?_⟩
          refine piimp (pi_range1 (gl_of ok g1) (nos_of ok g2) (pa_cons' (sy X ok A hA hM) pa_nil hs) (starEach_cons hs)) fun σ H W q => ?_
          obtain ⟨ex, env, xs, env', r0, hm, q⟩ := q
          simp only [evI] at hm
          obtain ⟨⟨xv, e1⟩, h1, hm⟩ := bind_ok hm
          refine stepV ny r0 h1 fun v H1 r1 f1 v1 => ?_
          cases xv <;> first | (cases hm; done) | skip
          dsimp only at hm
          split at hm
          · rename_i hbg
            cases hm
            cases v1
            obtain ⟨b1, b2⟩ := big_of hbg
            exact ⟨_, rfl, b1, b2, q _ _ r1 f1 (giv_range _ _)⟩
          · cases hm
        split at h
        · rename_i hr
          rw [Bool.and_eq_true] at hr
          obtain rfl := LawfulBEq.eq_of_beq hr.1
          obtain rfl := hr.2
          obtain ⟨⟨y, ky, oy⟩, h1, h2⟩ := Option.bind_eq_some_iff.mp h
          cases h2
          have hs := hst _ _ _ _ h1
          obtain ⟨sy, oky⟩ := hrec _ _ _ _ h1
          obtain ⟨y1, y2, _⟩ := okS_sub oky
          obtain ⟨tes, tj, tp, rfl⟩ := htg rfl
          refine ⟨y1, fun i hi => y1 i (y2 i hi), fun X ok A hA hM => ?_⟩
          refine piby fun σ H W q => ?_
          obtain ⟨ex, env, xs, env', r0, hm, q⟩ := q
          simp only [evI] at hm
          obtain ⟨⟨xv, e1⟩, h1, hm⟩ := bind_ok hm
          obtain ⟨ws, h2, hm⟩ := bind_ok hm
          obtain ⟨rfl, rfl⟩ : enumL 0 ws = xs ∧ e1 = env' := by cases hm; exact ⟨rfl, rfl⟩
          have h2 := of_ok h2
          cases xv <;> first | (cases h2; done) | skip
          · cases h2
            refine ⟨_, pi_enumT (gl_of ok g1) (nos_of ok g2) (pa_cons' (sy X ok A hA hM) pa_nil hs) (starEach_cons hs), ?_⟩
            refine step r0 h1 fun v H1 r1 f1 v1 => ?_
            obtain ⟨a', vs, rfl, t, rr⟩ := vk_tup v1
            refine ⟨a', vs, rfl, by rw [← hA]; exact t.sq, ?_⟩
            rw [← hA]
            exact q _ _ r1 f1 (giv_enumT t rr)
          · cases h2
            refine ⟨_, pi_enum (gl_of ok g1) (nos_of ok g2) (pa_cons' (sy X ok A hA hM) pa_nil hs) (starEach_cons hs), ?_⟩
            refine step r0 h1 fun v H1 r1 f1 v1 => ?_
            obtain ⟨a', vs, rfl, t, n, rr⟩ := pk_walk v1
            refine ⟨a', vs, rfl, SqL.of t, ?_⟩
            rw [← hA]
            exact q _ _ r1 f1 (giv_enum t n rr)
        split at h
        · rename_i hr
          obtain rfl := LawfulBEq.eq_of_beq hr
          unfold cRevR at h
          split at h
          · rename_i y yp b bp
            split at h
            · rename_i hy
              rw [Bool.and_eq_true] at hy
              obtain rfl := LawfulBEq.eq_of_beq hy.1
              obtain ⟨k1, k2, k3⟩ := bltB_of hy.2
              simp only [Option.bind_eq_bind] at h
              obtain ⟨⟨z, kz, oz⟩, h1, h2⟩ := Option.bind_eq_some_iff.mp h
              cases h2
              obtain ⟨r', hr', _⟩ := Option.map_eq_some_iff.mp h1
              have hs := hst _ _ _ _ hr'
              obtain ⟨sz, z1, z2, nz⟩ := rec_np hrec h1
              refine ⟨z1, z2, fun X ok A hA hM => ?_⟩
              refine piimp (pi_revR (gl_of ok g1) (nos_of ok g2) (prg_1 (gl_of ok k1) (nos_of ok k2) (sz X ok A hA hM) (starEach_cons hs)) rfl) fun σ H W q => ?_
              obtain ⟨ex, env, xs, env', r0, hm, q⟩ := q
              simp only [evI] at hm
              obtain ⟨⟨xv, e1⟩, h1, hm⟩ := bind_ok hm
              refine stepV nz r0 h1 fun v H1 r1 f1 v1 => ?_
              cases xv <;> first | (cases hm; done) | skip
              dsimp only at hm
              split at hm
              · rename_i hbg
                cases hm
                cases v1
                obtain ⟨b1, b2⟩ := big_of hbg
                refine ⟨_, rfl, by omega, by omega, b1, b2, ?_⟩
                rw [Int.sub_zero]
                exact q _ _ r1 f1 (by rw [rev_rng]; exact giv_rangeC _ _ _)
              · cases hm
            · cases h
          · cases h
        · cases h
      · rename_i a b
        simp only [Option.bind_eq_bind] at h
        split at h
        · rename_i hr
          obtain rfl := LawfulBEq.eq_of_beq hr
          obtain ⟨⟨y, ky, oy⟩, h1, h2⟩ := Option.bind_eq_some_iff.mp h
          obtain ⟨⟨z, kz, oz⟩, h3, h4⟩ := Option.bind_eq_some_iff.mp h2
          cases h4
          obtain ⟨r', hr', _⟩ := Option.map_eq_some_iff.mp h1
          have hs := hst _ _ _ _ hr'
          obtain ⟨r'', hr'', _⟩ := Option.map_eq_some_iff.mp h3
          have hs' := hst _ _ _ _ hr''
          obtain ⟨sy, y1, y2, ny⟩ := rec_np hrec h1
          obtain ⟨sz, z1, z2, nz⟩ := rec_np hrec h3
          refine ⟨fun i hi => y1 i (z1 i hi), append_sub y2 fun i hi => y1 i (z2 i hi), fun X ok A hA hM => ?_⟩
          refine piimp (pi_range2 (gl_of ok g1) (nos_of ok g2) (pa_cons' (sy X ok A hA hM) (pa_cons' (sz X ok A hA hM) pa_nil hs') hs) (by rw [starEach_cons hs, starEach_cons hs']; rfl) (starEach_cons hs')) fun σ H W q => ?_
          obtain ⟨ex, env, xs, env', r0, hm, q⟩ := q
          simp only [evI] at hm
          obtain ⟨⟨xv, e1⟩, h1, hm⟩ := bind_ok hm
          obtain ⟨⟨yv, e2⟩, h2, hm⟩ := bind_ok hm
          refine stepV ny r0 h1 fun v H1 r1 f1 v1 => stepV nz r1 h2 fun w H2 r2 f2 v2 => ?_
          dsimp only at hm
          split at hm
          · split at hm
            · rename_i hbg
              rw [Bool.and_eq_true] at hbg
              cases hm
              cases v1
              cases v2
              exact ⟨_, _, rfl, ⟨(big_of hbg.1).1, (big_of hbg.1).2, (big_of hbg.2).1, (big_of hbg.2).2⟩, q _ _ r2 (f1.cat f2) (giv_range _ _)⟩
            · cases hm
          · cases hm
        split at h
        · rename_i hr
          rw [Bool.and_eq_true] at hr
          obtain rfl := LawfulBEq.eq_of_beq hr.1
          obtain rfl := hr.2
          obtain ⟨⟨y, ky, oy⟩, h1, h2⟩ := Option.bind_eq_some_iff.mp h
          obtain ⟨⟨z, kz, oz⟩, h3, h4⟩ := Option.bind_eq_some_iff.mp h2
          cases h4
          obtain ⟨r', hr', _⟩ := Option.map_eq_some_iff.mp h1
          have hs := hst _ _ _ _ hr'
          obtain ⟨r'', hr'', _⟩ := Option.map_eq_some_iff.mp h3
          have hs' := hst _ _ _ _ hr''
          obtain ⟨sy, y1, y2, ny⟩ := rec_np hrec h1
          obtain ⟨sz, z1, z2, nz⟩ := rec_np hrec h3
          obtain ⟨tes, tj, tp, rfl⟩ := htg rfl
          refine ⟨fun i hi => y1 i (z1 i hi), append_sub y2 fun i hi => y1 i (z2 i hi), fun X ok A hA hM => ?_⟩
          refine piimp (RZ.pi_zipA (gl_of ok g1) (nos_of ok g2) (pa_cons' (sy X ok A hA hM) (pa_cons' (sz X ok A hA hM) pa_nil hs') hs) (starEach_cons hs) (plain_any fun e he => by
            obtain rfl := List.mem_singleton.mp he
            exact hs')) fun σ H W q => ?_
          obtain ⟨ex, env, xs, env', r0, hm, q⟩ := q
          simp only [evI] at hm
          obtain ⟨⟨xv, e1⟩, h1, hm⟩ := bind_ok hm
          obtain ⟨⟨yv, e2⟩, h2, hm⟩ := bind_ok hm
          refine stepV ny r0 h1 fun v H1 r1 f1 v1 => stepV nz r1 h2 fun w H2 r2 f2 v2 => ?_
          have v1' := keepV v1 f2 z2 z1
          dsimp only at hm
          split at hm
          · cases hm
            cases v1' with
            | lst t n rr =>
              cases v2 with
              | lst t' n' rr' =>
                refine ⟨_, _, _, _, rfl, .inl ⟨SqL.of t, SqL.of t', ?_⟩⟩
                rw [← hA]
                exact q _ _ r2 (f1.cat f2) (giv_zip t (.inl n) rr t' (.inl n') rr')
          · cases hm
            cases v1' with
            | tup t rr =>
              cases v2 with
              | tup t' rr' =>
                refine ⟨_, _, _, _, rfl, .inr ⟨by rw [← hA]; exact t.sq, by rw [← hA]; exact t'.sq, ?_⟩⟩
                rw [← hA]
                exact q _ _ r2 (f1.cat f2) (giv_zipT t rr t' rr')
          · cases hm
        · cases h
      · rename_i a b d
        simp only [Option.bind_eq_bind] at h
        split at h
        · rename_i hr
          obtain rfl := LawfulBEq.eq_of_beq hr
          obtain ⟨⟨y, ky, oy⟩, h1, h2⟩ := Option.bind_eq_some_iff.mp h
          obtain ⟨⟨z, kz, oz⟩, h3, h4⟩ := Option.bind_eq_some_iff.mp h2
          obtain ⟨⟨w, kw, ow⟩, h5, h6⟩ := Option.bind_eq_some_iff.mp h4
          cases h6
          obtain ⟨r', hr', _⟩ := Option.map_eq_some_iff.mp h1
          have hs := hst _ _ _ _ hr'
          obtain ⟨r'', hr'', _⟩ := Option.map_eq_some_iff.mp h3
          have hs' := hst _ _ _ _ hr''
          obtain ⟨r3, hr3, _⟩ := Option.map_eq_some_iff.mp h5
          have hs3 := hst _ _ _ _ hr3
          obtain ⟨sy, y1, y2, ny⟩ := rec_np hrec h1
          obtain ⟨sz, z1, z2, nz⟩ := rec_np hrec h3
          obtain ⟨sw, w1, w2, nw⟩ := rec_np hrec h5
          refine ⟨fun i hi => y1 i (z1 i (w1 i hi)), append_sub y2 (append_sub (fun i hi => y1 i (z2 i hi)) fun i hi => y1 i (z1 i (w2 i hi))), fun X ok A hA hM => ?_⟩
          refine piimp (pi_range3 (gl_of ok g1) (nos_of ok g2) (pa_cons' (sy X ok A hA hM) (pa_cons' (sz X ok A hA hM) (pa_cons' (sw X ok A hA hM) pa_nil hs3) hs') hs) (starEach_cons hs) (plain_any fun e he => by
            rcases List.mem_cons.mp he with rfl | he
            · exact hs'
            · obtain rfl := List.mem_singleton.mp he
              exact hs3)) fun σ H W q => ?_
          obtain ⟨ex, env, xs, env', r0, hm, q⟩ := q
          simp only [evI] at hm
          obtain ⟨⟨xv, e1⟩, h1, hm⟩ := bind_ok hm
          obtain ⟨⟨yv, e2⟩, h2, hm⟩ := bind_ok hm
          obtain ⟨⟨zv, e3⟩, h3, hm⟩ := bind_ok hm
          refine stepV ny r0 h1 fun v H1 r1 f1 v1 => stepV nz r1 h2 fun u H2 r2 f2 v2 => stepV nw r2 h3 fun t H3 r3 f3 v3 => ?_
          dsimp only at hm
          split at hm
          · split at hm
            · rename_i hbg
              simp only [Bool.and_eq_true] at hbg
              obtain ⟨⟨b1, b2⟩, b3⟩ := hbg
              obtain rfl := LawfulBEq.eq_of_beq b3
              cases hm
              cases v1
              cases v2
              cases v3
              exact ⟨_, _, _, _, rfl, RgC.neg (big_of b1).1 (big_of b1).2 (big_of b2).1 (big_of b2).2, q _ _ r3 (f1.cat (f2.cat f3)) (giv_rangeC _ _ _)⟩
            · cases hm
          · cases hm
        · cases h
      · cases h
    · exact plain h
  · exact plain h
end
end Pv

set_option maxHeartbeats 1000000
/-! Targets; list comprehensions. -/
namespace Pv
open PySem PySem.Spec PyProof.Rows L2

/-! ### slots -/
theorem wipe_get (σ : St) : ∀ (vs : List Nat) (j : Nat), (wipe σ vs)[j]? = if j ∈ vs then (if j < σ.length then some none else none) else σ[j]?
  | [], j => by simp [wipe]
  | v :: vs, j => by
    unfold wipe
    rw [get_set, wipe_length, wipe_get σ vs j]
    by_cases h : v = j
    · subst h; simp
    · have h' : ¬ j = v := fun e => h e.symm
      simp [h, h']
theorem wipeE_get (σ : Env) : ∀ (vs : List Nat) (j : Nat), (wipeE σ vs)[j]? = if j ∈ vs then (if j < σ.length then some none else none) else σ[j]?
  | [], j => by simp [wipeE]
  | v :: vs, j => by
    have hl : ∀ vs : List Nat, (wipeE σ vs).length = σ.length := fun vs => by
      induction vs with
      | nil => rfl
      | cons v vs ih => simp only [wipeE, List.length_set, ih]
    unfold wipeE
    rw [get_set, hl, wipeE_get σ vs j]
    by_cases h : v = j
    · subst h; simp
    · have h' : ¬ j = v := fun e => h e.symm
      simp [h, h']
theorem wipeE_len (σ : Env) : ∀ vs : List Nat, (wipeE σ vs).length = σ.length
  | [] => rfl
  | v :: vs => by simp only [wipeE, List.length_set, wipeE_len σ vs]
theorem backE_len (σ0 σ : Env) : ∀ vs : List Nat, (backE σ0 σ vs).length = σ.length
  | [] => rfl
  | v :: vs => by simp only [backE, List.length_set, backE_len σ0 σ vs]
theorem backE_get (σ0 σ : Env) : ∀ (vs : List Nat) (j : Nat), (backE σ0 σ vs)[j]? = if j ∈ vs then (if j < σ.length then some ((σ0[j]?).getD none) else none) else σ[j]?
  | [], j => by simp [backE]
  | v :: vs, j => by
    unfold backE
    rw [get_set, backE_len, backE_get σ0 σ vs j]
    by_cases h : v = j
    · subst h; simp
    · have h' : ¬ j = v := fun e => h e.symm
      simp [h, h']
def setS (σ : St) : List Nat → List V → St
  | i :: is, v :: vs => setS (σ.set i (some v)) is vs
  | _, _ => σ
theorem setS_len : ∀ (is : List Nat) (vs : List V) (σ : St), (setS σ is vs).length = σ.length
  | [], vs, σ => by cases vs <;> rfl
  | i :: is, [], σ => rfl
  | i :: is, v :: vs, σ => by simp only [setS]; rw [setS_len is vs, List.length_set]
theorem setS_off : ∀ (is : List Nat) (vs : List V) (σ : St) (j : Nat), j ∉ is → (setS σ is vs)[j]? = σ[j]?
  | [], vs, σ, j, _ => by cases vs <;> rfl
  | i :: is, [], σ, j, _ => rfl
  | i :: is, v :: vs, σ, j, h => by
    simp only [setS]
    rw [setS_off is vs _ j fun z => h (List.mem_cons_of_mem _ z), get_set, if_neg fun e => h (by rw [← e]; exact List.mem_cons_self)]
section
variable {A : Amb} {ex ex' : Addr → Prop} {own own' : Own} {σ σ' : St} {H H' : Hp} {env env' : Env} {aD : Addr}
theorem EX_eq {b : List Nat} (h : ∀ i, i ∈ b → σ'[i]? = σ[i]?) : EX b σ' = EX b σ := by
  funext a
  apply propext
  constructor
  · rintro ⟨i, h1, h2⟩
    exact ⟨i, h1, by rw [← h i h1]; exact h2⟩
  · rintro ⟨i, h1, h2⟩
    exact ⟨i, h1, by rw [h i h1]; exact h2⟩
theorem R.at (r : R A ex own σ H env) (hs : ∀ i, i ∈ own → σ'[i]? = σ[i]?) (hn : ∀ i d, i ∉ own → env'[i]? = some (some d) → ∃ v, σ'[i]? = some (some v) ∧ Rep A.K (XX own σ ex) H v d) (he : ∀ i, i ∈ own → env'[i]? = env[i]?) (hl : env'.length = σ'.length) (hσ : σ'.length = σ.length)
    (hp : ∀ i p, (i, p) ∈ A.mp → σ'[i]? = σ[i]?) : R A ex own σ' H env' := by
  have hE : EX own σ' = EX own σ := EX_eq hs
  have hX : XX own σ' ex = XX own σ ex := by unfold XX; rw [hE]
  refine ⟨hl, hσ.trans r.ln, fun i d hi e => ?_, fun i hi => ?_, fun i j p hi hj e1 e2 => ?_, r.ent, fun a h => r.new a (by rw [← hE]; exact h), r.tr, fun a h => r.dis a (by rw [← hE]; exact h), fun i p h => by rw [hp i p h]; exact r.pin i p h⟩
  · rw [hX]; exact hn i d hi e
  · rw [hX, hs i hi, he i hi]; exact r.owl i hi
  · exact r.inj i j p hi hj (by rw [← hs i hi]; exact e1) (by rw [← hs j hj]; exact e2)
theorem R.wipe (r : R A ex own σ H env) {vs : List Nat} (hv : ∀ i, i ∈ vs → i ∉ own) (hp : ∀ i p, i ∈ vs → (i, p) ∉ A.mp) : R A ex own (L2.wipe σ vs) H (wipeE env vs) := by
  refine r.at (fun i hi => ?_) (fun i d hi e => ?_) (fun i hi => ?_) ?_ (wipe_length σ vs) (fun i p h => ?_)
  · rw [wipe_get, if_neg fun z => hv i z hi]
  · rw [wipeE_get] at e
    split at e
    · split at e <;> cases e
    · rename_i hn
      rw [wipe_get, if_neg hn]
      exact r.non i d hi e
  · rw [wipeE_get, if_neg fun z => hv i z hi]
  · rw [wipeE_len, wipe_length]; exact r.len
  · rw [wipe_get, if_neg fun z => hp i p z h]
/-- a slot that owns nothing is set -/
theorem R.setv (r : R A ex own σ H env) {i : Nat} {v : V} {d : D} (hi : i ∉ own) (hv : Rep A.K (XX own σ ex) H v d) (hp : ∀ p, (i, p) ∉ A.mp) : R A ex own (σ.set i (some v)) H (env.set i (some d)) := by
  refine r.at (fun j hj => ?_) (fun j dj hj e => ?_) (fun j hj => ?_) ?_ (List.length_set ..) (fun j p h => ?_)
  · rw [get_set, if_neg fun e => hi (by rw [e]; exact hj)]
  · rw [get_set] at e ⊢
    split at e
    · rename_i h
      rw [if_pos h]
      split at e
      · rename_i hl
        cases e
        exact ⟨v, by rw [if_pos (by rw [← r.len]; exact hl)], hv⟩
      · cases e
    · rename_i h
      rw [if_neg h]
      exact r.non j dj hj e
  · rw [get_set, if_neg fun e => hi (by rw [e]; exact hj)]
  · rw [List.length_set, List.length_set]; exact r.len
  · rw [get_set, if_neg fun e => hp p (by rw [e]; exact h)]
theorem R.setvs : ∀ {is : List Nat} {vs : List V} {ds : List D} {σ : St} {env : Env}, R A ex own σ H env → (∀ i, i ∈ is → i ∉ own) → Reps A.K (XX own σ ex) H vs ds → (∀ i p, i ∈ is → (i, p) ∉ A.mp) → R A ex own (setS σ is vs) H (setAll env is ds)
  | [], vs, ds, σ, env, r, _, _, _ => by cases vs <;> cases ds <;> exact r
  | i :: is, vs, ds, σ, env, r, hi, hv, hp => by
    cases hv with
    | nil => exact r
    | cons h t =>
      rename_i v0 vs0 d0 ds0
      simp only [setS, setAll]
      have r1 := r.setv (hi i List.mem_cons_self) h fun p => hp i p List.mem_cons_self
      have hE : XX own (σ.set i (some v0)) ex = XX own σ ex := by
        have h1 : EX own (σ.set i (some v0)) = EX own σ := EX_eq fun j hj => by rw [get_set, if_neg fun e => hi i List.mem_cons_self (by rw [e]; exact hj)]
        unfold XX
        rw [h1]
      exact R.setvs r1 (fun j hj => hi j (List.mem_cons_of_mem _ hj)) (by rw [hE]; exact t) fun j p hj => hp j p (List.mem_cons_of_mem _ hj)
/-- an address that is shut out changes -/
theorem R.setEx (r : R A ex own σ H env) (h : ex aD) (n : A.H0 aD = none) (o : HO) : R A ex own σ (upd H aD o) env := by
  have f : Frame (XX own σ ex) H (upd H aD o) := Frame.set (.inr h)
  refine ⟨r.len, r.ln, fun i d hi e => ?_, fun i hi => ?_, r.inj, ⟨fun b u e nb => ?_, fun b u e => ?_⟩, r.new, fun a ha => ?_, r.dis, r.pin⟩
  · obtain ⟨v, h1, h2⟩ := r.non i d hi e
    exact ⟨v, h1, h2.frame f⟩
  · obtain ⟨p, sh, vs, ds, h1, h2, h3, h4⟩ := r.owl i hi
    refine ⟨p, sh, vs, ds, h1, ?_, h3.frame f, h4⟩
    rw [upd_ne fun e => r.dis p ⟨i, hi, h1⟩ (by rw [e]; exact h)]
    exact h2
  · rw [upd_ne fun z => by rw [z, n] at e; cases e]
    exact r.ent.keep b u e nb
  · obtain ⟨u', e'⟩ := r.ent.there b u e
    exact f.there _ _ e'
  · obtain ⟨u', e'⟩ := r.tr a ha
    exact f.there _ _ e'
theorem Frame.updNew {P : Addr → Prop} {H1 : Hp} {o : HO} (f : Frame P H1 H) (n : H1 aD = none) : Frame P H1 (upd H aD o) := by
  refine ⟨fun b u e nb => ?_, fun b u e => ?_⟩
  · rw [upd_ne fun z => by rw [z, n] at e; cases e]
    exact f.keep b u e nb
  · obtain ⟨u', e'⟩ := f.there b u e
    by_cases z : b = aD
    · exact ⟨o, by rw [z]; exact upd_same⟩
    · exact ⟨u', by rw [upd_ne z]; exact e'⟩
end

/-! ### targets -/
def gTg (K : PySem.W.Frag) (tg : List Nat) (tt : Bool) : TG := fun v σ H Q =>
  if tt then ∃ a xs, v = .ref a ∧ SqT K H a xs ∧ xs.length = tg.length ∧ Q (setS σ tg xs) H else match tg with
    | [i] => Q (σ.set i (some v)) H
    | _ => False
section
variable {cf : Cf} {k : Nat} {c : Ctx} {o : Own} {e : Expr} {r : Cr} {X : Cx}
theorem stoOf_spec (ok : XOk X c cf k) {x : Str} {i : Nat} (h : stoOf c x = some i) : i ∉ c.muts ∧ ∀ pos, PG X (.Name x pos) (gName i) := by
  unfold stoOf at h
  split at h
  · rename_i h1
    rw [Bool.and_eq_true] at h1
    obtain ⟨j, h2, h3⟩ := Option.bind_eq_some_iff.mp h
    split at h3
    · cases h3
    · rename_i hm
      cases h3
      refine ⟨by simpa using hm, fun pos => ?_⟩
      have hl := h1.1
      unfold locB at hl
      refine pg_name (by rw [ok.N]; exact ok.nd) (by rw [ok.N]; exact slotOf_spec h2) ?_ ?_
      · unfold L2.Loc
        rw [ok.sc]
        split at hl
        · exact .inl (by assumption)
        · exact .inr (by assumption)
        · cases hl
      · rw [ok.sc, ok.fn]
        split at hl
        · exact .inr (by assumption)
        · exact .inl hl
        · cases hl
  · cases h
theorem namesOf_spec (ok : XOk X c cf k) : ∀ (es : List Expr) (is : List Nat), namesOf c es = some is → (∀ i, i ∈ is → i ∉ c.muts) ∧ is.length = es.length ∧ (assignEach es X.env).length = es.length ∧ (assignEach es X.env).findIdx? (·.1) = none ∧
    PGs X es (fun vs σ H Q => vs.length = is.length ∧ Q (setS σ is vs) H)
  | [], is, h => by
    simp only [namesOf] at h
    cases h
    refine ⟨fun i hi => (by cases hi), rfl, rfl, rfl, ⟨fun pins s σ H vs us Q I r q => pgs_nil.run pins s σ H vs us Q I r ⟨List.eq_nil_of_length_eq_zero q.1, ?_⟩⟩⟩
    obtain rfl := List.eq_nil_of_length_eq_zero q.1
    exact q.2
  | e :: es, is, h => by
    cases e <;> first | (simp only [namesOf] at h; cases h; done) | skip
    rename_i x xp
    simp only [namesOf, Option.bind_eq_bind, Option.bind_eq_some_iff, guard_eq] at h
    obtain ⟨i, h1, is', h2, _, _, h3⟩ := h
    cases h3
    obtain ⟨m1, p1⟩ := stoOf_spec ok h1
    obtain ⟨m2, l2, n2, f2, p2⟩ := namesOf_spec ok es is' h2
    have hae : assignEach (.Name x xp :: es) X.env = (false, assign (.Name x xp) X.env) :: assignEach es X.env := rfl
    refine ⟨fun j hj => ?_, by rw [List.length_cons, List.length_cons, l2], by rw [hae, List.length_cons, n2, List.length_cons], by rw [hae, List.findIdx?_cons]; simp [f2], ⟨fun pins s σ H vs us Q I r q => (pgs_cons (p1 xp) p2 rfl).run pins s σ H vs us Q I r ?_⟩⟩
    · rcases List.mem_cons.mp hj with rfl | hj
      · exact m1
      · exact m2 j hj
    · obtain ⟨q1, q2⟩ := q
      cases vs with
      | nil => simp at q1
      | cons v vs => exact ⟨v, vs, rfl, by simpa using q1, q2⟩
theorem cTg_spec (ok : XOk X c cf k) {tg : Expr} {is : List Nat} {tt : Bool} (h : cTg c tg = some (is, tt)) : (∀ i, i ∈ is → i ∉ c.muts) ∧ PG X tg (gTg X.K is tt) ∧ (tt = true → ∃ es j p, tg = .Tuple es j p) := by
  unfold cTg at h
  split at h
  · obtain ⟨i, h1, h2⟩ := Option.map_eq_some_iff.mp h
    cases h2
    obtain ⟨m1, p1⟩ := stoOf_spec ok h1
    refine ⟨fun j hj => by rw [List.mem_singleton.mp hj]; exact m1, ⟨fun pins s σ H v u Q I r q => (p1 _).run pins s σ H v u Q I r q⟩, fun e => by cases e⟩
  · rename_i es j p
    obtain ⟨is', h1, h2⟩ := Option.map_eq_some_iff.mp h
    cases h2
    obtain ⟨m2, l2, n2, f2, p2⟩ := namesOf_spec ok es is h1
    refine ⟨m2, ⟨fun pins s σ H v u Q I r q => (pg_tup ok.rm.calm p2 n2 f2).run pins s σ H v u Q I r ?_⟩, fun _ => ⟨es, j, p, rfl⟩⟩
    obtain ⟨a, xs, e1, e2, e3, e4⟩ := q
    exact ⟨a, xs, e1, e2, by rw [e3, l2], e3, e4⟩
  · cases h
/-- behind a target's store -/
theorem R.tg {A : Amb} {ex : Addr → Prop} {own : Own} {σ : St} {H : Hp} {env env1 : Env} {tg : List Nat} {tt : Bool} {v : V} {d : D} {Q : St → Hp → Prop} (r : R A ex own σ H env) (ht : tgF tg tt d env = some env1) (hy : YD A.K (XX own σ ex) tt H v d) (hi : ∀ i, i ∈ tg → i ∉ own) (hp : ∀ i p, i ∈ tg → (i, p) ∉ A.mp)
    (q : ∀ σ1, R A ex own σ1 H env1 → (∀ j, j ∉ tg → σ1[j]? = σ[j]?) → σ1.length = σ.length → Q σ1 H) : gTg A.K tg tt v σ H Q := by
  unfold tgF at ht
  unfold gTg
  cases tt with
  | true =>
    simp only [if_true] at ht ⊢
    cases d <;> first | (cases ht; done) | skip
    dsimp only at ht
    split at ht
    · rename_i hl
      cases ht
      obtain ⟨T, vs, rfl, h1, h2⟩ := hy _ rfl
      exact ⟨T, vs, rfl, h1, by rw [h2.length]; exact hl, q _ (r.setvs hi h2 hp) (fun j hj => setS_off _ _ _ _ hj) (setS_len _ _ _)⟩
    · cases ht
  | false =>
    simp only [Bool.false_eq_true, if_false] at ht ⊢
    split at ht
    · rename_i i
      cases ht
      exact q _ (r.setv (hi i (List.mem_singleton.mpr rfl)) hy fun p => hp i p (List.mem_singleton.mpr rfl)) (fun j hj => by rw [get_set, if_neg fun e => hj (by rw [← e]; exact List.mem_singleton.mpr rfl)]) (List.length_set ..)
    · cases ht

/-! ### a comprehension's block -/
theorem blk_ok (ok : XOk X c cf k) (s : Shared) (H : Hp) (scope : Scope) (C : Addr) (cl : List (Str × Addr)) (fp : List Addr) : XOk (X.blk s H scope (compEnvC scope cl C X.env) fp) (blkCtx c scope) cf k := by
  refine ⟨⟨ok.rm.calm, ok.rm.un⟩, ok.N, ok.nd, ?_, rfl, ok.room, ok.nos, ok.consts, ok.fns, ok.exs, ok.cls⟩
  show relS scope X.env.scope = relS scope c.sc
  rw [ok.sc]
theorem ptimp {ifs : List Expr} {t t' : TT} (h : PTs X ifs t) (w : ∀ σ H Q, t' σ H Q → t σ H Q) : PTs X ifs t' := ⟨fun pins s σ H Q I q => h.run pins s σ H Q I (w σ H Q q)⟩
theorem folded_of {iter : Expr} (h : isSetE iter = false) (env : PySem.Env) (x : Value) : foldedSetIterable iter env x = pure x := by
  cases iter <;> first | rfl | cases h
end
end Pv

set_option maxHeartbeats 1000000
/-! List comprehensions. -/
namespace Pv
open PySem PySem.Spec PyProof.Rows L2

section
variable {cf : Cf} {k : Nat} {c : Ctx} {o : Own} {e : Expr} {r : Cr} {X : Cx}
theorem nodup_all {is : List Nat} {o1 : Own} (h : (is.all fun i => !o1.contains i) = true) : ∀ i, i ∈ is → i ∉ o1 := fun i hi => by
  rw [List.all_eq_true] at h
  simpa using h i hi
/-- what a comprehension's rule asks, from what the small language gives -/
theorem lc_tr {A : Amb} (hA : A.K = X.K) {o o1 o2 : Own} {kd l : Kd} {src t e : Ex} {is : List Nat} {tt : Bool} (hm : AOk A c) (him : ∀ i, i ∈ is → i ∉ c.muts) (hio : ∀ i, i ∈ is → i ∉ o1) (ht1 : ∀ i, i ∈ tch t → i ∈ o1) (he1 : ∀ i, i ∈ tch e → i ∈ o1) (ho2 : ∀ i, i ∈ o1 → i ∈ o2)
    (he2 : ∀ i, i ∈ tch e → i ∈ o2) (nl : ∀ i, l ≠ .peek i) (hk : ∀ i, kd = .peek i → i ∉ tch t ∧ i ∉ tch e ∧ i ∈ o1) {σ : St} {H : Hp} {Q : VK}
    (q : tM A o o1 .fresh (tch (.lc e is tt src t)) (evE cf (.lc e is tt src t)) σ H Q) :
    tLc (SrcW A o o1 kd (tch src) tt (evI cf src)) (gTg X.K is tt) (tMT A o1 o2 (tch t) (evE cf t)) (tM A o2 o1 l (tch e) (evE cf e)) is σ H Q := by
  obtain ⟨ex, env, d, env', r0, hev, q⟩ := q
  simp only [evE] at hev
  obtain ⟨⟨xs, e1⟩, g1, hev⟩ := bind_ok hev
  obtain ⟨⟨ys, e2⟩, g2, hev⟩ := bind_ok hev
  obtain ⟨rfl, rfl⟩ : D.lst ys = d ∧ backE e1 e2 is = env' := by cases hev; exact ⟨rfl, rfl⟩
  refine ⟨ex, env, xs, e1, r0, g1, fun J H1 r1 f1 giv => fun aD nD => ?_⟩
  have nA : A.H0 aD = none := r1.ent.free nD
  have hp : ∀ i p, i ∈ is → (i, p) ∉ A.mp := fun i p hi z => him i hi (hm.1 i p z)
  have hEw : EX o1 (wipe σ is) = EX o1 σ := EX_eq fun i hi => by rw [wipe_get, if_neg fun z => hio i z hi]
  have hXw : XX o1 (wipe σ is) (fun a => ex a ∨ a = aD) = XX o1 σ (fun a => ex a ∨ a = aD) := by unfold XX; rw [hEw]
  have hsub : ∀ i, i ∈ tch t ++ tch e → i ∈ o1 := append_sub ht1 he1
  have hXex : ∀ b, XX o1 σ ex b → XX o1 σ (fun a => ex a ∨ a = aD) b := fun b z => z.imp id .inl
  have hdn : ∀ b, XX o1 σ (fun a => ex a ∨ a = aD) b → XX o1 σ ex b ∨ H1 b = none := fun b z => by
    rcases z with z | z | z
    · exact .inl (.inl z)
    · exact .inl (.inr z)
    · exact .inr (by rw [z]; exact nD)
  refine lc_it giv (fun i H2 => ∃ envi acc vs, H2 aD = some (.lst vs) ∧ R A (fun a => ex a ∨ a = aD) o1 (wipe σ is) H2 envi ∧ Reps A.K (XX o1 σ fun a => ex a ∨ a = aD) H2 vs acc ∧
    lcLoop (fun v => evE cf e v) (fun v => evE cf t v) is tt (xs.drop i) envi acc = .ok (ys, e2) ∧ Frame (EX (tch t ++ tch e) σ) H1 H2) ?_ ?_ ?_ ?_
  · exact ⟨wipeE e1 is, [], [], upd_same, (r1.shut nD _).wipe hio hp, .nil, g2, Frame.new nD⟩
  · rintro i H2 _ ⟨_, _, _, _, _, _, _, f⟩
    refine f.mono fun b z => ⟨.inl (EX.sub hsub b z), ?_⟩
    rintro ⟨j, ej, sj⟩
    obtain ⟨n1, n2, n3⟩ := hk j ej
    obtain ⟨m, hm1, hm2⟩ := z
    obtain rfl := r1.inj m j b (hsub m hm1) n3 hm2 sj
    rcases List.mem_append.mp hm1 with z | z
    · exact n1 z
    · exact n2 z
  · rintro i x H2 H3 hi ⟨envi, acc, vs, hD, rr, hv, hl, f⟩ ⟨sm, yd⟩
    obtain ⟨di, hdi⟩ : ∃ di, xs[i]? = some di := ⟨xs[i], by simp [hi]⟩
    have hdrop : xs.drop i = di :: xs.drop (i + 1) := by
      rw [List.drop_eq_getElem_cons hi]
      rw [List.getElem?_eq_getElem hi] at hdi
      rw [Option.some.inj hdi]
    rw [hdrop] at hl
    simp only [lcLoop] at hl
    cases htg : tgF is tt di envi with
    | none => rw [htg] at hl; cases hl
    | some env1 =>
      rw [htg] at hl
      dsimp only at hl
      have yd' := yd (XX o1 σ fun a => ex a ∨ a = aD) di hXex hdn hdi
      have r3 := rr.keep sm
      rw [← hA]
      refine r3.tg htg (by rw [hXw]; exact yd') hio hp fun σ1 r4 hoff hlen => ?_
      have hw : wipe σ1 is = wipe σ is := by
        apply List.ext_getElem?
        intro j
        rw [wipe_get, wipe_get, hlen, wipe_length]
        by_cases hj : j ∈ is
        · rw [if_pos hj, if_pos hj]
        · rw [if_neg hj, if_neg hj, hoff j hj, wipe_get, if_neg hj]
      have hE1 : EX o1 σ1 = EX o1 σ := EX_eq fun j hj => by rw [hoff j fun z => hio j z hj, wipe_get, if_neg fun z => hio j z hj]
      have hE1t : EX (tch t) σ1 = EX (tch t) σ := EX_eq fun j hj => by rw [hoff j fun z => hio j z (ht1 j hj), wipe_get, if_neg fun z => hio j z (ht1 j hj)]
      have hE1e : EX (tch e) σ1 = EX (tch e) σ := EX_eq fun j hj => by rw [hoff j fun z => hio j z (he1 j hj), wipe_get, if_neg fun z => hio j z (he1 j hj)]
      have hX1 : XX o1 σ1 (fun a => ex a ∨ a = aD) = XX o1 σ (fun a => ex a ∨ a = aD) := by unfold XX; rw [hE1]
      have notD : ∀ tc : List Nat, (∀ j, j ∈ tc → j ∈ o1) → ¬ EX tc σ1 aD := fun tc hs z => r4.dis aD (EX.sub hs aD z) (.inr rfl)
      refine ⟨hw, ?_⟩
      cases htv : evE cf t env1 with
      | err _ => simp only [htv] at hl; cases hl
      | stuck => simp only [htv] at hl; cases hl
      | ok bv =>
        obtain ⟨bv, env2⟩ := bv
        simp only [htv] at hl
        refine ⟨_, env1, bv, env2, r4, htv, fun H4 f4 r5 => ?_⟩
        have hD3 : H3 aD = some (.lst vs) := sm _ _ hD
        have hD4 : H4 aD = some (.lst vs) := f4.keep _ _ hD3 (notD _ ht1)
        have ff4 : Frame (EX (tch t ++ tch e) σ) H1 H4 := (f.trans (.same sm)).trans ((by rw [← hE1t]; exact f4 : Frame (EX (tch t) σ) H3 H4).mono EX.inl)
        have hv4 : Reps A.K (XX o1 σ fun a => ex a ∨ a = aD) H4 vs acc := (hv.frame (Frame.same sm)).frame (f4.mono fun b z => by rw [hE1t] at z; exact .inl (EX.sub ht1 b z))
        dsimp only
        by_cases hb : truth bv = true
        · rw [if_pos hb]
          rw [if_pos hb] at hl
          cases hte : evE cf e env2 with
          | err _ => simp only [hte] at hl; cases hl
          | stuck => simp only [hte] at hl; cases hl
          | ok xv =>
            obtain ⟨xv, env3⟩ := xv
            simp only [hte] at hl
            refine stepV nl r5 hte fun y H5 r6 f6 v6 => ?_
            have hD5 : H5 aD = some (.lst vs) := f6.keep _ _ hD4 (notD _ he1)
            split at hl
            · rename_i hlim
              have hv5 : Reps A.K (XX o1 σ fun a => ex a ∨ a = aD) H5 vs acc := hv4.frame (f6.mono fun b z => by rw [hE1e] at z; exact .inl (EX.sub he1 b z))
              refine ⟨vs, hD5, by rw [hv5.length]; exact lim_lt hlim, wipeE env3 is, acc ++ [xv], vs ++ [y], upd_same, ?_, ?_, hl, ?_⟩
              · have := (r6.setEx (aD := aD) (.inr rfl) nA (.lst (vs ++ [y]))).wipe hio hp
                rw [hw] at this
                exact this
              · exact (hv5.append (.one (by rw [← hX1]; exact v6))).frame (Frame.set (.inr (.inr rfl)))
              · exact (ff4.trans ((by rw [← hE1e]; exact f6 : Frame (EX (tch e) σ) H4 H5).mono EX.inr)).updNew nD
            · cases hl
        · rw [if_neg hb]
          rw [if_neg hb] at hl
          refine ⟨wipeE env2 is, acc, vs, hD4, ?_, hv4, hl, ff4⟩
          have := (r5.free ho2).wipe hio hp
          rw [hw] at this
          exact this
  · rintro H2 ⟨envi, acc, vs, hD, rr, hv, hl, f⟩
    rw [List.drop_length] at hl
    simp only [lcLoop] at hl
    obtain ⟨rfl, rfl⟩ : acc = ys ∧ envi = e2 := by cases hl; exact ⟨rfl, rfl⟩
    refine q (.ref aD) H2 (f1.cat f) ⟨fun a => ex a ∨ a = aD, fun a z => .inl z, fun a z => z.elim .inl fun e => .inr (by rw [e]; exact f1.free nD), ?_, aD, .lst, vs, acc, rfl, rfl, f1.free nD, .inr rfl, hD, hv.z⟩
    refine rr.at (fun i hi => by rw [wipe_get, if_neg fun z => hio i z hi]) (fun i d hi e => ?_) (fun i hi => by rw [backE_get, if_neg fun z => hio i z hi]) (by rw [backE_len]; exact rr.len.trans (wipe_length σ is)) (wipe_length σ is).symm (fun i p h => by rw [wipe_get, if_neg fun z => hp i p z h])
    rw [hXw]
    rw [backE_get] at e
    split at e
    · split at e
      · have e' : e1[i]? = some (some d) := by
          cases h : e1[i]? with
          | none => rw [h] at e; cases e
          | some w => rw [h] at e; exact congrArg some (Option.some.inj e)
        obtain ⟨v, h1, h2⟩ := r1.non i d hi e'
        exact ⟨v, h1, (h2.grow hdn).frame (f.mono fun b z => .inl (EX.sub hsub b z))⟩
      · cases e
    · rename_i hn
      obtain ⟨v, h1, h2⟩ := rr.non i d hi e
      rw [wipe_get, if_neg hn] at h1
      exact ⟨v, h1, by rw [← hXw]; exact h2⟩
end
end Pv

set_option maxHeartbeats 1000000
/-! Dict comprehensions; stores into a dict. -/
namespace Pv
open PySem PySem.Spec PyProof.Rows L2

theorem kvZ_set {x : Str} {v : V} : ∀ {ks : List Str} {vs : List V}, kvZ ks (dSet ks vs x v) = (kvZ ks vs).map fun kv => if kv.1 = (Sum.inr x : Key) then (kv.1, v) else kv
  | [], vs => by cases vs <;> rfl
  | k :: ks, [] => rfl
  | k :: ks, w :: vs => by
    show (Sum.inr k, if k = x then v else w) :: kvZ ks (dSet ks vs x v) = (if (Sum.inr k : Key) = Sum.inr x then (Sum.inr k, v) else (Sum.inr k, w)) :: _
    rw [kvZ_set]
    congr 1
    by_cases h : k = x
    · rw [if_pos h, if_pos (by rw [h])]
    · rw [if_neg h, if_neg fun e => h (Sum.inr.inj e)]
theorem kvZ_any {x : Str} : ∀ {ks : List Str} {vs : List V}, ks.length = vs.length → ((kvZ ks vs).any fun kv => decide (kv.1 = (Sum.inr x : Key))) = decide (x ∈ ks)
  | [], [], _ => rfl
  | k :: ks, v :: vs, h => by
    show (decide ((Sum.inr k : Key) = Sum.inr x) || (kvZ ks vs).any _) = _
    rw [kvZ_any (by simpa using h), Bool.eq_iff_iff]
    simp only [Bool.or_eq_true, decide_eq_true_eq, List.mem_cons, Sum.inr.injEq]
    exact ⟨fun z => z.imp Eq.symm id, fun z => z.imp Eq.symm id⟩
theorem kvZ_put {x : Str} {v : V} {ks : List Str} {vs : List V} (h : ks.length = vs.length) : putK (kvZ ks vs) (Sum.inr x) v = kvZ (dPut ks vs x v).1 (dPut ks vs x v).2 := by
  unfold putK dPut
  rw [kvZ_any h]
  by_cases hx : x ∈ ks
  · rw [if_pos (decide_eq_true hx), if_pos hx]
    exact kvZ_set.symm
  · rw [if_neg (by simpa using hx), if_neg hx]
    unfold kvZ
    rw [List.map_append, List.zip_append (by rw [List.length_map]; exact h)]
    rfl
theorem dPut_fst {α β : Type} {x : Str} {y : α} {z : β} {ks : List Str} {vs : List α} {ws : List β} : (dPut ks vs x y).1 = (dPut ks ws x z).1 := by
  unfold dPut
  split <;> rfl
theorem Reps.dset {K : PySem.W.Frag} {Z : Addr → Prop} {H : Hp} {x : Str} {v : V} {d : D} (rv : Rep K Z H v d) : ∀ {ks : List Str} {vs : List V} {ds : List D}, Reps K Z H vs ds → Reps K Z H (dSet ks vs x v) (dSet ks ds x d)
  | [], _, _, .nil => .nil
  | [], _, _, .cons r t => .cons r t
  | k :: ks, _, _, .nil => .nil
  | k :: ks, _, _, .cons r t => by
    unfold dSet
    by_cases h : k = x
    · rw [if_pos h, if_pos h]; exact .cons rv (Reps.dset rv t)
    · rw [if_neg h, if_neg h]; exact .cons r (Reps.dset rv t)
theorem Reps.dput {K : PySem.W.Frag} {Z : Addr → Prop} {H : Hp} {x : Str} {v : V} {d : D} {ks : List Str} {vs : List V} {ds : List D} (rv : Rep K Z H v d) (r : Reps K Z H vs ds) : Reps K Z H (dPut ks vs x v).2 (dPut ks ds x d).2 := by
  unfold dPut
  split
  · exact r.dset rv
  · exact r.append (.one rv)
theorem dc_it {J : It} {n : Nat} {G : Hp → Prop} {Y : Nat → Hp → V → Hp → Prop} (w : Walk J n G Y) {g : TG} {tt : TT} {tk tv : TE} {vs : List Nat} {σ : St} {H1 : Hp} {D : Addr} {Qd : Hp → Prop} (Pv : Nat → Hp → Prop) (h0 : Pv 0 (upd H1 D (.dK []))) (hG : ∀ i H, i ≤ n → Pv i H → G H)
    (hs : ∀ i x H H', i < n → Pv i H → Y i H x H' → g x (wipe σ vs) H' fun σ2 H2 => wipe σ2 vs = wipe σ vs ∧ tt σ2 H2 fun b H3 =>
      if b = true then tk σ2 H3 fun y H4 => tv σ2 H4 fun z H5 => ∃ kvs k, y = kV k ∧ H5 D = some (.dK kvs) ∧ kvs.length < sizeLine ∧ Pv (i + 1) (upd H5 D (.dK (putK kvs k z))) else Pv (i + 1) H3) (hd : ∀ H, Pv n H → Qd H) :
    ∃ W : Nat → Nat → Hp → Prop, (∃ m, W 0 m (upd H1 D (.dK []))) ∧ ∀ i m H, W i m H →
      (J.stop i H ∧ Qd H) ∨ (J.go i H ∧ ∃ Nx : Hp → Prop, (∀ H', Nx H' → ∃ m', m' < m ∧ W (i + 1) m' H') ∧ ∀ x H', J.yld i H x H' → g x (wipe σ vs) H' fun σ2 H2 => wipe σ2 vs = wipe σ vs ∧ tt σ2 H2 fun b H3 =>
        if b = true then tk σ2 H3 fun y H4 => tv σ2 H4 fun z H5 => ∃ kvs k, y = kV k ∧ H5 D = some (.dK kvs) ∧ kvs.length < sizeLine ∧ Nx (upd H5 D (.dK (putK kvs k z))) else Nx H3) := by
  refine ⟨fun i m H => m = n - i ∧ i ≤ n ∧ Pv i H, ⟨n, by simp, Nat.zero_le _, h0⟩, ?_⟩
  rintro i m H ⟨rfl, hi, p⟩
  have q := hG i H hi p
  by_cases hlt : i < n
  · exact .inr ⟨w.goes i H hlt q, Pv (i + 1), fun H' p' => ⟨n - (i + 1), by omega, rfl, hlt, p'⟩, fun x H' y => hs i x H H' hlt p (w.yields i H x H' hlt q y)⟩
  · have e : i = n := by omega
    subst e
    exact .inl ⟨w.stops H q, hd H p⟩

section
variable {cf : Cf} {k : Nat} {c : Ctx} {o : Own} {e : Expr} {r : Cr} {X : Cx}
theorem dc_tr {A : Amb} (hA : A.K = X.K) {o o1 o2 o3 : Own} {kd l lk : Kd} {src t y e : Ex} {is : List Nat} {tt : Bool} (hm : AOk A c) (him : ∀ i, i ∈ is → i ∉ c.muts) (hio : ∀ i, i ∈ is → i ∉ o1) (ht1 : ∀ i, i ∈ tch t → i ∈ o1) (hy1 : ∀ i, i ∈ tch y → i ∈ o1) (he1 : ∀ i, i ∈ tch e → i ∈ o1)
    (ho2 : ∀ i, i ∈ o1 → i ∈ o2) (ny : ∀ i, lk ≠ .peek i) (nl : ∀ i, l ≠ .peek i) (hk : ∀ i, kd = .peek i → i ∉ tch t ∧ i ∉ tch y ∧ i ∉ tch e ∧ i ∈ o1) {σ : St} {H : Hp} {Q : VK}
    (q : tM A o o1 .fresh (tch (.dc y e is tt src t)) (evE cf (.dc y e is tt src t)) σ H Q) :
    tDc (SrcW A o o1 kd (tch src) tt (evI cf src)) (gTg X.K is tt) (tMT A o1 o2 (tch t) (evE cf t)) (tM A o2 o3 lk (tch y) (evE cf y)) (tM A o3 o1 l (tch e) (evE cf e)) is σ H Q := by
  obtain ⟨ex, env, d, env', r0, hev, q⟩ := q
  simp only [evE] at hev
  obtain ⟨⟨xs, e1⟩, g1, hev⟩ := bind_ok hev
  obtain ⟨⟨ks, ys, e2⟩, g2, hev⟩ := bind_ok hev
  obtain ⟨rfl, rfl⟩ : D.dct ks ys = d ∧ backE e1 e2 is = env' := by cases hev; exact ⟨rfl, rfl⟩
  refine ⟨ex, env, xs, e1, r0, g1, fun J H1 r1 f1 giv => fun aD nD => ?_⟩
  have nA : A.H0 aD = none := r1.ent.free nD
  have hp : ∀ i p, i ∈ is → (i, p) ∉ A.mp := fun i p hi z => him i hi (hm.1 i p z)
  have hEw : EX o1 (wipe σ is) = EX o1 σ := EX_eq fun i hi => by rw [wipe_get, if_neg fun z => hio i z hi]
  have hXw : XX o1 (wipe σ is) (fun a => ex a ∨ a = aD) = XX o1 σ (fun a => ex a ∨ a = aD) := by unfold XX; rw [hEw]
  have hsub : ∀ i, i ∈ tch t ++ (tch y ++ tch e) → i ∈ o1 := append_sub ht1 (append_sub hy1 he1)
  have hXex : ∀ b, XX o1 σ ex b → XX o1 σ (fun a => ex a ∨ a = aD) b := fun b z => z.imp id .inl
  have hdn : ∀ b, XX o1 σ (fun a => ex a ∨ a = aD) b → XX o1 σ ex b ∨ H1 b = none := fun b z => by
    rcases z with z | z | z
    · exact .inl (.inl z)
    · exact .inl (.inr z)
    · exact .inr (by rw [z]; exact nD)
  refine dc_it giv (fun i H2 => ∃ envi ka acc vs, H2 aD = some (.dK (kvZ ka vs)) ∧ R A (fun a => ex a ∨ a = aD) o1 (wipe σ is) H2 envi ∧ Reps A.K (XX o1 σ fun a => ex a ∨ a = aD) H2 vs acc ∧
    dcLoop (fun v => evE cf y v) (fun v => evE cf e v) (fun v => evE cf t v) is tt (xs.drop i) envi ka acc = .ok (ks, ys, e2) ∧ Frame (EX (tch t ++ (tch y ++ tch e)) σ) H1 H2) ?_ ?_ ?_ ?_
  · exact ⟨wipeE e1 is, [], [], [], upd_same, (r1.shut nD _).wipe hio hp, .nil, g2, Frame.new nD⟩
  · rintro i H2 _ ⟨_, _, _, _, _, _, _, _, f⟩
    refine f.mono fun b z => ⟨.inl (EX.sub hsub b z), ?_⟩
    rintro ⟨j, ej, sj⟩
    obtain ⟨n1, n2, n3, n4⟩ := hk j ej
    obtain ⟨m, hm1, hm2⟩ := z
    obtain rfl := r1.inj m j b (hsub m hm1) n4 hm2 sj
    rcases List.mem_append.mp hm1 with z | z
    · exact n1 z
    · rcases List.mem_append.mp z with z | z
      · exact n2 z
      · exact n3 z
  · rintro i x H2 H3 hi ⟨envi, ka, acc, vs, hD, rr, hv, hl, f⟩ ⟨sm, yd⟩
    obtain ⟨di, hdi⟩ : ∃ di, xs[i]? = some di := ⟨xs[i], by simp [hi]⟩
    have hdrop : xs.drop i = di :: xs.drop (i + 1) := by
      rw [List.drop_eq_getElem_cons hi]
      rw [List.getElem?_eq_getElem hi] at hdi
      rw [Option.some.inj hdi]
    rw [hdrop] at hl
    simp only [dcLoop] at hl
    cases htg : tgF is tt di envi with
    | none => rw [htg] at hl; cases hl
    | some env1 =>
      rw [htg] at hl
      dsimp only at hl
      have yd' := yd (XX o1 σ fun a => ex a ∨ a = aD) di hXex hdn hdi
      have r3 := rr.keep sm
      rw [← hA]
      refine r3.tg htg (by rw [hXw]; exact yd') hio hp fun σ1 r4 hoff hlen => ?_
      have hw : wipe σ1 is = wipe σ is := by
        apply List.ext_getElem?
        intro j
        rw [wipe_get, wipe_get, hlen, wipe_length]
        by_cases hj : j ∈ is
        · rw [if_pos hj, if_pos hj]
        · rw [if_neg hj, if_neg hj, hoff j hj, wipe_get, if_neg hj]
      have hEs : ∀ tc : List Nat, (∀ j, j ∈ tc → j ∈ o1) → EX tc σ1 = EX tc σ := fun tc h => EX_eq fun j hj => by rw [hoff j fun z => hio j z (h j hj), wipe_get, if_neg fun z => hio j z (h j hj)]
      have hE1 : EX o1 σ1 = EX o1 σ := hEs o1 fun _ h => h
      have hE1t := hEs _ ht1
      have hE1y := hEs _ hy1
      have hE1e := hEs _ he1
      have hX1 : XX o1 σ1 (fun a => ex a ∨ a = aD) = XX o1 σ (fun a => ex a ∨ a = aD) := by unfold XX; rw [hE1]
      have notD : ∀ tc : List Nat, (∀ j, j ∈ tc → j ∈ o1) → ¬ EX tc σ1 aD := fun tc hs z => r4.dis aD (EX.sub hs aD z) (.inr rfl)
      refine ⟨hw, ?_⟩
      cases htv : evE cf t env1 with
      | err _ => simp only [htv] at hl; cases hl
      | stuck => simp only [htv] at hl; cases hl
      | ok bv =>
        obtain ⟨bv, env2⟩ := bv
        simp only [htv] at hl
        refine ⟨_, env1, bv, env2, r4, htv, fun H4 f4 r5 => ?_⟩
        have hD3 : H3 aD = some (.dK (kvZ ka vs)) := sm _ _ hD
        have hD4 : H4 aD = some (.dK (kvZ ka vs)) := f4.keep _ _ hD3 (notD _ ht1)
        have ff4 : Frame (EX (tch t ++ (tch y ++ tch e)) σ) H1 H4 := (f.trans (.same sm)).trans ((by rw [← hE1t]; exact f4 : Frame (EX (tch t) σ) H3 H4).mono EX.inl)
        have hv4 : Reps A.K (XX o1 σ fun a => ex a ∨ a = aD) H4 vs acc := (hv.frame (Frame.same sm)).frame (f4.mono fun b z => by rw [hE1t] at z; exact .inl (EX.sub ht1 b z))
        dsimp only
        by_cases hb : truth bv = true
        · rw [if_pos hb]
          rw [if_pos hb] at hl
          cases hty : evE cf y env2 with
          | err _ => simp only [hty] at hl; cases hl
          | stuck => simp only [hty] at hl; cases hl
          | ok kv =>
            obtain ⟨kv, env3⟩ := kv
            simp only [hty] at hl
            cases kv <;> first | (cases hl; done) | skip
            rename_i kx
            dsimp only at hl
            refine stepV ny r5 hty fun w H5 r6 f6 v6 => ?_
            have hD5 : H5 aD = some (.dK (kvZ ka vs)) := f6.keep _ _ hD4 (notD _ hy1)
            have hv5 : Reps A.K (XX o1 σ fun a => ex a ∨ a = aD) H5 vs acc := hv4.frame (f6.mono fun b z => by rw [hE1y] at z; exact .inl (EX.sub hy1 b z))
            have ff5 : Frame (EX (tch t ++ (tch y ++ tch e)) σ) H1 H5 := ff4.trans ((by rw [← hE1y]; exact f6 : Frame (EX (tch y) σ) H4 H5).mono fun b z => EX.inr b (EX.inl b z))
            cases hte : evE cf e env3 with
            | err _ => simp only [hte] at hl; cases hl
            | stuck => simp only [hte] at hl; cases hl
            | ok xv =>
              obtain ⟨xv, env4⟩ := xv
              simp only [hte] at hl
              refine stepV nl r6 hte fun u H6 r7 f7 v7 => ?_
              have hD6 : H6 aD = some (.dK (kvZ ka vs)) := f7.keep _ _ hD5 (notD _ he1)
              split at hl
              · rename_i hlim
                obtain ⟨hlim, hlen2⟩ := hlim
                have hv6 : Reps A.K (XX o1 σ fun a => ex a ∨ a = aD) H6 vs acc := hv5.frame (f7.mono fun b z => by rw [hE1e] at z; exact .inl (EX.sub he1 b z))
                have hkl : ka.length = vs.length := by rw [hv6.length]; exact hlen2
                cases v6
                refine ⟨kvZ ka vs, .inr kx, rfl, hD6, ?_, wipeE env4 is, (dPut ka acc kx xv).1, (dPut ka acc kx xv).2, (dPut ka vs kx u).2, ?_, ?_, ?_, hl, ?_⟩
                · unfold kvZ
                  rw [List.length_zip, List.length_map, hkl, Nat.min_self, hv6.length]
                  exact lim_lt hlim
                · rw [upd_same, kvZ_put hkl, dPut_fst (vs := vs) (ws := acc) (z := xv)]
                · have := (r7.setEx (aD := aD) (.inr rfl) nA (.dK (putK (kvZ ka vs) (.inr kx) u))).wipe hio hp
                  rw [hw] at this
                  exact this
                · exact (hv6.dput (by rw [← hX1]; exact v7)).frame (Frame.set (.inr (.inr rfl)))
                · exact (ff5.trans ((by rw [← hE1e]; exact f7 : Frame (EX (tch e) σ) H5 H6).mono fun b z => EX.inr b (EX.inr b z))).updNew nD
              · cases hl
        · rw [if_neg hb]
          rw [if_neg hb] at hl
          refine ⟨wipeE env2 is, ka, acc, vs, hD4, ?_, hv4, hl, ff4⟩
          have := (r5.free ho2).wipe hio hp
          rw [hw] at this
          exact this
  · rintro H2 ⟨envi, ka, acc, vs, hD, rr, hv, hl, f⟩
    rw [List.drop_length] at hl
    simp only [dcLoop] at hl
    obtain ⟨rfl, rfl, rfl⟩ : ka = ks ∧ acc = ys ∧ envi = e2 := by cases hl; exact ⟨rfl, rfl, rfl⟩
    refine q (.ref aD) H2 (f1.cat f) ⟨fun a => ex a ∨ a = aD, fun a z => .inl z, fun a z => z.elim .inl fun e => .inr (by rw [e]; exact f1.free nD), ?_, aD, .dct ka, vs, acc, rfl, rfl, f1.free nD, .inr rfl, hD, hv.zd⟩
    refine rr.at (fun i hi => by rw [wipe_get, if_neg fun z => hio i z hi]) (fun i d hi e => ?_) (fun i hi => by rw [backE_get, if_neg fun z => hio i z hi]) (by rw [backE_len]; exact rr.len.trans (wipe_length σ is)) (wipe_length σ is).symm (fun i p h => by rw [wipe_get, if_neg fun z => hp i p z h])
    rw [hXw]
    rw [backE_get] at e
    split at e
    · split at e
      · have e' : e1[i]? = some (some d) := by
          cases h : e1[i]? with
          | none => rw [h] at e; cases e
          | some w => rw [h] at e; exact congrArg some (Option.some.inj e)
        obtain ⟨v, h1, h2⟩ := r1.non i d hi e'
        exact ⟨v, h1, (h2.grow hdn).frame (f.mono fun b z => .inl (EX.sub hsub b z))⟩
      · cases e
    · rename_i hn
      obtain ⟨v, h1, h2⟩ := rr.non i d hi e
      rw [wipe_get, if_neg hn] at h1
      exact ⟨v, h1, by rw [← hXw]; exact h2⟩
end
end Pv

set_option maxHeartbeats 1000000
/-! Own classes: attributes, new instances, methods. -/
namespace Pv
open PySem PySem.Spec PyProof.Rows L2

theorem zip_get {x : Str} : ∀ {ks : List Str} {vs : List V}, (ks.zip vs).lookup x = dGet ks vs x
  | [], vs => by cases vs <;> rfl
  | k :: ks, [] => rfl
  | k :: ks, v :: vs => by
    show List.lookup x ((k, v) :: ks.zip vs) = if k = x then some v else dGet ks vs x
    rw [List.lookup_cons]
    by_cases h : k = x
    · rw [if_pos h, h, beq_self_eq_true]
    · rw [if_neg h, beq_false_of_ne (Ne.symm h), zip_get]
theorem dGet_mem {α : Type} {x : Str} {v : α} : ∀ {ks : List Str} {vs : List α}, dGet ks vs x = some v → x ∈ ks
  | [], vs, h => by cases vs <;> cases h
  | k :: ks, [], h => by cases h
  | k :: ks, w :: vs, h => by
    unfold dGet at h
    by_cases e : k = x
    · rw [e]; exact List.mem_cons_self
    · rw [if_neg e] at h; exact List.mem_cons_of_mem _ (dGet_mem h)
theorem dGet_none {α : Type} {x : Str} {ks : List Str} {vs : List α} (h : x ∉ ks) : dGet ks vs x = none := by
  cases e : dGet ks vs x with
  | none => rfl
  | some v => exact absurd (dGet_mem e) h
theorem zip_put {x : Str} {v : V} : ∀ {ks : List Str} {vs : List V}, putF x v (ks.zip vs) = (oPut ks vs x v).1.zip (oPut ks vs x v).2
  | [], vs => by cases vs <;> rfl
  | k :: ks, [] => rfl
  | k :: ks, w :: vs => by
    show (if k = x then (k, v) :: ks.zip vs else (k, w) :: putF x v (ks.zip vs)) = _
    unfold oPut
    by_cases h : k = x
    · rw [if_pos h, if_pos h]; rfl
    · rw [if_neg h, if_neg h, zip_put]; rfl
theorem oPut_fst {α β : Type} {x : Str} {y : α} {z : β} : ∀ {ks : List Str} {vs : List α} {ws : List β}, vs.length = ws.length → (oPut ks vs x y).1 = (oPut ks ws x z).1
  | [], vs, ws, _ => by cases vs <;> cases ws <;> rfl
  | k :: ks, [], [], _ => rfl
  | k :: ks, [], _ :: _, h => by cases h
  | k :: ks, _ :: _, [], h => by cases h
  | k :: ks, v :: vs, w :: ws, h => by
    unfold oPut
    by_cases e : k = x
    · rw [if_pos e, if_pos e]
    · rw [if_neg e, if_neg e]
      exact congrArg (k :: ·) (oPut_fst (by simpa using h))
theorem oPut_mem {α : Type} {x : Str} {y : α} {z : Str} : ∀ {ks : List Str} {vs : List α}, z ∈ (oPut ks vs x y).1 → z = x ∨ z ∈ ks
  | [], vs, h => by cases vs <;> exact .inl (List.mem_singleton.mp h)
  | k :: ks, [], h => .inl (List.mem_singleton.mp h)
  | k :: ks, v :: vs, h => by
    unfold oPut at h
    by_cases e : k = x
    · rw [if_pos e] at h; exact .inr h
    · rw [if_neg e] at h
      rcases List.mem_cons.mp h with h | h
      · exact .inr (by rw [h]; exact List.mem_cons_self)
      · exact (oPut_mem h).imp id (List.mem_cons_of_mem _)
theorem Reps.oput {K : PySem.W.Frag} {Z : Addr → Prop} {H : Hp} {x : Str} {v : V} {d : D} (rv : Rep K Z H v d) : ∀ {ks : List Str} {vs : List V} {ds : List D}, Reps K Z H vs ds → Reps K Z H (oPut ks vs x v).2 (oPut ks ds x d).2
  | [], _, _, .nil => .cons rv .nil
  | [], _, _, .cons _ _ => .cons rv .nil
  | k :: ks, _, _, .nil => .cons rv .nil
  | k :: ks, _, _, .cons r t => by
    unfold oPut
    by_cases h : k = x
    · rw [if_pos h, if_pos h]; exact .cons rv t
    · rw [if_neg h, if_neg h]; exact .cons r (Reps.oput rv t)
/-- the tree of a method's call -/
theorem tree_of {o : Expr} {m : Str} {apos pos : Pos} {args : List Expr} {env : PySem.Env} (hbase : attributeBase o m env (eval o env) = eval o env)
    (hfew : ((backTo pos (starEach args env)).all (fun x => !x.1) && (backToKw pos (keywordEach [] env)).all (fun x => x.1.isSome)
      && decide (args.length + ([] : List Keyword).length + (if ([] : List Keyword).isEmpty then 0 else 1) < 30)) = true) (hline : (apos.endLine == pos.line) = true) :
    eval (.Call (.Attribute o m apos) args [] pos) env = (do
      let ov ← eval o env
      standAt apos.atName
      let (f, first) ← holding [ov] (getMethod ov m (do return (← importBound o env).getD true))
      callWith pos f first (backTo pos (starEach args env)) (backToKw pos (keywordEach [] env))) := by
  rw [arm_eval_Call, hbase]
  have hform : methodCallForm (args.length + ([] : List Keyword).length) (backTo pos (starEach args env)) (backToKw pos (keywordEach [] env)) = true := hfew
  unfold methodCall calleeOf
  rw [hform]
  have hpos : methodCallPos true o env apos pos = pure pos := by unfold methodCallPos; simp [hline]
  rw [hpos]
  rfl
theorem cls_uniq {K : PySem.W.Frag} {C C' : Addr} {nm : Str} {ks ks' : List Str} (h : ObF K C nm ks) (h' : ObF K C' nm ks') : C = C' := by
  have := h.ns.symm.trans h'.ns
  cases this
  rfl

section
variable {cf : Cf} {k : Nat} {c : Ctx} {o : Own} {e : Expr} {r : Cr} {X : Cx}
theorem snd_at {rec : Rec} (hrec : RecOk cf k rec) {a : Expr} {f : Str} {p : Pos} (hc0 : isCall0 a = false) (h : cAt rec c o a f = some r) : SndE cf k c o (.Attribute a f p) r := fun X ok A hA hM => by
  unfold cAt at h
  simp only [Option.bind_eq_bind, Option.bind_eq_some_iff] at h
  obtain ⟨⟨x, kx, o1⟩, hx, h⟩ := h
  cases h
  obtain ⟨sx, okx⟩ := hrec _ _ _ _ hx
  refine pimp (pe_fld (sx X ok A hA hM) (base_of hc0)) fun σ H Q q => ?_
  obtain ⟨ex, env, d, env', r0, hm, q⟩ := q
  simp only [evE] at hm
  obtain ⟨⟨xv, e1⟩, h1, hm⟩ := bind_ok hm
  obtain ⟨z, h2, hm⟩ := bind_ok hm
  cases hm
  have h2 := of_ok h2
  refine step r0 h1 fun v H1 r1 f1 v1 => ?_
  cases xv <;> first | (cases h2; done) | skip
  obtain ⟨p, C, dx, vs, rfl, hp, g, rs⟩ := v1.pk.obj
  obtain ⟨w, w1, w2⟩ := rs.dget _ (show dGet _ _ f = some d from h2)
  rw [hA] at g
  exact ⟨p, C, dx, _, w, rfl, hp, g.cf.cls, g.no f (dGet_mem w1), by rw [zip_get]; exact w1, q w H1 f1 (.mk0 r1 w2)⟩

/-! ### new instances -/
theorem args_len {rec : Rec} : ∀ (es : List Expr) (o : Own) (y : Ex) (o1 : Own), cArgs rec c o es = some (y, o1) → ∀ env xs e1, evA cf y env = .ok (xs, e1) → xs.length = es.length
  | [], o, y, o1, h, env, xs, e1, he => by
    simp only [cArgs] at h
    cases h
    simp only [evA] at he
    cases he
    rfl
  | a :: rest, o, y, o1, h, env, xs, e1, he => by
    simp only [cArgs, Option.bind_eq_bind, Option.bind_eq_some_iff] at h
    obtain ⟨⟨x, kx, oa⟩, hx, ⟨z, ob⟩, hz, h⟩ := h
    obtain ⟨ns, h⟩ := star_of h
    cases h
    simp only [evA] at he
    obtain ⟨⟨_, _⟩, _, he⟩ := bind_ok he
    obtain ⟨⟨_, _⟩, h2, he⟩ := bind_ok he
    cases he
    rw [List.length_cons, args_len rest _ _ _ hz _ _ _ h2, List.length_cons]
theorem snd_new {rec : Rec} (hrec : RecOk cf k rec) {x : Str} {es : List Expr} {G : CSig} {F : FSig} {y : Ex} {o1 : Own} {p pos : Pos} (hg : glB c.sc x = true) (hd : (!oddName x) = true) (hG : c.cls.lookup x = some G) (hF : G.init = some F) (hmu : F.muts = [0]) (hfr : F.fresh = false) (hl : es.length + 1 = F.np) (hp : 0 < es.length)
    (h : cArgs rec c o es = some (y, o1)) : SndE cf k c o (.Call (.Name x p) es [] pos) (.new x F.id y, .fresh, o1) := fun X ok A hA hM => by
  obtain ⟨a1, a2, a3, sa⟩ := snd_args hrec _ _ _ _ h
  obtain ⟨e, rest, rfl⟩ : ∃ e rest, es = e :: rest := by
    cases es with
    | nil => simp at hp
    | cons e rest => exact ⟨e, rest, rfl⟩
  obtain ⟨C, hm, hO, hI, _⟩ := ok.cls x G hG
  obtain ⟨f, M, fd, ps, hFn, hB, hps⟩ := hI F hF
  obtain ⟨n1, n2, n3⟩ := odd_no hd
  refine pimp (pe_make M hFn ok.room (gl_of ok hg) hm hB .nil passL (sa X ok A hA hM) n1 (starEach_cons (a3 e List.mem_cons_self)) (plain_any fun z hz => a3 z (List.mem_cons_of_mem e hz))) fun σ H Q q => ?_
  obtain ⟨ex, env, d, env', r0, hm', q⟩ := q
  simp only [evE] at hm'
  obtain ⟨⟨xs, e1⟩, g1, hm'⟩ := bind_ok hm'
  obtain ⟨⟨dd, os⟩, g2, hm'⟩ := bind_ok hm'
  obtain ⟨rfl, rfl, rfl⟩ : dd = .non ∧ os = [d] ∧ e1 = env' := by
    dsimp only at hm'
    split at hm'
    · rename_i ob
      cases hm'
      exact ⟨rfl, rfl, rfl⟩
    · cases hm'
  refine stepA r0 g1 fun vs H1 r1 f1 ra => fun xA dx hx hdx hne => ?_
  rw [List.append_nil]
  have hxl : xs.length = (e :: rest).length := args_len _ _ _ _ h _ _ _ g1
  have sm : Same H1 (upd (upd H1 dx (.own xA)) xA (.ins C dx [])) := fun b u e => by
    rw [upd_ne (ne_of_none e hx), upd_ne (ne_of_none e hdx)]; exact e
  have hxx : ∀ b, XX o1 σ ex b → b ≠ xA := fun b z e => by
    obtain ⟨u, hu⟩ := r1.trX b z
    rw [e, hx] at hu; cases hu
  refine spF_ok ⟨fun a => XX o1 σ ex a ∨ a = xA, .obj x [] [] :: xs, .non, [d], ?_, ⟨?_, fun a z => ?_, fun j dj hj e => ?_, fun j hj => ?_, fun i j p hi hj _ _ => ?_⟩, g2, fun Z1 v H' co => ?_⟩
  · rw [List.length_cons, ra.length, hxl, hl]
  · rw [List.length_cons, List.length_cons, ra.length]
  · rcases z with z | rfl
    · obtain ⟨u, hu⟩ := r1.trX a z
      exact ⟨u, sm _ _ hu⟩
    · exact ⟨_, upd_same⟩
  · rw [hmu] at hj
    cases j with
    | zero => exact absurd List.mem_cons_self hj
    | succ j =>
      have ra' : Reps X.K (fun a => XX o1 σ ex a ∨ a = xA) (upd (upd H1 dx (.own xA)) xA (.ins C dx [])) vs xs := by
        rw [← hA]
        exact (ra.grow fun b z => z.imp id fun e => by rw [e]; exact hx).frame (Frame.same sm)
      obtain ⟨v, w1, w2⟩ := ra'.get (i := j) (by simpa using e)
      exact ⟨v, by simpa using w1, w2⟩
  · rw [hmu] at hj
    obtain rfl := List.mem_singleton.mp hj
    exact ⟨xA, .obj C dx x [], [], [], rfl, .inr rfl, upd_same, ⟨.nil, ⟨hO.ns, hO.cf, fun f hf => by cases hf⟩⟩, rfl⟩
  · rw [hmu] at hi hj
    rw [List.mem_singleton.mp hi, List.mem_singleton.mp hj]
  · obtain ⟨p', sh, ws, es', t1, t2, t3, t4⟩ := co.outs 0 0 (by rw [hmu]; rfl)
    obtain rfl : xA = p' := by simpa using t1
    have t4 : d = Shp.d sh es' := by simpa using t4
    subst t4
    have hv : v = .non := by
      have := co.res
      rw [hfr] at this
      cases this
      rfl
    have sm2 : Same H1 H' := fun b u e => co.fr.keep b u (sm b u e) fun ⟨j, hj, ej⟩ => by
      rw [hmu] at hj
      obtain rfl := List.mem_singleton.mp hj
      have ej : V.ref xA = V.ref b := by simpa using ej
      cases ej
      rw [hx] at e; cases e
    refine ⟨hv, ?_⟩
    have rn := r1.touch (tc := []) (Z1 := Z1) (env' := e1) (Frame.same sm2) (fun i hi => by cases hi) (fun a z => co.up a (.inl z)) (fun a z => ?_) co.tr (fun i hi => by cases hi) (fun _ _ => rfl) rfl
    · have zz : ∀ b, XX o1 σ (fun a => Z1 a ∧ ¬ EX o1 σ a) b → Z1 b := fun b z => z.elim (fun q => co.up b (.inl (.inl q))) fun q => q.1
      refine q (.ref xA) H' (f1.trans (.same sm2)) ⟨fun a => Z1 a ∧ ¬ EX o1 σ a, fun a z => ⟨co.up a (.inl (.inr z)), fun w => r1.dis a w z⟩, fun a z => ?_, rn, xA, sh, ws, es', rfl, rfl, f1.free hx, ⟨co.up xA (.inr rfl), fun z => hxx xA (.inl z) rfl⟩, t2, by rw [hA]; exact t3.less zz⟩
      rcases co.dn a z.1 with (w | w) | w
      · exact w.elim (fun w => absurd w z.2) .inl
      · exact .inr (by rw [w]; exact f1.free hx)
      · refine .inr (f1.free ?_)
        cases hh : H1 a with
        | none => rfl
        | some u => rw [sm a u hh] at w; cases w
    · rcases co.dn a z with (w | w) | w
      · exact .inl w
      · exact .inr (by rw [w]; exact hx)
      · refine .inr ?_
        cases hh : H1 a with
        | none => rfl
        | some u => rw [sm a u hh] at w; cases w

/-! ### list(range(b)) -/
theorem Reps.rng {K : PySem.W.Frag} {Z : Addr → Prop} {H : Hp} {j : Int} : Reps K Z H (rgV 0 j) (rngL 0 j.toNat 1) := by
  have go : ∀ (l : List Nat), Reps K Z H (l.map fun i => V.int (0 + (i : Nat))) (l.map fun (k : Nat) => D.int (0 + (k : Int) * 1)) := by
    intro l
    induction l with
    | nil => exact .nil
    | cons a l ih =>
      simp only [List.map_cons]
      refine .cons ?_ ih
      rw [Int.mul_one]
      exact .int _
  unfold rgV rngL
  rw [Int.sub_zero]
  exact go _
theorem snd_lrng {rec : Rec} (hrec : RecOk cf k rec) (hst : ∀ c o e r, rec c o e = some r → isStar e = false) {x : Str} {es : List Expr} {p pos : Pos} (hg : glB c.sc x = true) (hn : c.nos.contains x = true) (h : cLRng rec c o x es = some r) : SndE cf k c o (.Call (.Name x p) es [] pos) r := fun X ok A hA hM => by
  unfold cLRng at h
  split at h
  · rename_i e
    split at h
    · rename_i hx
      obtain rfl := LawfulBEq.eq_of_beq hx
      simp only [Option.bind_eq_bind, Option.bind_eq_some_iff] at h
      obtain ⟨b, hb, ⟨y, ky, o1⟩, hy, h⟩ := h
      cases h
      unfold rngArg at hb
      split at hb
      · rename_i yn yp b' rp
        split at hb
        · rename_i hyn
          rw [Bool.and_eq_true] at hyn
          obtain rfl := LawfulBEq.eq_of_beq hyn.1
          cases hb
          obtain ⟨g1, g2, g3⟩ := bltB_of hyn.2
          obtain ⟨r', hr', _⟩ := Option.map_eq_some_iff.mp hy
          obtain ⟨sy, y1, y2, ny⟩ := rec_np hrec hy
          refine pimp (pe_listRg ok.rm.calm (gl_of ok hg) (nos_of ok hn) (prg_1 (gl_of ok g1) (nos_of ok g2) (sy X ok A hA hM) (starEach_cons (hst _ _ _ _ hr'))) (starEach_cons rfl)) fun σ H Q q => ?_
          obtain ⟨ex, env, d, env', r0, hm, q⟩ := q
          simp only [evE] at hm
          obtain ⟨⟨xv, e1⟩, h1, hm⟩ := bind_ok hm
          refine stepV ny r0 h1 fun v H1 r1 f1 v1 => ?_
          dsimp only at hm
          cases xv <;> first | (cases hm; done) | skip
          rename_i j
          cases v1
          dsimp only at hm
          split at hm
          · rename_i hbg
            rw [Bool.and_eq_true, decide_eq_true_eq] at hbg
            cases hm
            have hL : LIM = 1000000 := rfl
            have hb2 := of_decide_eq_true (show decide (-1000000000 ≤ j ∧ j ≤ 1000000000) = true from hbg.1)
            refine ⟨j, rfl, ⟨by omega, by omega, by omega, by omega, by omega⟩, fun qa hq => ?_⟩
            exact q _ _ (f1.trans (.new hq)) ⟨fun a => ex a ∨ a = qa, fun a z => .inl z, fun a z => z.elim .inl fun e => .inr (by rw [e]; exact f1.free hq), r1.shut hq _, qa, .lst, _, _, rfl, rfl, f1.free hq, .inr rfl, upd_same, Reps.rng.z⟩
          · cases hm
        · cases hb
      · cases hb
    · cases h
  · cases h

/-! ### methods -/
theorem ob_ok {nm m : Str} {d : D} (h : isOb nm m d = true) : ∃ ks ds, d = .obj nm ks ds ∧ m ∉ ks := by
  unfold isOb at h
  split at h
  · rw [Bool.and_eq_true, decide_eq_true_eq, Bool.not_eq_true'] at h
    obtain ⟨rfl, h⟩ := h
    exact ⟨_, _, rfl, fun z => by simp [z] at h⟩
  · cases h
/-- a method's call, from what its promise asks -/
theorem meth_rule (ok : XOk X c cf k) {nm m : Str} {G : CSig} {F : FSig} (hG : c.cls.lookup nm = some G) (hF : G.ms.lookup m = some F) {a : Expr} {es : List Expr} {ap cp : Pos} {ta : TE} {t : TA} (hc0 : isCall0 a = false) (hline : (ap.endLine == cp.line) = true) (hl : es.length < 28) (hst : ∀ z ∈ es, isStar z = false)
    (ha : PE X a ta) (ht : PA X es t) (mono : ∀ σ H Q Q', ta σ H Q → (∀ v H', Q v H' → Q' v H') → ta σ H Q') (hnil : es = [] → ∀ σ H Q, t σ H Q → Q [] H) :
    ∃ C, ObF X.K C nm G.as ∧ PE X (.Call (.Attribute a m ap) es [] cp) (tMeth C m (spF X.K X.mg c.exs cf F) [] E0 ta t) := by
  obtain ⟨C, hm, hO, _, hM⟩ := ok.cls nm G hG
  obtain ⟨f, M, fd, ps, hFn, hB, hps⟩ := hM m F hF
  refine ⟨C, hO, ?_⟩
  cases es with
  | nil =>
    refine pimp (pe_meth0 ha hO.cf.cls M hFn (ok.room.mono (by omega)) hB .nil passL (tree_of (base_of hc0) (by rfl) hline)) fun σ H Q q => ?_
    refine mono σ H _ _ q fun v H1 h => ?_
    obtain ⟨p, dx, fs, h1, h2, h3, h4⟩ := h
    exact ⟨p, dx, fs, h1, h2, h3, hnil rfl _ _ _ h4⟩
  | cons e rest =>
    exact pe_meth ha hO.cf.cls M hFn (ok.room.mono (by omega)) hB .nil passL ht (starEach_cons (hst e List.mem_cons_self)) (plain_any fun z hz => hst z (List.mem_cons_of_mem e hz)) (tree_of (base_of hc0) (few_of hst hl) hline)
theorem snd_methO {rec : Rec} (hrec : RecOk cf k rec) (hN : RecN rec) {a : Expr} {m nm : Str} {es : List Expr} {ap cp : Pos} (hc0 : isCall0 a = false) (hline : (ap.endLine == cp.line) = true) (hl28 : es.length < 28) (h : cMethO rec c o a m es nm = some r) : SndE cf k c o (.Call (.Attribute a m ap) es [] cp) r := fun X ok A hA hM => by
  unfold cMethO at h
  simp only [Option.bind_eq_bind, Option.bind_eq_some_iff, guard_eq] at h
  obtain ⟨G, hG, F, hF, _, hnp, h⟩ := h
  have hnp : es.length + 1 = F.np := LawfulBEq.eq_of_beq hnp
  split at h
  · rename_i hs
    rw [Bool.and_eq_true, List.isEmpty_iff] at hs
    obtain ⟨hsc, hmu⟩ := hs
    obtain ⟨⟨y, o1⟩, hy, h⟩ := Option.bind_eq_some_iff.mp h
    have hal := argsP_len (cf := cf) _ _ _ _ hy
    simp only [cArgsP, Option.bind_eq_bind, Option.bind_eq_some_iff, guard_eq] at hy
    obtain ⟨⟨x, kx, oa⟩, hx, ⟨z, ob⟩, hz, _, hk, hy⟩ := hy
    obtain ⟨ns, hy⟩ := star_of hy
    cases hy
    obtain ⟨sx, okx⟩ := hrec _ _ _ _ hx
    obtain ⟨x1, x2, _⟩ := okS_sub okx
    obtain ⟨z1, z2, z3, sz⟩ := snd_argsP hrec _ _ _ _ hz
    have hk := okPk_of hk
    obtain ⟨C, hO, pe⟩ := meth_rule (X := X) ok hG hF hc0 hline hl28 z3 (sx X ok A hA hM) (sz X ok A hA hM) (fun σ H Q Q' q w => tM.mono q w) (fun e σ H Q q => by
      subst e
      simp only [cArgsP] at hz
      cases hz
      obtain ⟨ex, env, ds, env', r0, hm, q⟩ := q
      simp only [evA] at hm
      cases hm
      exact q [] H (Frame.refl H) ⟨ex, fun _ z => z, fun _ z => .inl z, r0, by rw [if_pos rfl]; exact .nil⟩)
    -- what the evaluation tells
    have key : ∀ (w : D → Bool) (env env' : Env) (d : D) (g : Nat → Ex → Ex), (∀ es env, evE cf (g F.id es) env = (evA cf es env).bind fun (xs, e1) => (cf F.id xs).bind fun (d, os) => if w d then .ok (d, e1) else .stuck) → evE cf (.mth (g F.id (obE nm m (.cons x z)))) env = .ok (d, env') →
        ∃ xv e1 ys os, evE cf x env = .ok (xv, e1) ∧ isOb nm m xv = true ∧ evA cf z e1 = .ok (ys, env') ∧ cf F.id (xv :: ys) = .ok (d, os) ∧ w d = true ∧ evA cf (.cons x z) env = .ok (xv :: ys, env') := fun w env env' d g hg hm => by
      simp only [evE, obE, hg, evA] at hm
      obtain ⟨⟨xs, e2⟩, g1, hm⟩ := bind_ok hm
      obtain ⟨⟨d', os⟩, g2, hm⟩ := bind_ok hm
      dsimp only at hm
      split at hm
      · rename_i hw
        cases hm
        obtain ⟨⟨xv, e1⟩, g3, g4⟩ := bind_ok g1
        obtain ⟨⟨xv', e1'⟩, g5, g6⟩ := bind_ok g3
        dsimp only at g6
        split at g6
        · rename_i hob
          cases g6
          obtain ⟨⟨ys, e3⟩, g7, g8⟩ := bind_ok g4
          cases g8
          refine ⟨xv, e1, ys, os, g5, hob, g7, g2, hw, ?_⟩
          simp only [evA, g5, Out.bind, g7]
        · cases g6
      · cases hm
    have body : ∀ σ H (Q : VK) ex env env' (d : D) xv e1 ys, R A ex o σ H env → evE cf x env = .ok (xv, e1) → isOb nm m xv = true → evA cf z e1 = .ok (ys, env') → 
        (∀ vs H2, R A ex ob σ H2 env' → Frame (EX (tch x ++ tch z) σ) H H2 → Paired (Pk A.K (XX ob σ ex) H2) vs (xv :: ys) → spF X.K X.mg c.exs cf F vs H2 Q E0) → tMeth C m (spF X.K X.mg c.exs cf F) [] E0 (tM A o oa kx (tch x) (evE cf x)) (tMA A oa ob true (tch z) (evA cf z)) σ H Q := fun σ H Q ex env env' d xv e1 ys r0 g1 hob g2 hq => by
      refine step r0 g1 fun v H1 r1 f1 v1 => ?_
      obtain ⟨ks, ds, rfl, hmk⟩ := ob_ok hob
      obtain ⟨p, C', dx, vs0, rfl, hp, g, rs⟩ := v1.pk.obj
      rw [hA] at g
      obtain rfl := cls_uniq g hO
      refine ⟨p, dx, _, rfl, hp, by rw [zip_get]; exact dGet_none hmk, stepP r1 g2 fun vs H2 r2 f2 pk => ?_⟩
      have v2 := v1.after (o2 := ob) (ex1 := ex) r1 f2 (fun _ z => .inl z) (fun _ z => z) z2 z1 fun i hi => hk i (by
        cases kx with
        | peek j => exact hi
        | _ => cases hi)
      rw [List.append_nil]
      exact hq _ _ r2 (f1.cat f2) (.cons v2.pk pk)
    cases hfr : F.fresh with
    | true =>
      rw [hfr, if_pos rfl] at h
      cases h
      refine pimp pe fun σ H Q q => ?_
      obtain ⟨ex, env, d, env', r0, hm, q⟩ := q
      obtain ⟨xv, e1, ys, os, g1, hob, g2, g3, hw, hev⟩ := key scalL env env' d (fun f e => .callL f e) (fun es env => by simp only [evE]) hm
      exact body σ H Q ex env env' d xv e1 ys r0 g1 hob g2 fun vs H2 r2 f2 pk => callL_tail hA hmu hfr r2 pk (by rw [hal _ _ _ hev, List.length_cons, hnp]) f2 g3 hw fun v H' sm vr => q v H' (f2.trans (.same sm)) vr
    | false =>
      rw [hfr, if_neg (by simp)] at h
      cases h
      refine pimp pe fun σ H Q q => ?_
      obtain ⟨ex, env, d, env', r0, hm, q⟩ := q
      obtain ⟨xv, e1, ys, os, g1, hob, g2, g3, hw, hev⟩ := key scalD env env' d (fun f e => .callB f e) (fun es env => by simp only [evE]) hm
      exact body σ H Q ex env env' d xv e1 ys r0 g1 hob g2 fun vs H2 r2 f2 pk => callB_tail hA hmu r2 pk (by rw [hal _ _ _ hev, List.length_cons, hnp]) g3 hw fun v H' sm vr => q v H' (f2.trans (.same sm)) vr
  · obtain ⟨⟨y, o1⟩, hy, h⟩ := Option.bind_eq_some_iff.mp h
    obtain ⟨is, hi, h⟩ := Option.bind_eq_some_iff.mp h
    simp only [Option.bind_eq_some_iff, guard_eq] at h
    obtain ⟨_, him, h⟩ := h
    have him : is.map (·.1) = F.muts := LawfulBEq.eq_of_beq him
    have hal := argsM_len (cf := cf) _ _ _ _ _ hy
    obtain ⟨c1, c2, c3⟩ := cMuts_mem _ _ _ hi
    simp only [cArgsM, Option.bind_eq_bind, Option.bind_eq_some_iff] at hy
    obtain ⟨⟨x, kx, oa⟩, hx, ⟨z, ob⟩, hz, hy⟩ := hy
    unfold recM at hx
    obtain ⟨ns, hy⟩ := star_of hy
    have hi0 := hi
    simp only [cMuts, Option.bind_eq_bind, Option.bind_eq_some_iff] at hi
    obtain ⟨is', hi1, hi⟩ := hi
    cases hy
    cases h
    obtain ⟨z1, z2, z3, sz⟩ := snd_argsM hrec hN (oe := ob) es _ _ _ _ _ hz (fun _ w => w) hi1
    have hmem := (cMuts_mem _ _ _ hi1).1
    have key : ∀ (env env' : Env) (d : D), evE cf (.mth (.call F.id is (obE nm m (.cons x z)))) env = .ok (d, env') →
        ∃ xv e1 ys e2 os, evE cf x env = .ok (xv, e1) ∧ isOb nm m xv = true ∧ evA cf z e1 = .ok (ys, e2) ∧ cf F.id (patch e2 is (xv :: ys)) = .ok (d, os) ∧ setAll e2 (is.map (·.2)) os = env' ∧ evA cf (.cons x z) env = .ok (xv :: ys, e2) := fun env env' d hm => by
      simp only [evE, obE, evA] at hm
      obtain ⟨⟨xs, e2⟩, g1, hm⟩ := bind_ok hm
      obtain ⟨⟨d', os⟩, g2, hm⟩ := bind_ok hm
      obtain ⟨rfl, rfl⟩ : d' = d ∧ setAll e2 (is.map (·.2)) os = env' := by cases hm; exact ⟨rfl, rfl⟩
      obtain ⟨⟨xv, e1⟩, g3, g4⟩ := bind_ok g1
      obtain ⟨⟨xv', e1'⟩, g5, g6⟩ := bind_ok g3
      dsimp only at g6
      split at g6
      · rename_i hob
        cases g6
        obtain ⟨⟨ys, e3⟩, g7, g8⟩ := bind_ok g4
        cases g8
        refine ⟨xv, e1, ys, _, os, g5, hob, g7, g2, rfl, ?_⟩
        simp only [evA, g5, Out.bind, g7]
      · cases g6
    have nil_ok : es = [] → ∀ σ H Q, tMM A F.muts is' oa ob 1 (tch z) (evA cf z) σ H Q → Q [] H := fun e σ H Q q => by
      subst e
      simp only [cArgsM] at hz
      cases hz
      simp only [cMuts] at hi1
      cases hi1
      obtain ⟨ex, env, ds, env', r0, hm, q⟩ := q
      simp only [evA] at hm
      cases hm
      exact q [] H (Frame.refl H) r0 ⟨rfl, fun n d _ e => by simp at e, fun n i e => by simp at e⟩
    by_cases hc : F.muts.contains 0 = true
    · rw [if_pos hc] at hx hi
      obtain ⟨sx, okx⟩ := hrec _ _ _ _ hx
      obtain ⟨x1, x2, _⟩ := okS_sub okx
      split at hi
      · rename_i vn np _
        obtain ⟨i, hv, hi⟩ := Option.bind_eq_some_iff.mp hi
        split at hi
        · rename_i hg
          cases hi
          simp only [Bool.and_eq_true, Bool.not_eq_true'] at hg
          have hie : i ∈ ob := by simpa using hg.1
          have hx1 : x = .var i := hN _ _ _ _ _ hx i hv
          subst hx1
          obtain ⟨C, hO, pe⟩ := meth_rule (X := X) ok hG hF hc0 hline hl28 z3 (ta := tVar i) (varOf_spec ok (pos := np) hv) (sz X ok A hA hM) (fun σ H Q Q' q w => let ⟨v, e, q⟩ := q; ⟨v, e, w _ _ q⟩) nil_ok
          refine pimp pe fun σ H Q q => ?_
          obtain ⟨ex, env, d, env', r0, hm, q⟩ := q
          obtain ⟨xv, e1, ys, e2, os, g1, hob, g2, g3, rfl, hev⟩ := key env env' d hm
          have e1e : e1 = env ∧ env[i]? = some (some xv) := by
            simp only [evE] at g1
            split at g1 <;> first | contradiction | skip
            rename_i d' hd'
            cases g1
            exact ⟨rfl, hd'⟩
          obtain ⟨rfl, hxv⟩ := e1e
          have hi3 : i ∈ o := x1 i (z1 i hie)
          obtain ⟨p, sh0, vs0, ds0, s1, s2, s3, s4⟩ := r0.owl i hi3
          rw [s4] at hxv
          cases hxv
          obtain ⟨ks, ds, hod, hmk⟩ := ob_ok hob
          cases sh0 <;> cases hod
          rename_i C' dx
          have g := s3.ok
          rw [hA] at g
          obtain rfl := cls_uniq (show ObF X.K C' nm ks from g) hO
          refine ⟨_, s1, p, dx, _, rfl, s2, by rw [zip_get]; exact dGet_none hmk, ex, e1, ys, e2, r0.free x1, g2, fun vs H2 f2 r2 m2 => ?_⟩
          obtain ⟨m1, m2, m3⟩ := m2
          rw [List.append_nil]
          refine call_tail (tc := tch (.var i) ++ tch z) hA c1 c2 c3 him (hal _ _ _ hev) (by rw [List.length_cons, hnp]) (f2.mono EX.inr) r2 ⟨by rw [List.length_cons, List.length_cons, m1], fun n d hn' e => ?_, fun n i' hm => ?_⟩ g3 q
          · cases n with
            | zero => exact absurd (by simpa using hc) hn'
            | succ n =>
              obtain ⟨v, w1, w2⟩ := m2 n d (by rw [show 1 + n = 0 + (n + 1) by omega]; exact hn') (by simpa using e)
              exact ⟨v, by simpa using w1, w2⟩
          · cases n with
            | zero =>
              rcases List.mem_cons.mp hm with e | hm
              · cases e
                exact ⟨by simpa using s1, by simp⟩
              · have := (hmem _ _ hm).1
                omega
            | succ n =>
              rcases List.mem_cons.mp hm with e | hm
              · have := congrArg Prod.fst e
                simp at this
              · have := m3 n i' (by rw [show 1 + n = 0 + (n + 1) by omega]; exact hm)
                simpa using this
        · cases hi
      · cases hi
    · rw [if_neg hc] at hx hi
      cases hi
      obtain ⟨sx, x1, x2, nx⟩ := rec_np hrec hx
      obtain ⟨C, hO, pe⟩ := meth_rule (X := X) ok hG hF hc0 hline hl28 z3 (sx X ok A hA hM) (sz X ok A hA hM) (fun σ H Q Q' q w => tM.mono q w) nil_ok
      refine pimp pe fun σ H Q q => ?_
      obtain ⟨ex, env, d, env', r0, hm, q⟩ := q
      obtain ⟨xv, e1, ys, e2, os, g1, hob, g2, g3, rfl, hev⟩ := key env env' d hm
      refine stepV nx r0 g1 fun v H1 r1 f1 v1 => ?_
      obtain ⟨ks, ds, rfl, hmk⟩ := ob_ok hob
      obtain ⟨p, C', dx, vs0, rfl, hp, g, rs⟩ := v1.pk.obj
      rw [hA] at g
      obtain rfl := cls_uniq g hO
      refine ⟨p, dx, _, rfl, hp, by rw [zip_get]; exact dGet_none hmk, ex, e1, ys, e2, r1, g2, fun vs H2 f2 r2 m2 => ?_⟩
      obtain ⟨m1, m2, m3⟩ := m2
      rw [List.append_nil]
      refine call_tail (tc := tch x ++ tch z) hA c1 c2 c3 him (hal _ _ _ hev) (by rw [List.length_cons, hnp]) (f1.cat f2) r2 ⟨by rw [List.length_cons, List.length_cons, m1], fun n d hn' e => ?_, fun n i' hm => ?_⟩ g3 q
      · cases n with
        | zero =>
          obtain rfl : D.obj nm ks ds = d := by simpa using e
          exact ⟨_, by simp, keepV v1 f2 z2 z1⟩
        | succ n =>
          obtain ⟨v, w1, w2⟩ := m2 n d (by rw [show 1 + n = 0 + (n + 1) by omega]; exact hn') (by simpa using e)
          exact ⟨v, by simpa using w1, w2⟩
      · cases n with
        | zero =>
          have := (hmem _ _ hm).1
          omega
        | succ n =>
          have := m3 n i' (by rw [show 1 + n = 0 + (n + 1) by omega]; exact hm)
          simpa using this
end
end Pv

set_option maxHeartbeats 1000000
/-! Every compiled expression does what the small language says. -/
namespace Pv
open PySem PySem.Spec PyProof.Rows L2

structure RecG (cf : Cf) (k : Nat) (rec : Rec) (recT : RecT) : Prop where
  ok : RecOk cf k rec
  cn : RecC rec
  nm : RecN rec
  st : RecSt rec
  tok : RecTOk cf k recT
section
variable {cf : Cf} {k : Nat} {c : Ctx} {o : Own} {e : Expr} {r : Cr} {X : Cx} {rec : Rec} {recT : RecT}
theorem eq_of_beqL {a b : List Nat} (h : (a == b) = true) : a = b := LawfulBEq.eq_of_beq h
/-- the parts of a comprehension -/
theorem lc_parts (G : RecG cf k rec recT) {elt tg iter : Expr} {ifs : List Expr} {scope : Scope} (h : cLc rec recT c o elt tg iter ifs scope = some r) : ∃ e is tt src t kd l o1 o2 own, r = (.lc e is tt src t, .fresh, o1) ∧ is = own.map (·.2) ∧ isSetE iter = false ∧
    (∀ X : Cx, XOk X c cf k → BlkOk X.N X.env.scope scope own) ∧ (∀ X : Cx, XOk X c cf k → ∀ A : Amb, A.K = X.K → AOk A c → PI X tg iter (SrcW A o o1 kd (tch src) tt (evI cf src))) ∧
    (∀ X : Cx, XOk X (blkCtx c scope) cf k → PG X tg (gTg X.K is tt)) ∧ (∀ X : Cx, XOk X (blkCtx c scope) cf k → ∀ A : Amb, A.K = X.K → AOk A c → PTs X ifs (tMT A o1 o2 (tch t) (evE cf t))) ∧
    (∀ X : Cx, XOk X (blkCtx c scope) cf k → ∀ A : Amb, A.K = X.K → AOk A c → PE X elt (tM A o2 o1 l (tch e) (evE cf e))) ∧
    ∀ (X : Cx), XOk X c cf k → ∀ A : Amb, A.K = X.K → AOk A c → ∀ σ H Q, tM A o o1 .fresh (tch (.lc e is tt src t)) (evE cf (.lc e is tt src t)) σ H Q → tLc (SrcW A o o1 kd (tch src) tt (evI cf src)) (gTg X.K is tt) (tMT A o1 o2 (tch t) (evE cf t)) (tM A o2 o1 l (tch e) (evE cf e)) is σ H Q := by
  unfold cLc at h
  simp only [Option.bind_eq_bind, Option.bind_eq_some_iff, guard_eq] at h
  obtain ⟨⟨is, tt⟩, htg, _, hset, ⟨src, kd, o1⟩, hsrc, _, hdis, _, hblk, ⟨t, o2⟩, hif, ⟨e, l, o3⟩, he, _, hfin, h⟩ := h
  obtain ⟨se, e1, e2, ne⟩ := rec_np G.ok he
  simp only [Bool.and_eq_true] at hfin hblk
  obtain ⟨⟨h3, hk1⟩, hk2⟩ := hfin
  obtain rfl := eq_of_beqL h3
  have hk1 := okPk_of hk1
  have hk2 := okPk_of hk2
  have hown := of_decide_eq_true hblk.2
  have hio := nodup_all hdis
  cases h
  have htt : (∀ i, i ∈ o2 → i ∈ o3) ∧ (∀ i, i ∈ tch t → i ∈ o2) ∧ ∀ X : Cx, XOk X (blkCtx c scope) cf k → ∀ A : Amb, A.K = X.K → AOk A c → PTs X ifs (tMT A o3 o2 (tch t) (evE cf t)) := by
    split at hif
    · cases hif
      refine ⟨fun i hi => hi, fun i hi => by simp [tch] at hi, fun X ok A hA hM => ptimp pts_nil fun σ H Q q => ?_⟩
      obtain ⟨ex, env, d, env', r0, hm, q⟩ := q
      simp only [evE] at hm
      cases hm
      exact q _ (Frame.refl H) r0
    · obtain ⟨st, t1, t2⟩ := G.tok _ _ _ _ _ hif
      exact ⟨t1, t2, fun X ok A hA hM => pts_one (st X ok A hA hM)⟩
    · cases hif
  obtain ⟨t1, t2, st⟩ := htt
  have htup : tt = true → ∃ es j p, tg = .Tuple es j p := fun e => by
    unfold cTg at htg
    split at htg
    · obtain ⟨i, _, h2⟩ := Option.map_eq_some_iff.mp htg
      cases h2; cases e
    · exact ⟨_, _, _, rfl⟩
    · cases htg
  obtain ⟨s1, s2, si⟩ := snd_src G.ok G.st (tg := tg) hsrc htup
  have him : ∀ i, i ∈ is → i ∉ c.muts := by
    unfold cTg at htg
    have nm : ∀ (es : List Expr) (is : List Nat), namesOf (blkCtx c scope) es = some is → ∀ i, i ∈ is → i ∉ c.muts := by
      intro es
      induction es with
      | nil => intro is h i hi; simp only [namesOf] at h; cases h; cases hi
      | cons e es ih =>
        intro is h i hi
        cases e <;> first | (simp only [namesOf] at h; cases h; done) | skip
        simp only [namesOf, Option.bind_eq_bind, Option.bind_eq_some_iff, guard_eq] at h
        obtain ⟨j, h1, is', h2, _, _, h3⟩ := h
        cases h3
        rcases List.mem_cons.mp hi with rfl | hi
        · unfold stoOf at h1
          split at h1
          · obtain ⟨m, _, h4⟩ := Option.bind_eq_some_iff.mp h1
            split at h4
            · cases h4
            · rename_i hm; cases h4; exact fun z => hm (by simpa [blkCtx] using z)
          · cases h1
        · exact ih _ h2 i hi
    split at htg
    · obtain ⟨i, h1, h2⟩ := Option.map_eq_some_iff.mp htg
      cases h2
      intro j hj
      obtain rfl := List.mem_singleton.mp hj
      unfold stoOf at h1
      split at h1
      · obtain ⟨m, _, h4⟩ := Option.bind_eq_some_iff.mp h1
        split at h4
        · cases h4
        · rename_i hm; cases h4; exact fun z => hm (by simpa [blkCtx] using z)
      · cases h1
    · obtain ⟨is', h1, h2⟩ := Option.map_eq_some_iff.mp htg
      cases h2
      exact nm _ _ h1
    · cases htg
  refine ⟨e, is, tt, src, t, kd, l, o3, o2, ownOf c.N is, rfl, hown.symm, by simpa using hset, fun X ok => ?_, si, fun X ok => (cTg_spec ok htg).2.1, st, fun X ok A hA hM => se X ok A hA hM, fun X ok A hA hM σ H Q q => lc_tr hA hM him hio (fun i hi => t1 i (t2 i hi)) (fun i hi => t1 i (e2 i hi)) e1 e2 ne (fun i hi => ?_) q⟩
  · have := blkOk_by hblk.1
    rw [ok.N, ok.sc]
    exact this
  · exact ⟨(hk1 i hi).1, (hk2 i hi).1, (hk2 i hi).2⟩
/-- the parts of a comprehension -/
theorem dc_parts (G : RecG cf k rec recT) {kx elt tg iter : Expr} {ifs : List Expr} {scope : Scope} (h : cDc rec recT c o kx elt tg iter ifs scope = some r) : ∃ y e is tt src t kd lk l o1 o2 o3 own, r = (.dc y e is tt src t, .fresh, o1) ∧ is = own.map (·.2) ∧ isSetE iter = false ∧
    (∀ X : Cx, XOk X c cf k → BlkOk X.N X.env.scope scope own) ∧ (∀ X : Cx, XOk X c cf k → ∀ A : Amb, A.K = X.K → AOk A c → PI X tg iter (SrcW A o o1 kd (tch src) tt (evI cf src))) ∧
    (∀ X : Cx, XOk X (blkCtx c scope) cf k → PG X tg (gTg X.K is tt)) ∧ (∀ X : Cx, XOk X (blkCtx c scope) cf k → ∀ A : Amb, A.K = X.K → AOk A c → PTs X ifs (tMT A o1 o2 (tch t) (evE cf t))) ∧
    (∀ X : Cx, XOk X (blkCtx c scope) cf k → ∀ A : Amb, A.K = X.K → AOk A c → PE X kx (tM A o2 o3 lk (tch y) (evE cf y))) ∧ (∀ X : Cx, XOk X (blkCtx c scope) cf k → ∀ A : Amb, A.K = X.K → AOk A c → PE X elt (tM A o3 o1 l (tch e) (evE cf e))) ∧
    ∀ (X : Cx), XOk X c cf k → ∀ A : Amb, A.K = X.K → AOk A c → ∀ σ H Q, tM A o o1 .fresh (tch (.dc y e is tt src t)) (evE cf (.dc y e is tt src t)) σ H Q → tDc (SrcW A o o1 kd (tch src) tt (evI cf src)) (gTg X.K is tt) (tMT A o1 o2 (tch t) (evE cf t)) (tM A o2 o3 lk (tch y) (evE cf y)) (tM A o3 o1 l (tch e) (evE cf e)) is σ H Q := by
  unfold cDc at h
  simp only [Option.bind_eq_bind, Option.bind_eq_some_iff, guard_eq] at h
  obtain ⟨⟨is, tt⟩, htg, _, hset, ⟨src, kd, o1⟩, hsrc, _, hdis, _, hblk, ⟨t, o2⟩, hif, ⟨y, lk, o4⟩, hy, ⟨e, l, o3⟩, he, _, hfin, h⟩ := h
  obtain ⟨sy, y1, y2, ny⟩ := rec_np G.ok hy
  obtain ⟨se, e1, e2, ne⟩ := rec_np G.ok he
  simp only [Bool.and_eq_true] at hfin hblk
  obtain ⟨⟨h3, hk1⟩, hk3, hk2⟩ := hfin
  obtain rfl := eq_of_beqL h3
  have hk1 := okPk_of hk1
  have hk2 := okPk_of hk2
  have hk3 := okPk_of hk3
  have hown := of_decide_eq_true hblk.2
  have hio := nodup_all hdis
  cases h
  have htt : (∀ i, i ∈ o2 → i ∈ o3) ∧ (∀ i, i ∈ tch t → i ∈ o2) ∧ ∀ X : Cx, XOk X (blkCtx c scope) cf k → ∀ A : Amb, A.K = X.K → AOk A c → PTs X ifs (tMT A o3 o2 (tch t) (evE cf t)) := by
    split at hif
    · cases hif
      refine ⟨fun i hi => hi, fun i hi => by simp [tch] at hi, fun X ok A hA hM => ptimp pts_nil fun σ H Q q => ?_⟩
      obtain ⟨ex, env, d, env', r0, hm, q⟩ := q
      simp only [evE] at hm
      cases hm
      exact q _ (Frame.refl H) r0
    · obtain ⟨st, t1, t2⟩ := G.tok _ _ _ _ _ hif
      exact ⟨t1, t2, fun X ok A hA hM => pts_one (st X ok A hA hM)⟩
    · cases hif
  obtain ⟨t1, t2, st⟩ := htt
  have htup : tt = true → ∃ es j p, tg = .Tuple es j p := fun e => by
    unfold cTg at htg
    split at htg
    · obtain ⟨i, _, h2⟩ := Option.map_eq_some_iff.mp htg
      cases h2; cases e
    · exact ⟨_, _, _, rfl⟩
    · cases htg
  obtain ⟨s1, s2, si⟩ := snd_src G.ok G.st (tg := tg) hsrc htup
  have him : ∀ i, i ∈ is → i ∉ c.muts := by
    unfold cTg at htg
    have nm : ∀ (es : List Expr) (is : List Nat), namesOf (blkCtx c scope) es = some is → ∀ i, i ∈ is → i ∉ c.muts := by
      intro es
      induction es with
      | nil => intro is h i hi; simp only [namesOf] at h; cases h; cases hi
      | cons e es ih =>
        intro is h i hi
        cases e <;> first | (simp only [namesOf] at h; cases h; done) | skip
        simp only [namesOf, Option.bind_eq_bind, Option.bind_eq_some_iff, guard_eq] at h
        obtain ⟨j, h1, is', h2, _, _, h3⟩ := h
        cases h3
        rcases List.mem_cons.mp hi with rfl | hi
        · unfold stoOf at h1
          split at h1
          · obtain ⟨m, _, h4⟩ := Option.bind_eq_some_iff.mp h1
            split at h4
            · cases h4
            · rename_i hm; cases h4; exact fun z => hm (by simpa [blkCtx] using z)
          · cases h1
        · exact ih _ h2 i hi
    split at htg
    · obtain ⟨i, h1, h2⟩ := Option.map_eq_some_iff.mp htg
      cases h2
      intro j hj
      obtain rfl := List.mem_singleton.mp hj
      unfold stoOf at h1
      split at h1
      · obtain ⟨m, _, h4⟩ := Option.bind_eq_some_iff.mp h1
        split at h4
        · cases h4
        · rename_i hm; cases h4; exact fun z => hm (by simpa [blkCtx] using z)
      · cases h1
    · obtain ⟨is', h1, h2⟩ := Option.map_eq_some_iff.mp htg
      cases h2
      exact nm _ _ h1
    · cases htg
  refine ⟨y, e, is, tt, src, t, kd, lk, l, o3, o2, o4, ownOf c.N is, rfl, hown.symm, by simpa using hset, fun X ok => ?_, si, fun X ok => (cTg_spec ok htg).2.1, st, fun X ok A hA hM => sy X ok A hA hM, fun X ok A hA hM => se X ok A hA hM, fun X ok A hA hM σ H Q q => dc_tr hA hM him hio (fun i hi => t1 i (t2 i hi)) (fun i hi => t1 i (y2 i hi)) (fun i hi => t1 i (y1 i (e2 i hi))) (fun i hi => y1 i (e1 i hi)) ny ne (fun i hi => ?_) q⟩
  · have := blkOk_by hblk.1
    rw [ok.N, ok.sc]
    exact this
  · exact ⟨(hk1 i hi).1, (hk3 i hi).1, (hk2 i hi).1, (hk2 i hi).2⟩
theorem snd_lc (G : RecG cf k rec recT) {elt tg iter : Expr} {ifs : List Expr} {scope : Scope} {pos : Pos} (h : cLc rec recT c o elt tg iter ifs scope = some r) : SndE cf k c o (.ListComp elt [⟨tg, iter, ifs, 0⟩] scope pos) r := fun X ok A hA hM => by
  obtain ⟨e, is, tt, src, t, kd, l, o1, o2, own, rfl, rfl, hset, hb, hi, hg, ht, he, hw⟩ := lc_parts G h
  refine pimp (pe_lc (g := gTg X.K (own.map (·.2)) tt) ok.rm.calm (by rw [ok.N]; exact ok.nd) (hi X ok A hA hM) (hb X ok) (fun s H C cl fp => hg _ (blk_ok ok s H scope C cl fp)) (fun s H C cl fp => ht _ (blk_ok ok s H scope C cl fp) A hA hM) (fun s H C cl fp => he _ (blk_ok ok s H scope C cl fp) A hA hM) (folded_of hset X.env)) fun σ H Q q => ?_
  exact hw X ok A hA hM σ H Q q
theorem snd_dc (G : RecG cf k rec recT) {kx elt tg iter : Expr} {ifs : List Expr} {scope : Scope} {pos : Pos} (h : cDc rec recT c o kx elt tg iter ifs scope = some r) : SndE cf k c o (.DictComp kx elt [⟨tg, iter, ifs, 0⟩] scope pos) r := fun X ok A hA hM => by
  obtain ⟨y, e, is, tt, src, t, kd, lk, l, o1, o2, o3, own, rfl, rfl, hset, hb, hi, hg, ht, hy, he, hw⟩ := dc_parts G h
  refine pimp (pe_dc (g := gTg X.K (own.map (·.2)) tt) ok.rm.calm (by rw [ok.N]; exact ok.nd) (hi X ok A hA hM) (hb X ok) (fun s H C cl fp => hg _ (blk_ok ok s H scope C cl fp)) (fun s H C cl fp => ht _ (blk_ok ok s H scope C cl fp) A hA hM) (fun s H C cl fp => hy _ (blk_ok ok s H scope C cl fp) A hA hM) (fun s H C cl fp => he _ (blk_ok ok s H scope C cl fp) A hA hM) (folded_of hset X.env)) fun σ H Q q => ?_
  exact hw X ok A hA hM σ H Q q
theorem snd_dnew {pos : Pos} : SndE cf k c o (.Dict [] [] pos) (.dnew, .fresh, o) := fun X ok A hA hM => by
  refine pimp pe_dnewK fun σ H Q q => ?_
  obtain ⟨ex, env, d, env', r0, hm, q⟩ := q
  simp only [evE] at hm
  cases hm
  intro p n
  exact q _ _ (Frame.new n) ⟨fun a => ex a ∨ a = p, fun a z => .inl z, fun a z => z.elim .inl fun e => .inr (by rw [e]; exact n), r0.shut n _, p, .dct [], [], [], rfl, rfl, n, .inr rfl, upd_same, Reps.nil.zd⟩
theorem snd_callX (G : RecG cf k rec recT) {x : Str} {es : List Expr} {p pos : Pos} (h : cCall rec c o x es = some r) : SndE cf k c o (.Call (.Name x p) es [] pos) r := by
  unfold cCall at h
  split at h
  · rename_i hg
    rw [Bool.and_eq_true] at hg
    split at h
    · rename_i F hF
      split at h
      · rename_i hs
        rw [Bool.and_eq_true] at hs
        simp only [Option.bind_eq_bind, Option.bind_eq_some_iff, guard_eq] at h
        obtain ⟨_, hl, ⟨y, o1⟩, hy, h⟩ := h
        rw [Bool.and_eq_true, decide_eq_true_eq] at hl
        cases h
        exact snd_callB G.ok hg.1 hg.2 hF hs.1 (by simpa using hs.2) (LawfulBEq.eq_of_beq hl.1) hl.2 hy
      · simp only [Option.bind_eq_bind, Option.bind_eq_some_iff, guard_eq] at h
        obtain ⟨_, hl, ⟨y, o1⟩, hy, is, hi, _, hm, h⟩ := h
        rw [Bool.and_eq_true, decide_eq_true_eq] at hl
        cases h
        exact snd_call G.ok G.nm hg.1 hg.2 hF (LawfulBEq.eq_of_beq hl.1) hl.2 hy hi (eq_of_beqL hm)
    · split at h
      · rename_i G' hG
        simp only [Option.bind_eq_bind, Option.bind_eq_some_iff, guard_eq] at h
        obtain ⟨F, hF, _, hl, ⟨y, o1⟩, hy, h⟩ := h
        simp only [Bool.and_eq_true, Bool.not_eq_true', decide_eq_true_eq] at hl
        obtain ⟨⟨h1, h2⟩, h3, h4⟩ := hl
        cases h
        exact snd_new G.ok hg.1 hg.2 hG hF (eq_of_beqL h1) h2 (LawfulBEq.eq_of_beq h3) h4 hy
      split at h
      · rename_i hn
        split at h
        · rename_i hx
          obtain rfl := LawfulBEq.eq_of_beq hx
          split at h
          · simp only [Option.bind_eq_bind, Option.bind_eq_some_iff] at h
            obtain ⟨b, hb, ⟨y, ky, o1⟩, hy, h⟩ := h
            cases h
            exact snd_isa G.ok hg.1 hn (G.st _ _ _ _ hy) hb hy
          · cases h
        · rcases orElse_some h with h | h
          · exact snd_lrng G.ok G.st hg.1 hn h
          simp only [Option.bind_eq_bind, Option.bind_eq_some_iff] at h
          obtain ⟨b, hb, ⟨y, o1⟩, hy, h⟩ := h
          cases h
          exact snd_blt G.ok hg.1 hg.2 hn hb hy
      · cases h
  · cases h
theorem snd_methX (G : RecG cf k rec recT) {a : Expr} {m : Str} {es : List Expr} {ap cp : Pos} (hline : (ap.endLine == cp.line) = true) (hl28 : es.length < 28) (hc0 : isCall0 a = false) (h : cMeth rec c o a m es = some r) : SndE cf k c o (.Call (.Attribute a m ap) es [] cp) r := by
  unfold cMeth at h
  split at h
  · exact snd_methO G.ok G.nm hc0 hline hl28 h
  split at h
  · rename_i f hf
    split at h
    · simp only [Option.bind_eq_bind, Option.bind_eq_some_iff, guard_eq] at h
      obtain ⟨i, hv, _, hi, ⟨y, o1⟩, hy, _, hi1, h⟩ := h
      cases h
      exact snd_om G.ok hf hv hi hy hi1 hline
    · cases h
  · simp only [Option.bind_eq_bind, Option.bind_eq_some_iff] at h
    obtain ⟨b, hb, ⟨y, o1⟩, hy, h⟩ := h
    cases h
    exact snd_meth G.ok hb hy hline hc0
theorem snd_expr (G : RecG cf k rec recT) (h : cExpr rec recT c o e = some r) : SndE cf k c o e r := by
  unfold cExpr at h
  split at h
  · exact snd_name h
  · exact snd_const h
  · exact snd_bin G.ok h
  · exact snd_cmp G.ok G.cn h
  · exact snd_chain G.ok h
  · rename_i op a p
    unfold cUn at h
    split at h
    · simp only [Option.bind_eq_bind, Option.bind_eq_some_iff] at h
      obtain ⟨⟨x, kx, o1⟩, hx, h⟩ := h
      cases h
      exact snd_neg G.ok hx
    · simp only [Option.bind_eq_bind, Option.bind_eq_some_iff] at h
      obtain ⟨⟨x, kx, o1⟩, hx, h⟩ := h
      cases h
      exact snd_notV G.ok hx
    · cases h
  · obtain ⟨x, kd, o1⟩ := r
    exact (snd_bool G.ok _ _ _ _ _ h).1
  · exact snd_ifE G.ok G.tok h
  · obtain ⟨⟨y, o1⟩, h1, h2⟩ := Option.map_eq_some_iff.mp h
    cases h2
    exact snd_tup G.ok h1
  · obtain ⟨⟨y, o1⟩, h1, h2⟩ := Option.map_eq_some_iff.mp h
    cases h2
    exact snd_lst G.ok h1
  · exact snd_sub G.ok h
  · exact snd_callX G h
  · split at h
    · rename_i hg
      simp only [Bool.and_eq_true, Bool.not_eq_true', decide_eq_true_eq] at hg
      exact snd_methX G hg.1.1 hg.1.2 hg.2 h
    · cases h
  · split at h
    · rename_i hc
      exact snd_at G.ok (by simpa using hc) h
    · cases h
  · exact snd_lc G h
  · cases h
    exact snd_dnew
  · exact snd_dc G h
  · cases h
theorem rec0 : RecG cf k (compE 0) (compT 0) := by
  refine ⟨fun c o e r h => ?_, fun c o kc j pos r h => ?_, fun c o x p r h => ?_, fun c o e r h => ?_, fun c o e x o1 h => ?_⟩ <;> cases h
theorem recS {n : Nat} (G : RecG cf k (compE n) (compT n)) : RecG cf k (compE (n + 1)) (compT (n + 1)) := by
  refine ⟨fun c o e r h => ?_, fun c o kc j pos r h => ?_, fun c o x p r h i hi => ?_, fun c o e r h => ?_, fun c o e x o1 h => ?_⟩
  · unfold compE at h
    obtain ⟨r', h1, h2⟩ := Option.bind_eq_some_iff.mp h
    split at h2
    · rename_i hk
      cases h2
      exact ⟨snd_expr G h1, hk⟩
    · cases h2
  · unfold compE at h
    obtain ⟨r', h1, h2⟩ := Option.bind_eq_some_iff.mp h
    split at h2
    · cases h2
      exact h1
    · cases h2
  · unfold compE at h
    obtain ⟨r', h1, h2⟩ := Option.bind_eq_some_iff.mp h
    split at h2
    · cases h2
      have h1 : cName c o x = some r := h1
      unfold cName at h1
      rw [hi] at h1
      dsimp only at h1
      split at h1 <;> (cases h1; rfl)
    · cases h2
  · unfold compE at h
    obtain ⟨r', h1, h2⟩ := Option.bind_eq_some_iff.mp h
    cases e <;> first | rfl | (cases h1; done)
  · unfold compT at h
    obtain ⟨⟨x', o'⟩, h1, h2⟩ := Option.bind_eq_some_iff.mp h
    split at h2
    · rename_i hk
      cases h2
      rw [Bool.and_eq_true] at hk
      exact ⟨snd_test G.ok G.cn G.tok h1, sub_of hk.1, sub_of hk.2⟩
    · cases h2
theorem recG : ∀ n : Nat, RecG cf k (compE n) (compT n)
  | 0 => rec0
  | n + 1 => recS (recG n)
end
end Pv

set_option maxHeartbeats 1000000
/-! Statements: stores. -/
namespace Pv
open PySem PySem.Spec PyProof.Rows L2

/-- from (o, σ, H) to (o', σ', H') only owned lists changed, and what is owned was owned or is new -/
structure Sc (o : Own) (σ : St) (H : Hp) (o' : Own) (σ' : St) (H' : Hp) : Prop where
  fr : Frame (EX o σ) H H'
  nw : ∀ a, EX o' σ' a → EX o σ a ∨ H a = none
section
variable {A : Amb} {ex ex1 : Addr → Prop} {o o1 o2 o' : Own} {σ σ1 σ2 σ' : St} {H H1 H2 H' : Hp} {env env' : Env} {i : Nat} {v : V} {d : D} {kd : Kd} {tc : List Nat}
theorem Sc.refl : Sc o σ H o σ H := ⟨Frame.refl H, fun _ h => .inl h⟩
theorem Sc.trans (a : Sc o σ H o1 σ1 H1) (b : Sc o1 σ1 H1 o2 σ2 H2) : Sc o σ H o2 σ2 H2 := by
  refine ⟨⟨fun c u e n => ?_, fun c u e => ?_⟩, fun c h => ?_⟩
  · refine b.fr.keep c u (a.fr.keep c u e n) fun z => ?_
    rcases a.nw c z with q | q
    · exact n q
    · rw [q] at e; cases e
  · obtain ⟨u', e'⟩ := a.fr.there c u e
    exact b.fr.there c u' e'
  · rcases b.nw c h with q | q
    · exact a.nw c q
    · exact .inr (a.fr.free q)
theorem Sc.less (a : Sc o σ H o1 σ1 H1) (h : ∀ i, i ∈ o2 → i ∈ o1) : Sc o σ H o2 σ1 H1 := ⟨a.fr, fun c z => a.nw c (EX.sub h c z)⟩
theorem Sc.exp (f : Frame (EX tc σ) H H1) (h : ∀ i, i ∈ tc → i ∈ o) (h1 : ∀ i, i ∈ o1 → i ∈ o) : Sc o σ H o1 σ H1 := ⟨f.mono (EX.sub h), fun c z => .inl (EX.sub h1 c z)⟩
/-- slots that own nothing are changed -/
theorem Sc.slots (a : Sc o σ H o1 σ1 H1) (h : ∀ i, i ∈ o1 → σ2[i]? = σ1[i]?) : Sc o σ H o1 σ2 H1 := ⟨a.fr, fun c z => a.nw c (by rw [EX_eq h] at z; exact z)⟩
theorem rem_mem {i j : Nat} : j ∈ rem o i ↔ j ∈ o ∧ j ≠ i := by
  unfold rem
  rw [List.mem_filter]
  simp
/-- a new list goes to a slot -/
theorem R.own {p : Addr} {sh : Shp} {vs : List V} {ds : List D} (r0 : R A ex o σ H env) (r : R A ex1 o1 σ H' env') (up : ∀ a, ex a → ex1 a) (n : H p = none) (hp : ex1 p) (hl : H' p = some (sh.ho vs)) (hr : Repz A.K (XX o1 σ ex1) H' sh vs ds) (hi : i < σ.length) (hm : ∀ p, (i, p) ∉ A.mp) :
    R A ex (i :: rem o1 i) (σ.set i (some (V.ref p))) H' (env'.set i (some (sh.d ds))) := by
  have hσ : ∀ j, j ≠ i → (σ.set i (some (V.ref p)))[j]? = σ[j]? := fun j h => by rw [get_set, if_neg fun e => h e.symm]
  have hσi : (σ.set i (some (V.ref p)))[i]? = some (some (V.ref p)) := by rw [get_set, if_pos rfl, if_pos hi]
  have he : ∀ j, j ≠ i → (env'.set i (some (sh.d ds)))[j]? = env'[j]? := fun j h => by rw [get_set, if_neg fun e => h e.symm]
  have hei : (env'.set i (some (sh.d ds)))[i]? = some (some (sh.d ds)) := by rw [get_set, if_pos rfl, if_pos (by rw [r.len]; exact hi)]
  have hE : ∀ a, EX (i :: rem o1 i) (σ.set i (some (V.ref p))) a → a = p ∨ EX o1 σ a := fun a ⟨j, h1, h2⟩ => by
    by_cases e : j = i
    · subst e
      rw [hσi] at h2
      cases h2
      exact .inl rfl
    · rw [hσ j e] at h2
      rcases List.mem_cons.mp h1 with h1 | h1
      · exact absurd h1 e
      · exact .inr ⟨j, (rem_mem.mp h1).1, h2⟩
  have hX : ∀ a, XX (i :: rem o1 i) (σ.set i (some (V.ref p))) ex a → XX o1 σ ex1 a := fun a z => by
    rcases z with z | z
    · rcases hE a z with rfl | z
      · exact .inr hp
      · exact .inl z
    · exact .inr (up a z)
  refine ⟨by rw [List.length_set, List.length_set]; exact r.len, by rw [List.length_set]; exact r.ln, fun j dj hj e => ?_, fun j hj => ?_, fun a b q ha hb e1 e2 => ?_, r.ent, fun a h => ?_, fun a h => r.tr a (up a h), fun a h q => ?_, fun j q h => ?_⟩
  · have hji : j ≠ i := fun e' => hj (by rw [e']; exact List.mem_cons_self)
    rw [he j hji] at e
    obtain ⟨v, h1, h2⟩ := r.non j dj (fun z => hj (List.mem_cons_of_mem _ (rem_mem.mpr ⟨z, hji⟩))) e
    exact ⟨v, by rw [hσ j hji]; exact h1, h2.less hX⟩
  · by_cases hji : j = i
    · subst hji
      exact ⟨p, sh, vs, ds, hσi, hl, hr.less hX, hei⟩
    · have hj1 : j ∈ o1 := by
        rcases List.mem_cons.mp hj with h | h
        · exact absurd h hji
        · exact (rem_mem.mp h).1
      obtain ⟨q, sh', ws, es, h1, h2, h3, h4⟩ := r.owl j hj1
      exact ⟨q, sh', ws, es, by rw [hσ j hji]; exact h1, h2, h3.less hX, by rw [he j hji]; exact h4⟩
  · have mem : ∀ j, j ∈ i :: rem o1 i → j ≠ i → j ∈ o1 := fun j h n => by
      rcases List.mem_cons.mp h with h | h
      · exact absurd h n
      · exact (rem_mem.mp h).1
    by_cases ha' : a = i <;> by_cases hb' : b = i
    · rw [ha', hb']
    · subst ha'
      rw [hσi] at e1
      cases e1
      rw [hσ b hb'] at e2
      exact absurd hp (r.dis p ⟨b, mem b hb hb', e2⟩)
    · subst hb'
      rw [hσi] at e2
      cases e2
      rw [hσ a ha'] at e1
      exact absurd hp (r.dis p ⟨a, mem a ha ha', e1⟩)
    · rw [hσ a ha'] at e1
      rw [hσ b hb'] at e2
      exact r.inj a b q (mem a ha ha') (mem b hb hb') e1 e2
  · rcases hE a h with rfl | z
    · exact .inr (r0.ent.free n)
    · exact r.new a z
  · rcases hE a h with rfl | z
    · obtain ⟨o', e⟩ := r0.tr a q
      rw [n] at e; cases e
    · exact r.dis a z (up a q)
  · rw [hσ j fun e => hm q (by rw [← e]; exact h)]
    exact r.pin j q h
end

/-! ### what a statement is to do -/
/-- what a def's end is to show -/
def RetOk (A : Amb) (fr : Bool) (ex : Addr → Prop) (H' : Hp) (v : V) (d : D) (env' : Env) : Prop := ∃ Z1 : Addr → Prop, (∀ a, ex a → Z1 a) ∧ (∀ a, Z1 a → ex a ∨ A.M a ∨ A.H0 a = none) ∧ TrZ Z1 H' ∧ Frame A.M A.H0 H' ∧
  (∀ j p, (j, p) ∈ A.mp → ∃ sh ws es, H' p = some (Shp.ho sh ws) ∧ Repz A.K Z1 H' sh ws es ∧ env'[j]? = some (some (Shp.d sh es)) ∧ Z1 p) ∧
  if fr then ∃ p sh ws es, v = .ref p ∧ d = Shp.d sh es ∧ A.H0 p = none ∧ Z1 p ∧ H' p = some (Shp.ho sh ws) ∧ Repz A.K Z1 H' sh ws es else Rep A.K Z1 H' v d
theorem R.ret {A : Amb} {ex ex1 : Addr → Prop} {o1 : Own} {σ : St} {H H' : Hp} {env' : Env} {v : V} {d : D} {fr : Bool} {ms : List Nat} (r : R A ex1 o1 σ H' env') (ent : Frame A.M A.H0 H) (hm : ∀ i p, (i, p) ∈ A.mp → i ∈ ms) (hs : ∀ i, i ∈ ms → i ∈ o1) (up : ∀ a, ex a → ex1 a) (dn : ∀ a, ex1 a → ex a ∨ H a = none)
    (res : if fr then ∃ p sh ws es, v = .ref p ∧ d = Shp.d sh es ∧ A.H0 p = none ∧ XX o1 σ ex1 p ∧ H' p = some (Shp.ho sh ws) ∧ Repz A.K (XX o1 σ ex1) H' sh ws es else Rep A.K (XX o1 σ ex1) H' v d) : RetOk A fr ex H' v d env' := by
  refine ⟨XX o1 σ ex1, fun a z => .inr (up a z), fun a z => ?_, r.trX, r.ent, fun j p h => ?_, res⟩
  · rcases z with z | z
    · exact .inr (r.new a z)
    · exact (dn a z).imp id fun q => .inr (ent.free q)
  · have hj := hs j (hm j p h)
    obtain ⟨q, sh, vs, ds, h1, h2, h3, h4⟩ := r.owl j hj
    have := r.pin j p h
    rw [h1] at this
    cases this
    exact ⟨sh, vs, ds, h2, h3, h4, .inl ⟨j, hj, h1⟩⟩
/-- a wish of what leaves a statement by an exception -/
abbrev XV := Exn → St → Hp → Prop
/-- it, as the context takes it -/
def WV (X : Cx) (c : Ctx) (V : XV) : WX := fun cls d σ H => ∃ x, XIs X.K X.mg c.exs x cls d H ∧ V x σ H
def tSm (A : Amb) (V : XV) (c : Ctx) (o : Own) (l o' : Option Own) (m : Env → Fl) : TS := fun D σ H => ∃ ex env, R A ex o σ H env ∧
  match m env with
  | .nx env' => ∀ o1, o' = some o1 → ∀ σ' H', Sc o σ H o1 σ' H' → R A ex o1 σ' H' env' → D.nx σ' H'
  | .rt d env' => ∀ v H', RetOk A c.fresh ex H' v d env' → D.rt v H'
  | .bk env' => ∀ o1, l = some o1 → ∀ σ' H', Sc o σ H o1 σ' H' → R A ex o1 σ' H' env' → D.bk σ' H'
  | .ct env' => ∀ o1, l = some o1 → ∀ σ' H', Sc o σ H o1 σ' H' → R A ex o1 σ' H' env' → D.ct σ' H'
  | .er x env' => ∀ σ' H', R A ex [] σ' H' env' → V x σ' H'
  | .no => False
structure SOk (X : Cx) (c : Ctx) (cf : Cf) (k : Nat) (V : XV) : Prop where
  ok : XOk X c cf k
  ps : PassesOwn (model X.prog X.w) X.A X.env X.xe
  fn : c.sc.kind = .function
  tk : Takes X (WV X c V)
  hs : X.stack = X.env :: X.outer
  hf : X.env.frame = some X.env.locals
theorem psimp {X : Cx} {st : Stmt} {t t' : TS} (h : PS X st t) (w : ∀ D σ H, t' D σ H → t D σ H) : PS X st t' := ⟨fun pins s σ H D I q => h.run pins s σ H D I (w D σ H q)⟩
theorem psby {X : Cx} {st : Stmt} {t' : TS} (h : ∀ D σ H, t' D σ H → ∃ t, PS X st t ∧ t D σ H) : PS X st t' := ⟨fun pins s σ H D I q => let ⟨t, p, r⟩ := h D σ H q; p.run pins s σ H D I r⟩
theorem pssimp {X : Cx} {st : List Stmt} {t t' : TS} (h : PSs X st t) (w : ∀ D σ H, t' D σ H → t D σ H) : PSs X st t' := ⟨fun pins s σ H D I q => h.run pins s σ H D I (w D σ H q)⟩
/-- what is wanted of a statement's end -/
def Want (A : Amb) (V : XV) (c : Ctx) (o : Own) (l o' : Option Own) (ex : Addr → Prop) (D : Ends) (σ : St) (H : Hp) (f : Fl) : Prop := match f with
  | .nx env' => ∀ o1, o' = some o1 → ∀ σ' H', Sc o σ H o1 σ' H' → R A ex o1 σ' H' env' → D.nx σ' H'
  | .rt d env' => ∀ v H', RetOk A c.fresh ex H' v d env' → D.rt v H'
  | .bk env' => ∀ o1, l = some o1 → ∀ σ' H', Sc o σ H o1 σ' H' → R A ex o1 σ' H' env' → D.bk σ' H'
  | .ct env' => ∀ o1, l = some o1 → ∀ σ' H', Sc o σ H o1 σ' H' → R A ex o1 σ' H' env' → D.ct σ' H'
  | .er x env' => ∀ σ' H', R A ex [] σ' H' env' → V x σ' H'
  | .no => False
theorem Want.ok {A : Amb} {V : XV} {c : Ctx} {o : Own} {l o' : Option Own} {ex : Addr → Prop} {D : Ends} {σ : St} {H : Hp} {α : Type} {x : Out α} {env : Env} {f : α → Fl} (h : Want A V c o l o' ex D σ H (onOk x env f)) : ∃ a, x = .ok a ∧ Want A V c o l o' ex D σ H (f a) := by
  cases x with
  | ok a => exact ⟨a, rfl, h⟩
  | err e => exact h.elim
  | stuck => exact h.elim
theorem tSm_iff {A : Amb} {V : XV} {c : Ctx} {o : Own} {l o' : Option Own} {m : Env → Fl} {D : Ends} {σ : St} {H : Hp} : tSm A V c o l o' m D σ H ↔ ∃ ex env, R A ex o σ H env ∧ Want A V c o l o' ex D σ H (m env) := Iff.rfl

section
variable {cf : Cf} {k : Nat} {c : Ctx} {o : Own} {X : Cx} {n : Nat}
theorem comp_np {a : Expr} {x : Ex} {kd : Kd} {o1 : Own} (h : (compE n c o a).map noPk = some (x, kd, o1)) : SndE cf k c o a (x, kd, o1) ∧ (∀ i, i ∈ o1 → i ∈ o) ∧ (∀ i, i ∈ tch x → i ∈ o) ∧ ∀ i, kd ≠ .peek i := rec_np (recG n).ok h
theorem slot_lt {N : List Str} {x : Str} {i : Nat} (h : slotOf N x = some i) : i < N.length := by
  have := slotOf_spec h
  rw [List.getElem?_eq_some_iff] at this
  exact this.1
theorem stoOf_lt {x : Str} {i : Nat} (h : stoOf c x = some i) : i < c.N.length ∧ i ∉ c.muts ∧ c.N[i]? = some x ∧ locB c x = true := by
  unfold stoOf at h
  split at h
  · rename_i h1
    rw [Bool.and_eq_true] at h1
    obtain ⟨j, h2, h3⟩ := Option.bind_eq_some_iff.mp h
    split at h3
    · cases h3
    · rename_i hm
      cases h3
      exact ⟨slot_lt h2, by simpa using hm, slotOf_spec h2, h1.1⟩
  · cases h
theorem loc_of (ok : XOk X c cf k) {x : Str} (hl : locB c x = true) : L2.Loc X.env.scope x ∧ (X.fn x = true ∨ X.env.scope.names.lookup x = some .local) := by
  unfold locB at hl
  unfold L2.Loc
  rw [ok.sc, ok.fn]
  split at hl
  · exact ⟨.inl (by assumption), .inr (by assumption)⟩
  · exact ⟨.inr (by assumption), .inl hl⟩
  · cases hl
/-- a value that came goes to a slot -/
theorem set_end {A : Amb} (hM : AOk A c) {o1 : Own} {kd : Kd} {ex : Addr → Prop} {σ : St} {H H' : Hp} {env env' : Env} {v : V} {d : D} {i : Nat} {tc : List Nat} {l : Option Own} {D : Ends} {V : XV} (r0 : R A ex o σ H env) (hi : i < c.N.length) (him : i ∉ c.muts) (ho1 : ∀ i, i ∈ o1 → i ∈ o) (htc : ∀ i, i ∈ tc → i ∈ o) (hk : ∀ i, kd ≠ .peek i)
    (f : Frame (EX tc σ) H H') (vr : VR A kd ex o1 σ H H' v d env') (w : Want A V c o l (some (setOwn o1 i kd)) ex D σ H (.nx (env'.set i (some d)))) : D.nx (σ.set i (some v)) H' := by
  have hmp : ∀ p, (i, p) ∉ A.mp := fun p z => him (hM.1 i p z)
  have hil : i < σ.length := by rw [r0.ln, hM.2]; exact hi
  have val : kd = .val → D.nx (σ.set i (some v)) H' := fun e => by
    subst e
    obtain ⟨ra, va⟩ := vr.settleV r0.tr hk
    have hs : ∀ j, j ∈ rem o1 i → j ∈ o1 := fun j hj => (rem_mem.mp hj).1
    refine w _ rfl _ _ ?_ ((ra.free hs).setv (fun z => (rem_mem.mp z).2 rfl) (va.less fun b z => z.imp (EX.sub hs b) id) hmp)
    exact (Sc.exp f htc fun j hj => ho1 j (hs j hj)).slots fun j hj => by rw [get_set, if_neg fun e => (rem_mem.mp hj).2 e.symm]
  cases kd with
  | val => exact val rfl
  | peek j => exact absurd rfl (hk j)
  | fresh =>
    obtain ⟨ex1, u, dn, r1, p, sh, vs, ds, rfl, rfl, hn, hp, hl, hr⟩ := vr
    refine w _ rfl _ _ ⟨f.mono (EX.sub htc), fun a z => ?_⟩ (R.own r0 r1 u hn hp hl hr hil hmp)
    obtain ⟨j, h1, h2⟩ := z
    by_cases e : i = j
    · subst e
      rw [get_set, if_pos rfl, if_pos hil] at h2
      cases h2
      exact .inr hn
    · rw [get_set, if_neg e] at h2
      rcases List.mem_cons.mp h1 with h1 | h1
      · exact absurd h1.symm e
      · exact .inl ⟨j, ho1 j (rem_mem.mp h1).1, h2⟩
theorem swap_eq (ok : XOk X c cf k) {value : Expr} {t : Str} {tp : Pos} {line : Nat} (hv : isLcE value = false ∨ ∃ e g s p, value = .ListComp e g s p) : swapsWith value (some (.Name t tp)) line X.env = pure (swapB c value t tp) := by
  have hsc := ok.sc
  rcases hv with hv | ⟨e, g, s, p, rfl⟩
  · cases value <;> first | rfl | cases hv
  · unfold swapsWith swapB
    simp only [Expr.pos, Env.blockKind, Env.kindOf, hsc]
end
end Pv

set_option maxHeartbeats 1000000
/-! Exceptions: calls that let one out, raise, try. -/
namespace Pv
open PySem PySem.Spec PyProof.Rows L2

theorem errC_ok {cf : Cf} {f : Nat} {es : Ex} {env e1 : Env} {xs os : List D} {d : D} (h1 : evA cf es env = .ok (xs, e1)) (h2 : cf f xs = .ok (d, os)) : errC cf f es env = none := by
  unfold errC
  rw [h1]
  dsimp only
  rw [h2]
mutual
theorem errOf_ok {cf : Cf} : ∀ {e : Ex} {env : Env} {p : D × Env}, evE cf e env = .ok p → errOf cf e env = none
  | .call f ms es, env, p, h => by
    simp only [evE] at h
    obtain ⟨⟨xs, e1⟩, h1, h⟩ := bind_ok h
    obtain ⟨⟨d, os⟩, h2, h⟩ := bind_ok h
    simp only [errOf]
    split
    · rw [show patch e1 [] xs = xs from rfl] at h2
      rw [errA_ok h1, errC_ok h1 h2]
      rfl
    · rfl
  | .callB f es, env, p, h => by
    simp only [evE] at h
    obtain ⟨⟨xs, e1⟩, h1, h⟩ := bind_ok h
    obtain ⟨⟨d, os⟩, h2, h⟩ := bind_ok h
    simp only [errOf]
    rw [errA_ok h1, errC_ok h1 h2]
    rfl
  | .cmp o a b, env, p, h => by
    simp only [evE] at h
    obtain ⟨⟨x, e1⟩, h1, h⟩ := bind_ok h
    simp only [errOf]
    exact errOf_ok h1
  | .ob _ _ a, env, p, h => by
    simp only [evE] at h
    obtain ⟨⟨x, e1⟩, h1, h⟩ := bind_ok h
    simp only [errOf]
    exact errOf_ok h1
  | .mth e, env, p, h => by
    simp only [evE] at h
    simp only [errOf]
    exact errM_ok h
  | .lc e tg tt src t, env, p, h => by
    simp only [evE] at h
    obtain ⟨⟨xs, e1⟩, h1, h⟩ := bind_ok h
    simp only [errOf]
    exact errI_ok h1
  | .at _ _, _, _, _ | .new _ _ _, _, _, _ | .callL _ _, _, _, _ | .lrng _, _, _, _ => by simp only [errOf]
  | .var _, _, _, _ | .lit _, _, _, _ | .un _ _, _, _, _ | .bin _ _ _, _, _, _ | .chain _ _ _ _ _, _, _, _ | .and _ _, _, _, _ | .or _ _, _, _, _ | .not _, _, _, _ | .ite _ _ _, _, _, _ | .nil, _, _, _ | .cons _ _, _, _, _ | .tup _, _, _, _ | .lst _, _, _, _
  | .sl _ _ _, _, _, _ | .blt _ _, _, _, _ | .om _ _ _, _, _, _ | .dnew, _, _, _ | .dc _ _ _ _ _ _, _, _, _ | .sVal _, _, _, _ | .sRng1 _, _, _, _ | .sRng2 _ _, _, _, _ | .sRng3 _ _ _, _, _, _ | .sEnum _, _, _, _ | .sZip _ _, _, _, _ | .sRev _, _, _, _ | .sRevR _, _, _, _ => by simp only [errOf]
theorem errI_ok {cf : Cf} : ∀ {e : Ex} {env : Env} {p : List D × Env}, evI cf e env = .ok p → errI cf e env = none
  | .sVal a, env, p, h => by
    simp only [evI] at h
    obtain ⟨⟨x, e1⟩, h1, h⟩ := bind_ok h
    simp only [errI]
    exact errOf_ok h1
  | .at _ _, _, _, _ | .new _ _ _, _, _, _ | .callL _ _, _, _, _ | .ob _ _ _, _, _, _ | .mth _, _, _, _ | .lrng _, _, _, _ | .call _ _ _, _, _, _ | .callB _ _, _, _, _ | .cmp _ _ _, _, _, _ => by simp only [errI]
  | .var _, _, _, _ | .lit _, _, _, _ | .un _ _, _, _, _ | .bin _ _ _, _, _, _ | .chain _ _ _ _ _, _, _, _ | .and _ _, _, _, _ | .or _ _, _, _, _ | .not _, _, _, _ | .ite _ _ _, _, _, _ | .nil, _, _, _ | .cons _ _, _, _, _ | .tup _, _, _, _ | .lst _, _, _, _
  | .sl _ _ _, _, _, _ | .blt _ _, _, _, _ | .om _ _ _, _, _, _ | .lc _ _ _ _ _, _, _, _ | .dnew, _, _, _ | .dc _ _ _ _ _ _, _, _, _ | .sRng1 _, _, _, _ | .sRng2 _ _, _, _, _ | .sRng3 _ _ _, _, _, _ | .sEnum _, _, _, _ | .sZip _ _, _, _, _ | .sRev _, _, _, _ | .sRevR _, _, _, _ => by simp only [errI]
theorem errA_ok {cf : Cf} : ∀ {e : Ex} {env : Env} {p : List D × Env}, evA cf e env = .ok p → errA cf e env = none
  | .cons a r, env, p, h => by
    simp only [evA] at h
    obtain ⟨⟨x, e1⟩, h1, h⟩ := bind_ok h
    simp only [errA]
    exact errOf_ok h1
  | .at _ _, _, _, _ | .new _ _ _, _, _, _ | .callL _ _, _, _, _ | .ob _ _ _, _, _, _ | .mth _, _, _, _ | .lrng _, _, _, _ => by simp only [errA]
  | .var _, _, _, _ | .lit _, _, _, _ | .un _ _, _, _, _ | .bin _ _ _, _, _, _ | .chain _ _ _ _ _, _, _, _ | .and _ _, _, _, _ | .or _ _, _, _, _ | .not _, _, _, _ | .ite _ _ _, _, _, _ | .nil, _, _, _ | .call _ _ _, _, _, _ | .callB _ _, _, _, _ | .cmp _ _ _, _, _, _ | .tup _, _, _, _ | .lst _, _, _, _
  | .sl _ _ _, _, _, _ | .blt _ _, _, _, _ | .om _ _ _, _, _, _ | .lc _ _ _ _ _, _, _, _ | .dnew, _, _, _ | .dc _ _ _ _ _ _, _, _, _ | .sVal _, _, _, _ | .sRng1 _, _, _, _ | .sRng2 _ _, _, _, _ | .sRng3 _ _ _, _, _, _ | .sEnum _, _, _, _ | .sZip _ _, _, _, _ | .sRev _, _, _, _ | .sRevR _, _, _, _ => by simp only [errA]
theorem errM_ok {cf : Cf} : ∀ {e : Ex} {env : Env} {p : D × Env}, evE cf e env = .ok p → errM cf e env = none
  | .call f ms es, env, p, h => by
    simp only [evE] at h
    obtain ⟨⟨x, e1⟩, h1, h⟩ := bind_ok h
    simp only [errM]
    exact errA_ok h1
  | .callB f es, env, p, h => by
    simp only [evE] at h
    obtain ⟨⟨x, e1⟩, h1, h⟩ := bind_ok h
    simp only [errM]
    exact errA_ok h1
  | .callL f es, env, p, h => by
    simp only [evE] at h
    obtain ⟨⟨x, e1⟩, h1, h⟩ := bind_ok h
    simp only [errM]
    exact errA_ok h1
  | .at _ _, _, _, _ | .new _ _ _, _, _, _ | .ob _ _ _, _, _, _ | .mth _, _, _, _ | .lrng _, _, _, _ => by simp only [errM]
  | .var _, _, _, _ | .lit _, _, _, _ | .un _ _, _, _, _ | .bin _ _ _, _, _, _ | .chain _ _ _ _ _, _, _, _ | .and _ _, _, _, _ | .or _ _, _, _, _ | .not _, _, _, _ | .ite _ _ _, _, _, _ | .nil, _, _, _ | .cons _ _, _, _, _ | .cmp _ _ _, _, _, _ | .tup _, _, _, _ | .lst _, _, _, _
  | .sl _ _ _, _, _, _ | .blt _ _, _, _, _ | .om _ _ _, _, _, _ | .lc _ _ _ _ _, _, _, _ | .dnew, _, _, _ | .dc _ _ _ _ _ _, _, _, _ | .sVal _, _, _, _ | .sRng1 _, _, _, _ | .sRng2 _ _, _, _, _ | .sRng3 _ _ _, _, _, _ | .sEnum _, _, _, _ | .sZip _ _, _, _, _ | .sRev _, _, _, _ | .sRevR _, _, _, _ => by simp only [errM]
end
/-- the reading of a call that lets an exception out -/
def tErr (A : Amb) (V : XV) (o : Own) (cf : Cf) (e : Ex) : TE := fun σ H _ => ∃ ex env x e1, R A ex o σ H env ∧ errOf cf e env = some (x, e1) ∧ ∀ H', R A ex [] σ H' e1 → V x σ H'
section
variable {cf : Cf} {k : Nat} {c : Ctx} {o : Own} {X : Cx} {n : Nat} {A : Amb} {l : Option Own} {V : XV}
theorem call_ruleX (S : SOk X c cf k V) {x : Str} {F : FSig} (hF : c.fns.lookup x = some F) (hg : glB c.sc x = true) (hd : (!oddName x) = true) {e : Expr} {es : List Expr} {p pos : Pos} {t : TA} (ha : PA X (e :: es) t) (hst : ∀ z ∈ e :: es, isStar z = false) :
    PE X (.Call (.Name x p) (e :: es) [] pos) (tCallS (spF X.K X.mg c.exs cf F) (WE (WV X c V)) t) := by
  obtain ⟨f, fd, ps, h1, h2, h3, h4, h5⟩ := S.ok.fns x F hF
  obtain ⟨n1, n2, n3⟩ := odd_no hd
  exact pe_callS h3 (S.ok.room.mono (by omega)) (gl_of S.ok hg) h1 h2 h4 (fun σ => passAt S.tk σ) ha n1 (starEach_cons (hst e List.mem_cons_self)) (plain_any fun z hz => hst z (List.mem_cons_of_mem e hz))
theorem muts_nil : ∀ (es : List Expr) (j : Nat) {o : Own}, cMuts c o [] j es = some []
  | [], j, o => rfl
  | a :: r, j, o => by
    simp only [cMuts, muts_nil r]
    rfl
/-- what rec compiles lets out what errOf says -/
def ErrOk (X : Cx) (A : Amb) (V : XV) (cf : Cf) (c : Ctx) (rec : Rec) : Prop := ∀ o e r, rec c o e = some r → PE X e (tErr A V o cf r.1)
theorem noPk_fst' {r : Cr} {e : Ex} {kd : Kd} {o1 : Own} (h : noPk r = (e, kd, o1)) : r.1 = e := by
  have : (noPk r).1 = r.1 := by
    obtain ⟨x, k, o⟩ := r
    cases k <;> rfl
  rw [← this, h]
theorem cSrc_val {rec : Rec} {c : Ctx} {o : Own} {tt : Bool} {e : Expr} {y : Ex} {k : Kd} {o1 : Own} (h : cSrc rec c o tt e = some (.sVal y, k, o1)) : rec c o e = some (y, k, o1) := by
  have dflt : (rec c o e).map (fun (y, k, o1) => (Ex.sVal y, k, o1)) = some (.sVal y, k, o1) → rec c o e = some (y, k, o1) := fun h => by
    obtain ⟨⟨a, b, d⟩, h1, h2⟩ := Option.map_eq_some_iff.mp h
    simp only [Prod.mk.injEq, Ex.sVal.injEq] at h2
    obtain ⟨rfl, rfl, rfl⟩ := h2
    exact h1
  unfold cSrc at h
  split at h
  · split at h
    · split at h
      · split at h
        · simp only [Option.bind_eq_bind, Option.bind_eq_some_iff] at h
          obtain ⟨_, _, h⟩ := h
          cases h
        · split at h
          · simp only [Option.bind_eq_bind, Option.bind_eq_some_iff] at h
            obtain ⟨_, _, h⟩ := h
            cases h
          · split at h
            · unfold cRevR at h
              split at h
              · split at h
                · simp only [Option.bind_eq_bind, Option.bind_eq_some_iff] at h
                  obtain ⟨_, _, h⟩ := h
                  cases h
                · cases h
              · cases h
            · cases h
      · split at h
        · simp only [Option.bind_eq_bind, Option.bind_eq_some_iff] at h
          obtain ⟨_, _, _, _, h⟩ := h
          cases h
        · split at h
          · simp only [Option.bind_eq_bind, Option.bind_eq_some_iff] at h
            obtain ⟨_, _, _, _, h⟩ := h
            cases h
          · cases h
      · split at h
        · simp only [Option.bind_eq_bind, Option.bind_eq_some_iff] at h
          obtain ⟨_, _, _, _, _, _, h⟩ := h
          cases h
        · cases h
      · cases h
    · exact dflt h
  · exact dflt h
/-- what is walked raises -/
theorem src_err {rec : Rec} (he : ErrOk X A V cf c rec) {tt : Bool} {tg iter : Expr} {src : Ex} {kd : Kd} {o1 : Own} (h : cSrc rec c o tt iter = some (src, kd, o1)) {σ : St} {H : Hp} {ex : Addr → Prop} {env e1 : Env} {x : Exn} (r0 : R A ex o σ H env) (hE : errI cf src env = some (x, e1)) (q : ∀ H', R A ex [] σ H' e1 → V x σ H') :
    ∃ wi, PI X tg iter wi ∧ ∀ W, wi σ H W := by
  cases src <;> first | (simp only [errI] at hE; cases hE; done) | skip
  rename_i y
  simp only [errI] at hE
  exact ⟨_, pi_list (he _ _ _ (cSrc_val h)), fun W => ⟨ex, env, x, e1, r0, hE, q⟩⟩
theorem cLc_src {rec : Rec} {recT : RecT} {c : Ctx} {o : Own} {elt tg iter : Expr} {ifs : List Expr} {scope : Scope} {r : Cr} (h : cLc rec recT c o elt tg iter ifs scope = some r) {e src t : Ex} {is : List Nat} {tt : Bool} (hr : r.1 = .lc e is tt src t) : ∃ kd o1, cSrc rec c o tt iter = some (src, kd, o1) := by
  unfold cLc at h
  simp only [Option.bind_eq_bind, Option.bind_eq_some_iff, guard_eq] at h
  obtain ⟨⟨is', tt'⟩, htg, _, hset, ⟨src', k', o1'⟩, hsrc, _, _, _, _, ⟨t', o2'⟩, _, ⟨e', l', o3'⟩, _, _, _, h⟩ := h
  cases h
  simp only [Ex.lc.injEq] at hr
  obtain ⟨rfl, rfl, rfl, rfl, rfl⟩ := hr
  exact ⟨_, _, hsrc⟩
theorem err_callB {rec : Rec} (hrec : RecOk cf k rec) (he : ErrOk X A V cf c rec) (S : SOk X c cf k V) (hA : A.K = X.K) (hM : AOk A c) {x : Str} {es : List Expr} {F : FSig} {y : Ex} {o1 : Own} {p pos : Pos} (hg : glB c.sc x = true) (hd : (!oddName x) = true) (hF : c.fns.lookup x = some F) (hmu : F.muts = []) (hl : es.length = F.np) (hp : 0 < es.length)
    (h : cArgsP rec c o es = some (y, o1)) : PE X (.Call (.Name x p) es [] pos) (tErr A V o cf (.callB F.id y)) := by
  obtain ⟨h1, h2, h3, sa⟩ := snd_argsP hrec _ _ _ _ h
  obtain ⟨e, rest, rfl⟩ : ∃ e rest, es = e :: rest := by
    cases es with
    | nil => simp at hp
    | cons e rest => exact ⟨e, rest, rfl⟩
  have h' := h
  simp only [cArgsP, Option.bind_eq_bind, Option.bind_eq_some_iff, guard_eq] at h'
  obtain ⟨⟨x1, kx1, oa⟩, hx1, ⟨z1, ob⟩, hz1, _, _, h'⟩ := h'
  obtain ⟨_, h'⟩ := star_of h'
  obtain rfl : y = .cons x1 z1 := by cases h'; rfl
  obtain ⟨_, _, _, sr⟩ := snd_argsP hrec _ _ _ _ hz1
  refine pby fun σ H Q q => ?_
  obtain ⟨ex, env, xx, e1, r0, hE, q⟩ := q
  simp only [errOf, errA] at hE
  cases hf : errOf cf x1 env with
  | some pr =>
    rw [hf] at hE
    obtain rfl : pr = (xx, e1) := by cases hE; rfl
    exact ⟨_, call_ruleX S hF hg hd (pa_cons' (he _ _ _ hx1) (sr X S.ok A hA hM) (h3 e List.mem_cons_self)) h3, ex, env, xx, e1, r0, hf, q⟩
  | none =>
  rw [hf] at hE
  have he : errC cf F.id (.cons x1 z1) env = some (xx, e1) := hE
  refine ⟨_, call_ruleX S hF hg hd (sa X S.ok A hA hM) h3, ?_⟩
  unfold errC at he
  cases g1 : evA cf (.cons x1 z1) env with
  | err _ => rw [g1] at he; cases he
  | stuck => rw [g1] at he; cases he
  | ok pr =>
    obtain ⟨xs, e1'⟩ := pr
    rw [g1] at he
    dsimp only at he
    cases g2 : cf F.id xs with
    | ok _ => rw [g2] at he; cases he
    | stuck => rw [g2] at he; cases he
    | err x0 =>
      rw [g2] at he
      cases he
      refine stepP r0 g1 fun vs H1 r1 f1 pk => ?_
      have hlen : vs.length = xs.length := Paired.length pk
      refine ⟨fun _ => False, xs, by rw [hlen, argsP_len _ _ _ _ h _ _ _ g1, hl], ⟨hlen, fun a z => z.elim, fun j dj _ hj => ?_, fun j hj => ?_, fun i j p hi => ?_⟩, ?_⟩
      · obtain ⟨v, e1, e2⟩ := paired_get pk hj
        exact ⟨v, e1, by rw [← hA]; exact e2.free⟩
      · rw [hmu] at hj; cases hj
      · rw [hmu] at hi; cases hi
      · rw [g2]
        intro cls dx H' fr xi
        have sm : ∀ b u, H1 b = some u → H' b = some u := fun b u e => fr.keep b u e fun ⟨j, hj, _⟩ => by rw [hmu] at hj; cases hj
        exact ⟨_, xi, q H' ((r1.keep sm).free fun i hi => by cases hi)⟩
theorem err_call {rec : Rec} (hrec : RecOk cf k rec) (hN : RecN rec) (he : ErrOk X A V cf c rec) (S : SOk X c cf k V) (hA : A.K = X.K) (hM : AOk A c) {x : Str} {es : List Expr} {F : FSig} {y : Ex} {o1 : Own} {is : List (Nat × Nat)} {p pos : Pos} (hg : glB c.sc x = true) (hd : (!oddName x) = true) (hF : c.fns.lookup x = some F) (hl : es.length = F.np) (hp : 0 < es.length)
    (h : cArgsM rec c F.muts o 0 es = some (y, o1)) (hi : cMuts c o1 F.muts 0 es = some is) (him : is.map (·.1) = F.muts) : PE X (.Call (.Name x p) es [] pos) (tErr A V o cf (.call F.id is y)) := by
  obtain ⟨h1, h2, h3, sa⟩ := snd_argsM hrec hN (oe := o1) es o 0 y o1 is h (fun _ z => z) hi
  obtain ⟨e, rest, rfl⟩ : ∃ e rest, es = e :: rest := by
    cases es with
    | nil => simp at hp
    | cons e rest => exact ⟨e, rest, rfl⟩
  have h' := h
  simp only [cArgsM, Option.bind_eq_bind, Option.bind_eq_some_iff] at h'
  obtain ⟨⟨x1, kx1, oa⟩, hx1, ⟨z1, ob⟩, hz1, h'⟩ := h'
  obtain ⟨_, h'⟩ := star_of h'
  obtain rfl : y = .cons x1 z1 := by cases h'; rfl
  refine pby fun σ H Q q => ?_
  obtain ⟨ex, env, xx, e1, r0, hE, q⟩ := q
  cases is with
  | cons _ _ => simp only [errOf] at hE; cases hE
  | nil =>
    have hmu : F.muts = [] := him.symm
    simp only [errOf, errA] at hE
    cases hf : errOf cf x1 env with
    | some pr =>
      rw [hf] at hE
      obtain rfl : pr = (xx, e1) := by cases hE; rfl
      rw [hmu] at hz1 hx1
      obtain ⟨_, _, _, sr⟩ := snd_argsM (ms := []) (oe := []) hrec hN rest _ 1 z1 ob [] hz1 (fun i hi => by cases hi) (muts_nil rest 1)
      have hx1' : (rec c o e).map noPk = some (x1, kx1, oa) := hx1
      obtain ⟨r', hr', hpk⟩ := Option.map_eq_some_iff.mp hx1'
      have pe := he _ _ _ hr'
      rw [noPk_fst' hpk] at pe
      exact ⟨_, call_ruleX S hF hg hd (pa_cons' pe (sr X S.ok A hA hM) (h3 e List.mem_cons_self)) h3, ex, env, xx, e1, r0, hf, q⟩
    | none =>
    rw [hf] at hE
    have he : errC cf F.id (.cons x1 z1) env = some (xx, e1) := hE
    refine ⟨_, call_ruleX S hF hg hd (sa X S.ok A hA hM) h3, ?_⟩
    unfold errC at he
    cases g1 : evA cf (.cons x1 z1) env with
    | err _ => rw [g1] at he; cases he
    | stuck => rw [g1] at he; cases he
    | ok pr =>
      obtain ⟨xs, e1'⟩ := pr
      rw [g1] at he
      dsimp only at he
      cases g2 : cf F.id xs with
      | ok _ => rw [g2] at he; cases he
      | stuck => rw [g2] at he; cases he
      | err x0 =>
        rw [g2] at he
        cases he
        have hxl := argsM_len _ _ _ _ _ h _ _ _ g1
        refine ⟨ex, env, xs, _, r0, g1, fun vs H1 f1 r1 m => ?_⟩
        obtain ⟨m1, m2, m3⟩ := m
        refine ⟨XX o1 σ ex, xs, by rw [m1, hxl, hl], ⟨m1, r1.trX, fun j dj hj e => ?_, fun j hj => ?_, fun i j p hi' => ?_⟩, ?_⟩
        · obtain ⟨v, w1, w2⟩ := m2 j dj (by rw [Nat.zero_add]; exact hj) e
          exact ⟨v, w1, by rw [← hA]; exact w2⟩
        · rw [hmu] at hj; cases hj
        · rw [hmu] at hi'; cases hi'
        · rw [g2]
          intro cls dx H' fr xi
          have sm : ∀ b u, H1 b = some u → H' b = some u := fun b u e => fr.keep b u e fun ⟨j, hj, _⟩ => by rw [hmu] at hj; cases hj
          exact ⟨_, xi, q H' ((r1.keep sm).free fun i hi => by cases hi)⟩
/-- a method's call whose receiver raises -/
theorem err_meth {rec : Rec} (hrec : RecOk cf k rec) (hN : RecN rec) (he : ErrOk X A V cf c rec) (S : SOk X c cf k V) (hA : A.K = X.K) (hM : AOk A c) {a : Expr} {m nm : Str} {es : List Expr} {r : Cr} {ap cp : Pos} (hc0 : isCall0 a = false) (hline : (ap.endLine == cp.line) = true) (hl28 : es.length < 28) (h : cMethO rec c o a m es nm = some r) :
    PE X (.Call (.Attribute a m ap) es [] cp) (tErr A V o cf r.1) := by
  unfold cMethO at h
  simp only [Option.bind_eq_bind, Option.bind_eq_some_iff, guard_eq] at h
  obtain ⟨G, hG, F, hF, _, hnp, h⟩ := h
  split at h
  · obtain ⟨⟨y, o1⟩, hy, h⟩ := Option.bind_eq_some_iff.mp h
    simp only [cArgsP, Option.bind_eq_bind, Option.bind_eq_some_iff, guard_eq] at hy
    obtain ⟨⟨x, kx, oa⟩, hx, ⟨z, ob⟩, hz, _, hk, hy⟩ := hy
    obtain ⟨ns, hy⟩ := star_of hy
    cases hy
    obtain ⟨z1, z2, z3, sz⟩ := snd_argsP hrec _ _ _ _ hz
    obtain ⟨C, hO, pe⟩ := meth_rule (X := X) S.ok hG hF hc0 hline hl28 z3 (he _ _ _ hx) (sz X S.ok A hA hM) (fun σ H Q Q' q w => q) (fun e σ H Q q => by
      subst e
      simp only [cArgsP] at hz
      cases hz
      obtain ⟨ex, env, ds, env', r0, hm, q⟩ := q
      simp only [evA] at hm
      cases hm
      exact q [] H (Frame.refl H) ⟨ex, fun _ z => z, fun _ z => .inl z, r0, by rw [if_pos rfl]; exact .nil⟩)
    have fin : ∀ g : Ex, (∀ env, errOf cf g env = errOf cf x env) → PE X (.Call (.Attribute a m ap) es [] cp) (tErr A V o cf g) := fun g hg => by
      refine pimp pe fun σ H Q q => ?_
      obtain ⟨ex, env, xx, e1, r0, hE, q⟩ := q
      rw [hg] at hE
      exact ⟨ex, env, xx, e1, r0, hE, q⟩
    dsimp only at h
    split at h <;> (cases h; exact fin _ fun env => by simp only [errOf, errM, errA, obE])
  · obtain ⟨⟨y, o1⟩, hy, h⟩ := Option.bind_eq_some_iff.mp h
    obtain ⟨is, hi, h⟩ := Option.bind_eq_some_iff.mp h
    simp only [Option.bind_eq_some_iff, guard_eq] at h
    obtain ⟨_, him, h⟩ := h
    simp only [cArgsM, Option.bind_eq_bind, Option.bind_eq_some_iff] at hy
    obtain ⟨⟨x, kx, oa⟩, hx, ⟨z, ob⟩, hz, hy⟩ := hy
    unfold recM at hx
    obtain ⟨ns, hy⟩ := star_of hy
    simp only [cMuts, Option.bind_eq_bind, Option.bind_eq_some_iff] at hi
    obtain ⟨is', hi1, hi⟩ := hi
    cases hy
    cases h
    obtain ⟨z1, z2, z3, sz⟩ := snd_argsM hrec hN (oe := ob) es _ _ _ _ _ hz (fun _ w => w) hi1
    have pa : PE X a (tErr A V o cf x) := by
      split at hx
      · exact he _ _ _ hx
      · obtain ⟨r', hr', hpk⟩ := Option.map_eq_some_iff.mp hx
        have pe := he _ _ _ hr'
        rw [noPk_fst' hpk] at pe
        exact pe
    obtain ⟨C, hO, pe⟩ := meth_rule (X := X) S.ok hG hF hc0 hline hl28 z3 pa (sz X S.ok A hA hM) (fun σ H Q Q' q w => q) (fun e σ H Q q => by
      subst e
      simp only [cArgsM] at hz
      cases hz
      simp only [cMuts] at hi1
      cases hi1
      obtain ⟨ex, env, ds, env', r0, hm, q⟩ := q
      simp only [evA] at hm
      cases hm
      exact q [] H (Frame.refl H) r0 ⟨rfl, fun n d _ e => by simp at e, fun n i e => by simp at e⟩)
    refine pimp pe fun σ H Q q => ?_
    obtain ⟨ex, env, xx, e1, r0, hE, q⟩ := q
    simp only [errOf, errM, errA, obE] at hE
    exact ⟨ex, env, xx, e1, r0, hE, q⟩
theorem no_err {e : Expr} {x : Ex} (h : ∀ env, errOf cf x env = none) : PE X e (tErr A V o cf x) := by
  refine pby fun σ H Q q => ?_
  obtain ⟨ex, env, xx, e1, r0, he, q⟩ := q
  rw [h env] at he
  cases he
/-- whatever is compiled: what its outermost call lets out -/
theorem snd_errN (S : SOk X c cf k V) (hA : A.K = X.K) (hM : AOk A c) : ∀ n, ErrOk X A V cf c (compE n)
  | 0 => fun _ _ _ h => by cases h
  | n + 1 => fun o e r h => by
    have ih := snd_errN S hA hM n
    unfold compE at h
    obtain ⟨r', h1, h2⟩ := Option.bind_eq_some_iff.mp h
    split at h2
    · cases h2
      have G : RecG cf k (compE n) (compT n) := recG n
      unfold cExpr at h1
      split at h1
      · unfold cName at h1
        split at h1
        · split at h1 <;> (cases h1; exact no_err fun _ => by simp only [errOf])
        · split at h1
          · obtain ⟨d, _, h3⟩ := Option.map_eq_some_iff.mp h1
            cases h3
            exact no_err fun _ => by simp only [errOf]
          · cases h1
      · unfold cConst at h1
        split at h1
        · cases h1; exact no_err fun _ => by simp only [errOf]
        · cases h1; exact no_err fun _ => by simp only [errOf]
        · cases h1; exact no_err fun _ => by simp only [errOf]
        · split at h1
          · cases h1; exact no_err fun _ => by simp only [errOf]
          · cases h1
        · cases h1
      · unfold cBin at h1
        simp only [Option.bind_eq_bind, Option.bind_eq_some_iff, guard_eq] at h1
        obtain ⟨p, _, ⟨x, kx, oa⟩, _, ⟨y, ky, ob⟩, _, _, _, h1⟩ := h1
        dsimp only at h1
        split at h1
        · cases h1; exact no_err fun _ => by simp only [errOf]
        · cases h1; exact no_err fun _ => by simp only [errOf]
        · split at h1
          · cases h1
          · cases h1; exact no_err fun _ => by simp only [errOf]
      · obtain ⟨p, x, kd, o1, y, l, o2, F, hr, hF, hm, pa, pb, _⟩ := cmp_parts G.ok G.cn h1 X S.ok A hA hM
        unfold cCmp at h1
        simp only [Option.bind_eq_bind, Option.bind_eq_some_iff, guard_eq] at h1
        obtain ⟨p', hp, ⟨x', kx, oa⟩, hx, ⟨y', ky, ob⟩, hy, _, hk, _, hb, h1⟩ := h1
        cases h1
        cases hr
        obtain ⟨rr, hop, rule⟩ := hF
        refine pimp (pe_cmpR hop (ih _ _ _ hx) pb hm) fun σ H Q q => ?_
        obtain ⟨ex, env, xx, e1, r0, hE, q⟩ := q
        simp only [errOf] at hE
        exact ⟨ex, env, xx, e1, r0, hE, q⟩
      · unfold cChain at h1
        simp only [Option.bind_eq_bind, Option.bind_eq_some_iff, guard_eq] at h1
        obtain ⟨p, _, p', _, ⟨x, kx, oa⟩, _, ⟨y, ky, ob⟩, _, ⟨z, kz, oc⟩, _, _, _, h1⟩ := h1
        dsimp only at h1
        split at h1 <;> first | (cases h1; exact no_err fun _ => by simp only [errOf]) | cases h1
      · unfold cUn at h1
        split at h1
        · simp only [Option.bind_eq_bind, Option.bind_eq_some_iff] at h1
          obtain ⟨⟨x, kx, oa⟩, _, h1⟩ := h1
          cases h1; exact no_err fun _ => by simp only [errOf]
        · simp only [Option.bind_eq_bind, Option.bind_eq_some_iff] at h1
          obtain ⟨⟨x, kx, oa⟩, _, h1⟩ := h1
          cases h1; exact no_err fun _ => by simp only [errOf]
        · cases h1
      · rename_i op a b rest p
        simp only [cBool, Option.bind_eq_bind, Option.bind_eq_some_iff] at h1
        obtain ⟨⟨x, kx, oa⟩, _, ⟨y, ky, ob⟩, _, h1⟩ := h1
        cases op <;> (cases h1; exact no_err fun _ => by simp only [errOf])
      · unfold cIf at h1
        simp only [Option.bind_eq_bind, Option.bind_eq_some_iff] at h1
        obtain ⟨⟨x, oa⟩, _, ⟨y, ky, ob⟩, _, ⟨z, kz, oc⟩, _, h1⟩ := h1
        cases h1; exact no_err fun _ => by simp only [errOf]
      · obtain ⟨⟨y, o1⟩, h3, h4⟩ := Option.map_eq_some_iff.mp h1
        cases h4; exact no_err fun _ => by simp only [errOf]
      · obtain ⟨⟨y, o1⟩, h3, h4⟩ := Option.map_eq_some_iff.mp h1
        cases h4; exact no_err fun _ => by simp only [errOf]
      · unfold cSub at h1
        simp only [Option.bind_eq_bind, Option.bind_eq_some_iff] at h1
        obtain ⟨⟨x, kx, oa⟩, _, h1⟩ := h1
        split at h1
        · split at h1
          · simp only [Option.bind_eq_some_iff, guard_eq] at h1
            obtain ⟨⟨_, _⟩, _, ⟨_, _⟩, _, _, _, h1⟩ := h1
            cases h1; exact no_err fun _ => by simp only [errOf]
          · dsimp only at h1
            split at h1
            · cases h1; exact no_err fun _ => by simp only [errOf]
            · cases h1
        · simp only [Option.bind_eq_some_iff, guard_eq] at h1
          obtain ⟨⟨_, _, _⟩, _, _, _, h1⟩ := h1
          cases h1; exact no_err fun _ => by simp only [errOf]
      · rename_i x p es pos
        unfold cCall at h1
        split at h1
        · rename_i hg
          rw [Bool.and_eq_true] at hg
          split at h1
          · rename_i F hF
            split at h1
            · rename_i hs
              rw [Bool.and_eq_true] at hs
              simp only [Option.bind_eq_bind, Option.bind_eq_some_iff, guard_eq] at h1
              obtain ⟨_, hl, ⟨y, o1⟩, hy, h1⟩ := h1
              rw [Bool.and_eq_true, decide_eq_true_eq] at hl
              cases h1
              exact err_callB G.ok ih S hA hM hg.1 hg.2 hF (by simpa using hs.2) (LawfulBEq.eq_of_beq hl.1) hl.2 hy
            · simp only [Option.bind_eq_bind, Option.bind_eq_some_iff, guard_eq] at h1
              obtain ⟨_, hl, ⟨y, o1⟩, hy, is, hi, _, hm, h1⟩ := h1
              rw [Bool.and_eq_true, decide_eq_true_eq] at hl
              cases h1
              exact err_call G.ok G.nm ih S hA hM hg.1 hg.2 hF (LawfulBEq.eq_of_beq hl.1) hl.2 hy hi (eq_of_beqL hm)
          · split at h1
            · simp only [Option.bind_eq_bind, Option.bind_eq_some_iff, guard_eq] at h1
              obtain ⟨F, hF, _, hl, ⟨y, o1⟩, hy, h1⟩ := h1
              cases h1; exact no_err fun _ => by simp only [errOf]
            split at h1
            · split at h1
              · split at h1
                · simp only [Option.bind_eq_bind, Option.bind_eq_some_iff] at h1
                  obtain ⟨b, hb, ⟨y, ky, o1⟩, hy, h1⟩ := h1
                  cases h1; exact no_err fun _ => by simp only [errOf]
                · cases h1
              · rcases orElse_some h1 with h1 | h1
                · unfold cLRng at h1
                  split at h1
                  · split at h1
                    · simp only [Option.bind_eq_bind, Option.bind_eq_some_iff] at h1
                      obtain ⟨b, hb, ⟨y, ky, o1⟩, hy, h1⟩ := h1
                      cases h1; exact no_err fun _ => by simp only [errOf]
                    · cases h1
                  · cases h1
                simp only [Option.bind_eq_bind, Option.bind_eq_some_iff] at h1
                obtain ⟨b, hb, ⟨y, o1⟩, hy, h1⟩ := h1
                cases h1; exact no_err fun _ => by simp only [errOf]
            · cases h1
        · cases h1
      · split at h1
        · rename_i hg
          simp only [Bool.and_eq_true, Bool.not_eq_true', decide_eq_true_eq] at hg
          unfold cMeth at h1
          split at h1
          · exact err_meth G.ok G.nm ih S hA hM hg.2 hg.1.1 hg.1.2 h1
          split at h1
          · split at h1
            · simp only [Option.bind_eq_bind, Option.bind_eq_some_iff, guard_eq] at h1
              obtain ⟨i, hv, _, hi, ⟨y, o1⟩, hy, _, hi1, h1⟩ := h1
              cases h1; exact no_err fun _ => by simp only [errOf]
            · cases h1
          · simp only [Option.bind_eq_bind, Option.bind_eq_some_iff] at h1
            obtain ⟨b, hb, ⟨y, o1⟩, hy, h1⟩ := h1
            cases h1; exact no_err fun _ => by simp only [errOf]
        · cases h1
      · split at h1
        · unfold cAt at h1
          simp only [Option.bind_eq_bind, Option.bind_eq_some_iff] at h1
          obtain ⟨⟨x, kx, oa⟩, _, h1⟩ := h1
          cases h1; exact no_err fun _ => by simp only [errOf]
        · cases h1
      · obtain ⟨e', is, tt, src, t, kd, l', o1, o2, own, rfl, rfl, hset, hb, hpi, hg, ht, hel, hw⟩ := lc_parts G h1
        obtain ⟨kd', o1', hsrc⟩ := cLc_src h1 rfl
        refine pby fun σ H Q q => ?_
        obtain ⟨ex, env, xx, e1, r0, hE, q⟩ := q
        simp only [errOf] at hE
        obtain ⟨wi, hwi, hq⟩ := src_err ih hsrc r0 hE q
        exact ⟨_, pe_lc (g := gTg X.K (own.map (·.2)) tt) S.ok.rm.calm (by rw [S.ok.N]; exact S.ok.nd) hwi (hb X S.ok) (fun s H C cl fp => hg _ (blk_ok S.ok s H _ C cl fp)) (fun s H C cl fp => ht _ (blk_ok S.ok s H _ C cl fp) A hA hM) (fun s H C cl fp => hel _ (blk_ok S.ok s H _ C cl fp) A hA hM) (folded_of hset X.env), hq _⟩
      · cases h1
        exact no_err fun _ => by simp only [errOf]
      · obtain ⟨y, e', is, tt, src, t, kd, lk, l', o1, o2, o3, own, rfl, _⟩ := dc_parts G h1
        exact no_err fun _ => by simp only [errOf]
      · cases h1
    · cases h2
theorem snd_err (S : SOk X c cf k V) (hA : A.K = X.K) (hM : AOk A c) {e : Expr} {r : Cr} (h : compE n c o e = some r) : PE X e (tErr A V o cf r.1) := snd_errN S hA hM n _ _ _ h
end
end Pv

set_option maxHeartbeats 1000000
/-! raise; what an except suite hands back. -/
namespace Pv
open PySem PySem.Spec PyProof.Rows L2

theorem scal_any {K : PySem.W.Frag} {Z : Addr → Prop} {H : Hp} {v : V} {d : D} (h : Rep K Z H v d) (s : scalD d = true) : ∀ Z' H', Rep K Z' H' v d := fun _ _ => scal_same h s
theorem rai_fs {K : PySem.W.Frag} {Z : Addr → Prop} {H : Hp} {fs : List Str} {vs : List V} {xs : List D} (sh : (∃ f, fs = [f]) ∨ ∃ f g, fs = [f, g] ∧ f ≠ g) (rp : Reps K Z H vs xs) (sc : xs.all scalD = true) (hl : xs.length = fs.length) :
    ∀ f e, (fs.zip xs).lookup f = some e → f ∈ fs ∧ ∃ v, ((fs.zip vs).reverse).lookup f = some v ∧ ∀ Z H, Rep K Z H v e := by
  intro f e he
  rcases sh with ⟨a, rfl⟩ | ⟨a, b, rfl, hab⟩
  · cases rp with
    | nil => cases hl
    | cons r t =>
      cases t with
      | cons _ _ => simp at hl
      | nil =>
        simp only [List.all_cons, List.all_nil, Bool.and_true] at sc
        simp only [List.zip_cons_cons, List.zip_nil_right, List.lookup_cons, List.lookup_nil] at he
        split at he
        · rename_i hb
          cases he
          obtain rfl := LawfulBEq.eq_of_beq hb
          exact ⟨List.mem_cons_self, _, by simp, scal_any r sc⟩
        · cases he
  · cases rp with
    | nil => cases hl
    | cons r t =>
      cases t with
      | nil => simp at hl
      | cons r2 t =>
        cases t with
        | cons _ _ => simp at hl
        | nil =>
          simp only [List.all_cons, List.all_nil, Bool.and_true, Bool.and_eq_true] at sc
          simp only [List.zip_cons_cons, List.zip_nil_right, List.lookup_cons, List.lookup_nil] at he
          split at he
          · rename_i hb
            cases he
            obtain rfl := LawfulBEq.eq_of_beq hb
            refine ⟨List.mem_cons_self, _, ?_, scal_any r sc.1⟩
            have hf : (f == b) = false := beq_false_of_ne hab
            simp [List.lookup_cons, hf]
          · split at he
            · rename_i hb
              cases he
              obtain rfl := LawfulBEq.eq_of_beq hb
              exact ⟨List.mem_cons_of_mem _ List.mem_cons_self, _, by simp [List.lookup_cons], scal_any r2 sc.2⟩
            · cases he
section
variable {cf : Cf} {k : Nat} {c : Ctx} {o : Own} {X : Cx} {n : Nat} {A : Amb} {l : Option Own} {V : XV}
/-- raise C(..) -/
theorem snd_rai (S : SOk X c cf k V) (hA : A.K = X.K) (hM : AOk A c) {e : Expr} {s : Sm} {pos : Pos} (h : cRai n c o e = some s) : PS X (.Raise (some e) none pos) (tSm A V c o l none (evS cf s)) := by
  unfold cRai at h
  split at h
  · rename_i x p es cp
    simp only [Option.bind_eq_bind, Option.bind_eq_some_iff, guard_eq] at h
    obtain ⟨_, hg, G, hG, _, hl, ⟨y, o1⟩, hy, h⟩ := h
    rw [Bool.and_eq_true] at hg
    rw [Bool.and_eq_true, decide_eq_true_eq] at hl
    obtain ⟨hl, hp⟩ := hl
    have hl : es.length = G.fs.length := LawfulBEq.eq_of_beq hl
    cases h
    obtain ⟨C, hm, himp⟩ := S.ok.exs x G hG
    obtain ⟨cl, oex, sh, fI, fd, ps, iC, tI, F1, hb⟩ := himp fun z => by rw [z] at hl; simp at hl; rw [hl] at hp; simp at hp
    obtain ⟨h1, h2, h3, sa⟩ := snd_args (recG n (cf := cf) (k := k)).ok _ _ _ _ hy
    obtain ⟨n1, n2, n3⟩ := odd_no hg.2
    obtain ⟨a, rest, rfl⟩ : ∃ a rest, es = a :: rest := by
      cases es with
      | nil => simp at hp
      | cons e rest => exact ⟨e, rest, rfl⟩
    refine psimp (ps_raise S.ok.rm.calm S.tk (pmk_oex oex iC tI F1 (S.ok.room.mono (by omega)) hb .nil passL (gl_of S.ok hg.1) hm (sa X S.ok A hA hM) n1 (starEach_cons (h3 a List.mem_cons_self)) (plain_any fun z hz => h3 z (List.mem_cons_of_mem a hz)))) fun D σ H q => ?_
    obtain ⟨ex, env, r0, w⟩ := tSm_iff.mp q
    simp only [evS] at w
    obtain ⟨⟨xs, e1⟩, g1, w⟩ := w.ok
    dsimp only at w
    split at w
    · rename_i hs
      rw [Bool.and_eq_true] at hs
      have hxl : xs.length = G.fs.length := LawfulBEq.eq_of_beq hs.2
      refine stepA r0 g1 fun vs H1 r1 f1 rp => ?_
      have hvl : vs.length = G.fs.length := by rw [rp.length, hxl]
      have hsm : G.fs.length ≤ 2 := by
        rcases sh with ⟨_, e⟩ | ⟨_, _, e, _⟩ <;> (rw [e]; simp)
      refine ⟨by omega, fun a ha => ?_⟩
      rw [List.append_nil]
      refine ⟨a, C, vs, rfl, hvl, oex, cl.no, upd_same, fun dx H2 hdx hne h2a h2d ho => ⟨rfl, dx, _, h2a, h2d, ?_, ?_⟩⟩
      · rw [upd_ne hne] at hdx; exact hdx
      · have hd1 : H1 dx = none := by rw [upd_ne hne] at hdx; exact hdx
        have kp : ∀ b u, H1 b = some u → (upd (del H2 a) dx (.xd (G.fs.zip vs).reverse)) b = some u := fun b u e => by
          have hbd := ne_of_none e hd1
          have hba := ne_of_none e ha
          rw [upd_ne hbd, del_ne hba, ho b hba hbd, upd_ne hba]
          exact e
        refine ⟨⟨G.id, G.fs.zip xs⟩, ⟨x, G, C, dx, _, hG, rfl, cl, rfl, rfl, upd_same, ?_⟩, w σ _ ((r1.keep kp).free fun i hi => by cases hi)⟩
        rw [← hA]
        exact rai_fs sh rp hs.1 hxl
    · exact w.elim
  · cases h

/-! ### what an except suite hands back -/
/-- the exception's name, where the clause has one, stands for it -/
def Cond (c : Ctx) (nm : Option Str) (a : Addr) (σ : St) : Prop := ∀ n, nm = some n → ∃ i, slotOf c.N n = some i ∧ σ[i]? = some (some (.ref a))
section
variable {a : Addr} {oe : Obj} {cls : Value} {d : Option Addr} {pn : List (Addr × Obj)} {nm : Option Str}
def tHi (X : Cx) (c : Ctx) (nm : Option Str) (a : Addr) (cls : Value) (d : Option Addr) (h : Hi) : TE := fun σ H Q => Cond c nm a σ ∧ ∃ x, XIs X.K X.mg c.exs x cls d H ∧ ∃ r, evHi x h = some r ∧ ∀ v, (∀ Z H, Rep X.K Z H v r) → Q v H
def tHis (X : Cx) (c : Ctx) (nm : Option Str) (a : Addr) (cls : Value) (d : Option Addr) (hs : List Hi) : TA := fun σ H Q => Cond c nm a σ ∧ ∃ x, XIs X.K X.mg c.exs x cls d H ∧ ∃ r, evHis x hs = some r ∧ ∀ v, (∀ Z H, Reps X.K Z H v r) → Q v H
def tHx (X : Cx) (c : Ctx) (nm : Option Str) (a : Addr) (cls : Value) (d : Option Addr) (h : Hx) : TE := fun σ H Q => Cond c nm a σ ∧ ∃ x, XIs X.K X.mg c.exs x cls d H ∧ ∃ r Z, evH x h = some r ∧ TrZ Z H ∧ RD X.K Z H r Q
def tHs (X : Cx) (c : Ctx) (nm : Option Str) (h : Hx) (a : Addr) (cls : Value) (d : Option Addr) : TS := fun D σ H => Cond c nm a σ ∧ ∃ x, XIs X.K X.mg c.exs x cls d H ∧ ∃ r Z, evH x h = some r ∧ TrZ Z H ∧ RD X.K Z H r D.rt
def tHt (X : Cx) (c : Ctx) (nm : Option Str) (a : Addr) (cls : Value) (d : Option Addr) (cs : List Nat) : TT := fun σ H Q => Cond c nm a σ ∧ ∃ x, XIs X.K X.mg c.exs x cls d H ∧ Q (cs.all (subX x.cls)) H
/-- the name of the exception -/
theorem nm_var (S : SOk X c cf k V) {n : Str} {p : Pos} {i : Nat} (hv : slotOf c.N n = some i) (hl : c.sc.names.lookup n = some .local) (ho : (!oddName n) = true) : PE (X.suite a pn) (.Name n p) (tVar i) := by
  obtain ⟨n1, n2, _⟩ := odd_no ho
  refine pe_var (by show X.N[i]? = some n; rw [S.ok.N]; exact slotOf_spec hv) ?_ n1 n2
  show Vis X.env.scope n
  rw [S.ok.sc]
  exact .inl hl
theorem nm_ok {n : Str} (h : nmOk c (some n) = true) : ∃ i, slotOf c.N n = some i ∧ c.sc.names.lookup n = some .local ∧ (!oddName n) = true := by
  unfold nmOk at h
  rw [Bool.and_eq_true, decide_eq_true_eq] at h
  obtain ⟨i, hi⟩ := Option.isSome_iff_exists.mp h.1
  have hi' := hi
  unfold stoOf at hi'
  split at hi'
  · rename_i hb
    rw [Bool.and_eq_true] at hb
    obtain ⟨j, h1, h2⟩ := Option.bind_eq_some_iff.mp hi'
    exact ⟨j, h1, h.2, hb.2⟩
  · cases hi'
theorem snd_hi (S : SOk X c cf k V) (hz : Zc cls d oe) (hf : ∃ vs, oe.data = .fields vs) (hn : nmOk c nm = true) {e : Expr} {h : Hi} (he : cHi nm e = some h) : PE (X.suite a ((a, oe) :: pn)) e (tHi X c nm a cls d h) ∧ isStar e = false := by
  unfold cHi at he
  split at he
  · rename_i kc j p
    refine ⟨?_, rfl⟩
    unfold cConst at he
    split at he
    · rename_i dd _ _ hc
      cases he
      have lit : ∀ {v : L2.V}, PE (X.suite a ((a, oe) :: pn)) (.Constant kc j p) (tC v) → (∀ Z H, Rep X.K Z H v dd) → PE (X.suite a ((a, oe) :: pn)) (.Constant kc j p) (tHi X c nm a cls d (.lit dd)) := fun {v} hv rv => by
        refine pimp hv fun σ H Q q => ?_
        obtain ⟨_, x, _, r, hr, q⟩ := q
        simp only [evHi] at hr
        split at hr
        · cases hr
          exact q _ rv
        · cases hr
      split at hc
      · cases hc; exact lit pe_non fun _ _ => .non
      · cases hc; exact lit pe_bl fun _ _ => .bl _
      · cases hc; exact lit pe_int fun _ _ => .int _
      · split at hc
        · rename_i ho
          cases hc; exact lit pe_str fun _ _ => .str _ ho
        · cases hc
      · cases hc
    · cases he
  · rename_i y p f q
    refine ⟨?_, rfl⟩
    split at he
    · rename_i hy
      cases he
      obtain rfl := LawfulBEq.eq_of_beq hy
      obtain ⟨i, h1, h2, h3⟩ := nm_ok hn
      refine pby fun σ H Q q => ?_
      obtain ⟨cd, x, xi, r, hr, q⟩ := q
      obtain ⟨nn, G, C, dd, fs, hG, hid, cl, rfl, rfl, hd, hfs⟩ := xi
      simp only [evHi] at hr
      obtain ⟨hin, v, hv, rv⟩ := hfs _ _ hr
      obtain ⟨i', h1', hσ⟩ := cd y rfl
      rw [h1] at h1'
      cases h1'
      exact ⟨_, pe_xf cl.xf (cl.no _ hin) hz hf (nm_var S h1 h2 h3), _, hσ, rfl, rfl, dd, fs, v, rfl, hd, hv, q _ rv⟩
    · cases he
  · cases he
theorem snd_his (S : SOk X c cf k V) (hz : Zc cls d oe) (hf : ∃ vs, oe.data = .fields vs) (hn : nmOk c nm = true) : ∀ {es : List Expr} {hs : List Hi}, cHis nm es = some hs → PA (X.suite a ((a, oe) :: pn)) es (tHis X c nm a cls d hs) ∧ hs.length = es.length
  | [], hs, he => by
    simp only [cHis] at he
    cases he
    refine ⟨aimp pa_nil fun σ H Q q => ?_, rfl⟩
    obtain ⟨_, x, _, r, hr, q⟩ := q
    simp only [evHis] at hr
    cases hr
    exact q [] fun _ _ => .nil
  | e :: es, hs, he => by
    simp only [cHis, Option.bind_eq_bind, Option.bind_eq_some_iff] at he
    obtain ⟨h, h1, hs', h2, he⟩ := he
    cases he
    obtain ⟨p1, st⟩ := snd_hi (pn := pn) (a := a) S hz hf hn h1
    obtain ⟨p2, hl⟩ := snd_his S hz hf hn h2
    refine ⟨aimp (pa_cons' p1 p2 st) fun σ H Q q => ?_, by simp [hl]⟩
    obtain ⟨cd, x, xi, r, hr, q⟩ := q
    simp only [evHis] at hr
    obtain ⟨r0, g1, hr⟩ := Option.bind_eq_some_iff.mp hr
    obtain ⟨rs, g2, rfl⟩ := Option.map_eq_some_iff.mp hr
    exact ⟨cd, x, xi, r0, g1, fun v rv => ⟨cd, x, xi, rs, g2, fun vs rvs => q _ fun Z H => .cons (rv Z H) (rvs Z H)⟩⟩
theorem evHis_len {x : Exn} : ∀ {hs : List Hi} {ds : List D}, evHis x hs = some ds → ds.length = hs.length
  | [], ds, h => by simp only [evHis] at h; cases h; rfl
  | a :: hs, ds, h => by
    simp only [evHis] at h
    obtain ⟨r0, g1, h⟩ := Option.bind_eq_some_iff.mp h
    obtain ⟨rs, g2, rfl⟩ := Option.map_eq_some_iff.mp h
    rw [List.length_cons, evHis_len g2, List.length_cons]
theorem rd_one {K : PySem.W.Frag} {Z : Addr → Prop} {H : Hp} {v : L2.V} {r : D} {Q : VK} (h : RD K Z H r Q) (rv : ∀ Z H, Rep K Z H v r) : Q v H := by
  cases r with
  | lst ds => cases rv (fun _ => True) H with | lst _ n _ => exact absurd True.intro n
  | _ => exact RVal.here h (rv _ _)
/-- isinstance(e, c), e the exception that the suite holds -/
def rIsX (K : PySem.W.Frag) (C a dd : Addr) : List L2.V → Hp → VK → Prop := fun xs H Q => ∃ (fs : List (Str × L2.V)) (t : L2.V) (cv : Value) (b : Bool), H dd = some (.xd fs) ∧ xs = [.ref a, t] ∧ (∀ u, RelV t u → u = cv) ∧ PySem.W.kitOne K (.ref C) cv = some b ∧ Q (.bl b) H
theorem call_isX {XS : List (Str × XSig)} {G : XSig} {C dd : Addr} (cl : ClsOk X.K X.mg XS G C) (hz : Zc (.ref C) (some dd) oe) (hf : ∃ vs, oe.data = .fields vs) : CallR (X.suite a ((a, oe) :: pn)) (.builtin "isinstance") (rIsX X.K C a dd) := by
  intro pins s σ H xs us Q I r h
  obtain ⟨fs, t, cv, b, hd, rfl, hcv, e, q⟩ := h
  cases r with
  | cons rx rr =>
    cases rr with
    | cons rt rr =>
      cases rr
      cases rx
      have ec := hcv _ rt
      subst ec
      obtain ⟨hget, _⟩ := I.pin (a, oe) (List.mem_append.mpr (.inl List.mem_cons_self))
      obtain ⟨vs, hv⟩ := hf
      have hx : ObjOk X.prog X.w H s.heap dd (.xd fs) := I.hok dd _ hd
      obtain ⟨mA, hns, hr⟩ := hx
      obtain ⟨od, ho, hl⟩ := lookIn_ns hns
      have J : PySem.W.InstAt s.heap a oe C (some od) := ⟨hget, hz.1, by unfold PySem.W.notCls; rw [hv] <;> rfl, by rw [hz.2]; exact ho⟩
      have hcl : (PySem.W.clsIn X.K C).isSome = true := by
        obtain ⟨cd, hc, _⟩ := PySem.W.any_some cl.xf.hdC
        rw [hc]
        rfl
      exact PySem.W.kia_one (PySem.W.kitx_exc hcl cl.xf.ga cl.xf.gg cl.xf.exC cl.cl cl.gs cl.tk cl.mr) I.kIn J e (fun z => nomatch z) fun tk => ⟨.bl b, H, I.kept (t' := tk) fun _ _ z => z, rfl, q⟩
theorem snd_isE (S : SOk X c cf k V) (hz : Zc cls d oe) (hf : ∃ vs, oe.data = .fields vs) (hn : nmOk c nm = true) {e : Expr} {n : Nat} (he : cIsa c nm e = some n) : PT (X.suite a ((a, oe) :: pn)) e (tHt X c nm a cls d [n]) := by
  unfold cIsa at he
  split at he
  · rename_i i ip y yp t tp p
    split at he
    · rename_i hg
      simp only [Bool.and_eq_true] at hg
      obtain ⟨⟨⟨⟨g1, g2⟩, g3⟩, g4⟩, g5⟩ := hg
      obtain rfl := LawfulBEq.eq_of_beq g1
      obtain rfl := LawfulBEq.eq_of_beq g3
      obtain ⟨j, h1, h2, h3⟩ := nm_ok hn
      obtain ⟨b1, b2, b3⟩ := bltB_of g2
      obtain ⟨m1, m2, m3⟩ := odd_no g4
      refine timp (t := tB (fun σ H Q => Cond c (some y) a σ ∧ ∃ x, XIs X.K X.mg c.exs x cls d H ∧ Q (.bl (subX x.cls n)) H)) (pt_val (pby fun σ H Q q => ?_)) fun σ H Q q => ?_
      · obtain ⟨cd, x, xi, q⟩ := q
        obtain ⟨nn, G, C, dd, fs, hG, hid, cl, rfl, rfl, hd, hfs⟩ := xi
        obtain ⟨i', h1', hσ⟩ := cd y rfl
        rw [h1] at h1'
        cases h1'
        have hv : PE (X.suite a ((a, oe) :: pn)) (.Name y yp) (tVar j) := nm_var S h1 h2 h3
        split at he
        · rename_i G' hG'
          cases he
          obtain ⟨C', w1, w2, w3⟩ := cl.ex t G' hG'
          have ht : PE (X.suite a ((a, oe) :: pn)) (.Name t tp) (tC (.ref C')) := pe_glob (X := X.suite a ((a, oe) :: pn)) (gl_of S.ok g5) w1 rfl m1
          refine ⟨_, pe_callB (call_isX cl hz hf) (gl_of S.ok b1) (nos_of S.ok b2) rfl (pa_cons' hv (pa_cons' ht pa_nil rfl) rfl) (by decide) (by decide) rfl rfl, _, hσ, fs, _, .ref C', _, hd, rfl, fun u hu => hu, w3, ?_⟩
          rw [hid]
          exact q
        · split at he
          · rename_i hve
            rw [Bool.and_eq_true] at hve
            obtain rfl := LawfulBEq.eq_of_beq hve.1
            cases he
            have ht : PE (X.suite a ((a, oe) :: pn)) (.Name "ValueError" tp) (tC (.ty "ValueError")) := pe_bltn (X := X.suite a ((a, oe) :: pn)) (gl_of S.ok g5) (nos_of S.ok hve.2) rfl rfl m3 m1
            refine ⟨_, pe_callB (call_isX cl hz hf) (gl_of S.ok b1) (nos_of S.ok b2) rfl (pa_cons' hv (pa_cons' ht pa_nil rfl) rfl) (by decide) (by decide) rfl rfl, _, hσ, fs, _, .type "ValueError", _, hd, rfl, fun u hu => hu, cl.ve, ?_⟩
            have : subX x.cls 90 = true := by simp [subX]
            rw [this] at q
            exact q
          · cases he
      · obtain ⟨cd, x, xi, q⟩ := q
        exact ⟨cd, x, xi, _, rfl, by simpa using q⟩
    · cases he
  · cases he
theorem snd_isas (S : SOk X c cf k V) (hz : Zc cls d oe) (hf : ∃ vs, oe.data = .fields vs) (hn : nmOk c nm = true) {p : Pos} : ∀ {es : List Expr} {e : Expr} {cs : List Nat}, cIsas c nm (e :: es) = some cs → PW (X.suite a ((a, oe) :: pn)) (.BoolOp .And (e :: es) p) (tHt X c nm a cls d cs)
  | [], e, cs, h => by
    simp only [cIsas, Option.bind_eq_bind, Option.bind_eq_some_iff] at h
    obtain ⟨n, h1, _, h2, h⟩ := h
    cases h2
    cases h
    exact pw_and1 (snd_isE S hz hf hn h1)
  | e2 :: es, e, cs, h => by
    unfold cIsas at h
    simp only [Option.bind_eq_bind, Option.bind_eq_some_iff] at h
    obtain ⟨n, h1, cs', h2, h⟩ := h
    cases h
    refine wimp (pw_and (snd_isE S hz hf hn h1) (snd_isas S hz hf hn h2)) fun σ H Q q => ?_
    obtain ⟨cd, x, xi, q⟩ := q
    refine ⟨cd, x, xi, ?_⟩
    simp only [List.all_cons, List.all_nil, Bool.and_true] at q ⊢
    by_cases hb : subX x.cls n = true
    · rw [if_pos hb]
      rw [hb, Bool.true_and] at q
      exact ⟨cd, x, xi, q⟩
    · rw [if_neg hb]
      have hb : subX x.cls n = false := by simpa using hb
      rw [hb, Bool.false_and] at q
      exact q
theorem snd_ht (S : SOk X c cf k V) (hz : Zc cls d oe) (hf : ∃ vs, oe.data = .fields vs) (hn : nmOk c nm = true) {e : Expr} {cs : List Nat} (h : cHt c nm e = some cs) : PT (X.suite a ((a, oe) :: pn)) e (tHt X c nm a cls d cs) := by
  unfold cHt at h
  split at h
  · exact (snd_isas S hz hf hn h).pt
  · obtain ⟨n, h1, h2⟩ := Option.map_eq_some_iff.mp h
    cases h2
    exact snd_isE S hz hf hn h1
theorem snd_hx (S : SOk X c cf k V) (hz : Zc cls d oe) (hf : ∃ vs, oe.data = .fields vs) (hn : nmOk c nm = true) {e : Expr} {h : Hx} (he : cHx c nm e = some h) : PE (X.suite a ((a, oe) :: pn)) e (tHx X c nm a cls d h) := by
  have sz : ∀ n, n ≤ 100 → n ≤ sizeLine := fun n hn => Nat.le_trans hn (by rw [sizeLine_eq]; decide)
  unfold cHx at he
  split at he
  · split at he
    · rename_i hle
      obtain ⟨hs, h1, h2⟩ := Option.map_eq_some_iff.mp he
      cases h2
      obtain ⟨p, hl⟩ := snd_his (pn := pn) (a := a) S hz hf hn h1
      refine pimp (pe_tupF p) fun σ H Q q => ?_
      obtain ⟨cd, x, xi, r, Z, hr, tz, q⟩ := q
      simp only [evH] at hr
      obtain ⟨ds, g1, rfl⟩ := Option.map_eq_some_iff.mp hr
      refine ⟨cd, x, xi, ds, g1, fun vs rv => ⟨?_, fun p ob n hd => RVal.tup tz q (rv Z H) n hd⟩⟩
      rw [(rv Z H).length, evHis_len g1, hl]
      exact sz _ hle
    · cases he
  · split at he
    · rename_i hle
      obtain ⟨hs, h1, h2⟩ := Option.map_eq_some_iff.mp he
      cases h2
      obtain ⟨p, hl⟩ := snd_his (pn := pn) (a := a) S hz hf hn h1
      refine pimp (pe_lst p) fun σ H Q q => ?_
      obtain ⟨cd, x, xi, r, Z, hr, tz, q⟩ := q
      simp only [evH] at hr
      obtain ⟨ds, g1, rfl⟩ := Option.map_eq_some_iff.mp hr
      refine ⟨cd, x, xi, ds, g1, fun vs rv => ⟨?_, fun p n => RFr.new q (rv Z H) n⟩⟩
      rw [(rv Z H).length, evHis_len g1, hl]
      exact sz _ hle
    · cases he
  · simp only [Option.bind_eq_bind, Option.bind_eq_some_iff] at he
    obtain ⟨cs, h1, u, h2, w, h3, he⟩ := he
    cases he
    refine pimp (pe_ifExp (snd_ht S hz hf hn h1) (snd_hi S hz hf hn h2).1 (snd_hi S hz hf hn h3).1) fun σ H Q q => ?_
    obtain ⟨cd, x, xi, r, Z, hr, tz, q⟩ := q
    simp only [evH] at hr
    refine ⟨cd, x, xi, ?_⟩
    by_cases hb : cs.all (subX x.cls) = true
    · rw [if_pos hb] at hr ⊢
      exact ⟨cd, x, xi, r, hr, fun v rv => rd_one q rv⟩
    · rw [if_neg hb] at hr ⊢
      exact ⟨cd, x, xi, r, hr, fun v rv => rd_one q rv⟩
  · obtain ⟨u, h1, h2⟩ := Option.map_eq_some_iff.mp he
    cases h2
    refine pimp (snd_hi S hz hf hn h1).1 fun σ H Q q => ?_
    obtain ⟨cd, x, xi, r, Z, hr, tz, q⟩ := q
    exact ⟨cd, x, xi, r, hr, fun v rv => rd_one q rv⟩
theorem snd_hs (S : SOk X c cf k V) (hz : Zc cls d oe) (hf : ∃ vs, oe.data = .fields vs) (hn : nmOk c nm = true) : ∀ {st : List Stmt} {h : Hx}, cHs c nm st = some h → PSs (X.suite a ((a, oe) :: pn)) st (tHs X c nm h a cls d) := by
  intro st
  induction st with
  | nil => intro h he; unfold cHs at he; cases he
  | cons s r ih =>
    intro h he
    unfold cHs at he
    split at he
    · rename_i heq
      cases heq
      refine pssimp (pss_one (ps_ret (snd_hx S hz hf hn he))) fun D σ H q => q
    · rename_i heq
      cases heq
      simp only [Option.bind_eq_bind, Option.bind_eq_some_iff] at he
      obtain ⟨cs, h1, u, h2, w, h3, he⟩ := he
      cases he
      refine pssimp (pss_cons (ps_if (snd_ht S hz hf hn h1) (pss_one (ps_ret (snd_hx S hz hf hn h2))) pss_nil) (ih h3)) fun D σ H q => ?_
      obtain ⟨cd, x, xi, r, Z, hr, tz, q⟩ := q
      simp only [evH] at hr
      refine ⟨cd, x, xi, ?_⟩
      by_cases hb : cs.all (subX x.cls) = true
      · rw [if_pos hb] at hr ⊢
        exact ⟨cd, x, xi, r, Z, hr, tz, q⟩
      · rw [if_neg hb] at hr ⊢
        exact ⟨cd, x, xi, r, Z, hr, tz, q⟩
    · cases he
end
end
end Pv

set_option maxHeartbeats 1000000
/-! try with clauses whose suites hand a value back. -/
namespace Pv
open PySem PySem.Spec PyProof.Rows L2

abbrev Cla := Value × (Addr → Value → Option Addr → TS)
/-- a suite that always returns -/
def onlyRt (D : Ends) : Ends := { nx := fun _ _ => False, rt := D.rt, bk := fun _ _ => False, ct := fun _ _ => False }
/-- what the clauses wish of an exception of the body -/
def wCls (K : PySem.W.Frag) (Wout : WX) (D : Ends) : List Cla → WX
  | [] => Wout
  | (c, ts) :: r => fun cls d σ H => ∃ b, PySem.W.exmOne K cls c = some b ∧ (b = true → ∀ a, H a = none → ts a cls d (onlyRt D) σ H) ∧ (b = false → wCls K Wout D r cls d σ H)
inductive ClsHs (X : Cx) : List ExceptHandler → List Cla → Prop
  | nil : ClsHs X [] []
  | cons {x : Str} {nm : Option Str} {c : Value} {ts : Addr → Value → Option Addr → TS} {b₀ : Stmt} {suite : List Stmt} {np pos' : Pos} {hds : List ExceptHandler} {l : List Cla} (hc : Names X x c)
      (hn : ∀ n, nm = some n → ∃ i : Nat, X.N[i]? = some n ∧ X.env.kindOf n = some .local)
      (hsu : ∀ (a : Addr) (oe : Obj) (cls : Value) (d : Option Addr) (pn : List (Addr × Obj)), Zc cls d oe → (∃ vs, oe.data = .fields vs) → PSs (X.suite a ((a, oe) :: pn)) (b₀ :: suite) (ts a cls d)) (r : ClsHs X hds l) :
      ClsHs X (.ExceptHandler (some (.Name x np)) nm (b₀ :: suite) pos' :: hds) ((c, fun a cls d D σ H => match nm with | none => ts a cls d D σ H | some n => ∀ i : Nat, X.N[i]? = some n → ts a cls d D (σ.set i (some (.ref a))) H) :: l)
section
variable {X : Cx} {body : List Stmt} {h₀ : ExceptHandler} {hds : List ExceptHandler} {l : List Cla} {pos : Pos} {tb : WX → TS} {Wout : WX}
theorem ps_tryC (hs : X.stack = X.env :: X.outer) (hf : X.env.frame = some X.env.locals) (hN : X.N.Nodup) (tk : Takes X Wout)
    (hb : ∀ (W : WX) (pn : List (Addr × Obj)) (xe : Value → Shared → Prop), Takes (X.tr pn xe) W → PassesOwn (model X.prog X.w) X.A X.env xe → PSs (X.tr pn xe) body (tb W))
    (hh : ClsHs X (h₀ :: hds) l) : PS X (.Try body (h₀ :: hds) [] [] pos) (fun D σ H => tb (wCls X.K Wout D l) D σ H) := by
  refine ⟨fun pins s σ H D I h => ?_⟩
  have ok := I.ok
  have hfr : X.A.frames = some (X.env :: X.outer) := by rw [ok.frames, hs]
  refine wpAny_Try_except ?_
  refine wpAny_mono ((hb (wCls X.K Wout D l) (X.pn ++ pins) (fun e s₁ => wpAny (model X.prog X.w) X.A (noteFrame e X.env) (fun _ s₂ => wpAny (model X.prog X.w) X.A (setFlight e none) (fun _ s₃ =>
    wpAny (model X.prog X.w) X.A (handleBy e X.env (h₀ :: hds)) (SP X pins D) X.xe s₃) X.xe s₂) X.xe s₁) (fun u s' xx => ?_) PassesOwn.looking).run [] s σ H D (I.toTry _) h) (fun f s1 hsp => ?_) (fun e s1 he => he)
  · obtain ⟨a, B, sI, pins', σ', H', cls, d, rfl, J', nb, up, sky, na, os, ag, w⟩ := xx
    have J : Inv X pins σ' H' sI := J'.ofTry ok
    refine Sky.land Zc.steady hfr hf (by rw [← hs]; exact sky) fun h3 fl3 up3 => ?_
    have J3 : Inv X pins σ' H' { s' with heap := h3 } := J.landed nb fl3.1 (up.trans up3) os ag
    obtain ⟨oe3, vs3, he3, hz3, hd3⟩ := fl3.there
    have nfr : a ∉ frs (X.env :: X.outer) := fun hm => by
      obtain ⟨_, o', e', hnf⟩ := fl3.2.2.1.mem hm
      rw [he3] at e'
      cases e'
      exact hnf _ hd3
    have nL : a ≠ X.env.locals := fun z => nfr (List.mem_filterMap.mpr ⟨X.env, List.mem_cons_self, by rw [hf, z]⟩)
    have nF : a ∉ X.fs := fun hm => by
      obtain ⟨e, he, q⟩ := List.mem_filterMap.mp hm
      exact nfr (List.mem_filterMap.mpr ⟨e, List.mem_cons_of_mem _ he, q⟩)
    have S3 := J3.suite he3 hd3 na nL nF
    have go : ∀ {hds' : List ExceptHandler} {l' : List Cla}, ClsHs X hds' l' → wCls X.K Wout D l' cls d σ' H' → wpAny (model X.prog X.w) X.A (handleBy (.ref a) X.env hds') (SP X pins D) X.xe { s' with heap := h3 } := by
      intro hds' l' hk
      induction hk with
      | nil =>
        intro w
        obtain ⟨k1, k2, k3, oe, vs, T, oT, ts', he, hz, hd, h1, hr⟩ := id fl3
        refine wpAny_handleBy_nil ?_
        unfold PySem.passOn
        refine wpAny_bind (wpAny_field he hd h1 ?_)
        rw [if_neg (show ¬ ((Value.ref T == Value.none) = true) from by simp)]
        have fin : wpAny (model X.prog X.w) X.A (setFlight (.ref a) X.env.frame) (fun _ s4 => wpAny (model X.prog X.w) X.A (throw (.ref a) : Sem Flow) (SP X pins D) X.xe s4) X.xe { s' with heap := h3 } := by
          rw [hf]
          exact HandSPX.setFlight_upZ fl3 fun h4 hh4 up4 => wpAny_throw (tk _ _ ⟨a, B, sI, pins, σ', H', cls, d, rfl, J, nb, (up.trans up3).trans up4, .inr (.inr (by rw [hs]; exact hh4)), na, os, ag, w⟩)
        first
          | exact wpAny_bind (wpAny_pure (wpAny_bind fin))
          | exact wpAny_bind fin
      | @cons x nm c ts b₀ suite np pos' hds2 l2 hc hn hsu r ih =>
        intro w
        obtain ⟨b, hb1, hyes, hno⟩ := w
        refine wpAny_handleBy_cons (codeAny_handlers_test ?_) (by intro q; cases q)
        have LT : PySem.W.Looks (model X.prog X.w) h3 (typeOf (.ref a)) cls := fun A Q E s k q => wpAny_typeOf_ref (k _ _ he3) (by rw [hz3.1]; exact q)
        have LM := PySem.W.exm_one (M := model X.prog X.w) (J3.kIn) LT hb1
        have test : ∀ {Q : Value → Shared → Prop} {E : Value → Shared → Prop}, Q c { s' with heap := h3 } → wpAny (model X.prog X.w) (X.A.mark (some (.ref a))) (eval (.Name x np) X.env) Q E { s' with heap := h3 } := fun {Q E} q => by
          obtain ⟨hg, hdbg, hm | ⟨hm, hv, hnn⟩⟩ := hc
          · exact ld_glob (X := X.suite a ((a, oe3) :: (X.pn ++ pins))) S3 hg hm q hdbg
          · exact ld_blt (X := X.suite a ((a, oe3) :: (X.pn ++ pins))) S3 hg hm hv q hnn hdbg
        refine test (LM.here ?_)
        cases b with
        | false => exact ih (hno rfl)
        | true =>
          have y := hyes rfl a na
          cases nm with
          | none =>
            refine codeAny_handlers_suite (HandSPX.lands_againZ fl3 fun h4 fl4 up4 => ?_)
            have J4 : Inv X pins σ' H' { s' with heap := h4 } := J.landed nb fl4.1 ((up.trans up3).trans up4) os ag
            obtain ⟨oe4, vs4, he4, hz4, hd4⟩ := fl4.there
            refine wpAny_mono ((hsu a oe4 cls d (X.pn ++ pins) hz4 ⟨_, hd4⟩).run [] _ _ H' _ (J4.suite he4 hd4 na nL nF) y) (fun f s6 hsp => ?_) (fun _ _ z => False.elim z)
            cases f with
            | ret u =>
              obtain ⟨v6, σ6, H6, S6, r6, q6⟩ := hsp
              exact ⟨_, _, _, S6.unsuite ok, r6, q6⟩
            | next => obtain ⟨_, _, _, q6⟩ := hsp; exact q6.elim
            | brk => obtain ⟨_, _, _, q6⟩ := hsp; exact q6.elim
            | cont => obtain ⟨_, _, _, q6⟩ := hsp; exact q6.elim
          | some n =>
            obtain ⟨i, hi, hln⟩ := hn n rfl
            refine codeAny_handlers_suite_as (HandSPX.lands_againZ fl3 fun h4 fl4 up4 => ?_)
            have J4 : Inv X pins σ' H' { s' with heap := h4 } := J.landed nb fl4.1 ((up.trans up3).trans up4) os ag
            obtain ⟨oe4, vs4, he4, hz4, hd4⟩ := fl4.there
            refine store_ok (X := X.suite a ((a, oe4) :: (X.pn ++ pins))) (v := .ref a) (J4.suite he4 hd4 na nL nF) hN hi (.inl hln) rfl (fun s5 S5 => ?_) (.inr hln)
            refine wpAny_mono ((hsu a oe4 cls d (X.pn ++ pins) hz4 ⟨_, hd4⟩).run [] s5 _ H' _ S5 (y i hi)) (fun f s6 hsp => ?_) (fun _ _ z => False.elim z)
            cases f with
            | ret u =>
              obtain ⟨v6, σ6, H6, S6, r6, q6⟩ := hsp
              exact gone_ok (S6.unsuite ok) hN hi hln fun s7 J7 => ⟨_, _, _, J7, r6, q6⟩
            | next => obtain ⟨_, _, _, q6⟩ := hsp; exact q6.elim
            | brk => obtain ⟨_, _, _, q6⟩ := hsp; exact q6.elim
            | cont => obtain ⟨_, _, _, q6⟩ := hsp; exact q6.elim
    exact go hh w
  · cases f with
    | next =>
      obtain ⟨σ', H', J', q⟩ := hsp
      exact wpAny_execs_nil ⟨σ', H', J'.ofTry ok, q⟩
    | brk =>
      obtain ⟨σ', H', J', q⟩ := hsp
      exact ⟨σ', H', J'.ofTry ok, q⟩
    | cont =>
      obtain ⟨σ', H', J', q⟩ := hsp
      exact ⟨σ', H', J'.ofTry ok, q⟩
    | ret u =>
      obtain ⟨v, σ', H', J', r, q⟩ := hsp
      exact ⟨v, σ', H', J'.ofTry ok, r, q⟩
end
section
variable {cf : Cf} {k : Nat} {c : Ctx} {o : Own} {X : Cx} {n : Nat} {A : Amb} {l : Option Own} {V : XV}
theorem XOk.tr (ok : XOk X c cf k) (pn : List (Addr × Obj)) (xe : Value → Shared → Prop) : XOk (X.tr pn xe) c cf k :=
  ⟨⟨ok.rm.calm, ok.rm.un⟩, ok.N, ok.nd, ok.sc, ok.fn, ok.room, ok.nos, ok.consts, ok.fns, ok.exs, ok.cls⟩
theorem cCls_ok (S : SOk X c cf k V) : ∀ {hds : List ExceptHandler} {hs : List (Nat × Hx)}, cCls c hds = some hs → ∃ L, ClsHs X hds L ∧ ∀ (D : Ends) (Wout : WX) (x : Exn) (cls : Value) (d : Option Addr) (σ : St) (H : Hp), σ.length = c.N.length → XIs X.K X.mg c.exs x cls d H →
    (clauseOf x hs = none → Wout cls d σ H) → (∀ h, clauseOf x hs = some h → (c.fresh = true → hxL h = true) → ∃ r Z, evH x h = some r ∧ TrZ Z H ∧ RD X.K Z H r D.rt) → wCls X.K Wout D L cls d σ H
  | [], hs, h => by
    simp only [cCls] at h
    cases h
    exact ⟨[], .nil, fun D Wout x cls d σ H hl xi w1 w2 => w1 rfl⟩
  | hd :: hds, hs, h => by
    unfold cCls at h
    split at h
    · rename_i heq
      cases heq
    · rename_i x np nm st pos' r heq
      cases heq
      simp only [Option.bind_eq_bind, Option.bind_eq_some_iff, guard_eq] at h
      obtain ⟨_, hg, _, hnm, G, hG, hx, hhs, _, hfr, hs', hr, h⟩ := h
      rw [Bool.and_eq_true] at hg
      cases h
      obtain ⟨L, h1, h2⟩ := cCls_ok S hr
      obtain ⟨C', hm, _⟩ := S.ok.exs x G hG
      obtain ⟨m1, m2, m3⟩ := odd_no hg.2
      obtain ⟨b₀, suite, rfl⟩ : ∃ b₀ suite, st = b₀ :: suite := by
        cases st with
        | nil => unfold cHs at hhs; cases hhs
        | cons b s => exact ⟨b, s, rfl⟩
      have hnn : ∀ n, nm = some n → ∃ i : Nat, X.N[i]? = some n ∧ X.env.kindOf n = some .local := fun n e => by
        subst e
        obtain ⟨i, q1, q2, _⟩ := nm_ok hnm
        refine ⟨i, by rw [S.ok.N]; exact slotOf_spec q1, ?_⟩
        show X.env.scope.names.lookup n = _
        rw [S.ok.sc]
        exact q2
      refine ⟨_, .cons (c := .ref C') ⟨gl_of S.ok hg.1, m1, .inl hm⟩ hnn (fun a oe cls d pn hz hf => snd_hs S hz hf hnm hhs) h1, fun D Wout xx cls d σ H hl xi w1 w2 => ?_⟩
      have xi' := xi
      obtain ⟨nn, G0, C, dd, fs, hG0, hid, cl, rfl, rfl, hdd, hfs⟩ := xi
      obtain ⟨C2, q1, q2, q3⟩ := cl.ex x G hG
      rw [hm] at q1
      cases q1
      refine ⟨_, q2, fun hb a ha => ?_, fun hb => ?_⟩
      · rw [hid] at hb
        have hcl : clauseOf xx ((G.id, hx) :: hs') = some hx := by simp only [clauseOf]; rw [if_pos hb]
        obtain ⟨r, Z, g1, g2, g3⟩ := w2 hx hcl fun e => by
          rw [e] at hfr
          simpa using hfr
        cases nm with
        | none => exact ⟨fun n e => (by cases e), xx, xi', r, Z, g1, g2, g3⟩
        | some n =>
          obtain ⟨i0, z1, _⟩ := nm_ok hnm
          intro i hi
          have hii : i0 = i := by
            have hi0 := slotOf_spec z1
            have hN := S.ok.nd
            rw [S.ok.N] at hi
            have l1 : i0 < c.N.length := (List.getElem?_eq_some_iff.mp hi0).1
            exact (List.getElem?_inj l1 hN).mp (hi0.trans hi.symm)
          subst hii
          have hlt : i0 < σ.length := by
            rw [hl]
            exact (List.getElem?_eq_some_iff.mp (slotOf_spec z1)).1
          exact ⟨fun n' e => by cases e; exact ⟨i0, z1, by rw [get_set, if_pos rfl, if_pos hlt]⟩, xx, xi', r, Z, g1, g2, g3⟩
      · rw [hid] at hb
        have hcl : clauseOf xx ((G.id, hx) :: hs') = clauseOf xx hs' := by simp only [clauseOf]; rw [if_neg (by rw [hb]; simp)]
        rw [hcl] at w1 w2
        exact h2 D Wout xx _ _ σ H hl xi' w1 w2
    · cases h
/-- as it is wished by a wish of the hand layer -/
def VW (X : Cx) (c : Ctx) (W : WX) : XV := fun x σ H => ∀ cls d, XIs X.K X.mg c.exs x cls d H → W cls d σ H
theorem evH_lst {x : Exn} : ∀ {h : Hx} {r : D}, hxL h = true → evH x h = some r → ∃ ds, r = .lst ds
  | .one _, r, h, _ => by simp [hxL] at h
  | .tup _, r, h, _ => by simp [hxL] at h
  | .lst hs, r, _, e => by
    simp only [evH] at e
    obtain ⟨ds, _, rfl⟩ := Option.map_eq_some_iff.mp e
    exact ⟨ds, rfl⟩
  | .isa cs a b, r, h, e => by
    simp only [hxL, Bool.and_eq_true] at h
    simp only [evH] at e
    split at e
    · exact evH_lst h.1 e
    · exact evH_lst h.2 e
theorem snd_try (S : SOk X c cf k V) (hA : A.K = X.K) (hM : AOk A c) (hmu : c.muts = []) {b : List Stmt} {h₀ : ExceptHandler} {hds : List ExceptHandler} {pos : Pos} {y : Sm} {hs : List (Nat × Hx)} {ob : Option Own} (hc : cCls c (h₀ :: hds) = some hs)
    (hb : ∀ (X : Cx) (V : XV), SOk X c cf k V → A.K = X.K → PSs X b (tSm A V c o l ob (evS cf y))) : PS X (.Try b (h₀ :: hds) [] [] pos) (tSm A V c o l ob (evS cf (.tr y hs))) := by
  obtain ⟨L, hL, hw⟩ := cCls_ok S hc
  refine psimp (ps_tryC (tb := fun W => tSm A (VW X c W) c o l ob (evS cf y)) S.hs S.hf (by rw [S.ok.N]; exact S.ok.nd) S.tk (fun W pn xe tk pso => ?_) hL) fun D σ H q => ?_
  · refine hb (X.tr pn xe) (VW X c W) ⟨S.ok.tr pn xe, pso, S.fn, ?_, S.hs, S.hf⟩ hA
    exact Takes.imp tk fun cls d σ H ⟨x, xi, v⟩ => v cls d xi
  · obtain ⟨ex, env, r0, w⟩ := tSm_iff.mp q
    refine tSm_iff.mpr ⟨ex, env, r0, ?_⟩
    simp only [evS] at w
    cases hy : evS cf y env with
    | nx e => rw [hy] at w; exact w
    | rt d e => rw [hy] at w; exact w
    | bk e => rw [hy] at w; exact w
    | ct e => rw [hy] at w; exact w
    | no => rw [hy] at w; exact w
    | er x e1 =>
      rw [hy] at w
      dsimp only at w
      intro σ' H' r1 cls d xi
      refine hw D _ x cls d σ' H' (by rw [r1.ln]; exact hM.2) xi (fun hcl => ?_) fun h hcl hfr => ?_
      · rw [hcl] at w
        exact ⟨x, xi, w σ' H' r1⟩
      · rw [hcl] at w
        dsimp only at w
        cases hr : evH x h with
        | none => rw [hr] at w; exact w.elim
        | some r =>
          rw [hr] at w
          refine ⟨r, XX [] σ' ex, rfl, r1.trX, ?_⟩
          have hm0 : ∀ i p, (i, p) ∈ A.mp → i ∈ ([] : List Nat) := fun i p hp => by
            have := hM.1 i p hp
            rw [hmu] at this
            exact this
          cases hf : c.fresh with
          | false =>
            refine RVal.rd r1.trX fun v H2 sm rv => w v H2 ?_
            rw [hf]
            exact (r1.keep sm).ret r0.ent hm0 (fun i hi => hi) (fun _ z => z) (fun _ z => .inl z) (by rw [← hA] at rv; exact rv)
          | true =>
            obtain ⟨ds, rfl⟩ := evH_lst (hfr hf) hr
            intro p vs hp rv
            refine w _ _ ?_
            rw [hf]
            refine (r1.shut hp (.lst vs)).ret r1.ent hm0 (fun i hi => hi) (fun _ z => .inl z) (fun a z => z.imp id fun e => by rw [e]; exact hp) ?_
            exact ⟨p, .lst, vs, ds, rfl, rfl, r1.ent.free hp, .inr (.inr rfl), upd_same, (by rw [← hA] at rv; exact (Reps.less rv fun b z => z.elim (fun q => .inl (.inl q)) fun q => q.elim (fun q => .inl (.inr q)) .inr).z)⟩
end
end Pv

set_option maxHeartbeats 1000000
/-! Statements: stores of every kind, returns. -/
namespace Pv
open PySem PySem.Spec PyProof.Rows L2

section
variable {cf : Cf} {k : Nat} {c : Ctx} {o : Own} {X : Cx} {n : Nat} {A : Amb} {l : Option Own} {V : XV}
theorem compE_lc {value : Expr} {r : Cr} (h : compE n c o value = some r) (hd : isDcE value = false) : isLcE value = false ∨ ∃ e g s p, value = .ListComp e g s p := by
  cases n with
  | zero => cases h
  | succ n =>
    unfold compE at h
    obtain ⟨r', h1, h2⟩ := Option.bind_eq_some_iff.mp h
    cases value <;> first | exact .inl rfl | exact .inr ⟨_, _, _, _, rfl⟩ | (cases hd; done) | (cases h1; done)
/-- name = value -/
theorem snd_setN (S : SOk X c cf k V) (hA : A.K = X.K) (hM : AOk A c) {x : Str} {tp pos : Pos} {value : Expr} {i : Nat} {e : Ex} {kd : Kd} {o1 : Own} (hi : stoOf c x = some i) (hsw : swapB c value x tp = false) (hdc : isDcE value = false) (h : (compE n c o value).map noPk = some (e, kd, o1)) :
    PS X (.Assign [.Name x tp] value pos) (tSm A V c o l (some (setOwn o1 i kd)) (evS cf (.set i e))) := by
  obtain ⟨h1, h2, h3, h4⟩ := stoOf_lt hi
  obtain ⟨se, e1, e2, ne⟩ := comp_np (cf := cf) (k := k) h
  obtain ⟨r', hr', hpk⟩ := Option.map_eq_some_iff.mp h
  have hN : X.N.Nodup := by rw [S.ok.N]; exact S.ok.nd
  have er := snd_err S hA hM hr'
  have hr1 : r'.1 = e := noPk_fst' hpk
  rw [hr1] at er
  refine psby fun D σ H q => ?_
  obtain ⟨ex, env, r0, w⟩ := tSm_iff.mp q
  simp only [evS] at w
  cases he : errOf cf e env with
  | some pr =>
    obtain ⟨xx, e1⟩ := pr
    rw [he] at w
    exact ⟨_, ps_set hN (by rw [S.ok.N]; exact h3) (loc_of S.ok h4).1 er (by rw [swap_eq S.ok (compE_lc hr' hdc), hsw]) (loc_of S.ok h4).2, ex, env, xx, e1, r0, he, fun H' r => w σ H' r⟩
  | none =>
    rw [he] at w
    dsimp only [orEr] at w
    refine ⟨_, ps_set hN (by rw [S.ok.N]; exact h3) (loc_of S.ok h4).1 (se X S.ok A hA hM) (by rw [swap_eq S.ok (compE_lc hr' hdc), hsw]) (loc_of S.ok h4).2, ?_⟩
    obtain ⟨⟨d, env'⟩, hm, w⟩ := w.ok
    exact ⟨ex, env, d, env', r0, hm, fun v H' f vr => set_end hM r0 h1 h2 e1 e2 ne f vr w⟩
/-- name = [..] on one line -/
theorem snd_setLc (S : SOk X c cf k V) (hA : A.K = X.K) (hM : AOk A c) {x : Str} {tp pos lp : Pos} {elt tg iter : Expr} {ifs : List Expr} {scope : Scope} {i : Nat} {r : Cr} (hi : stoOf c x = some i) (hsw : swapB c (.ListComp elt [⟨tg, iter, ifs, 0⟩] scope lp) x tp = true)
    (h : cLc (compE n) (compT n) c o elt tg iter ifs scope = some r) (hk : okS o r = true) :
    PS X (.Assign [.Name x tp] (.ListComp elt [⟨tg, iter, ifs, 0⟩] scope lp) pos) (tSm A V c o l (some (setOwn r.2.2 i .fresh)) (evS cf (.set i r.1))) := by
  obtain ⟨h1, h2, h3, h4⟩ := stoOf_lt hi
  obtain ⟨x1, x2, _⟩ := okS_sub hk
  obtain ⟨e, is, tt, src, t, kd, l', o1, o2, own, rfl, rfl, hset, hb, hpi, hg, ht, he, hw⟩ := lc_parts (recG n (cf := cf) (k := k)) h
  have hN : X.N.Nodup := by rw [S.ok.N]; exact S.ok.nd
  have hyl : X.env.scope.names.lookup x = some .local := by
    rw [S.ok.sc]
    unfold swapB at hsw
    simp only [Bool.and_eq_true] at hsw
    exact eq_of_beq hsw.1.1.2
  have key : ∀ wi, PI X tg iter wi → PS X (.Assign [.Name x tp] (.ListComp elt [⟨tg, iter, ifs, 0⟩] scope lp) pos) (tAsg (tLc wi (gTg X.K (own.map (·.2)) tt) (tMT A o1 o2 (tch t) (evE cf t)) (tM A o2 o1 l' (tch e) (evE cf e)) (own.map (·.2))) (gName i)) := fun wi hwi =>
    ps_setLc (g := gTg X.K (own.map (·.2)) tt) S.ok.rm.calm hN (by rw [S.ok.N]; exact h3) hyl (by rw [swap_eq S.ok (.inr ⟨_, _, _, _, rfl⟩), hsw]) hwi (hb X S.ok) (fun s H C cl fp => hg _ (blk_ok S.ok s H scope C cl fp)) (fun s H C cl fp => ht _ (blk_ok S.ok s H scope C cl fp) A hA hM)
    (fun s H C cl fp => he _ (blk_ok S.ok s H scope C cl fp) A hA hM) (folded_of hset X.env)
  refine psby fun D σ H q => ?_
  obtain ⟨ex, env, r0, w⟩ := tSm_iff.mp q
  simp only [evS] at w
  cases hE : errOf cf (.lc e (own.map (·.2)) tt src t) env with
  | some pr =>
    obtain ⟨xx, e1⟩ := pr
    rw [hE] at w
    simp only [errOf] at hE
    obtain ⟨kd', o1', hsrc⟩ := cLc_src h rfl
    obtain ⟨wi, hwi, hq⟩ := src_err (snd_errN S hA hM n) hsrc r0 hE fun H' r => w σ H' r
    exact ⟨_, key wi hwi, hq _⟩
  | none =>
    rw [hE] at w
    dsimp only [orEr] at w
    refine ⟨_, key _ (hpi X S.ok A hA hM), ?_⟩
    obtain ⟨⟨d, env'⟩, hm, w⟩ := w.ok
    exact hw X S.ok A hA hM σ H _ ⟨ex, env, d, env', r0, hm, fun v H' f vr => set_end hM r0 h1 h2 x1 (fun j hj => x1 j (x2 j hj)) (fun i => by simp) f vr w⟩
theorem tup_sw {value : Expr} {es : List Expr} {j : Nat} {p : Pos} {line : Nat} {env : PySem.Env} : swapsWithSole [.Tuple es j p] value line env = pure false := by
  cases value <;> rfl
theorem tup_left (S : SOk X c cf k V) {value : Expr} {es : List Expr} {j : Nat} {p : Pos} (h : leftB c es value = true) : swappedStores [.Tuple es j p] value X.env = pure none := by
  unfold leftB at h
  rw [Bool.or_eq_true, Bool.not_eq_true', Bool.and_eq_true] at h
  rcases h with h | ⟨h1, h2⟩
  · cases value <;> first | rfl | cases h
  · cases value <;> first | (cases h1; done) | skip
    rename_i vs jj pp
    unfold swappedStores
    have hk : X.env.blockKind = .function := by unfold Env.blockKind; rw [S.ok.sc, S.fn]; rfl
    simp only [hk]
    have hne : ∀ (line : Nat), (es.filterMap fun | .Name id pos => if (X.env.kindOf id == some .local && pos.line == line) = true then some id else none | _ => none).length ≠ es.length := fun line hl => by
      rw [List.any_eq_true] at h2
      obtain ⟨t, ht, hp⟩ := h2
      have hall := List.filterMap_length_eq_length.mp hl t ht
      unfold plainTg at hp
      cases t <;> first | (cases hall; done) | skip
      rename_i id pos
      rw [Bool.not_eq_true', decide_eq_false_iff_not] at hp
      dsimp only at hall
      split at hall
      · rename_i hc
        rw [Bool.and_eq_true] at hc
        refine hp ?_
        have hc1 := eq_of_beq hc.1
        unfold Env.kindOf at hc1
        rw [S.ok.sc] at hc1
        exact hc1
      · cases hall
    have hne' : ∀ line, ((es.filterMap fun | .Name id pos => if (X.env.kindOf id == some .local && pos.line == line) = true then some id else none | _ => none).length != es.length) = true := fun line => by
      rw [bne_iff_ne]; exact hne line
    split
    · rfl
    · split
      · rfl
      · refine if_pos ?_
        rw [Bool.or_eq_true]
        exact .inl (hne' _)
theorem erase_mem {is : List Nat} {i : Nat} : i ∈ eraseAll o is ↔ i ∈ o ∧ i ∉ is := by
  unfold eraseAll
  rw [List.mem_filter]
  simp
/-- a, b, .. = value -/
theorem snd_sets (S : SOk X c cf k V) (hA : A.K = X.K) (hM : AOk A c) {es : List Expr} {j : Nat} {tp pos : Pos} {value : Expr} {is : List Nat} {e : Ex} {kd : Kd} {o1 : Own} (hi : namesOf c es = some is) (ht : leftB c es value = true) (h : (compE n c o value).map noPk = some (e, kd, o1)) :
    PS X (.Assign [.Tuple es j tp] value pos) (tSm A V c o l (some (eraseAll o1 is)) (evS cf (.sets is e))) := by
  obtain ⟨m2, l2, n2, f2, p2⟩ := namesOf_spec S.ok es is hi
  obtain ⟨se, e1, e2, ne⟩ := comp_np (cf := cf) (k := k) h
  refine psby fun D σ H q => ?_
  obtain ⟨ex, env, r0, w⟩ := tSm_iff.mp q
  simp only [evS] at w
  cases he : errOf cf e env with
  | some pr =>
    obtain ⟨xx, e1'⟩ := pr
    rw [he] at w
    obtain ⟨r', hr', hpk⟩ := Option.map_eq_some_iff.mp h
    have er := snd_err S hA hM hr'
    rw [noPk_fst' hpk] at er
    exact ⟨_, ps_asg er (pg_tup S.ok.rm.calm p2 n2 f2) tup_sw (tup_left S ht) rfl, ex, env, xx, e1', r0, he, fun H' r => w σ H' r⟩
  | none =>
  rw [he] at w
  dsimp only [orEr] at w
  obtain ⟨⟨d, env'⟩, hm, w⟩ := w.ok
  dsimp only at w
  split at w
  · rename_i ds hds
    split at w
    · rename_i hlen
      have fin : ∀ (vs : List L2.V) (H' : Hp) (ra : R A ex o1 σ H' env') (f : Frame (EX (tch e) σ) H H') (rv : Reps A.K (XX o1 σ ex) H' vs ds), D.nx (setS σ is vs) H' := fun vs H' ra f rv => by
        have hs : ∀ i, i ∈ eraseAll o1 is → i ∈ o1 := fun i hi => (erase_mem.mp hi).1
        refine w _ rfl _ _ ?_ ((ra.free hs).setvs (fun i hi z => (erase_mem.mp z).2 hi) (rv.less fun b z => z.imp (EX.sub hs b) id) fun i p hi z => m2 i hi (hM.1 i p z))
        exact (Sc.exp f e2 fun i hi => e1 i (hs i hi)).slots fun i hi => setS_off _ _ _ _ (erase_mem.mp hi).2
      cases d <;> first | (cases hds; done) | skip
      · cases hds
        refine ⟨_, ps_asg (se X S.ok A hA hM) (pg_tup S.ok.rm.calm p2 n2 f2) tup_sw (tup_left S ht) rfl, ?_⟩
        refine stepV ne r0 hm fun v H' ra f va => ?_
        cases va with
        | tup t rr => exact ⟨_, _, rfl, by rw [← hA]; exact t.sq, by rw [rr.length, hlen, l2], by rw [rr.length]; exact hlen, fin _ _ ra f rr⟩
      · cases hds
        refine ⟨_, ps_asg (se X S.ok A hA hM) (pg_lst S.ok.rm.calm p2 n2 f2) tup_sw (tup_left S ht) rfl, ?_⟩
        refine stepV ne r0 hm fun v H' ra f va => ?_
        cases va with
        | lst t nn rr => exact ⟨_, _, rfl, SqL.of t, by rw [rr.length, hlen, l2], by rw [rr.length]; exact hlen, fin _ _ ra f rr⟩
    · exact w.elim
  · exact w.elim
theorem par_sw (S : SOk X c cf k V) {x y : Str} {px py tp vp : Pos} {a b : Expr} {j j' : Nat} (h : parB c x y px py a b = true) (ha : isStar a = false) (hb : isStar b = false) : swappedStores [.Tuple [.Name x px, .Name y py] j tp] (.Tuple [a, b] j' vp) X.env = pure (some [x, y]) := by
  unfold parB at h
  simp only [Bool.and_eq_true, Bool.not_eq_true', decide_eq_true_eq, decide_eq_false_iff_not] at h
  obtain ⟨⟨⟨⟨⟨⟨h1, h2⟩, h3⟩, h4⟩, h5⟩, h6⟩, h7⟩ := h
  have hx : X.env.kindOf x = some .local := by unfold Env.kindOf; rw [S.ok.sc]; exact h6
  have hy : X.env.kindOf y = some .local := by unfold Env.kindOf; rw [S.ok.sc]; exact h7
  have hk : X.env.blockKind = .function := by unfold Env.blockKind; rw [S.ok.sc, S.fn]; rfl
  have hl : py.line = px.line := eq_of_beq h1
  have hn : ([x, y] : List Str).eraseDups.length = 2 := by
    have : (y == x) = false := by rw [beq_eq_false_iff_ne]; exact fun e => h5 e.symm
    simp [List.eraseDups_cons, this]
  unfold swappedStores
  simp only [hk, List.length_cons, List.length_nil, List.filterMap_cons, List.filterMap_nil, hx, hy, hl, Expr.pos, List.head?_cons, Option.map_some, Option.getD_some]
  simp [h2, h3, hn]
  intro h
  exfalso
  rcases h with h | h
  · cases a <;> first | (cases h; done) | (cases ha; done)
  · cases b <;> first | (cases h; done) | (cases hb; done)
/-- a, b = x, y -/
theorem snd_par (S : SOk X c cf k V) (hA : A.K = X.K) (hM : AOk A c) {x y : Str} {px py tp vp pos : Pos} {a b : Expr} {j j' : Nat} {i1 i2 : Nat} {e f : Ex} {ka kb : Kd} {o1 o2 : Own} (hp : parB c x y px py a b = true) (h1 : stoOf c x = some i1) (h2 : stoOf c y = some i2) (hne : i1 ≠ i2)
    (ha : (compE n c o a).map noPk = some (e, ka, o1)) (hb : (compE n c o1 b).map noPk = some (f, kb, o2)) :
    PS X (.Assign [.Tuple [.Name x px, .Name y py] j tp] (.Tuple [a, b] j' vp) pos) (tSm A V c o l (some (eraseAll o2 [i1, i2])) (evS cf (.par i1 i2 e f))) := by
  obtain ⟨a1, a2, a3, a4⟩ := stoOf_lt h1
  obtain ⟨b1, b2, b3, b4⟩ := stoOf_lt h2
  obtain ⟨se, e1, e2, ne⟩ := comp_np (cf := cf) (k := k) ha
  obtain ⟨sf, f1, f2, nf⟩ := comp_np (cf := cf) (k := k) hb
  obtain ⟨ra, hra, _⟩ := Option.map_eq_some_iff.mp ha
  obtain ⟨rb, hrb, _⟩ := Option.map_eq_some_iff.mp hb
  have sta := (recG n (cf := cf) (k := k)).st _ _ _ _ hra
  have stb := (recG n (cf := cf) (k := k)).st _ _ _ _ hrb
  have hN : X.N.Nodup := by rw [S.ok.N]; exact S.ok.nd
  have hp' := hp
  unfold parB at hp'
  simp only [Bool.and_eq_true, Bool.not_eq_true', decide_eq_true_eq, decide_eq_false_iff_not] at hp'
  obtain ⟨⟨_, hxl⟩, hyl⟩ := hp'
  refine psimp (ps_par S.ok.rm.calm hN (by rw [S.ok.N]; exact a3) (by rw [S.ok.N]; exact b3) hne (by rw [S.ok.sc]; exact hxl) (by rw [S.ok.sc]; exact hyl) (pa_cons' (se X S.ok A hA hM) (pa_cons' (sf X S.ok A hA hM) pa_nil stb) sta) (par_sw S hp sta stb) rfl) fun D σ H q => ?_
  obtain ⟨ex, env, r0, w⟩ := tSm_iff.mp q
  simp only [evS] at w
  obtain ⟨⟨xv, env1⟩, hm1, w⟩ := w.ok
  obtain ⟨⟨yv, env2⟩, hm2, w⟩ := w.ok
  refine stepV ne r0 hm1 fun v H1 r1 g1 v1 => stepV nf r1 hm2 fun u H2 r2 g2 v2 => ⟨v, u, rfl, ?_⟩
  have hs : ∀ i, i ∈ eraseAll o2 [i1, i2] → i ∈ o2 := fun i hi => (erase_mem.mp hi).1
  have v1' := keepV v1 g2 f2 f1
  have ni1 : i1 ∉ eraseAll o2 [i1, i2] := fun z => (erase_mem.mp z).2 List.mem_cons_self
  have ni2 : i2 ∉ eraseAll o2 [i1, i2] := fun z => (erase_mem.mp z).2 (List.mem_cons_of_mem _ (List.mem_singleton.mpr rfl))
  have lx : ∀ b, XX (eraseAll o2 [i1, i2]) σ ex b → XX o2 σ ex b := fun b z => z.imp (EX.sub hs b) id
  have ra := (r2.free hs).setv ni1 (v1'.less lx) fun p z => a2 (hM.1 i1 p z)
  have hE : EX (eraseAll o2 [i1, i2]) (σ.set i1 (some v)) = EX (eraseAll o2 [i1, i2]) σ := EX_eq fun i hi => by rw [get_set, if_neg fun e => ni1 (by subst e; exact hi)]
  have rb := ra.setv (v := u) (d := yv) ni2 (by unfold XX; rw [hE]; exact v2.less lx) fun p z => b2 (hM.1 i2 p z)
  refine w _ rfl _ _ ?_ rb
  have hs2 : ∀ i, i ∈ tch e ++ tch f → i ∈ o := append_sub e2 fun i hi => e1 i (f2 i hi)
  refine (Sc.exp (g1.cat g2) hs2 fun i hi => e1 i (f1 i (hs i hi))).slots fun i hi => ?_
  rw [get_set, if_neg fun e => ni2 (by subst e; exact hi), get_set, if_neg fun e => ni1 (by subst e; exact hi)]
theorem set_dict (hu : X.A.units + 1 < cLine) : PSet X (fun o i v H Q => ∃ p H', o = .ref p ∧ DPut H p i v H' ∧ Q H') := by
  intro pins s σ H o i v ov iv u Q I ro ri rv h
  obtain ⟨p, H', rfl, g, q⟩ := h
  obtain rfl : ov = Value.ref p := ro
  exact d_setItem hu I g ri rv fun s' I' => ⟨H', I', q⟩
theorem psetOr {t t' : TSet} (h : PSet X t) (h' : PSet X t') : PSet X (fun o i v H Q => t o i v H Q ∨ t' o i v H Q) := by
  intro pins s σ H o i v ov iv u Q I ro ri rv q
  rcases q with q | q
  · exact h pins s σ H o i v ov iv u Q I ro ri rv q
  · exact h' pins s σ H o i v ov iv u Q I ro ri rv q
/-- x[k] = value -/
theorem snd_setI (S : SOk X c cf k V) (hA : A.K = X.K) (hM : AOk A c) {x : Str} {xp tp pos : Pos} {kx value : Expr} {i : Nat} {e f : Ex} {ke kf : Kd} {o1 o2 : Own} (hv : varOf c x = some i) (he : (compE n c o value).map noPk = some (e, ke, o1)) (hf : (compE n c o1 kx).map noPk = some (f, kf, o2)) (hi : i ∈ o2) (hnf : i ∉ tch f)
    (hlc : isLcE value = false) (hsl : ∀ lo hi st p, kx ≠ .Slice lo hi st p) : PS X (.Assign [.Subscript (.Name x xp) kx tp] value pos) (tSm A V c o l (some o2) (evS cf (.setI i f e))) := by
  obtain ⟨se, e1, e2, ne⟩ := comp_np (cf := cf) (k := k) he
  obtain ⟨sf, f1, f2, nf⟩ := comp_np (cf := cf) (k := k) hf
  refine psimp (ps_asg (se X S.ok A hA hM) (pg_sub (varOf_spec S.ok (pos := xp) hv) (sf X S.ok A hA hM) (psetOr set_list (set_dict (by have := S.ok.rm.un; omega))) (fun v => by cases kx <;> first | rfl | exact absurd rfl (hsl _ _ _ _))) (by cases value <;> first | rfl | cases hlc) (by cases value <;> rfl) rfl) fun D σ H q => ?_
  obtain ⟨ex, env, r0, w⟩ := tSm_iff.mp q
  simp only [evS] at w
  obtain ⟨⟨xv, env1⟩, hm1, w⟩ := w.ok
  obtain ⟨⟨yv, env2⟩, hm2, w⟩ := w.ok
  dsimp only at w
  refine stepV ne r0 hm1 fun v H1 r1 g1 v1 => ?_
  obtain ⟨p, sh0, vs0, ds0, s1, s2, _, _⟩ := r1.owl i (f1 i hi)
  refine ⟨_, s1, stepV nf r1 hm2 fun u H2 r2 g2 v2 => ?_⟩
  obtain ⟨p', sh, vs, ds, t1, t2, t3, t4⟩ := r2.owl i hi
  obtain rfl : p' = p := by rw [s1] at t1; cases t1; rfl
  rw [t4] at w
  have v1' := keepV v1 g2 f2 f1
  have hZ : XX o2 σ ex p' := .inl ⟨i, hi, t1⟩
  have hs2 : ∀ j, j ∈ tch e ++ tch f → j ∈ o := append_sub e2 fun i hi => e1 i (f2 i hi)
  have hlen : i < env2.length := by
    rw [List.getElem?_eq_some_iff] at t4
    exact t4.1
  have fin : ∀ (ws : List L2.V) (sh' : Shp) (es : List Pv.D), Repz A.K (XX o2 σ ex) H2 sh' ws es → Want A V c o l (some o2) ex D σ H (.nx (env2.set i (some (sh'.d es)))) → D.nx σ (upd H2 p' (sh'.ho ws)) := fun ws sh' es rr w => by
    have hfr : Frame (EX [i] σ) H2 (upd H2 p' (sh'.ho ws)) := Frame.set ⟨i, List.mem_singleton.mpr rfl, t1⟩
    have hfz : Frame (XX o2 σ ex) H2 (upd H2 p' (sh'.ho ws)) := Frame.set hZ
    have tr : TrZ (XX o2 σ ex) (upd H2 p' (sh'.ho ws)) := fun b z => by
      obtain ⟨o', e⟩ := r2.trX b z
      exact hfr.there _ _ e
    have rn := r2.touch (env' := env2.set i (some (sh'.d es))) hfr (fun j hj => by rw [List.mem_singleton.mp hj]; exact hi) (fun _ z => z) (fun _ z => .inl z) tr (fun m hm => by
      rw [List.mem_singleton.mp hm]
      exact ⟨p', sh', _, _, t1, upd_same, rr.frame hfz, by rw [get_set, if_pos rfl, if_pos hlen]⟩) (fun m hm => by rw [get_set, if_neg fun z => hm (by rw [z]; exact List.mem_singleton.mpr rfl)]) (by rw [List.length_set])
    have rn' := rn.less (ex' := ex) fun b z => ⟨.inr z, fun w => r2.dis b w z⟩
    refine w _ rfl _ _ ?_ rn'
    exact Sc.exp ((g1.cat g2).cat hfr) (append_sub hs2 fun j hj => by rw [List.mem_singleton.mp hj]; exact e1 i (f1 i hi)) fun j hj => e1 j (f1 j hj)
  cases sh with
  | lst =>
    dsimp only [Shp.d] at w
    split at w
    · rename_i xs z heq
      obtain rfl : ds = xs := by cases heq; rfl
      split at w
      · rename_i j hj
        cases v2
        exact .inl ⟨p', vs, z, j, rfl, rfl, t2, by rw [t3.r.length]; exact hj, fin _ .lst _ (Reps.set v1' j t3.r).z w⟩
      · exact w.elim
    · rename_i heq
      cases heq
    · exact w.elim
  | dct ks =>
    dsimp only [Shp.d] at w
    split at w
    · rename_i heq
      cases heq
    · rename_i ks' ds' z heq
      obtain ⟨rfl, rfl⟩ : ks = ks' ∧ ds = ds' := by cases heq; exact ⟨rfl, rfl⟩
      split at w
      · rename_i hg
        cases v2
        have hkl : ks.length = vs.length := by rw [t3.r.length]; exact hg.2
        refine .inr ⟨p', _, rfl, DPut.k (k := .inr z) t2 ?_, ?_⟩
        · unfold kvZ
          rw [List.length_zip, List.length_map, hkl, Nat.min_self, t3.r.length]
          exact lim_lt hg.1
        · rw [kvZ_put hkl, dPut_fst (vs := vs) (ws := ds) (z := xv)]
          exact fin _ (.dct _) _ (t3.r.dput v1').zd w
      · exact w.elim
    · exact w.elim
  | obj C dx nm ks => exact w.elim
theorem swap_at {value o : Expr} {f : Str} {p : Pos} {l : Nat} {env : PySem.Env} : swapsWith value (some (.Attribute o f p)) l env = pure false := by
  cases value <;> rfl
/-- name.f = value -/
theorem snd_setA (S : SOk X c cf k V) (hA : A.K = X.K) (hM : AOk A c) {x f nm : Str} {xp ap pos : Pos} {v : Expr} {G : CSig} {i : Nat} {e : Ex} {kd : Kd} {o1 : Own} (hv : varOf c x = some i) (hG : c.cls.lookup nm = some G) (hf : G.as.contains f = true) (h : (compE n c o v).map noPk = some (e, kd, o1)) (hi : i ∈ o1) :
    PS X (.Assign [.Attribute (.Name x xp) f ap] v pos) (tSm A V c o l (some o1) (evS cf (.setA i nm f e))) := by
  obtain ⟨se, e1, e2, ne⟩ := comp_np (cf := cf) (k := k) h
  obtain ⟨C, hm, hO, _, _⟩ := S.ok.cls nm G hG
  refine psimp (ps_fld (varOf_spec S.ok (pos := xp) hv) (se X S.ok A hA hM) swap_at) fun D σ H q => ?_
  obtain ⟨ex, env, r0, w⟩ := tSm_iff.mp q
  simp only [evS] at w
  obtain ⟨⟨xv, env1⟩, hm1, w1⟩ := w.ok
  clear w
  dsimp only at w1
  refine stepV ne r0 hm1 fun v' H1 r1 g1 v1 => ?_
  obtain ⟨p, sh, vs, ds, t1, t2, t3, t4⟩ := r1.owl i hi
  rw [t4] at w1
  cases sh with
  | lst => exact w1.elim
  | dct ks => exact w1.elim
  | obj C' dx nm' ks =>
    dsimp only [Shp.d] at w1
    split at w1
    · rename_i hg
      obtain ⟨rfl, hlen⟩ := hg
      have g := t3.ok
      rw [hA] at g
      have g : ObF X.K C' nm' ks := g
      obtain rfl := cls_uniq g hO
      have hno : NoAttr X.K C' f := hO.no f (by simpa using hf)
      refine ⟨.ref p, t1, p, C', dx, ks.zip vs, rfl, t2, g.cf.cls, hno, by rw [List.length_zip]; omega, ?_⟩
      have hvl : vs.length = ds.length := t3.r.length
      have hrz : Repz A.K (XX o1 σ ex) H1 (.obj C' dx nm' (oPut ks ds f xv).1) (oPut ks vs f v').2 (oPut ks ds f xv).2 := by
        refine ⟨t3.r.oput v1, ?_⟩
        show ObF A.K C' nm' _
        rw [hA]
        exact ⟨g.ns, g.cf, fun z hz => (oPut_mem hz).elim (fun e => by rw [e]; exact hno) (g.no z)⟩
      have hho : HO.ins C' dx (putF f v' (ks.zip vs)) = Shp.ho (.obj C' dx nm' (oPut ks ds f xv).1) (oPut ks vs f v').2 := by
        rw [zip_put, oPut_fst (ws := ds) (z := xv) hvl]
        rfl
      have hlen' : i < env1.length := by
        rw [List.getElem?_eq_some_iff] at t4
        exact t4.1
      have hZ : XX o1 σ ex p := .inl ⟨i, hi, t1⟩
      have hfr : Frame (EX [i] σ) H1 (upd H1 p (.ins C' dx (putF f v' (ks.zip vs)))) := Frame.set ⟨i, List.mem_singleton.mpr rfl, t1⟩
      have hfz : Frame (XX o1 σ ex) H1 (upd H1 p (.ins C' dx (putF f v' (ks.zip vs)))) := Frame.set hZ
      have tr : TrZ (XX o1 σ ex) (upd H1 p (.ins C' dx (putF f v' (ks.zip vs)))) := fun b z => by
        obtain ⟨o', e⟩ := r1.trX b z
        exact hfr.there _ _ e
      have rn := r1.touch (env' := env1.set i (some (.obj nm' (oPut ks ds f xv).1 (oPut ks ds f xv).2))) hfr (fun j hj => by rw [List.mem_singleton.mp hj]; exact hi) (fun _ z => z) (fun _ z => .inl z) tr (fun m hm => by
        rw [List.mem_singleton.mp hm]
        exact ⟨p, _, _, _, t1, by rw [upd_same, hho], hrz.frame hfz, by rw [get_set, if_pos rfl, if_pos hlen']; rfl⟩) (fun m hm => by rw [get_set, if_neg fun z => hm (by rw [z]; exact List.mem_singleton.mpr rfl)]) (by rw [List.length_set])
      have rn' := rn.less (ex' := ex) fun b z => ⟨.inr z, fun w => r1.dis b w z⟩
      refine w1 _ rfl _ _ ?_ rn'
      exact Sc.exp (g1.cat hfr) (append_sub e2 fun j hj => by rw [List.mem_singleton.mp hj]; exact e1 i hi) e1
    · exact w1.elim
theorem R.put {A : Amb} {ex : Addr → Prop} {o : Own} {σ : St} {H : Hp} {env : Env} {i j : Nat} {p : Addr} {vs : List L2.V} {ds : List Pv.D} {v : L2.V} {x : Pv.D} (r : R A ex o σ H env) (hi : i ∈ o) (t1 : σ[i]? = some (some (L2.V.ref p))) (t3 : Reps A.K (XX o σ ex) H vs ds) (t4 : env[i]? = some (some (.lst ds))) (rv : Rep A.K (XX o σ ex) H v x) :
    R A ex o σ (upd H p (.lst (vs.set j v))) (env.set i (some (.lst (ds.set j x)))) ∧ Frame (EX [i] σ) H (upd H p (.lst (vs.set j v))) := by
  have hfr : Frame (EX [i] σ) H (upd H p (.lst (vs.set j v))) := Frame.set ⟨i, List.mem_singleton.mpr rfl, t1⟩
  have hfz : Frame (XX o σ ex) H (upd H p (.lst (vs.set j v))) := Frame.set (.inl ⟨i, hi, t1⟩)
  have tr : TrZ (XX o σ ex) (upd H p (.lst (vs.set j v))) := fun b z => by
    obtain ⟨o', e⟩ := r.trX b z
    exact hfr.there _ _ e
  have hlen : i < env.length := by
    rw [List.getElem?_eq_some_iff] at t4
    exact t4.1
  have rn := r.touch (env' := env.set i (some (.lst (ds.set j x)))) hfr (fun j hj => by rw [List.mem_singleton.mp hj]; exact hi) (fun _ z => z) (fun _ z => .inl z) tr (fun m hm => by
    rw [List.mem_singleton.mp hm]
    exact ⟨p, .lst, _, _, t1, upd_same, ((Reps.set rv j t3).frame hfz).z, by rw [get_set, if_pos rfl, if_pos hlen]; rfl⟩) (fun m hm => by rw [get_set, if_neg fun z => hm (by rw [z]; exact List.mem_singleton.mpr rfl)]) (by rw [List.length_set])
  exact ⟨rn.less (ex' := ex) fun b z => ⟨.inr z, fun w => r.dis b w z⟩, hfr⟩
/-- x[k], x[l] = a, b -/
theorem snd_swp (S : SOk X c cf k V) (hA : A.K = X.K) (hM : AOk A c) {x y : Str} {xp yp kp lp tp vp pos : Pos} {kx lx av bv : Expr} {j j' : Nat} {i : Nat} {e f u w : Ex} {ke kf ku kw : Kd} {o1 o2 o3 o4 : Own} (hv : varOf c x = some i) (hv' : varOf c y = some i)
    (he : (compE n c o av).map noPk = some (e, ke, o1)) (hf : (compE n c o1 bv).map noPk = some (f, kf, o2)) (hu : (compE n c o2 kx).map noPk = some (u, ku, o3)) (hw : (compE n c o3 lx).map noPk = some (w, kw, o4)) (hi : i ∈ o4) (hnu : i ∉ tch u) (hnw : i ∉ tch w)
    (hsk : ∀ lo hi st p, kx ≠ .Slice lo hi st p) (hsl : ∀ lo hi st p, lx ≠ .Slice lo hi st p) :
    PS X (.Assign [.Tuple [.Subscript (.Name x xp) kx kp, .Subscript (.Name y yp) lx lp] j tp] (.Tuple [av, bv] j' vp) pos) (tSm A V c o l (some o4) (evS cf (.swp i u w e f))) := by
  obtain ⟨se, e1, e2, ne⟩ := comp_np (cf := cf) (k := k) he
  obtain ⟨sf, f1, f2, nf⟩ := comp_np (cf := cf) (k := k) hf
  obtain ⟨su, u1, u2, nu⟩ := comp_np (cf := cf) (k := k) hu
  obtain ⟨sw, w1, w2, nw⟩ := comp_np (cf := cf) (k := k) hw
  obtain ⟨ra, hra, _⟩ := Option.map_eq_some_iff.mp he
  obtain ⟨rb, hrb, _⟩ := Option.map_eq_some_iff.mp hf
  have sta := (recG n (cf := cf) (k := k)).st _ _ _ _ hra
  have stb := (recG n (cf := cf) (k := k)).st _ _ _ _ hrb
  have hsw : swappedStores [.Tuple [.Subscript (.Name x xp) kx kp, .Subscript (.Name y yp) lx lp] j tp] (.Tuple [av, bv] j' vp) X.env = pure none := by
    unfold swappedStores
    have hk : X.env.blockKind = .function := by unfold Env.blockKind; rw [S.ok.sc, S.fn]; rfl
    simp only [hk, List.length_cons, List.length_nil, List.filterMap_cons, List.filterMap_nil]
    simp
  refine psimp (ps_asg (pe_tupF (pa_cons' (se X S.ok A hA hM) (pa_cons' (sf X S.ok A hA hM) pa_nil stb) sta)) (pg_tup S.ok.rm.calm (pgs_cons (pg_sub (varOf_spec S.ok (pos := xp) hv) (su X S.ok A hA hM) set_list (fun v => by cases kx <;> first | rfl | exact absurd rfl (hsk _ _ _ _)))
      (pgs_cons (pg_sub (varOf_spec S.ok (pos := yp) hv') (sw X S.ok A hA hM) set_list (fun v => by cases lx <;> first | rfl | exact absurd rfl (hsl _ _ _ _))) pgs_nil)) rfl rfl) tup_sw hsw rfl) fun D σ H q => ?_
  obtain ⟨ex, env, r0, ww⟩ := tSm_iff.mp q
  simp only [evS] at ww
  obtain ⟨⟨xv, env1⟩, hm1, ww⟩ := ww.ok
  obtain ⟨⟨yv, env2⟩, hm2, ww⟩ := ww.ok
  obtain ⟨⟨kv, env3⟩, hm3, ww⟩ := ww.ok
  dsimp only at ww
  refine stepV ne r0 hm1 fun v H1 r1 g1 v1 => stepV nf r1 hm2 fun v' H2 r2 g2 v2 => ⟨by show 2 ≤ sizeLine; rw [sizeLine_eq]; decide, fun p ob np hd => ?_⟩
  have h32 : i ∈ o2 := u1 i (w1 i hi)
  obtain ⟨q0, sh0, vs0, ds0, s1, _, _, _⟩ := r2.owl i h32
  have v1' := keepV v1 g2 f2 f1
  have r2' := r2.laid np (.frz ob (.tup [v, v']))
  have v1n := v1'.frame (Frame.same (same_new (o := .frz ob (.tup [v, v'])) np))
  have v2n := v2.frame (Frame.same (same_new (o := .frz ob (.tup [v, v'])) np))
  refine ⟨p, [v, v'], rfl, .inl (.inr ⟨ob, upd_same⟩), rfl, v, [v'], rfl, _, s1, stepV nu r2' hm3 fun kvv H3 r3 g3 k3 => ?_⟩
  have h3 : i ∈ o3 := w1 i hi
  obtain ⟨p', sh, vs, ds, t1, t2, t3, t4⟩ := r3.owl i h3
  obtain rfl : q0 = p' := by rw [s1] at t1; cases t1; rfl
  rw [t4] at ww
  cases sh with
  | dct ks => exact ww.elim
  | obj _ _ _ _ => exact ww.elim
  | lst =>
  cases kv <;> first | exact ww.elim | skip
  rename_i z
  cases k3
  dsimp only [Shp.d] at ww
  split at ww
  · rename_i jj hj
    have x1 := keepV v1n g3 u2 u1
    have x2 := keepV v2n g3 u2 u1
    obtain ⟨r4, f4⟩ := r3.put (j := jj) h3 t1 t3.r t4 x1
    have x2' := x2.frame (f4.mono fun b zz => .inl (EX.sub (fun m hm => by rw [List.mem_singleton.mp hm]; exact h3) b zz))
    refine ⟨q0, vs, z, jj, rfl, rfl, t2, by rw [t3.r.length]; exact hj, ?_⟩
    obtain ⟨⟨lv, env4⟩, hm4, ww⟩ := ww.ok
    refine ⟨v', [], rfl, _, s1, stepV nw r4 hm4 fun lvv H5 r5 g5 k5 => ?_⟩
    obtain ⟨p'', sh, vs', ds', t1', t2', t3', t4'⟩ := r5.owl i hi
    obtain rfl : q0 = p'' := by rw [s1] at t1'; cases t1'; rfl
    dsimp only at ww
    rw [t4'] at ww
    cases sh with
    | dct ks => exact ww.elim
    | obj _ _ _ _ => exact ww.elim
    | lst =>
    cases lv <;> first | exact ww.elim | skip
    rename_i z'
    cases k5
    dsimp only [Shp.d] at ww
    split at ww
    · rename_i m hm
      have x3 := keepV x2' g5 w2 w1
      obtain ⟨r6, f6⟩ := r5.put (j := m) hi t1' t3'.r t4' x3
      refine ⟨q0, vs', z', m, rfl, rfl, t2', by rw [t3'.r.length]; exact hm, rfl, ?_⟩
      have hs1 : ∀ b, b ∈ [i] → b ∈ o := fun b hb => by rw [List.mem_singleton.mp hb]; exact e1 i (f1 i h32)
      refine ww _ rfl _ _ ?_ r6
      have F1 := (g1.cat g2).trans (.same (same_new (o := .frz ob (.tup [v, v'])) np))
      exact Sc.exp (((F1.cat g3).cat f4).cat (g5.cat f6)) (append_sub (append_sub (append_sub (append_sub e2 fun m hm => e1 m (f2 m hm)) fun m hm => e1 m (f1 m (u2 m hm))) hs1) (append_sub (fun m hm => e1 m (f1 m (u1 m (w2 m hm)))) hs1)) fun m hm => e1 m (f1 m (u1 m (w1 m hm)))
    · exact ww.elim
  · exact ww.elim
/-- name += value -/
theorem snd_aug (S : SOk X c cf k V) (hA : A.K = X.K) (hM : AOk A c) {x : Str} {xp pos : Pos} {op : Operator} {p : Bop} {v : Expr} {i : Nat} {e : Ex} {kd : Kd} {o1 : Own} (hop : augOf op = some p) (hi : stoOf c x = some i) (hio : i ∉ o) (h : (compE n c o v).map noPk = some (e, kd, o1)) :
    PS X (.AugAssign (.Name x xp) op v pos) (tSm A V c o l (some o1) (evS cf (.set i (.bin p (.var i) e)))) := by
  obtain ⟨h1, h2, h3, h4⟩ := stoOf_lt hi
  obtain ⟨se, e1, e2, ne⟩ := comp_np (cf := cf) (k := k) h
  have hN : X.N.Nodup := by rw [S.ok.N]; exact S.ok.nd
  have key : ∀ (f : Int → Int → Int), PIp X op (ipI f) → (∀ a b d, binF p a b = some d → ∃ i j, a = .int i ∧ b = .int j ∧ d = .int (f i j)) → PS X (.AugAssign (.Name x xp) op v pos) (tSm A V c o l (some o1) (evS cf (.set i (.bin p (.var i) e)))) := fun f hip hf => by
    refine psimp (ps_aug hN (by rw [S.ok.N]; exact h3) (loc_of S.ok h4).1 (se X S.ok A hA hM) hip (loc_of S.ok h4).2) fun D σ H q => ?_
    obtain ⟨ex, env, r0, w⟩ := tSm_iff.mp q
    simp only [evS, errOf, orEr] at w
    obtain ⟨⟨d, env'⟩, hm, w⟩ := w.ok
    simp only [evE] at hm
    cases hvi : env[i]? with
    | none => simp only [hvi] at hm; cases hm
    | some ov =>
      cases ov with
      | none => simp only [hvi] at hm; cases hm
      | some dv =>
        simp only [hvi] at hm
        obtain ⟨⟨x0, e0⟩, g0, hm⟩ := bind_ok hm
        cases g0
        obtain ⟨⟨y, env2⟩, g1, hm⟩ := bind_ok hm
        obtain ⟨z, g2, hm⟩ := bind_ok hm
        obtain ⟨rfl, rfl⟩ : z = d ∧ env2 = env' := by cases hm; exact ⟨rfl, rfl⟩
        obtain ⟨a, b, rfl, rfl, rfl⟩ := hf _ _ _ (of_ok g2)
        obtain ⟨u, s1, s2⟩ := r0.non i _ hio hvi
        cases s2
        refine ⟨_, s1, stepV ne r0 g1 fun v H' ra f va => ?_⟩
        cases va
        refine ⟨a, b, rfl, rfl, ?_⟩
        have hio1 : i ∉ o1 := fun z => hio (e1 i z)
        refine w _ rfl _ _ ?_ (ra.setv hio1 (.int _) fun p z => h2 (hM.1 i p z))
        exact (Sc.exp f e2 e1).slots fun j hj => by rw [get_set, if_neg fun e => hio1 (by rw [e]; exact hj)]
  unfold augOf at hop
  split at hop
  · cases hop
    exact key _ ip_add fun a b d h => by
      unfold binF at h
      split at h <;> first | contradiction | skip
      all_goals (rename_i e1; first | (cases e1; done) | skip)
      cases h
      exact ⟨_, _, rfl, rfl, rfl⟩
  · cases hop
    exact key _ ip_sub fun a b d h => by
      unfold binF at h
      split at h <;> first | contradiction | skip
      all_goals (rename_i e1; first | (cases e1; done) | skip)
      cases h
      exact ⟨_, _, rfl, rfl, rfl⟩
  · cases hop
/-- a call, its value dropped -/
theorem snd_exS (S : SOk X c cf k V) (hA : A.K = X.K) (hM : AOk A c) {f : Expr} {es : List Expr} {kw : List Keyword} {p pos : Pos} {e : Ex} {kd : Kd} {o1 : Own} (h : compE n c o (.Call f es kw p) = some (e, kd, o1)) :
    PS X (.Expr (.Call f es kw p) pos) (tSm A V c o l (some (noPk (e, kd, o1)).2.2) (evS cf (.ex e))) := by
  have h' : (compE n c o (.Call f es kw p)).map noPk = some ((noPk (e, kd, o1)).1, (noPk (e, kd, o1)).2.1, (noPk (e, kd, o1)).2.2) := by rw [h]; rfl
  have hfst : (noPk (e, kd, o1)).1 = e := noPk_fst
  obtain ⟨se, e1, e2, ne⟩ := comp_np (cf := cf) (k := k) h'
  refine psby fun D σ H q => ?_
  obtain ⟨ex, env, r0, w⟩ := tSm_iff.mp q
  simp only [evS] at w
  cases he : errOf cf e env with
  | some pr =>
    obtain ⟨xx, e1'⟩ := pr
    rw [he] at w
    exact ⟨_, ps_expr (snd_err S hA hM h) rfl, ex, env, xx, e1', r0, he, fun H' r => w σ H' r⟩
  | none =>
  rw [he] at w
  dsimp only [orEr] at w
  refine ⟨_, ps_expr (se X S.ok A hA hM) rfl, ?_⟩
  obtain ⟨⟨d, env'⟩, hm, w⟩ := w.ok
  rw [← hfst] at hm
  refine stepV ne r0 hm fun v H' ra f va => ?_
  exact w _ rfl _ _ (Sc.exp f e2 e1) ra

/-! ### returns -/
/-- what a parameter's list is -/
def MOk (A : Amb) (c : Ctx) : Prop := ∀ a, A.M a → ∃ j, j ∈ c.muts ∧ (j, a) ∈ A.mp
theorem snd_ret (S : SOk X c cf k V) (hA : A.K = X.K) (hM : AOk A c) (hMo : MOk A c) {v : Expr} {pos : Pos} {e : Ex} {kd : Kd} {o1 : Own} (h : compE n c o v = some (e, kd, o1))
    (hk : if c.fresh then (match kd with | .fresh => subB c.muts o1 = true | .peek i => subB c.muts (rem o1 i) = true ∧ c.muts.contains i = false | .val => False) else subB c.muts (noPk (e, kd, o1)).2.2 = true) :
    PS X (.Return (some v) pos) (tSm A V c o l none (evS cf (.ret e))) := by
  obtain ⟨se, okx⟩ := (recG n (cf := cf) (k := k)).ok _ _ _ _ h
  refine psby fun D σ H q => ?_
  obtain ⟨ex, env, r0, w⟩ := tSm_iff.mp q
  simp only [evS] at w
  cases he : errOf cf e env with
  | some pr =>
    obtain ⟨xx, e1'⟩ := pr
    rw [he] at w
    exact ⟨_, ps_ret (snd_err S hA hM h), ex, env, xx, e1', r0, he, fun H' r => w σ H' r⟩
  | none =>
  rw [he] at w
  dsimp only [orEr] at w
  refine ⟨_, ps_ret (se X S.ok A hA hM), ?_⟩
  obtain ⟨⟨d, env'⟩, hm, w⟩ := w.ok
  refine ⟨ex, env, d, env', r0, hm, fun u H' f vr => w u H' ?_⟩
  cases hfr : c.fresh with
  | false =>
    rw [hfr] at hk
    have hk : subB c.muts (noPk (e, kd, o1)).2.2 = true := hk
    have hs := sub_of hk
    obtain ⟨ex1, up, dn, r1, k1⟩ := vr
    obtain ⟨k2, r2⟩ := k1.noPk r1 (e := e) (e' := (noPk (e, kd, o1)).1) (k' := (noPk (e, kd, o1)).2.1) (o' := (noPk (e, kd, o1)).2.2) rfl
    have vr2 : VR A (noPk (e, kd, o1)).2.1 ex (noPk (e, kd, o1)).2.2 σ H H' u d env' := ⟨ex1, up, dn, r2, k2⟩
    obtain ⟨ra, va⟩ := vr2.settleV r0.tr noPk_kd
    exact ra.ret r0.ent hM.1 hs (fun _ z => z) (fun _ z => .inl z) va
  | true =>
    rw [hfr, if_pos rfl] at hk
    obtain ⟨ex1, up, dn, r1, k1⟩ := vr
    cases kd with
    | val => exact hk.elim
    | fresh =>
      have hs := sub_of hk
      obtain ⟨p, sh, vs, ds, rfl, rfl, hn, hp, hl, hr⟩ := k1
      exact r1.ret r0.ent hM.1 hs up dn ⟨p, sh, vs, ds, rfl, rfl, r0.ent.free hn, .inr hp, hl, hr⟩
    | peek i =>
      obtain ⟨hk1, hk2⟩ := hk
      have hs := sub_of hk1
      have hi : i ∉ c.muts := by simpa using hk2
      obtain ⟨hio, p, sh, vs, ds, rfl, rfl, hσ, hl, hr⟩ := k1
      have hs1 : ∀ j, j ∈ c.muts → j ∈ o1 := fun j hj => (rem_mem.mp (hs j hj)).1
      have hnew : A.H0 p = none := by
        rcases r1.new p ⟨i, hio, hσ⟩ with q | q
        · obtain ⟨j, hj, hjm⟩ := hMo p q
          have := r1.inj i j p hio (hs1 j hj) hσ (r1.pin j p hjm)
          exact absurd (by rw [this]; exact hj) hi
        · exact q
      exact r1.ret r0.ent hM.1 hs1 up dn ⟨p, sh, vs, ds, rfl, rfl, hnew, .inl ⟨i, hio, hσ⟩, hl, hr⟩
end
end Pv

set_option maxHeartbeats 1000000
/-! Statements: if, while, for, one after another. -/
namespace Pv
open PySem PySem.Spec PyProof.Rows L2

section
variable {cf : Cf} {k : Nat} {c : Ctx} {o : Own} {X : Cx} {n : Nat} {A : Amb} {l : Option Own} {V : XV}
theorem YD.less {K : PySem.W.Frag} {Z Z' : Addr → Prop} {tt : Bool} {H : Hp} {x : L2.V} {d : D} (h : YD K Z tt H x d) (f : ∀ b, Z' b → Z b) : YD K Z' tt H x d := by
  cases tt with
  | false => exact Rep.less h f
  | true =>
    intro ds e
    obtain ⟨T, vs, h1, h2, h3⟩ := h ds e
    exact ⟨T, vs, h1, h2, h3.less f⟩
theorem meet_l {a b : Option Own} {x y : Own} (h : meet a b = some y) (ha : a = some x) : ∀ i, i ∈ y → i ∈ x := by
  subst ha
  cases b with
  | none => cases h; exact fun i hi => hi
  | some b => cases h; exact fun i hi => (List.mem_filter.mp hi).1
theorem meet_r {a b : Option Own} {x y : Own} (h : meet a b = some y) (hb : b = some x) : ∀ i, i ∈ y → i ∈ x := by
  subst hb
  cases a with
  | none => cases h; exact fun i hi => hi
  | some a => cases h; exact fun i hi => by simpa using (List.mem_filter.mp hi).2
theorem meet_some {a b : Option Own} (h : a ≠ none ∨ b ≠ none) : ∃ y, meet a b = some y := by
  cases a <;> cases b <;> first | exact ⟨_, rfl⟩ | (rcases h with h | h <;> exact absurd rfl h)
/-- an end seen from further ahead -/
theorem Want.mono {o1 : Own} {l' o' o'' : Option Own} {ex : Addr → Prop} {D : Ends} {σ σ1 : St} {H H1 : Hp} {f : Fl} (h : Want A V c o l' o'' ex D σ H f) (s : Sc o σ H o1 σ1 H1) (hl : ∀ y, l = some y → ∃ z, l' = some z ∧ ∀ i, i ∈ z → i ∈ y) (ho : ∀ y, o' = some y → ∃ z, o'' = some z ∧ ∀ i, i ∈ z → i ∈ y) :
    Want A V c o1 l o' ex D σ1 H1 f := by
  cases f with
  | nx e =>
    intro y hy σ' H' s' r
    obtain ⟨z, hz, hi⟩ := ho y hy
    exact h z hz σ' H' ((s.trans s').less hi) (r.free hi)
  | rt d e => exact h
  | bk e =>
    intro y hy σ' H' s' r
    obtain ⟨z, hz, hi⟩ := hl y hy
    exact h z hz σ' H' ((s.trans s').less hi) (r.free hi)
  | ct e =>
    intro y hy σ' H' s' r
    obtain ⟨z, hz, hi⟩ := hl y hy
    exact h z hz σ' H' ((s.trans s').less hi) (r.free hi)
  | er e v => exact h
  | no => exact h
theorem snd_if (S : SOk X c cf k V) (hA : A.K = X.K) (hM : AOk A c) {t : Expr} {a b : List Stmt} {pos : Pos} {x : Ex} {y z : Sm} {o1 : Own} {oa ob : Option Own} (ht : compT n c o t = some (x, o1)) (ha : PSs X a (tSm A V c o1 l oa (evS cf y))) (hb : PSs X b (tSm A V c o1 l ob (evS cf z))) :
    PS X (.If t a b pos) (tSm A V c o l (meet oa ob) (evS cf (.ite x y z))) := by
  obtain ⟨st, t1, t2⟩ := (recG n (cf := cf) (k := k)).tok _ _ _ _ _ ht
  refine psimp (ps_if (st X S.ok A hA hM) ha hb) fun D σ H q => ?_
  obtain ⟨ex, env, r0, w⟩ := tSm_iff.mp q
  simp only [evS] at w
  obtain ⟨⟨d, env'⟩, hm, w⟩ := w.ok
  refine ⟨ex, env, d, env', r0, hm, fun H1 f r1 => ?_⟩
  have s : Sc o σ H o1 σ H1 := Sc.exp f (fun i hi => t1 i (t2 i hi)) t1
  dsimp only at w ⊢
  by_cases hd : truth d = true
  · rw [if_pos hd] at w ⊢
    refine ⟨ex, env', r1, w.mono s (fun y hy => ⟨y, hy, fun i hi => hi⟩) fun y hy => ?_⟩
    obtain ⟨m, hm⟩ := meet_some (a := oa) (b := ob) (.inl (by rw [hy]; simp))
    exact ⟨m, hm, meet_l hm hy⟩
  · rw [if_neg hd] at w ⊢
    refine ⟨ex, env', r1, w.mono s (fun y hy => ⟨y, hy, fun i hi => hi⟩) fun y hy => ?_⟩
    obtain ⟨m, hm⟩ := meet_some (a := oa) (b := ob) (.inr (by rw [hy]; simp))
    exact ⟨m, hm, meet_r hm hy⟩
theorem snd_seq {s : Stmt} {rest : List Stmt} {x y : Sm} {o1 : Own} {o2 : Option Own} (h1 : PS X s (tSm A V c o l (some o1) (evS cf x))) (h2 : PSs X rest (tSm A V c o1 l o2 (evS cf y))) : PSs X (s :: rest) (tSm A V c o l o2 (evS cf (.seq x y))) := by
  refine pssimp (pss_cons h1 h2) fun D σ H q => ?_
  obtain ⟨ex, env, r0, w⟩ := tSm_iff.mp q
  refine ⟨ex, env, r0, ?_⟩
  simp only [evS] at w
  cases hx : evS cf x env with
  | nx e1 =>
    rw [hx] at w
    intro o1' ho σ' H' s r
    cases ho
    exact ⟨ex, e1, r, w.mono s (fun y hy => ⟨y, hy, fun i hi => hi⟩) fun y hy => ⟨y, hy, fun i hi => hi⟩⟩
  | rt d e => rw [hx] at w; exact w
  | bk e => rw [hx] at w; exact w
  | ct e => rw [hx] at w; exact w
  | er e v => rw [hx] at w; exact w
  | no => rw [hx] at w; exact w
theorem snd_while (S : SOk X c cf k V) (hA : A.K = X.K) (hM : AOk A c) {t : Expr} {b : List Stmt} {pos : Pos} {x : Ex} {y : Sm} {o0 o1 : Own} {ob : Option Own} (h0 : ∀ i, i ∈ o0 → i ∈ o) (ht : compT n c o0 t = some (x, o1)) (h01 : subB o0 o1 = true) (hb : PSs X b (tSm A V c o1 (some o0) ob (evS cf y))) (hob : leB o0 ob = true) :
    PS X (.While t b [] pos) (tSm A V c o l (some o0) (evS cf (.whl x y))) := by
  obtain ⟨st, t1, t2⟩ := (recG n (cf := cf) (k := k)).tok _ _ _ _ _ ht
  refine psimp (ps_while S.ps (st X S.ok A hA hM) hb) fun D σ H q => ?_
  obtain ⟨ex, env, r0, w⟩ := tSm_iff.mp q
  simp only [evS] at w
  refine ⟨fun m σ' H' => ∃ env', R A ex o0 σ' H' env' ∧ Sc o σ H o0 σ' H' ∧ Want A V c o l (some o0) ex D σ H (whl (fun v => evE cf x v) (fun v => evS cf y v) m env'), ⟨WF, env, r0.free h0, Sc.refl.less h0, w⟩, ?_⟩
  rintro m σ1 H1 ⟨env1, r1, s1, w1⟩
  cases m with
  | zero => simp only [whl] at w1; exact w1.elim
  | succ m =>
    simp only [whl] at w1
    cases hx : evE cf x env1 with
    | err _ => rw [hx] at w1; exact w1.elim
    | stuck => rw [hx] at w1; exact w1.elim
    | ok p =>
      obtain ⟨d, env2⟩ := p
      rw [hx] at w1
      dsimp only at w1
      refine ⟨ex, env1, d, env2, r1, hx, fun H2 f r2 => ?_⟩
      have s2 : Sc o0 σ1 H1 o1 σ1 H2 := Sc.exp f (fun i hi => t1 i (t2 i hi)) t1
      dsimp only
      by_cases hd : truth d = true
      · rw [if_pos hd] at w1 ⊢
        refine ⟨fun σ' H' => ∃ m', m' < m + 1 ∧ ∃ env', R A ex o0 σ' H' env' ∧ Sc o σ H o0 σ' H' ∧ Want A V c o l (some o0) ex D σ H (whl (fun v => evE cf x v) (fun v => evS cf y v) m' env'), fun σ' H' h => h, ex, env2, r2, ?_⟩
        cases hy : evS cf y env2 with
        | nx e3 =>
          rw [hy] at w1
          intro o3 ho3 σ3 H3 s3 r3
          have hs : ∀ i, i ∈ o0 → i ∈ o3 := by
            subst ho3
            exact sub_of hob
          exact ⟨m, Nat.lt_succ_self m, e3, r3.free hs, ((s1.trans s2).trans s3).less hs, w1⟩
        | ct e3 =>
          rw [hy] at w1
          intro o3 ho3 σ3 H3 s3 r3
          cases ho3
          exact ⟨m, Nat.lt_succ_self m, e3, r3, (s1.trans s2).trans s3, w1⟩
        | bk e3 =>
          rw [hy] at w1
          intro o3 ho3 σ3 H3 s3 r3
          cases ho3
          exact w1 _ rfl _ _ ((s1.trans s2).trans s3) r3
        | rt d e3 => rw [hy] at w1; exact w1
        | er e v => rw [hy] at w1; exact w1
        | no => rw [hy] at w1; exact w1
      · rw [if_neg hd] at w1 ⊢
        have hs := sub_of h01
        exact w1 _ rfl _ _ ((s1.trans s2).less hs) (r2.free hs)
theorem recNp_ok : RecOk cf k (recNp n) ∧ RecSt (recNp n) := by
  refine ⟨fun c o e r h => ?_, fun c o e r h => ?_⟩
  · unfold recNp at h
    obtain ⟨r', h1, h2⟩ := Option.bind_eq_some_iff.mp h
    split at h2
    · rename_i hk
      cases h2
      obtain ⟨r'', h3, h4⟩ := Option.map_eq_some_iff.mp h1
      have := ((recG n (cf := cf) (k := k)).ok _ _ _ _ h3).1.noPk
      rw [h4] at this
      exact ⟨this, hk⟩
    · cases h2
  · unfold recNp at h
    obtain ⟨r', h1, h2⟩ := Option.bind_eq_some_iff.mp h
    obtain ⟨r'', h3, h4⟩ := Option.map_eq_some_iff.mp h1
    exact (recG n (cf := cf) (k := k)).st _ _ _ _ h3
theorem snd_for (S : SOk X c cf k V) (hA : A.K = X.K) (hM : AOk A c) {tg iter : Expr} {b : List Stmt} {pos : Pos} {is : List Nat} {tt : Bool} {src : Ex} {y : Sm} {kd : Kd} {o0 o1 : Own} {ob : Option Own} (htg : cTg c tg = some (is, tt)) (hset : isSetE iter = false) (hsrc : cSrc (recNp n) c o tt iter = some (src, kd, o1)) (hkd : notPk kd = true)
    (h0 : ∀ i, i ∈ o0 → i ∈ eraseAll o1 is) (hb : PSs X b (tSm A V c o0 (some o0) ob (evS cf y))) (hob : leB o0 ob = true) : PS X (.For tg iter b [] pos) (tSm A V c o l (some o0) (evS cf (.for is tt src y))) := by
  obtain ⟨m1, pg, htup⟩ := cTg_spec S.ok htg
  obtain ⟨s1, s2, si⟩ := snd_src (recNp_ok (cf := cf) (k := k) (n := n)).1 (recNp_ok (cf := cf) (k := k) (n := n)).2 (tg := tg) hsrc htup
  have h01 : ∀ i, i ∈ o0 → i ∈ o1 := fun i hi => (erase_mem.mp (h0 i hi)).1
  have hi0 : ∀ i, i ∈ is → i ∉ o0 := fun i hi z => (erase_mem.mp (h0 i z)).2 hi
  have hmp : ∀ i p, i ∈ is → (i, p) ∉ A.mp := fun i p hi z => m1 i hi (hM.1 i p z)
  refine psimp (ps_for S.ps S.ok.rm.calm (si X S.ok A hA hM) pg hb (folded_of hset X.env)) fun D σ H q => ?_
  obtain ⟨ex, env, r0, w⟩ := tSm_iff.mp q
  simp only [evS] at w
  obtain ⟨⟨xs, env1⟩, hm, w⟩ := w.ok
  refine ⟨ex, env, xs, env1, r0, hm, fun J H1 r1 f1 giv => ?_⟩
  have sc1 : Sc o σ H o1 σ H1 := Sc.exp f1 s2 s1
  have npk : ∀ a, ¬ pkA kd σ a := fun a ⟨i, e, _⟩ => by subst e; cases hkd
  refine for_it giv (fun i σ' H' => ∃ envi, R A ex o0 σ' H' envi ∧ Sc o0 σ H1 o0 σ' H' ∧ Want A V c o l (some o0) ex D σ H (forL is tt (fun v => evS cf y v) (xs.drop i) envi)) ⟨env1, r1.free h01, Sc.refl, w⟩ ?_ ?_ ?_
  · rintro i σ' H' _ ⟨_, _, s, _⟩
    exact s.fr.mono fun b z => ⟨.inl (EX.sub h01 b z), npk b⟩
  · rintro i x σ2 H2 H3 hi ⟨envi, r2, sc2, w2⟩ ⟨sm, yd⟩
    obtain ⟨di, hdi⟩ : ∃ di, xs[i]? = some di := ⟨xs[i], by simp [hi]⟩
    have hdrop : xs.drop i = di :: xs.drop (i + 1) := by
      rw [List.drop_eq_getElem_cons hi]
      rw [List.getElem?_eq_getElem hi] at hdi
      rw [Option.some.inj hdi]
    rw [hdrop] at w2
    simp only [forL] at w2
    cases htf : tgF is tt di envi with
    | none => rw [htf] at w2; exact w2.elim
    | some env2 =>
      rw [htf] at w2
      dsimp only at w2
      have yd' := yd (fun b => XX o1 σ ex b ∨ EX o0 σ2 b) di (fun b z => .inl z) (fun b z => z.elim .inl fun q => (sc2.nw b q).imp (fun q => .inl (EX.sub h01 b q)) id) hdi
      have r3 := r2.keep sm
      rw [← hA]
      refine r3.tg htf (yd'.less fun b z => z.elim .inr fun q => .inl (.inr q)) hi0 hmp fun σ3 r4 hoff hlen => ?_
      have sc3 : Sc o0 σ H1 o0 σ3 H3 := (sc2.trans (⟨.same sm, fun _ z => .inl z⟩ : Sc o0 σ2 H2 o0 σ2 H3)).slots fun j hj => hoff j fun z => hi0 j z hj
      refine ⟨ex, env2, r4, ?_⟩
      cases hy : evS cf y env2 with
      | nx e3 =>
        rw [hy] at w2
        intro o3 ho3 σ4 H4 s4 r5
        have hs : ∀ i, i ∈ o0 → i ∈ o3 := by
          subst ho3
          exact sub_of hob
        exact ⟨e3, r5.free hs, (sc3.trans s4).less hs, w2⟩
      | ct e3 =>
        rw [hy] at w2
        intro o3 ho3 σ4 H4 s4 r5
        cases ho3
        exact ⟨e3, r5, sc3.trans s4, w2⟩
      | bk e3 =>
        rw [hy] at w2
        intro o3 ho3 σ4 H4 s4 r5
        cases ho3
        exact w2 _ rfl _ _ ((sc1.less h01).trans (sc3.trans s4)) r5
      | rt d e3 => rw [hy] at w2; exact w2
      | er e v => rw [hy] at w2; exact w2
      | no => rw [hy] at w2; exact w2
  · rintro σ2 H2 ⟨envi, r2, sc2, w2⟩
    rw [List.drop_length] at w2
    simp only [forL] at w2
    exact w2 _ rfl _ _ ((sc1.less h01).trans sc2) r2
end
end Pv

set_option maxHeartbeats 1000000
/-! Every compiled block does what the small language says. -/
namespace Pv
open PySem PySem.Spec PyProof.Rows L2

section
variable {cf : Cf} {k : Nat} {c : Ctx} {o : Own} {X : Cx} {n : Nat} {A : Amb} {l : Option Own} {V : XV}
theorem nopos {e : Expr} (h : (match e with | .Slice _ _ _ _ => false | _ => true) = true) : ∀ lo hi st p, e ≠ .Slice lo hi st p := fun lo hi st p z => by subst z; cases h
theorem snd_asgX (S : SOk X c cf k V) (hA : A.K = X.K) (hM : AOk A c) {t value : Expr} {pos : Pos} {s : Sm} {o1 : Own} (h : cAssign n c o t value = some (s, o1)) : PS X (.Assign [t] value pos) (tSm A V c o l (some o1) (evS cf s)) := by
  unfold cAssign at h
  split at h
  · simp only [Option.bind_eq_bind, Option.bind_eq_some_iff] at h
    obtain ⟨i, hi, h⟩ := h
    split at h
    · rename_i hsw
      split at h
      · simp only [Option.bind_eq_bind, Option.bind_eq_some_iff, guard_eq] at h
        obtain ⟨r, hr, _, hk, h⟩ := h
        cases h
        exact snd_setLc S hA hM hi hsw hr hk
      · cases h
    · rename_i hsw
      simp only [Option.bind_eq_bind, Option.bind_eq_some_iff, guard_eq] at h
      obtain ⟨_, hdc, ⟨e, kd, o2⟩, he, h⟩ := h
      cases h
      exact snd_setN S hA hM hi (by simpa using hsw) (by simpa using hdc) he
  · split at h
    · split at h
      · simp only [Option.bind_eq_bind, Option.bind_eq_some_iff, guard_eq] at h
        obtain ⟨_, hp, i, hi, j, hj, _, hij, ⟨e, ke, o2⟩, he, ⟨f, kf, o3⟩, hf, h⟩ := h
        cases h
        exact snd_par S hA hM hp hi hj (by simpa using hij) he hf
      · cases h
    · rename_i ht
      rcases orElse_some h with h | h
      · split at h
        · simp only [Option.bind_eq_bind, Option.bind_eq_some_iff, guard_eq] at h
          obtain ⟨i, hi, j, hj, _, hij, ⟨e, ke, o1⟩, he, ⟨f, kf, o2⟩, hf, ⟨u, ku, o3⟩, hu, ⟨w, kw, o4⟩, hw, _, hg, h⟩ := h
          simp only [Bool.and_eq_true, Bool.not_eq_true'] at hg
          obtain ⟨⟨⟨⟨g1, g2⟩, g3⟩, g4⟩, g5⟩ := hg
          obtain rfl := eq_of_beq hij
          cases h
          exact snd_swp S hA hM hi hj he hf hu hw (by simpa using g1) (by simpa using g2) (by simpa using g3) (nopos g4) (nopos g5)
        · cases h
      · simp only [Option.bind_eq_bind, Option.bind_eq_some_iff] at h
        obtain ⟨is, hi, ⟨e, ke, o2⟩, he, h⟩ := h
        cases h
        exact snd_sets S hA hM hi (by simpa using ht) he
  · simp only [Option.bind_eq_bind, Option.bind_eq_some_iff, guard_eq] at h
    obtain ⟨i, hi, nm, _, G, hG, _, hf, ⟨e, ke, o2⟩, he, _, hio, h⟩ := h
    cases h
    exact snd_setA S hA hM hi hG hf he (by simpa using hio)
  · simp only [Option.bind_eq_bind, Option.bind_eq_some_iff, guard_eq] at h
    obtain ⟨i, hi, ⟨e, ke, o2⟩, he, ⟨f, kf, o3⟩, hf, _, hg, h⟩ := h
    simp only [Bool.and_eq_true, Bool.not_eq_true'] at hg
    obtain ⟨⟨⟨g1, g2⟩, g3⟩, g4⟩ := hg
    cases h
    exact snd_setI S hA hM hi he hf (by simpa using g1) (by simpa using g2) g3 (nopos g4)
  · cases h
/-- what a block's meaning is to be, for all blocks that rs compiles -/
def RsOk (cf : Cf) (k : Nat) (rs : RecS) : Prop := ∀ c o l st s o', rs c o l st = some (s, o') → ∀ (X : Cx) (V : XV), SOk X c cf k V → ∀ A : Amb, A.K = X.K → AOk A c → MOk A c → PSs X st (tSm A V c o l o' (evS cf s))
theorem filter_sub {p : Nat → Bool} : ∀ i, i ∈ o.filter p → i ∈ o := fun i hi => (List.mem_filter.mp hi).1
theorem snd_stmt {rs : RecS} (hr : RsOk cf k rs) {st : Stmt} {s : Sm} {o' : Option Own} (h : cStmt rs n c o l st = some (s, o')) (S : SOk X c cf k V) (hA : A.K = X.K) (hM : AOk A c) (hMo : MOk A c) : PS X st (tSm A V c o l o' (evS cf s)) := by
  unfold cStmt at h
  split at h
  · obtain ⟨⟨s', o1⟩, h1, h2⟩ := Option.map_eq_some_iff.mp h
    cases h2
    exact snd_asgX S hA hM h1
  · simp only [Option.bind_eq_bind, Option.bind_eq_some_iff, guard_eq] at h
    obtain ⟨p, hp, i, hi, _, hio, ⟨e, ke, o2⟩, he, h⟩ := h
    cases h
    exact snd_aug S hA hM hp hi (by simpa using hio) he
  · simp only [Option.bind_eq_bind, Option.bind_eq_some_iff] at h
    obtain ⟨⟨e, ke, o2⟩, he, h⟩ := h
    cases h
    exact snd_exS S hA hM he
  · simp only [Option.bind_eq_bind, Option.bind_eq_some_iff] at h
    obtain ⟨⟨e, ke, o2⟩, he, h⟩ := h
    dsimp only at h
    split at h
    · rename_i hfr
      split at h
      · split at h
        · rename_i hs
          cases h
          exact snd_ret S hA hM hMo he (by rw [hfr]; exact hs)
        · cases h
      · split at h
        · rename_i hs
          rw [Bool.and_eq_true, Bool.not_eq_true'] at hs
          cases h
          exact snd_ret S hA hM hMo he (by rw [hfr]; exact hs)
        · cases h
      · cases h
    · rename_i hfr
      split at h
      · rename_i hs
        cases h
        exact snd_ret S hA hM hMo he (by rw [if_neg hfr]; exact hs)
      · cases h
  · split at h
    · cases h
    · rename_i hg
      cases h
      rw [Bool.or_eq_true, Bool.not_eq_true'] at hg
      have hfr : c.fresh = false := by
        cases hf : c.fresh with
        | false => rfl
        | true => exact absurd (.inl hf) hg
      have hs : subB c.muts o = true := by
        cases hf : subB c.muts o with
        | true => rfl
        | false => exact absurd (.inr hf) hg
      refine psimp ps_retN fun D σ H q => ?_
      obtain ⟨ex, env, r0, w⟩ := tSm_iff.mp q
      simp only [evS, evE, errOf, orEr] at w
      refine w _ _ ?_
      rw [hfr]
      exact r0.ret r0.ent hM.1 (sub_of hs) (fun _ z => z) (fun _ z => .inl z) Rep.non
  · simp only [Option.bind_eq_bind, Option.bind_eq_some_iff] at h
    obtain ⟨⟨x, o1⟩, hx, ⟨y, oa⟩, hy, ⟨z, ob⟩, hz, h⟩ := h
    cases h
    exact snd_if S hA hM hx (hr _ _ _ _ _ _ hy X V S A hA hM hMo) (hr _ _ _ _ _ _ hz X V S A hA hM hMo)
  · cases h
    refine psimp ps_pass fun D σ H q => ?_
    obtain ⟨ex, env, r0, w⟩ := tSm_iff.mp q
    simp only [evS] at w
    exact w _ rfl _ _ Sc.refl r0
  · obtain ⟨l', hl, h⟩ := Option.bind_eq_some_iff.mp h
    split at h
    · rename_i hs
      cases h
      refine psimp ps_break fun D σ H q => ?_
      obtain ⟨ex, env, r0, w⟩ := tSm_iff.mp q
      simp only [evS] at w
      exact w _ hl _ _ (Sc.refl.less (sub_of hs)) (r0.free (sub_of hs))
    · cases h
  · obtain ⟨l', hl, h⟩ := Option.bind_eq_some_iff.mp h
    split at h
    · rename_i hs
      cases h
      refine psimp ps_continue fun D σ H q => ?_
      obtain ⟨ex, env, r0, w⟩ := tSm_iff.mp q
      simp only [evS] at w
      exact w _ hl _ _ (Sc.refl.less (sub_of hs)) (r0.free (sub_of hs))
    · cases h
  · split at h
    · rename_i s0 hs0
      cases h
      exact snd_rai S hA hM hs0
    · cases h
      exact psimp ps_never fun D σ H q => by
        obtain ⟨ex, env, r0, w⟩ := tSm_iff.mp q
        simp only [evS] at w
        exact w
  · cases h
    exact psimp ps_never fun D σ H q => by
      obtain ⟨ex, env, r0, w⟩ := tSm_iff.mp q
      simp only [evS] at w
      exact w
  · rename_i b hds p
    simp only [Option.bind_eq_bind, Option.bind_eq_some_iff, guard_eq] at h
    obtain ⟨_, hg, hs, hc, ⟨y, ob⟩, hy, h⟩ := h
    rw [Bool.and_eq_true] at hg
    cases h
    cases hds with
    | nil => simp at hg
    | cons h₀ hds => exact snd_try S hA hM (by simpa using hg.1) hc fun X' V' S' hA' => hr _ _ _ _ _ _ hy X' V' S' A hA' hM hMo
  · rename_i t b p
    have go : ∀ o0 : Own, (∀ i, i ∈ o0 → i ∈ o) → (do
        let (x, o1) ← compT n c o0 t
        guard (subB o0 o1)
        let (y, ob) ← rs c o1 (some o0) b
        guard (leB o0 ob)
        some (Sm.whl x y, some o0)) = some (s, o') → PS X (.While t b [] p) (tSm A V c o l o' (evS cf s)) := fun o0 h0 h => by
      simp only [Option.bind_eq_bind, Option.bind_eq_some_iff, guard_eq] at h
      obtain ⟨⟨x, o1⟩, hx, _, hs, ⟨y, ob⟩, hy, _, hl, h⟩ := h
      cases h
      exact snd_while S hA hM h0 hx hs (hr _ _ _ _ _ _ hy X V S A hA hM hMo) hl
    rcases orElse_some h with h | h
    · exact go _ (fun i hi => hi) h
    rcases orElse_some h with h | h
    · exact go _ filter_sub h
    rcases orElse_some h with h | h
    · exact go _ filter_sub h
    · exact go [] (fun i hi => by cases hi) h
  · rename_i tg iter b p
    simp only [Option.bind_eq_bind, Option.bind_eq_some_iff, guard_eq] at h
    obtain ⟨⟨is, tt⟩, htg, _, hset, ⟨src, kd, o1⟩, hsrc, _, hg, h⟩ := h
    simp only [Bool.and_eq_true] at hg
    have go : ∀ o0 : Own, (∀ i, i ∈ o0 → i ∈ eraseAll o1 is) → (do
        let (y, ob) ← rs c o0 (some o0) b
        guard (leB o0 ob)
        some (Sm.for is tt src y, some o0)) = some (s, o') → PS X (.For tg iter b [] p) (tSm A V c o l o' (evS cf s)) := fun o0 h0 h => by
      simp only [Option.bind_eq_bind, Option.bind_eq_some_iff, guard_eq] at h
      obtain ⟨⟨y, ob⟩, hy, _, hl, h⟩ := h
      cases h
      exact snd_for S hA hM htg (by simpa using hset) hsrc hg.1.1 h0 (hr _ _ _ _ _ _ hy X V S A hA hM hMo) hl
    rcases orElse_some h with h | h
    · exact go _ (fun i hi => hi) (by simpa only [Option.bind_eq_bind, guard] using h)
    rcases orElse_some h with h | h
    · exact go _ filter_sub (by simpa only [Option.bind_eq_bind, guard] using h)
    rcases orElse_some h with h | h
    · exact go _ filter_sub (by simpa only [Option.bind_eq_bind, guard] using h)
    · exact go [] (fun i hi => by cases hi) (by simpa only [Option.bind_eq_bind, guard] using h)
  · cases h
theorem snd_block : ∀ m : Nat, RsOk cf k (compS n m)
  | 0 => fun c o l st s o' h => by cases h
  | m + 1 => fun c o l st s o' h X V S A hA hM hMo => by
    unfold compS at h
    split at h
    · cases h
      refine pssimp pss_nil fun D σ H q => ?_
      obtain ⟨ex, env, r0, w⟩ := tSm_iff.mp q
      simp only [evS] at w
      exact w _ rfl _ _ Sc.refl r0
    · exact pss_one (snd_stmt (snd_block m) h S hA hM hMo)
    · simp only [Option.bind_eq_bind, Option.bind_eq_some_iff] at h
      obtain ⟨⟨x, o1⟩, hx, h⟩ := h
      dsimp only at h
      split at h
      · rename_i o1' 
        simp only [Option.bind_eq_bind, Option.bind_eq_some_iff] at h
        obtain ⟨⟨y, o2⟩, hy, h⟩ := h
        cases h
        exact snd_seq (snd_stmt (snd_block m) hx S hA hM hMo) (snd_block m _ _ _ _ _ _ hy X V S A hA hM hMo)
      · cases h
end
end Pv

set_option maxHeartbeats 1000000
/-! Every compiled def does what the small language says. -/
namespace Pv
open PySem PySem.Spec PyProof.Rows L2

theorem run_err {cf : Cf} {F : Fd} {ds : List D} {x : Exn} (h : run cf F ds = .err x) : ds.length = F.np ∧ ∃ env, evS cf F.body (ds.map some ++ List.replicate (F.nl - F.np) none) = .er x env := by
  unfold run at h
  split at h
  · rename_i hl
    refine ⟨hl, ?_⟩
    split at h
    · cases h
    · cases h
    · rename_i x' env hev
      cases h
      exact ⟨env, hev⟩
    · cases h
  · cases h
theorem run_cases {cf : Cf} {F : Fd} {ds : List D} {d : D} {os : List D} (h : run cf F ds = .ok (d, os)) : ds.length = F.np ∧ ∃ env, os = outsOf env F.muts ∧
    (evS cf F.body (ds.map some ++ List.replicate (F.nl - F.np) none) = .rt d env ∨ (d = .non ∧ evS cf F.body (ds.map some ++ List.replicate (F.nl - F.np) none) = .nx env)) := by
  unfold run at h
  split at h
  · rename_i hl
    refine ⟨hl, ?_⟩
    split at h
    · rename_i d' env hev
      cases h
      exact ⟨env, rfl, .inl hev⟩
    · rename_i env hev
      cases h
      exact ⟨env, rfl, .inr ⟨rfl, hev⟩⟩
    · cases h
    · cases h
  · cases h
def mpOf (ms : List Nat) (vs : List V) : List (Nat × Addr) := ms.filterMap fun j => match vs[j]? with | some (V.ref p) => some (j, p) | _ => none
theorem mpOf_mem {ms : List Nat} {vs : List V} {j : Nat} {p : Addr} : (j, p) ∈ mpOf ms vs ↔ j ∈ ms ∧ vs[j]? = some (V.ref p) := by
  unfold mpOf
  rw [List.mem_filterMap]
  constructor
  · rintro ⟨i, h1, h2⟩
    split at h2
    · rename_i q hq
      cases h2
      exact ⟨h1, hq⟩
    · cases h2
  · rintro ⟨h1, h2⟩
    exact ⟨j, h1, by rw [h2]⟩
theorem start_at {N : List Str} {vs : List V} {i : Nat} {v : V} : (L2.start N vs)[i]? = some (some v) ↔ vs[i]? = some v := by
  unfold L2.start
  by_cases hi : i < vs.length
  · rw [List.getElem?_append_left (by simpa using hi), List.getElem?_map]
    cases vs[i]? <;> simp
  · rw [List.getElem?_append_right (by simpa using hi), List.getElem?_replicate, List.getElem?_eq_none (by omega)]
    split <;> simp
theorem env_at {ds : List D} {m i : Nat} {d : D} : (ds.map some ++ List.replicate m (none : Option D))[i]? = some (some d) ↔ ds[i]? = some d := by
  by_cases hi : i < ds.length
  · rw [List.getElem?_append_left (by simpa using hi), List.getElem?_map]
    cases ds[i]? <;> simp
  · rw [List.getElem?_append_right (by simpa using hi), List.getElem?_replicate, List.getElem?_eq_none (by omega)]
    split <;> simp
section
variable {P : Program} {w : World} {K : PySem.W.Frag} {mg : Str → Option Value} {base : Heap}
/-- a def of the text -/
def EntD (K : PySem.W.Frag) (T : Tab) (FNS : List (Str × FSig)) (CS : List (Str × D)) (NOS : List Str) (XS : List (Str × XSig)) (CLS : List (Str × CSig)) (F : FSig) (f : Addr) : Prop :=
  ∃ (fd : FuncData) (ps : List Str) (nm qual : Str) (st : Stmt) (N : List Str) (Fd : Fd), Fun K nm qual st f fd ∧ FnScope N ps (defScope st) ∧ Binds K fd ps [] ∧ ps.length = F.np ∧ T F.id = some Fd ∧
    compD N F.np F.muts F.fresh FNS CS NOS XS CLS (defScope st) (defBody st) = some Fd
structure TabOk (P : Program) (w : World) (K : PySem.W.Frag) (mg : Str → Option Value) (base : Heap) (T : Tab) (FNS : List (Str × FSig)) (CS : List (Str × D)) (NOS : List Str) (XS : List (Str × XSig)) (CLS : List (Str × CSig)) : Prop where
  fns : ∀ x F, FNS.lookup x = some F → ∃ (f : Addr), mg x = some (.ref f) ∧ EntD K T FNS CS NOS XS CLS F f
  consts : ∀ x d, CS.lookup x = some d → ∃ u v, mg x = some u ∧ RelV v u ∧ ∀ Z H, Rep K Z H v d
  nos : ∀ x, x ∈ NOS → mg x = none
  exs : ∀ x G, XS.lookup x = some G → ExP P w K mg base XS x G
  cls : ∀ x G, CLS.lookup x = some G → ClP K mg (EntD K T FNS CS NOS XS CLS) x G
theorem ClP.imp {q q' : FSig → Addr → Prop} {x : Str} {G : CSig} (h : ClP K mg q x G) (w : ∀ F f, q F f → q' F f) : ClP K mg q' x G := by
  obtain ⟨C, h1, h2, h3, h4⟩ := h
  exact ⟨C, h1, h2, fun F e => let ⟨f, a, b⟩ := h3 F e; ⟨f, a, w _ _ b⟩, fun m F e => let ⟨f, a, b⟩ := h4 m F e; ⟨f, a, w _ _ b⟩⟩
theorem body_ok {T : Tab} {FNS : List (Str × FSig)} {CS : List (Str × D)} {NOS : List Str} {XS : List (Str × XSig)} {CLS : List (Str × CSig)} (tk : TabOk P w K mg base T FNS CS NOS XS CLS) {n : Nat}
    (ih : ∀ x F, FNS.lookup x = some F → ∃ f fd ps, mg x = some (.ref f) ∧ PySem.W.keepIn K (.ref f) = true ∧ FnOk P w K mg base (L2.CX P w) (2 * n + 2) f fd ps (spF K mg XS (evC T n) F) ∧ Binds K fd ps [] ∧ ps.length = F.np)
    (ihc : ∀ x G, CLS.lookup x = some G → ClP K mg (DefP P w K mg base XS (evC T n) (2 * n + 2)) x G)
    {F : FSig} {f : Addr} {fd : FuncData} {ps : List Str} {nm qual : Str} {st : Stmt} {N : List Str} {Fd : Fd} (hF : Fun K nm qual st f fd) (hS : FnScope N ps (defScope st)) (hps : ps.length = F.np) (hT : T F.id = some Fd)
    (hc : compD N F.np F.muts F.fresh FNS CS NOS XS CLS (defScope st) (defBody st) = some Fd) : FnOk P w K mg base (L2.CX P w) (2 * n + 4) f fd ps (spF K mg XS (evC T (n + 1)) F) := by
  refine hF.okX (N := N) hS (fun vs H Q E q => ?_) fun cdv A0 outer s H vs Q E hr hsp => ?_
  · obtain ⟨_, _, h, _⟩ := q
    rw [h, hps]
  · obtain ⟨Z, ds, hvl, ci, cont⟩ := hsp
    unfold compD at hc
    obtain ⟨⟨bd, o⟩, hcs, hc⟩ := Option.bind_eq_some_iff.mp hc
    dsimp only at hc
    by_cases hend : endOk F.fresh F.muts o = true
    · rw [if_pos hend] at hc
      cases hc
      simp only [evC, hT] at cont
      have hdl : ds.length = F.np := by
        cases hev : run (evC T n) ⟨F.np, N.length, F.muts, bd⟩ ds with
        | ok pr => obtain ⟨d, os⟩ := pr; exact (run_cases hev).1
        | err x => exact (run_err hev).1
        | stuck => rw [hev] at cont; exact cont.elim
      have hNl : F.np ≤ N.length := by
        rw [← hps]
        have := congrArg List.length hS.pre
        rw [List.length_take] at this
        omega
      -- the def's surroundings
      refine ⟨tSm ⟨K, H, Mof F.muts vs, mpOf F.muts vs, N.length⟩ (fun x _ H' => ∀ cls dx, XIs K mg XS x cls dx H' → E cls dx H') ⟨N, defScope st, fun _ => true, FNS, CS, NOS, F.muts, F.fresh, XS, CLS⟩ F.muts none o (evS (evC T n) bd), ?_, ?_⟩
      · refine snd_block (cf := evC T n) (k := n) 40 _ _ _ _ _ _ hcs _ _ ?_ _ rfl ?_ ?_
        · refine ⟨⟨⟨rfl, ?_⟩, rfl, hS.nd, rfl, rfl, hr, tk.nos, tk.consts, ih, tk.exs, ihc⟩, passes_of rfl, hS.kind, (takes_of rfl rfl rfl rfl).imp fun cls dx σ H' ⟨x, xi, v⟩ => v cls dx xi, rfl, rfl⟩
          have := hr.un
          show (A0.deeper _).units + 100 < cLine
          omega
        · exact ⟨fun i p h => (mpOf_mem.mp h).1, rfl⟩
        · rintro a ⟨j, h1, h2⟩
          exact ⟨j, h1, mpOf_mem.mpr ⟨h1, h2⟩⟩
      · have hMof : ∀ a, EX F.muts (L2.start N vs) a → Mof F.muts vs a := fun a ⟨i, h1, h2⟩ => ⟨i, h1, start_at.mp h2⟩
        have hMZ : ∀ a, Mof F.muts vs a → Z a := fun a ⟨j, h1, h2⟩ => by
          obtain ⟨p, sh, ws, es, e1, e2, _⟩ := ci.mu j h1
          rw [h2] at e1
          cases e1
          exact e2
        have hX : ∀ a, XX F.muts (L2.start N vs) (fun a => Z a ∧ ¬ Mof F.muts vs a) a → Z a := fun a z => z.elim (fun q => hMZ a (hMof a q)) fun q => q.1
        have hR : R ⟨K, H, Mof F.muts vs, mpOf F.muts vs, N.length⟩ (fun a => Z a ∧ ¬ Mof F.muts vs a) F.muts (L2.start N vs) H (ds.map some ++ List.replicate (N.length - F.np) none) := by
          refine ⟨?_, ?_, fun i d hi e => ?_, fun i hi => ?_, fun i j p hi hj e1 e2 => ci.inj i j p hi hj (start_at.mp e1) (start_at.mp e2), Frame.refl H, fun a h => .inl (hMof a h), fun a h => ci.tr a h.1, fun a h q => q.2 (hMof a h), fun i p h => start_at.mpr (mpOf_mem.mp h).2⟩
          · unfold L2.start
            simp only [List.length_append, List.length_map, List.length_replicate]
            omega
          · unfold L2.start
            simp only [List.length_append, List.length_map, List.length_replicate]
            omega
          · obtain ⟨v, h1, h2⟩ := ci.non i d hi (env_at.mp e)
            exact ⟨v, start_at.mpr h1, h2.less hX⟩
          · obtain ⟨p, sh, ws, es, h1, h2, h3, h4, h5⟩ := ci.mu i hi
            exact ⟨p, sh, ws, es, start_at.mpr h1, h3, h4.less hX, env_at.mpr h5⟩
        have fin : ∀ env' v H' d, RetOk ⟨K, H, Mof F.muts vs, mpOf F.muts vs, N.length⟩ F.fresh (fun a => Z a ∧ ¬ Mof F.muts vs a) H' v d env' → ∃ Z1, CallOut K Z Z1 H F.muts vs F.fresh H' v d (outsOf env' F.muts) := by
          rintro env' v H' d ⟨Z1, h1, h2, h3, h4, h5, h6⟩
          refine ⟨Z1, fun a z => ?_, fun a z => ?_, h3, h4, fun m j hj => ?_, by unfold outsOf; rw [List.length_map], h6⟩
          · by_cases hm : Mof F.muts vs a
            · obtain ⟨j, q1, q2⟩ := hm
              obtain ⟨_, _, _, _, _, _, q⟩ := h5 j a (mpOf_mem.mpr ⟨q1, q2⟩)
              exact q
            · exact h1 a ⟨z, hm⟩
          · rcases h2 a z with q | q | q
            · exact .inl q.1
            · exact .inl (hMZ a q)
            · exact .inr q
          · have hjm := List.mem_of_getElem? hj
            obtain ⟨p, sh, ws, es, e1, _⟩ := ci.mu j hjm
            obtain ⟨sh', ws', es', q1, q2, q3, q4⟩ := h5 j p (mpOf_mem.mpr ⟨hjm, e1⟩)
            refine ⟨p, sh', ws', es', e1, q1, q2, ?_⟩
            unfold outsOf
            rw [List.getElem?_map, hj]
            show some (((env'[j]?).getD none).getD .non) = _
            rw [q3]
            rfl
        refine tSm_iff.mpr ⟨_, _, hR, ?_⟩
        cases hev : run (evC T n) ⟨F.np, N.length, F.muts, bd⟩ ds with
        | stuck => rw [hev] at cont; exact cont.elim
        | err x =>
          rw [hev] at cont
          obtain ⟨_, env', hb⟩ := run_err hev
          dsimp only at hb
          rw [hb]
          intro σ' H' r cls dx xi
          exact cont cls dx H' r.ent xi
        | ok pr =>
          obtain ⟨d, os⟩ := pr
          rw [hev] at cont
          obtain ⟨_, env', rfl, hbody⟩ := run_cases hev
          dsimp only at hbody
          rcases hbody with hb | ⟨rfl, hb⟩
          · rw [hb]
            intro v H' hret
            obtain ⟨Z1, co⟩ := fin env' v H' d hret
            exact cont Z1 v H' co
          · rw [hb]
            intro o1 ho σ' H' s r
            subst ho
            simp only [endOk, Bool.and_eq_true, Bool.not_eq_true'] at hend
            obtain ⟨hfr, hsub⟩ := hend
            have hret : RetOk ⟨K, H, Mof F.muts vs, mpOf F.muts vs, N.length⟩ F.fresh (fun a => Z a ∧ ¬ Mof F.muts vs a) H' .non .non env' := by
              rw [hfr]
              exact r.ret (H := H) (Frame.refl H) (fun i p h => (mpOf_mem.mp h).1) (sub_of hsub) (fun _ z => z) (fun _ z => .inl z) Rep.non
            obtain ⟨Z1, co⟩ := fin env' .non H' .non hret
            exact cont Z1 .non H' co
    · rw [if_neg hend] at hc
      cases hc
/-- all defs, by level -/
theorem ent_ok {T : Tab} {FNS : List (Str × FSig)} {CS : List (Str × D)} {NOS : List Str} {XS : List (Str × XSig)} {CLS : List (Str × CSig)} (tk : TabOk P w K mg base T FNS CS NOS XS CLS) : ∀ n F f, EntD K T FNS CS NOS XS CLS F f → DefP P w K mg base XS (evC T n) (2 * n + 2) F f
  | 0, F, f, h => by
    obtain ⟨fd, ps, nm, qual, st, N, Fd, h2, h3, h4, h5, h6, h7⟩ := h
    refine ⟨fd, ps, ⟨fun vs H Q E q => ?_, fun A outer s H args us vs Q E _ _ _ _ q => ?_⟩, h4, h5⟩
    · obtain ⟨_, _, h, _⟩ := q
      rw [h, h5]
    · obtain ⟨_, _, _, _, h⟩ := q
      simp only [evC] at h
      exact h.elim
  | n + 1, F, f, h => by
    obtain ⟨fd, ps, nm, qual, st, N, Fd, h2, h3, h4, h5, h6, h7⟩ := h
    exact ⟨fd, ps, body_ok tk (fun x F e => by
      obtain ⟨f, h1, hE⟩ := tk.fns x F e
      obtain ⟨fd, ps, a, b, c⟩ := ent_ok tk n F f hE
      obtain ⟨_, _, _, _, _, _, _, h2, _⟩ := hE
      exact ⟨f, fd, ps, h1, h2.kp, a, b, c⟩) (fun x G e => (tk.cls x G e).imp fun F f hE => ent_ok tk n F f hE) h2 h3 h5 h6 h7, h4, h5⟩
theorem table_ok {T : Tab} {FNS : List (Str × FSig)} {CS : List (Str × D)} {NOS : List Str} {XS : List (Str × XSig)} {CLS : List (Str × CSig)} (tk : TabOk P w K mg base T FNS CS NOS XS CLS) (n : Nat) : (∀ x F, FNS.lookup x = some F → ∃ f fd ps, mg x = some (.ref f) ∧ PySem.W.keepIn K (.ref f) = true ∧ FnOk P w K mg base (L2.CX P w) (2 * n + 2) f fd ps (spF K mg XS (evC T n) F) ∧ Binds K fd ps [] ∧ ps.length = F.np) ∧
    ∀ x G, CLS.lookup x = some G → ClP K mg (DefP P w K mg base XS (evC T n) (2 * n + 2)) x G :=
  ⟨fun x F e => by
    obtain ⟨f, h1, hE⟩ := tk.fns x F e
    obtain ⟨fd, ps, a, b, c⟩ := ent_ok tk n F f hE
    obtain ⟨_, _, _, _, _, _, _, h2, _⟩ := hE
    exact ⟨f, fd, ps, h1, h2.kp, a, b, c⟩, fun x G e => (tk.cls x G e).imp fun F f hE => ent_ok tk n F f hE⟩
end
end Pv

set_option maxHeartbeats 1000000
/-! From the top's written part to the law. -/
namespace Pv
open PySem PySem.Spec PyProof.Rows L2

/-! ### constants of the module -/
def CRep (K : PySem.W.Frag) (u : Value) (d : D) : Prop := ∃ v, RelV v u ∧ ∀ Z H, Rep K Z H v d
inductive CReps (K : PySem.W.Frag) : List Value → List D → Prop
  | nil : CReps K [] []
  | cons {u : Value} {us : List Value} {d : D} {ds : List D} : CRep K u d → CReps K us ds → CReps K (u :: us) (d :: ds)
section
variable {K : PySem.W.Frag}
theorem CRep.int {i : Int} {t : Tok} : CRep K (.int i t) (.int i) := ⟨.int i, ⟨t, rfl⟩, fun _ _ => .int i⟩
theorem CRep.bl {b : Bool} : CRep K (.bool b) (.bl b) := ⟨.bl b, rfl, fun _ _ => .bl b⟩
theorem CRep.non : CRep K .none .non := ⟨.non, rfl, fun _ _ => .non⟩
theorem CRep.str {x : Str} {t : Tok} (h : okT x = true) : CRep K (.str x t) (.str x) := ⟨.str x, ⟨t, rfl⟩, fun _ _ => .str x h⟩
theorem CReps.vals : ∀ {us : List Value} {ds : List D}, CReps K us ds → ∃ vs, Vals vs us ∧ ∀ Z H, Reps K Z H vs ds
  | _, _, .nil => ⟨[], .nil, fun _ _ => .nil⟩
  | _, _, .cons ⟨v, h1, h2⟩ t => by
    obtain ⟨vs, h3, h4⟩ := CReps.vals t
    exact ⟨v :: vs, .cons h1 h3, fun Z H => .cons (h2 Z H) (h4 Z H)⟩
theorem CRep.tup {a : Addr} {us : List Value} {ds : List D} {n : Nat} {sl : Array (Option Value)} (h : K.lookup a = some ⟨.type "tuple", none, .seq us.toArray n, sl⟩) (r : CReps K us ds) (hz : us.length ≤ 1000) : CRep K (.ref a) (.tup ds) := by
  obtain ⟨vs, h1, h2⟩ := r.vals
  refine ⟨.ref a, rfl, fun Z H => .tup (.inr ⟨_, us.toArray, n, h, rfl, rfl, rfl, ?_, by simpa using h1⟩) (h2 Z H)⟩
  rw [List.size_toArray, sizeLine_eq]
  omega
end

/-! ### the table -/
section
variable {P : Program} {w : World} {K : PySem.W.Frag} {mg : Str → Option Value} {base : Heap} {T : Tab} {FNS : List (Str × FSig)} {CS : List (Str × D)} {NOS : List Str} {XS : List (Str × XSig)} {CLS : List (Str × CSig)}
def EntP (K : PySem.W.Frag) (mg : Str → Option Value) (T : Tab) (FNS : List (Str × FSig)) (CS : List (Str × D)) (NOS : List Str) (XS : List (Str × XSig)) (CLS : List (Str × CSig)) (x : Str) (F : FSig) : Prop :=
  ∃ f, mg x = some (.ref f) ∧ EntD K T FNS CS NOS XS CLS F f
inductive AllE (p : Str → FSig → Prop) : List (Str × FSig) → Prop
  | nil : AllE p []
  | cons {x : Str} {F : FSig} {r : List (Str × FSig)} : p x F → AllE p r → AllE p ((x, F) :: r)
theorem AllE.get {p : Str → FSig → Prop} {l : List (Str × FSig)} {x : Str} {F : FSig} (h : AllE p l) (e : l.lookup x = some F) : p x F := by
  induction h with
  | nil => cases e
  | cons h1 h2 ih =>
    rw [List.lookup_cons] at e
    split at e
    · rename_i hb
      cases e
      obtain rfl := eq_of_beq hb
      exact h1
    · exact ih e
inductive AllC (K : PySem.W.Frag) (mg : Str → Option Value) : List (Str × D) → Prop
  | nil : AllC K mg []
  | cons {x : Str} {d : D} {u : Value} {r : List (Str × D)} : mg x = some u → CRep K u d → AllC K mg r → AllC K mg ((x, d) :: r)
theorem AllC.get {l : List (Str × D)} {x : Str} {d : D} (h : AllC K mg l) (e : l.lookup x = some d) : ∃ u v, mg x = some u ∧ RelV v u ∧ ∀ Z H, Rep K Z H v d := by
  induction h with
  | nil => cases e
  | cons h1 h2 h3 ih =>
    rw [List.lookup_cons] at e
    split at e
    · rename_i hb
      cases e
      obtain rfl := eq_of_beq hb
      obtain ⟨v, a, b⟩ := h2
      exact ⟨_, v, h1, a, b⟩
    · exact ih e
inductive AllN (mg : Str → Option Value) : List Str → Prop
  | nil : AllN mg []
  | cons {x : Str} {r : List Str} : mg x = none → AllN mg r → AllN mg (x :: r)
theorem AllN.get {l : List Str} {x : Str} (h : AllN mg l) (e : x ∈ l) : mg x = none := by
  induction h with
  | nil => cases e
  | cons h1 h2 ih =>
    rcases List.mem_cons.mp e with rfl | e
    · exact h1
    · exact ih e
/-- all entries of a list -/
inductive AllG {α : Type} (p : Str → α → Prop) : List (Str × α) → Prop
  | nil : AllG p []
  | cons {x : Str} {F : α} {r : List (Str × α)} : p x F → AllG p r → AllG p ((x, F) :: r)
theorem AllG.get {α : Type} {p : Str → α → Prop} {l : List (Str × α)} {x : Str} {F : α} (h : AllG p l) (e : l.lookup x = some F) : p x F := by
  induction h with
  | nil => cases e
  | cons h1 h2 ih =>
    rw [List.lookup_cons] at e
    split at e
    · rename_i hb
      cases e
      obtain rfl := eq_of_beq hb
      exact h1
    · exact ih e
theorem TabOk.mk' (e : AllE (EntP K mg T FNS CS NOS XS CLS) FNS) (c : AllC K mg CS) (n : AllN mg NOS) (x : AllG (ExP P w K mg base XS) XS) (y : AllG (ClP K mg (EntD K T FNS CS NOS XS CLS)) CLS) : TabOk P w K mg base T FNS CS NOS XS CLS := ⟨fun _ _ h => e.get h, fun _ _ h => c.get h, fun _ h => n.get h, fun _ _ h => x.get h, fun _ _ h => y.get h⟩
/-- a def of the text -/
theorem ent {x nm qual : Str} {st : Stmt} {f : Addr} {F : FSig} {N ps : List Str} {Fd : Fd} {oc : Value} {od an : Option Addr} {osl : Array (Option Value)} {kV doc pm cdv ct : Value} (hm : mg x = some (.ref f))
    (l : K.lookup f = some ⟨oc, od, .func (PySem.W.fnOf nm qual (defArgs st) (defBody st) (defScope st) .none kV doc pm an cdv ct), osl⟩) (c : PySem.W.codeIn K cdv qual = true) (k : PySem.W.keepIn K (.ref f) = true) (S : FnScope N ps (defScope st))
    (hb : ∀ (kV doc pm : Value) (an : Option Addr) (cdv ct : Value) (us : List Value), us.length = ps.length → bindArgs (PySem.W.fnOf nm qual (defArgs st) (defBody st) (defScope st) .none kV doc pm an cdv ct) ⟨us, []⟩ = pure (ps.zip us))
    (hp : ps.length = F.np) (hT : T F.id = some Fd) (hc : compD N F.np F.muts F.fresh FNS CS NOS XS CLS (defScope st) (defBody st) = some Fd) : EntP K mg T FNS CS NOS XS CLS x F :=
  ⟨f, hm, _, ps, nm, qual, st, N, Fd, fun_mk l c k, S, (fun_mk l c k).binds hb, hp, hT, hc⟩
/-- a method of an own class -/
theorem entM {nm qual : Str} {st : Stmt} {f : Addr} {F : FSig} {N ps : List Str} {Fd : Fd} {oc : Value} {od an : Option Addr} {osl : Array (Option Value)} {kV doc pm cdv ct : Value}
    (l : K.lookup f = some ⟨oc, od, .func (PySem.W.fnOf nm qual (defArgs st) (defBody st) (defScope st) .none kV doc pm an cdv ct), osl⟩) (c : PySem.W.codeIn K cdv qual = true) (k : PySem.W.keepIn K (.ref f) = true) (S : FnScope N ps (defScope st))
    (hb : ∀ (kV doc pm : Value) (an : Option Addr) (cdv ct : Value) (us : List Value), us.length = ps.length → bindArgs (PySem.W.fnOf nm qual (defArgs st) (defBody st) (defScope st) .none kV doc pm an cdv ct) ⟨us, []⟩ = pure (ps.zip us))
    (hp : ps.length = F.np) (hT : T F.id = some Fd) (hc : compD N F.np F.muts F.fresh FNS CS NOS XS CLS (defScope st) (defBody st) = some Fd) : EntD K T FNS CS NOS XS CLS F f :=
  ⟨_, ps, nm, qual, st, N, Fd, fun_mk l c k, S, (fun_mk l c k).binds hb, hp, hT, hc⟩
/-- the methods of a class -/
inductive AllM (p : Str → FSig → Prop) : List (Str × FSig) → Prop
  | nil : AllM p []
  | cons {x : Str} {F : FSig} {r : List (Str × FSig)} : p x F → AllM p r → AllM p ((x, F) :: r)
theorem AllM.get {p : Str → FSig → Prop} {l : List (Str × FSig)} {x : Str} {F : FSig} (h : AllM p l) (e : l.lookup x = some F) : p x F := by
  induction h with
  | nil => cases e
  | cons h1 h2 ih =>
    rw [List.lookup_cons] at e
    split at e
    · rename_i hb
      cases e
      obtain rfl := eq_of_beq hb
      exact h1
    · exact ih e
theorem clP_mk {x : Str} {G : CSig} {C : Addr} {q : FSig → Addr → Prop} (hm : mg x = some (.ref C)) (ns : PySem.W.nsIn K mainGlobals x = some (some (.ref C))) (cf : ClF K C) (no : ∀ f, f ∈ G.as → NoAttr K C f)
    (i : ∀ F, G.init = some F → ∃ f, Mk K C f ∧ q F f) (m : AllM (fun m F => ∃ f, Meth K C m f ∧ q F f) G.ms) : ClP K mg q x G := ⟨C, hm, ⟨ns, cf, no⟩, i, fun _ _ e => m.get e⟩
theorem ini_mk {F0 : FSig} {C f : Addr} {q : FSig → Addr → Prop} (M : Mk K C f) (h : q F0 f) : ∀ F, some F0 = some F → ∃ f, Mk K C f ∧ q F f := fun F e => by cases e; exact ⟨f, M, h⟩
theorem nk_mk {C : Addr} (h1 : PySem.W.subIn K (.ref C) (.type "int") = some false) (h2 : PySem.W.subIn K (.ref C) (.type "bool") = some false) (h3 : PySem.W.subIn K (.ref C) (.type "str") = some false) (h4 : PySem.W.subIn K (.ref C) (.type "tuple") = some false) (h5 : PySem.W.subIn K (.ref C) (.type "list") = some false) :
    ∀ T : String, T ∈ ["int", "bool", "str", "tuple", "list"] → PySem.W.subIn K (.ref C) (.type T) = some false := fun T hT => by
  simp only [List.mem_cons, List.not_mem_nil, or_false] at hT
  rcases hT with rfl | rfl | rfl | rfl | rfl <;> assumption
end

/-! ### exceptions -/
section
variable {P : Program} {w : World} {K : PySem.W.Frag} {mg : Str → Option Value} {base : Heap} {XS : List (Str × XSig)}
/-- a class that except clauses may name -/
structure CF (K : PySem.W.Frag) (C : Addr) : Prop where
  sub : PySem.W.subIn K (.ref C) (.type "BaseException") = some true
  is : PySem.W.isClsIn K C = true
  ty : PySem.W.typeIn K (.ref C) = some (.type "type")
theorem kitCls_of {C C' : Addr} {b : Bool} (h : CF K C') (s : PySem.W.subIn K (.ref C) (.ref C') = some b) : PySem.W.kitCls K (.ref C) (.ref C') = some b := by
  have h2 : (PySem.W.clsIn K C').isSome = true := h.is
  have e2 : ((PySem.W.clsIn K C').isSome && PySem.W.typeIn K (.ref C') == some (.type "type")) = true := by rw [h2, h.ty]; rfl
  show (if _ then _ else _) = _
  rw [if_pos e2]
  exact s
theorem exm_ok {C C' : Addr} {b : Bool} (h : CF K C') (self : PySem.W.subIn K (.ref C) (.ref C) = some true) (s : PySem.W.subIn K (.ref C) (.ref C') = some b) :
    PySem.W.exmOne K (.ref C) (.ref C') = some b ∧ PySem.W.kitOne K (.ref C) (.ref C') = some b := by
  have kc := kitCls_of h s
  have e1 : (PySem.W.subIn K (.ref C') (.type "BaseException") == some true) = true := by rw [h.sub]; rfl
  refine ⟨by show (if _ then _ else _) = _; rw [if_pos e1]; exact kc, ?_⟩
  show (if ((Value.ref C : Value) == .ref C') = true then some true else PySem.W.kitCls K (.ref C) (.ref C')) = some b
  split
  · rename_i hb
    have e : C = C' := Value.ref.inj (beq_iff_eq.mp hb)
    subst e
    rw [self] at s
    exact s
  · exact kc
/-- the text of an __init__ that stores its arguments -/
def iniS (st : Stmt) (j : Nat) : Stmt := match st with
  | .ClassDef _ _ _ body _ _ _ _ _ _ _ => body.getD j (.Pass ⟨0, 0, 0, 0⟩)
  | _ => .Pass ⟨0, 0, 0, 0⟩
theorem par_vis {N ps : List Str} {sc : Scope} (S : FnScope N ps sc) {x : Str} (h : x ∈ ps) : Vis sc x := (S.par x h).elim .inl fun z => .inr (.inl z)
theorem ini1 {st : Stmt} {fI : Addr} {fd : FuncData} {qual f : Str} {p1 p2 p3 p4 : Pos} (hF : Fun K "__init__" qual st fI fd) (S : FnScope ["self", f] ["self", f] (defScope st)) (hb : defBody st = [.Assign [.Attribute (.Name "self" p1) f p2] (.Name f p3) p4])
    (hd : (f == ("__debug__" : Str)) = false) (hc : (f == ("__classdict__" : Str)) = false) : FnOk P w K mg base (L2.CX P w) 1 fI fd ["self", f] (spI K [f]) := by
  refine hF.okX (N := ["self", f]) S (fun vs H Q E q => ?_) fun cdv A outer s H vs Q E hr q => ?_
  · obtain ⟨a, C, ws, rfl, hl, _⟩ := q
    simpa using hl
  · obtain ⟨a, C, ws, rfl, hl, T, hno, ha, q⟩ := q
    obtain ⟨y, rfl⟩ : ∃ y, ws = [y] := by
      cases ws with
      | nil => cases hl
      | cons y r => cases r with
        | nil => exact ⟨y, rfl⟩
        | cons _ _ => simp at hl
    rw [hb]
    refine ⟨_, pss_one (ps_ost (pe_var (i := 0) rfl (par_vis S (by simp))) (pe_var (i := 1) rfl (par_vis S (by simp)) hd hc)), ?_⟩
    refine ⟨y, rfl, .ref a, rfl, a, C, rfl, T, hno f (by simp), .inl ⟨ha, fun dx hdx hne => ?_⟩⟩
    refine q dx _ hdx hne upd_same ?_ fun b hba hbd => ?_
    · rw [upd_ne hne, upd_same]
      rfl
    · rw [upd_ne hba, upd_ne hbd]
theorem no1 {C : Addr} {f : Str} (h : PySem.W.findIn K (.ref C) f = some none) : ∀ g, g ∈ [f] → PySem.W.findIn K (.ref C) g = some none := fun g hg => by
  obtain rfl := List.mem_singleton.mp hg
  exact h
/-- a class that is raised -/
theorem exP_mk {x : Str} {G : XSig} {C fI N : Addr} {fd : FuncData} {ps : List Str} {nm q : Str} {bs bm : List Value} {sn : List Str} {sub : List Value} {ab : Bool} {col : Option Bool} {dd : Option Addr} {m0 m1 m2 m3 m5 : Option Value}
    (hm : mg x = some (.ref C)) (sh : (∃ f, G.fs = [f]) ∨ ∃ f g, G.fs = [f, g] ∧ f ≠ g)
    (xL : K.lookup C = some (excClassObj nm q C N bs bm true sn sub ab col dd m0 m1 m2 m3 m5 "ValueError.__new__")) (hbm : PySem.HandSPX.refsVE bm = true)
    (sa : PySem.W.findIn K (.ref C) "__setattr__" = some (some (.builtin "object.__setattr__"))) (ga : PySem.W.findIn K (.ref C) "__getattribute__" = some (some (.builtin "BaseException.__getattribute__"))) (gg : PySem.W.findIn K (.ref C) "__getattr__" = some none)
    (no : ∀ f, f ∈ G.fs → PySem.W.findIn K (.ref C) f = some none) (kC : PySem.W.keepIn K (.ref C) = true) (cf : CF K C) (hD : PySem.W.hasDictIn K C = true)
    (cl : PySem.W.findIn K (.ref C) "__class__" = some (some (.builtin "object.__class__"))) (gs : PySem.W.specialIn K (.builtin "object.__class__") "__get__" = some (some (.builtin "getset_descriptor.__get__"))) (tk : PySem.W.takesIn K (.builtin "object.__class__") = some true)
    (mr : PySem.W.mroIn K C (.type "object") = some true) (ve : PySem.W.subIn K (.ref C) (.type "ValueError") = some true)
    (all : AllG (fun y G' => ∃ C', mg y = some (.ref C') ∧ PySem.W.exmOne K (.ref C) (.ref C') = some (subX G.id G'.id) ∧ PySem.W.kitOne K (.ref C) (.ref C') = some (subX G.id G'.id)) XS)
    (iC : PySem.W.findIn K (.ref C) "__init__" = some (some (.ref fI))) (tI : PySem.W.typeIn K (.ref fI) = some (.type "function")) (F1 : FnOk P w K mg base (L2.CX P w) 1 fI fd ps (spI K G.fs)) (hb : Binds K fd ps []) : ExP P w K mg base XS x G :=
  ⟨C, hm, fun _ => ⟨⟨⟨ga, gg, cf.sub, hD⟩, no, fun y G' e => all.get e, cl, gs, tk, mr, by
    unfold PySem.W.kitOne
    rw [if_neg (by simp)]
    unfold PySem.W.kitCls
    dsimp only
    rw [if_pos (by decide +kernel)]
    exact ve⟩, ⟨⟨nm, q, N, bs, bm, sn, sub, ab, col, dd, m0, m1, m2, m3, m5, xL, hbm⟩, sa, cf.sub, cf.ty, kC⟩, sh, fI, fd, ps, iC, tI, F1, hb⟩⟩
end
/-! ### the law -/
def spLaw (K : PySem.W.Frag) : Sp := fun vs H Q _ => ∃ (a : Addr) (ns : List Int), vs = [.ref a] ∧ SqL K H a (ns.map V.int) ∧ Only H ∧ ns.length ≤ 63 ∧ Q = fun v _ => v = .bl true
/-- how deep the defs may call -/
def LV : Nat := 12
theorem law_imp {K : PySem.W.Frag} {mg : Str → Option Value} {XS : List (Str × XSig)} {T : Tab} {F : FSig} (hnp : F.np = 1) (hmu : F.muts = []) (hfr : F.fresh = false) (plain : ∀ ns : List Int, ns.length ≤ 63 → ∃ os, evC T LV F.id [.scr ns] = .ok (.bl true, os)) :
    ∀ vs H Q E, spLaw K vs H Q E → spF K mg XS (evC T LV) F vs H Q E := by
  rintro vs H Q E ⟨a, ns, rfl, hS, hO, hn, rfl⟩
  obtain ⟨os, hev⟩ := plain ns hn
  refine spF_ok ⟨fun _ => False, [.scr ns], .bl true, os, by rw [hnp]; rfl, ?_, hev, fun Z1 v H' co => ?_⟩
  · refine ⟨rfl, fun a z => z.elim, fun j d _ hj => ?_, fun j hj => ?_, fun i j p hi => ?_⟩
    · cases j with
      | zero =>
        obtain rfl : D.scr ns = d := by simpa using hj
        refine ⟨.ref a, rfl, .scr ?_⟩
        rcases hS with (h | ⟨o, h⟩) | h
        · rcases hO a with q | ⟨o, xs, q⟩
          · rw [q] at h; cases h
          · rw [q] at h; cases h
        · exact .inl ⟨⟨o, h⟩, fun z => z⟩
        · exact .inr h
      | succ j => simp at hj
    · rw [hmu] at hj; cases hj
    · rw [hmu] at hi; cases hi
  · have res := co.res
    rw [hfr] at res
    cases res
    rfl
theorem room_law : Room (2 * LV + 2) callerA := ⟨rfl, by decide, by decide⟩
theorem walk {l : PySem.W.OpenLaw} {q : Program} {loose : List Str} {XP : (Str → Option Value) → Heap → Prop} {YP : World → Heap → Prop} {d : DefRec} {K : Params → PySem.W.Frag} {x : Str} {T : Tab} {FNS : List (Str × FSig)} {CS : List (Str × D)} {NOS : List Str} {XS : List (Str × XSig)} {CLS : List (Str × CSig)} {F : FSig} {N : List Str} {Fd : Fd} {st : Stmt}
    (hn : l.most = some 63) (hdf : d.params.defaults = []) (hY : ∀ (w : World) (h : Heap), YP w h → (K w.params).In h) (hnp : F.np = 1) (hmu : F.muts = []) (hfr : F.fresh = false) (plain : ∀ ns : List Int, ns.length ≤ 63 → ∃ os, evC T LV F.id [.scr ns] = .ok (.bl true, os))
    (hS : FnScope N [x] (defScope st)) (hT : T F.id = some Fd) (hc : compD N F.np F.muts F.fresh FNS CS NOS XS CLS (defScope st) (defBody st) = some Fd)
    (G : ∀ (w : World) (mg : Str → Option Value) (fa : Addr) (h : Heap), (K w.params).In h → h.Ns mainGlobals mg → mg d.name = some (.ref fa) →
      ∃ (fd : FuncData) (nm qual : Str), (∀ (s : Shared) (u : Value), BindsTo s fd ⟨[u], []⟩ [(x, u)]) ∧ Fun (K w.params) nm qual st fa fd ∧ ∀ base : Heap, TabOk l.prog w (K w.params) mg base T FNS CS NOS XS CLS) :
    PySem.W.WalkO q loose XP YP l.row.toRowW d [] (fun f vs => PySem.call f vs) := by
  refine L2.walk_of (n := 63) (k := 2 * LV + 2) (x := x) (CX := fun w => L2.CX l.prog w) (sp := fun w => spLaw (K w.params)) hn (by decide) hdf room_law hY (fun w mg fa h KX Gm hmg => ?_) (fun _ _ a ns hl hO hS => ⟨a, ns, rfl, hS, hO, hl, rfl⟩) fun _ _ _ _ _ z => by obtain ⟨_, _, _, _, _, _, _, _, _, _, _, _, z⟩ := z; exact z
  obtain ⟨fd, nm, qual, hb, hF, tk⟩ := G w mg fa h KX Gm hmg
  refine ⟨fd, hb, fun base _ _ => ?_⟩
  exact (body_ok (n := 11) (tk base) (table_ok (tk base) 11).1 (table_ok (tk base) 11).2 hF hS (by rw [hnp]; rfl) hT hc).imp (law_imp hnp hmu hfr plain)
end Pv

set_option maxHeartbeats 1000000
/-! To reckon in the small language: what is wanted behind a text, backwards. -/
namespace Pv
open PySem L2

/-! ### what is wanted -/
def WE (cf : Cf) (e : Ex) (env : Env) (Q : D → Env → Prop) : Prop := ∃ d v, evE cf e env = .ok (d, v) ∧ Q d v
def WA (cf : Cf) (e : Ex) (env : Env) (Q : List D → Env → Prop) : Prop := ∃ d v, evA cf e env = .ok (d, v) ∧ Q d v
def WO (cf : Cf) (e : Ex) (env : Env) (Q : Option Int → Env → Prop) : Prop := ∃ d v, evO cf e env = .ok (d, v) ∧ Q d v
def WI (cf : Cf) (e : Ex) (env : Env) (Q : List D → Env → Prop) : Prop := ∃ d v, evI cf e env = .ok (d, v) ∧ Q d v
def WC (cf : Cf) (f : Nat) (ds : List D) (Q : D → List D → Prop) : Prop := ∃ d os, cf f ds = .ok (d, os) ∧ Q d os
def WFl (f : Fl) (N : Env → Prop) (Rt : D → Env → Prop) (B C : Env → Prop) : Prop := match f with
  | .nx e => N e
  | .rt d e => Rt d e
  | .bk e => B e
  | .ct e => C e
  | _ => False
@[irreducible] def WS (cf : Cf) (s : Sm) (env : Env) (N : Env → Prop) (Rt : D → Env → Prop) (B C : Env → Prop) : Prop := WFl (evS cf s env) N Rt B C
section
variable {cf : Cf} {a b c es : Ex} {env : Env} {Q : D → Env → Prop} {QA : List D → Env → Prop} {QO : Option Int → Env → Prop} {i j f : Nat} {d : D}
theorem bindW {α β : Type} {x : Out (α × Env)} {g : α × Env → Out (β × Env)} {Q : β → Env → Prop} : (∃ d v, x.bind g = .ok (d, v) ∧ Q d v) ↔ ∃ p v, x = .ok (p, v) ∧ ∃ d w, g (p, v) = .ok (d, w) ∧ Q d w := by
  cases x with
  | ok p =>
    obtain ⟨p, v⟩ := p
    constructor
    · rintro ⟨d, w, h, q⟩
      exact ⟨p, v, rfl, d, w, h, q⟩
    · rintro ⟨p', v', h, d, w, h2, q⟩
      cases h
      exact ⟨d, w, h2, q⟩
  | err e => constructor <;> (rintro ⟨_, _, h, _⟩; cases h)
  | stuck => constructor <;> (rintro ⟨_, _, h, _⟩; cases h)
theorem bindO {α : Type} {o : Option α} {e1 : Env} {β : Type} {mk : α → β} {Q : β → Env → Prop} : (∃ d v, ((Out.of o).bind fun z => Out.ok (mk z, e1)) = .ok (d, v) ∧ Q d v) ↔ ∃ z, o = some z ∧ Q (mk z) e1 := by
  cases o with
  | none => constructor <;> (rintro h; simp [Out.of, Out.bind] at h)
  | some z =>
    constructor
    · rintro ⟨d, w, h, q⟩
      simp only [Out.of, Out.bind] at h
      cases h
      exact ⟨z, rfl, q⟩
    · rintro ⟨z', h, q⟩
      cases h
      exact ⟨_, _, rfl, q⟩
theorem okW {α : Type} {x : α} {e : Env} {Q : α → Env → Prop} : (∃ d v, (Out.ok (x, e) : Out (α × Env)) = .ok (d, v) ∧ Q d v) ↔ Q x e := by
  constructor
  · rintro ⟨d, v, h, q⟩
    cases h
    exact q
  · exact fun q => ⟨x, e, rfl, q⟩
@[simp] theorem WE_var : WE cf (.var i) env Q ↔ ∃ d, env[i]? = some (some d) ∧ Q d env := by
  unfold WE
  simp only [evE]
  constructor
  · rintro ⟨d, v, h, q⟩
    split at h
    · rename_i d' e
      cases h
      exact ⟨_, e, q⟩
    · cases h
  · rintro ⟨d, h, q⟩
    exact ⟨d, env, by rw [h], q⟩
@[simp] theorem WE_lit : WE cf (.lit d) env Q ↔ Q d env := by
  unfold WE; simp only [evE]; exact okW
@[simp] theorem WE_un {o : Uop} : WE cf (.un o a) env Q ↔ WE cf a env fun x e1 => ∃ z, unF o x = some z ∧ Q z e1 := by
  unfold WE; simp only [evE]; rw [bindW]; simp only [bindO]
@[simp] theorem WE_bin {o : Bop} : WE cf (.bin o a b) env Q ↔ WE cf a env fun x e1 => WE cf b e1 fun y e2 => ∃ z, binF o x y = some z ∧ Q z e2 := by
  unfold WE; simp only [evE]; rw [bindW]; simp only [bindW, bindO]
@[simp] theorem WE_cmp {o : Cop} : WE cf (.cmp o a b) env Q ↔ WE cf a env fun x e1 => WE cf b e1 fun y e2 => ∃ z, cmpF o x y = some z ∧ Q (.bl z) e2 := by
  unfold WE; simp only [evE]; rw [bindW]; simp only [bindW, bindO]
theorem iteW {α : Type} {p : Bool} {x y : Out (α × Env)} {Q : α → Env → Prop} : (∃ d v, (if p = true then x else y) = .ok (d, v) ∧ Q d v) ↔ if p = true then (∃ d v, x = .ok (d, v) ∧ Q d v) else ∃ d v, y = .ok (d, v) ∧ Q d v := by
  cases p <;> simp
@[simp] theorem WE_and : WE cf (.and a b) env Q ↔ WE cf a env fun x e1 => if truth x = true then WE cf b e1 Q else Q x e1 := by
  unfold WE; simp only [evE]; rw [bindW]; simp only [iteW, okW]
@[simp] theorem WE_or : WE cf (.or a b) env Q ↔ WE cf a env fun x e1 => if truth x = true then Q x e1 else WE cf b e1 Q := by
  unfold WE; simp only [evE]; rw [bindW]; simp only [iteW, okW]
@[simp] theorem WE_not : WE cf (.not a) env Q ↔ WE cf a env fun x e1 => Q (.bl (!truth x)) e1 := by
  unfold WE; simp only [evE]; rw [bindW]; simp only [okW]
@[simp] theorem WE_ite : WE cf (.ite c a b) env Q ↔ WE cf c env fun x e1 => if truth x = true then WE cf a e1 Q else WE cf b e1 Q := by
  unfold WE; simp only [evE]; rw [bindW]; simp only [iteW]
@[simp] theorem WE_chain {o p : Cop} {e : Ex} : WE cf (.chain o p a b e) env Q ↔ WE cf a env fun x e1 => WE cf b e1 fun y e2 => ∃ z, cmpF o x y = some z ∧ if z = true then WE cf e e2 fun w e3 => ∃ z, cmpF p y w = some z ∧ Q (.bl z) e3 else Q (.bl false) e2 := by
  unfold WE; simp only [evE]; rw [bindW]; simp only [bindW]
  constructor
  · rintro ⟨x, e1, h1, y, e2, h2, h3⟩
    refine ⟨x, e1, h1, y, e2, h2, ?_⟩
    obtain ⟨d, v, h, q⟩ := h3
    cases hz : cmpF o x y with
    | none => rw [hz] at h; cases h
    | some z =>
      rw [hz] at h
      refine ⟨z, rfl, ?_⟩
      have h' : (if z = true then (evE cf e e2).bind fun (w, e3) => (Out.of (cmpF p y w)).bind fun z => .ok (D.bl z, e3) else .ok (D.bl false, e2)) = .ok (d, v) := h
      have := iteW.mp ⟨d, v, h', q⟩
      simpa only [bindW, bindO, okW] using this
  · rintro ⟨x, e1, h1, y, e2, h2, z, hz, h3⟩
    refine ⟨x, e1, h1, y, e2, h2, ?_⟩
    rw [hz]
    show ∃ d v, (if z = true then (evE cf e e2).bind fun (w, e3) => (Out.of (cmpF p y w)).bind fun z => .ok (D.bl z, e3) else .ok (D.bl false, e2)) = .ok (d, v) ∧ Q d v
    rw [iteW]
    simpa only [bindW, bindO, okW] using h3
@[simp] theorem WE_tup : WE cf (.tup es) env Q ↔ WA cf es env fun xs e1 => xs.length ≤ LIM ∧ Q (.tup xs) e1 := by
  unfold WE WA; simp only [evE]; rw [bindW]
  constructor
  · rintro ⟨xs, e1, h, d, w, h2, q⟩
    split at h2
    · rename_i hl
      cases h2
      exact ⟨xs, e1, h, hl, q⟩
    · cases h2
  · rintro ⟨xs, e1, h, hl, q⟩
    exact ⟨xs, e1, h, _, _, by rw [if_pos hl], q⟩
@[simp] theorem WE_lst : WE cf (.lst es) env Q ↔ WA cf es env fun xs e1 => xs.length ≤ LIM ∧ Q (.lst xs) e1 := by
  unfold WE WA; simp only [evE]; rw [bindW]
  constructor
  · rintro ⟨xs, e1, h, d, w, h2, q⟩
    split at h2
    · rename_i hl
      cases h2
      exact ⟨xs, e1, h, hl, q⟩
    · cases h2
  · rintro ⟨xs, e1, h, hl, q⟩
    exact ⟨xs, e1, h, _, _, by rw [if_pos hl], q⟩
@[simp] theorem WE_sl {lo hi : Ex} : WE cf (.sl a lo hi) env Q ↔ WE cf a env fun x e1 => WO cf lo e1 fun l e2 => WO cf hi e2 fun h e3 => ∃ z, slF x l h = some z ∧ Q z e3 := by
  unfold WE WO; simp only [evE]; rw [bindW]; simp only [bindW, bindO]
@[simp] theorem WE_blt {o : Bi} : WE cf (.blt o es) env Q ↔ WA cf es env fun xs e1 => ∃ z, bltF o xs = some z ∧ Q z e1 := by
  unfold WE WA; simp only [evE]; rw [bindW]; simp only [bindO]
@[simp] theorem WE_call {ms : List (Nat × Nat)} : WE cf (.call f ms es) env Q ↔ WA cf es env fun xs e1 => WC cf f (patch e1 ms xs) fun d os => Q d (setAll e1 (ms.map (·.2)) os) := by
  unfold WE WA WC; simp only [evE]; rw [bindW]
  constructor
  · rintro ⟨xs, e1, h, d, w, h2, q⟩
    obtain ⟨⟨d', os⟩, h3, h4⟩ := bind_ok h2
    cases h4
    exact ⟨xs, e1, h, _, os, h3, q⟩
  · rintro ⟨xs, e1, h, d, os, h2, q⟩
    exact ⟨xs, e1, h, d, _, by dsimp only; rw [h2]; rfl, q⟩
@[simp] theorem WE_callB : WE cf (.callB f es) env Q ↔ WA cf es env fun xs e1 => WC cf f xs fun d _ => scalD d = true ∧ Q d e1 := by
  unfold WE WA WC; simp only [evE]; rw [bindW]
  constructor
  · rintro ⟨xs, e1, h, d, w, h2, q⟩
    obtain ⟨⟨d', os⟩, h3, h4⟩ := bind_ok h2
    dsimp only at h4
    split at h4
    · rename_i hs
      cases h4
      exact ⟨xs, e1, h, _, os, h3, hs, q⟩
    · cases h4
  · rintro ⟨xs, e1, h, d, os, h2, hs, q⟩
    exact ⟨xs, e1, h, d, _, by dsimp only; rw [h2]; show (if scalD d = true then _ else _) = _; rw [if_pos hs], q⟩
@[simp] theorem WE_om {o : Om} : WE cf (.om o i es) env Q ↔ lstB (env[i]?) = true ∧ WA cf es env fun xs e1 => ∃ ys, e1[i]? = some (some (.lst ys)) ∧ ∃ d zs, omF o ys xs = some (d, zs) ∧ Q d (e1.set i (some (.lst zs))) := by
  unfold WE WA; simp only [evE]
  by_cases hl : lstB (env[i]?) = true
  · simp only [hl, if_true, true_and]
    rw [bindW]
    constructor
    · rintro ⟨xs, e1, h, d, w, h2, q⟩
      dsimp only at h2
      split at h2
      · rename_i ys hy
        obtain ⟨⟨d', zs⟩, h3, h4⟩ := bind_ok h2
        cases h4
        exact ⟨xs, e1, h, ys, hy, _, zs, of_ok h3, q⟩
      · cases h2
    · rintro ⟨xs, e1, h, ys, hy, d, zs, h2, q⟩
      refine ⟨xs, e1, h, d, _, ?_, q⟩
      dsimp only
      rw [hy]
      dsimp only
      rw [h2]
      rfl
  · constructor
    · rintro ⟨d, v, h, _⟩
      rw [if_neg hl] at h
      cases h
    · rintro ⟨h, _⟩
      exact absurd h hl
@[simp] theorem lstB_lst {xs : List D} : lstB (some (some (.lst xs))) = true := rfl
@[simp] theorem WE_at {f : Str} : WE cf (.at a f) env Q ↔ WE cf a env fun x e1 => ∃ z, atF x f = some z ∧ Q z e1 := by
  unfold WE; simp only [evE]; rw [bindW]; simp only [bindO]
@[simp] theorem WE_ob {nm m : Str} : WE cf (.ob nm m a) env Q ↔ WE cf a env fun x e1 => isOb nm m x = true ∧ Q x e1 := by
  unfold WE; simp only [evE]; rw [bindW]
  constructor
  · rintro ⟨x, e1, h, d, w, h2, q⟩
    split at h2
    · rename_i ho
      cases h2
      exact ⟨x, e1, h, ho, q⟩
    · cases h2
  · rintro ⟨x, e1, h, ho, q⟩
    exact ⟨x, e1, h, _, _, by rw [if_pos ho], q⟩
@[simp] theorem WE_lrng : WE cf (.lrng a) env Q ↔ WE cf a env fun x e1 => ∃ j, x = .int j ∧ (big j && decide (j ≤ LIM)) = true ∧ Q (.lst (rngL 0 j.toNat 1)) e1 := by
  unfold WE; simp only [evE]; rw [bindW]
  constructor
  · rintro ⟨x, e1, h, d, w, h2, q⟩
    dsimp only at h2
    split at h2
    · split at h2
      · rename_i hb
        cases h2
        exact ⟨_, e1, h, _, rfl, hb, q⟩
      · cases h2
    · cases h2
  · rintro ⟨x, e1, h, k, rfl, hb, q⟩
    exact ⟨_, e1, h, _, _, by dsimp only; rw [if_pos hb], q⟩
@[simp] theorem WE_mth : WE cf (.mth a) env Q ↔ WE cf a env Q := by
  unfold WE; simp only [evE]
@[simp] theorem WE_callL : WE cf (.callL f es) env Q ↔ WA cf es env fun xs e1 => WC cf f xs fun d _ => scalL d = true ∧ Q d e1 := by
  unfold WE WA WC; simp only [evE]; rw [bindW]
  constructor
  · rintro ⟨xs, e1, h, d, w, h2, q⟩
    obtain ⟨⟨d', os⟩, h3, h4⟩ := bind_ok h2
    dsimp only at h4
    split at h4
    · rename_i hs
      cases h4
      exact ⟨xs, e1, h, _, os, h3, hs, q⟩
    · cases h4
  · rintro ⟨xs, e1, h, d, os, h2, hs, q⟩
    exact ⟨xs, e1, h, d, _, by dsimp only; rw [h2]; show (if scalL d = true then _ else _) = _; rw [if_pos hs], q⟩
@[simp] theorem WE_new {nm : Str} : WE cf (.new nm f es) env Q ↔ WA cf es env fun xs e1 => WC cf f (.obj nm [] [] :: xs) fun d os => d = .non ∧ ∃ o, os = [o] ∧ Q o e1 := by
  unfold WE WA WC; simp only [evE]; rw [bindW]
  constructor
  · rintro ⟨xs, e1, h, d, w, h2, q⟩
    obtain ⟨⟨d', os⟩, h3, h4⟩ := bind_ok h2
    dsimp only at h4
    split at h4
    · cases h4
      exact ⟨xs, e1, h, _, _, h3, rfl, _, rfl, q⟩
    · cases h4
  · rintro ⟨xs, e1, h, d, os, h2, rfl, o, rfl, q⟩
    exact ⟨xs, e1, h, o, _, by dsimp only; rw [h2]; rfl, q⟩
@[simp] theorem WE_dnew : WE cf .dnew env Q ↔ Q (.dct [] []) env := by
  unfold WE; simp only [evE]; exact okW
@[simp] theorem WA_nil : WA cf .nil env QA ↔ QA [] env := by
  unfold WA; simp only [evA]; exact okW
@[simp] theorem WA_cons : WA cf (.cons a b) env QA ↔ WE cf a env fun x e1 => WA cf b e1 fun xs e2 => QA (x :: xs) e2 := by
  unfold WA WE; simp only [evA]; rw [bindW]; simp only [bindW, okW]
@[simp] theorem WO_nil : WO cf .nil env QO ↔ QO none env := by
  unfold WO; simp only [evO]; exact okW
@[simp] theorem WO_cons : WO cf (.cons a .nil) env QO ↔ WE cf a env fun x e1 => ∃ i, x = .int i ∧ QO (some i) e1 := by
  unfold WO WE; simp only [evO]; rw [bindW]
  constructor
  · rintro ⟨x, e1, h, d, w, h2, q⟩
    dsimp only at h2
    split at h2
    · cases h2
      exact ⟨_, e1, h, _, rfl, q⟩
    · cases h2
  · rintro ⟨x, e1, h, k, rfl, q⟩
    exact ⟨_, e1, h, _, _, rfl, q⟩
@[simp] theorem WI_val : WI cf (.sVal a) env QA ↔ WE cf a env fun x e1 => ∃ xs, itF x = some xs ∧ QA xs e1 := by
  unfold WI WE; simp only [evI]; rw [bindW]; simp only [bindO]
@[simp] theorem WI_rng1 : WI cf (.sRng1 a) env QA ↔ WE cf a env fun x e1 => ∃ j, x = .int j ∧ big j = true ∧ QA (rngL 0 j.toNat 1) e1 := by
  unfold WI WE; simp only [evI]; rw [bindW]
  constructor
  · rintro ⟨x, e1, h, d, w, h2, q⟩
    dsimp only at h2
    split at h2
    · split at h2
      · rename_i hb
        cases h2
        exact ⟨_, e1, h, _, rfl, hb, q⟩
      · cases h2
    · cases h2
  · rintro ⟨x, e1, h, k, rfl, hb, q⟩
    exact ⟨_, e1, h, _, _, by dsimp only; rw [if_pos hb], q⟩
@[simp] theorem WI_rng2 : WI cf (.sRng2 a b) env QA ↔ WE cf a env fun x e1 => WE cf b e1 fun y e2 => ∃ i j, x = .int i ∧ y = .int j ∧ (big i && big j) = true ∧ QA (rngL i (j - i).toNat 1) e2 := by
  unfold WI WE; simp only [evI]; rw [bindW]; simp only [bindW]
  constructor
  · rintro ⟨x, e1, h, y, e2, h', d, w, h2, q⟩
    try dsimp only at h2
    split at h2
    · split at h2
      · rename_i hb
        cases h2
        exact ⟨_, e1, h, _, e2, h', _, _, rfl, rfl, hb, q⟩
      · cases h2
    · cases h2
  · rintro ⟨x, e1, h, y, e2, h', k, m, rfl, rfl, hb, q⟩
    exact ⟨_, e1, h, _, e2, h', _, _, by dsimp only; rw [if_pos hb], q⟩
@[simp] theorem WI_rng3 : WI cf (.sRng3 a b c) env QA ↔ WE cf a env fun x e1 => WE cf b e1 fun y e2 => WE cf c e2 fun z e3 => ∃ i j, x = .int i ∧ y = .int j ∧ z = .int (-1) ∧ (big i && big j) = true ∧ QA (rngL i (i - j).toNat (-1)) e3 := by
  unfold WI WE; simp only [evI]; rw [bindW]; simp only [bindW]
  constructor
  · rintro ⟨x, e1, h, y, e2, h', z, e3, h'', d, w, h2, q⟩
    try dsimp only at h2
    split at h2
    · split at h2
      · rename_i hb
        simp only [Bool.and_eq_true] at hb
        obtain rfl := eq_of_beq hb.2
        cases h2
        exact ⟨_, e1, h, _, e2, h', _, e3, h'', _, _, rfl, rfl, rfl, by rw [Bool.and_eq_true]; exact hb.1, q⟩
      · cases h2
    · cases h2
  · rintro ⟨x, e1, h, y, e2, h', z, e3, h'', k, m, rfl, rfl, rfl, hb, q⟩
    exact ⟨_, e1, h, _, e2, h', _, e3, h'', _, _, by dsimp only; rw [if_pos (by rw [hb]; rfl)], q⟩
@[simp] theorem WI_enum : WI cf (.sEnum a) env QA ↔ WE cf a env fun x e1 => ∃ xs, seqOf x = some xs ∧ QA (enumL 0 xs) e1 := by
  unfold WI WE; simp only [evI]; rw [bindW]; simp only [bindO]

/-! ### comprehensions -/
def WL (cf : Cf) (e t : Ex) (tg : List Nat) (tt : Bool) (xs : List D) (env : Env) (acc : List D) (Q : List D → Env → Prop) : Prop := ∃ ys v, lcLoop (fun v => evE cf e v) (fun v => evE cf t v) tg tt xs env acc = .ok (ys, v) ∧ Q ys v
@[simp] theorem WE_lc {e t src : Ex} {tg : List Nat} {tt : Bool} : WE cf (.lc e tg tt src t) env Q ↔ WI cf src env fun xs e1 => WL cf e t tg tt xs (wipeE e1 tg) [] fun ys e2 => Q (.lst ys) (backE e1 e2 tg) := by
  unfold WE WI WL; simp only [evE]; rw [bindW]
  constructor
  · rintro ⟨xs, e1, h, d, w, h2, q⟩
    obtain ⟨⟨ys, e2⟩, h3, h4⟩ := bind_ok h2
    cases h4
    exact ⟨xs, e1, h, ys, e2, h3, q⟩
  · rintro ⟨xs, e1, h, ys, e2, h2, q⟩
    exact ⟨xs, e1, h, _, _, by dsimp only; rw [h2]; rfl, q⟩
end

/-! ### statements -/
section
variable {cf : Cf} {a b c es : Ex} {s u : Sm} {env : Env} {N B C : Env → Prop} {Rt : D → Env → Prop} {i j f : Nat} {d : D}
theorem onOkW {α : Type} {x : Out (α × Env)} {env : Env} {g : α × Env → Fl} : WFl (onOk x env g) N Rt B C ↔ ∃ p v, x = .ok (p, v) ∧ WFl (g (p, v)) N Rt B C := by
  cases x with
  | ok p =>
    obtain ⟨p, v⟩ := p
    constructor
    · exact fun h => ⟨p, v, rfl, h⟩
    · rintro ⟨p', v', h, q⟩
      cases h
      exact q
  | err e => exact ⟨fun h => h.elim, fun ⟨_, _, h, _⟩ => by cases h⟩
  | stuck => exact ⟨fun h => h.elim, fun ⟨_, _, h, _⟩ => by cases h⟩
theorem orErW {g : D × Env → Fl} : WFl (orEr (errOf cf a env) (onOk (evE cf a env) env g)) N Rt B C ↔ ∃ p v, evE cf a env = .ok (p, v) ∧ WFl (g (p, v)) N Rt B C := by
  cases he : errOf cf a env with
  | none => exact onOkW (env := env)
  | some pr =>
    obtain ⟨x, e⟩ := pr
    constructor
    · exact fun h => h.elim
    · rintro ⟨p, v, h, _⟩
      rw [errOf_ok h] at he
      cases he
@[simp] theorem WS_skip : WS cf .skip env N Rt B C ↔ N env := by unfold WS; simp only [evS]; rfl
@[simp] theorem WS_brk : WS cf .brk env N Rt B C ↔ B env := by unfold WS; simp only [evS]; rfl
@[simp] theorem WS_cnt : WS cf .cnt env N Rt B C ↔ C env := by unfold WS; simp only [evS]; rfl
@[simp] theorem WS_no : WS cf .no env N Rt B C ↔ False := by unfold WS; simp only [evS]; rfl
@[simp] theorem WS_seq : WS cf (.seq s u) env N Rt B C ↔ WS cf s env (fun e => WS cf u e N Rt B C) Rt B C := by
  unfold WS
  simp only [evS]
  cases evS cf s env <;> rfl
@[simp] theorem WS_ex : WS cf (.ex a) env N Rt B C ↔ WE cf a env fun _ e => N e := by
  unfold WS WE; simp only [evS]; rw [orErW]; rfl
@[simp] theorem WS_set : WS cf (.set i a) env N Rt B C ↔ WE cf a env fun x e => N (e.set i (some x)) := by
  unfold WS WE; simp only [evS]; rw [orErW]; rfl
@[simp] theorem WS_ret : WS cf (.ret a) env N Rt B C ↔ WE cf a env Rt := by
  unfold WS WE; simp only [evS]; rw [orErW]; rfl
@[simp] theorem WS_ite : WS cf (.ite a s u) env N Rt B C ↔ WE cf a env fun x e => if truth x = true then WS cf s e N Rt B C else WS cf u e N Rt B C := by
  unfold WS WE; simp only [evS]; rw [onOkW]
  constructor
  · rintro ⟨x, e1, h, q⟩
    refine ⟨x, e1, h, ?_⟩
    by_cases ht : truth x = true
    · simp only [ht, if_true] at q ⊢; exact q
    · simp only [ht] at q ⊢; exact q
  · rintro ⟨x, e1, h, q⟩
    refine ⟨x, e1, h, ?_⟩
    by_cases ht : truth x = true
    · simp only [ht, if_true] at q ⊢; exact q
    · simp only [ht] at q ⊢; exact q
@[simp] theorem WS_sets {is : List Nat} : WS cf (.sets is a) env N Rt B C ↔ WE cf a env fun x e => ∃ ds, seqOf x = some ds ∧ ds.length = is.length ∧ N (setAll e is ds) := by
  unfold WS WE; simp only [evS]; rw [orErW]
  constructor
  · rintro ⟨x, e1, h, q⟩
    refine ⟨x, e1, h, ?_⟩
    dsimp only at q
    split at q
    · rename_i ds hd
      split at q
      · rename_i hl
        exact ⟨ds, hd, hl, q⟩
      · exact q.elim
    · exact q.elim
  · rintro ⟨x, e1, h, ds, hd, hl, q⟩
    refine ⟨x, e1, h, ?_⟩
    dsimp only
    rw [hd]
    dsimp only
    rw [if_pos hl]
    exact q
@[simp] theorem WS_par : WS cf (.par i j a b) env N Rt B C ↔ WE cf a env fun x e1 => WE cf b e1 fun y e2 => N ((e2.set i (some x)).set j (some y)) := by
  unfold WS WE; simp only [evS]; rw [onOkW]; simp only [onOkW]; rfl
/-- a store by an index or a key -/
def setP (w : Option (Option D)) (y x : D) (N : D → Prop) : Prop := match w, y with
  | some (some (.lst xs)), .int z => ∃ k, ixP xs.length z = some k ∧ N (.lst (xs.set k x))
  | some (some (.dct ks ds)), .str z => (ds.length < LIM ∧ ks.length = ds.length) ∧ N (.dct (dPut ks ds z x).1 (dPut ks ds z x).2)
  | _, _ => False
theorem setP_lst {xs : List D} {z : Int} {x : D} {N : D → Prop} : setP (some (some (.lst xs))) (.int z) x N ↔ ∃ k, ixP xs.length z = some k ∧ N (.lst (xs.set k x)) := Iff.rfl
theorem setP_dct {ks : List Str} {ds : List D} {z : Str} {x : D} {N : D → Prop} : setP (some (some (.dct ks ds))) (.str z) x N ↔ (ds.length < LIM ∧ ks.length = ds.length) ∧ N (.dct (dPut ks ds z x).1 (dPut ks ds z x).2) := Iff.rfl
@[simp] theorem WS_setI : WS cf (.setI i b a) env N Rt B C ↔ WE cf a env fun x e1 => WE cf b e1 fun y e2 => setP (e2[i]?) y x fun d => N (e2.set i (some d)) := by
  unfold WS WE; simp only [evS]; rw [onOkW]; simp only [onOkW]
  constructor
  · rintro ⟨x, e1, h, y, e2, h2, q⟩
    refine ⟨x, e1, h, y, e2, h2, ?_⟩
    unfold setP
    split at q
    · rename_i xs z hx
      try rw [hx]
      split at q
      · rename_i k hk
        exact ⟨k, hk, q⟩
      · exact q.elim
    · rename_i ks ds z hx
      try rw [hx]
      split at q
      · rename_i hk
        exact ⟨hk, q⟩
      · exact q.elim
    · exact q.elim
  · rintro ⟨x, e1, h, y, e2, h2, q⟩
    refine ⟨x, e1, h, y, e2, h2, ?_⟩
    unfold setP at q
    split at q
    · rename_i xs z hx
      obtain ⟨k, hk, q⟩ := q
      try rw [hx]
      try dsimp only
      rw [hk]
      exact q
    · rename_i ks ds z hx
      obtain ⟨hk, q⟩ := q
      try rw [hx]
      try dsimp only
      rw [if_pos hk]
      exact q
    · exact q.elim
/-- a store by an index into a list -/
def setLP (w : Option (Option D)) (y x : D) (N : D → Prop) : Prop := match w, y with
  | some (some (.lst xs)), .int z => ∃ k, ixP xs.length z = some k ∧ N (.lst (xs.set k x))
  | _, _ => False
theorem setLP_lst {xs : List D} {z : Int} {x : D} {N : D → Prop} : setLP (some (some (.lst xs))) (.int z) x N ↔ ∃ k, ixP xs.length z = some k ∧ N (.lst (xs.set k x)) := Iff.rfl
@[simp] theorem WS_swp {k l : Ex} : WS cf (.swp i k l a b) env N Rt B C ↔ WE cf a env fun x e1 => WE cf b e1 fun y e2 => WE cf k e2 fun u e3 => setLP (e3[i]?) u x fun d => WE cf l (e3.set i (some d)) fun w e4 => setLP (e4[i]?) w y fun d => N (e4.set i (some d)) := by
  unfold WS WE; simp only [evS]; rw [onOkW]; simp only [onOkW]
  constructor
  · rintro ⟨x, e1, h, y, e2, h2, u, e3, h3, q⟩
    refine ⟨x, e1, h, y, e2, h2, u, e3, h3, ?_⟩
    try dsimp only at q
    unfold setLP
    cases hx : e3[i]? with
    | none => rw [hx] at q; exact q.elim
    | some w =>
      rw [hx] at q
      cases w with
      | none => exact q.elim
      | some w =>
        cases w <;> first | exact q.elim | skip
        cases u <;> first | exact q.elim | skip
        try dsimp only at q ⊢
        split at q
        · rename_i j hj
          refine ⟨j, hj, ?_⟩
          rw [onOkW] at q
          obtain ⟨w, e4, h4, q⟩ := q
          refine ⟨w, e4, h4, ?_⟩
          try dsimp only at q
          cases hx' : e4[i]? with
          | none => rw [hx'] at q; exact q.elim
          | some w' =>
            rw [hx'] at q
            cases w' with
            | none => exact q.elim
            | some w' =>
              cases w' <;> first | exact q.elim | skip
              cases w <;> first | exact q.elim | skip
              try dsimp only at q ⊢
              split at q
              · rename_i m hm
                exact ⟨m, hm, q⟩
              · exact q.elim
        · exact q.elim
  · rintro ⟨x, e1, h, y, e2, h2, u, e3, h3, q⟩
    refine ⟨x, e1, h, y, e2, h2, u, e3, h3, ?_⟩
    try dsimp only
    unfold setLP at q
    cases hx : e3[i]? with
    | none => rw [hx] at q; exact q.elim
    | some w =>
      rw [hx] at q
      cases w with
      | none => exact q.elim
      | some w =>
        cases w <;> first | exact q.elim | skip
        cases u <;> first | exact q.elim | skip
        try dsimp only at q ⊢
        obtain ⟨j, hj, w, e4, h4, q⟩ := q
        rw [hj]
        try dsimp only
        rw [onOkW]
        refine ⟨w, e4, h4, ?_⟩
        try dsimp only
        cases hx' : e4[i]? with
        | none => rw [hx'] at q; exact q.elim
        | some w' =>
          rw [hx'] at q
          cases w' with
          | none => exact q.elim
          | some w' =>
            cases w' <;> first | exact q.elim | skip
            cases w <;> first | exact q.elim | skip
            try dsimp only at q ⊢
            obtain ⟨m, hm, q⟩ := q
            rw [hm]
            exact q
/-- a store of an attribute -/
def setAP (w : Option (Option D)) (nm f : Str) (x : D) (N : D → Prop) : Prop := match w with
  | some (some (.obj n ks ds)) => (n = nm ∧ ks.length < 1000) ∧ N (.obj n (oPut ks ds f x).1 (oPut ks ds f x).2)
  | _ => False
theorem setAP_obj {n nm f : Str} {ks : List Str} {ds : List D} {x : D} {N : D → Prop} : setAP (some (some (.obj n ks ds))) nm f x N ↔ (n = nm ∧ ks.length < 1000) ∧ N (.obj n (oPut ks ds f x).1 (oPut ks ds f x).2) := Iff.rfl
@[simp] theorem WS_setA {nm f : Str} : WS cf (.setA i nm f a) env N Rt B C ↔ WE cf a env fun x e1 => setAP (e1[i]?) nm f x fun d => N (e1.set i (some d)) := by
  unfold WS WE; simp only [evS]; rw [onOkW]
  constructor
  · rintro ⟨x, e1, h, q⟩
    refine ⟨x, e1, h, ?_⟩
    try dsimp only at q
    cases hx : e1[i]? with
    | none => rw [hx] at q; exact q.elim
    | some w =>
      rw [hx] at q
      cases w with
      | none => exact q.elim
      | some w =>
        cases w <;> first | exact q.elim | skip
        try dsimp only at q
        split at q
        · rename_i hg
          exact ⟨hg, q⟩
        · exact q.elim
  · rintro ⟨x, e1, h, q⟩
    refine ⟨x, e1, h, ?_⟩
    try dsimp only
    cases hx : e1[i]? with
    | none => rw [hx] at q; exact q.elim
    | some w =>
      rw [hx] at q
      cases w with
      | none => exact q.elim
      | some w =>
        cases w <;> first | exact q.elim | skip
        obtain ⟨hg, q⟩ := q
        try dsimp only
        rw [if_pos hg]
        exact q
def WF_ (cf : Cf) (s : Sm) (tg : List Nat) (tt : Bool) (xs : List D) (env : Env) (N : Env → Prop) (Rt : D → Env → Prop) : Prop := WFl (forL tg tt (fun v => evS cf s v) xs env) N Rt (fun _ => False) fun _ => False
theorem forL_nb {s : Sm} {tg : List Nat} {tt : Bool} : ∀ (xs : List D) (env : Env), WFl (forL tg tt (fun v => evS cf s v) xs env) N Rt B C ↔ WF_ cf s tg tt xs env N Rt
  | [], env => by unfold WF_; simp only [forL]; rfl
  | x :: xs, env => by
    unfold WF_
    simp only [forL]
    cases tgF tg tt x env with
    | none => rfl
    | some e1 =>
      dsimp only
      cases evS cf s e1 with
      | nx e2 => exact forL_nb xs e2
      | ct e2 => exact forL_nb xs e2
      | bk e2 => rfl
      | rt d e2 => rfl
      | er x e2 => rfl
      | no => rfl
@[simp] theorem WS_for {tg : List Nat} {tt : Bool} : WS cf (.for tg tt a s) env N Rt B C ↔ WI cf a env fun xs e1 => WF_ cf s tg tt xs e1 N Rt := by
  unfold WS WI; simp only [evS]; rw [onOkW]; simp only [forL_nb]
/-- a def of the table -/
theorem WC_of {T : Tab} {id n : Nat} {F : Fd} {ds : List D} {Q : D → List D → Prop} (hT : T id = some F) (hl : ds.length = F.np) (h : WS (evC T n) F.body (ds.map some ++ List.replicate (F.nl - F.np) none) (fun e => Q .non (outsOf e F.muts)) (fun d e => Q d (outsOf e F.muts)) (fun _ => False) fun _ => False) :
    WC (evC T (n + 1)) id ds Q := by
  unfold WC
  simp only [evC, hT, run, if_pos hl]
  unfold WS at h
  cases hx : evS (evC T n) F.body (ds.map some ++ List.replicate (F.nl - F.np) none) with
  | nx e => rw [hx] at h; exact ⟨_, _, rfl, h⟩
  | rt d e => rw [hx] at h; exact ⟨_, _, rfl, h⟩
  | bk e => rw [hx] at h; exact h.elim
  | ct e => rw [hx] at h; exact h.elim
  | er x e => rw [hx] at h; exact h.elim
  | no => rw [hx] at h; exact h.elim
/-! ### errors -/
/-- a call that raises; a text that ends so -/
def WR (cf : Cf) (f : Nat) (ds : List D) (E : Exn → Prop) : Prop := ∃ x, cf f ds = .err x ∧ E x
def WSe (cf : Cf) (s : Sm) (env : Env) (E : Exn → Prop) : Prop := ∃ x e, evS cf s env = .er x e ∧ E x
section
variable {cf : Cf} {a c es src : Ex} {s u : Sm} {env : Env} {E : Exn → Prop} {N B C : Env → Prop} {Rt : D → Env → Prop}
end
theorem WSe.mono {cf : Cf} {s : Sm} {env : Env} {E E' : Exn → Prop} (h : WSe cf s env E) (w : ∀ x, E x → E' x) : WSe cf s env E' := let ⟨x, e, a, b⟩ := h; ⟨x, e, a, w _ b⟩
theorem WR.mono {cf : Cf} {f : Nat} {ds : List D} {E E' : Exn → Prop} (h : WR cf f ds E) (w : ∀ x, E x → E' x) : WR cf f ds E' := let ⟨x, a, b⟩ := h; ⟨x, a, w _ b⟩
theorem WC.mono {cf : Cf} {f : Nat} {ds : List D} {Q Q' : D → List D → Prop} (h : WC cf f ds Q) (w : ∀ d os, Q d os → Q' d os) : WC cf f ds Q' := by
  obtain ⟨d, os, h1, h2⟩ := h
  exact ⟨d, os, h1, w d os h2⟩
theorem WE.mono {cf : Cf} {e : Ex} {env : Env} {Q Q' : D → Env → Prop} (h : WE cf e env Q) (w : ∀ d v, Q d v → Q' d v) : WE cf e env Q' := by
  obtain ⟨d, os, h1, h2⟩ := h
  exact ⟨d, os, h1, w d os h2⟩
end
end Pv

/-! Tables of defs by blocks of a hundred. -/
namespace Pv
open PySem L2
def tabOf (bl : List (Nat × List Fd)) : Tab := fun i => (bl.lookup (i / 100)).bind fun l => l[i % 100]?
/-- a table that has the block k -/
class Has (T : Tab) (k : Nat) (l : List Fd) : Prop where
  h : ∀ i, i / 100 = k → T i = l[i % 100]?
theorem Has.of {bl : List (Nat × List Fd)} {k : Nat} {l : List Fd} (h : bl.lookup k = some l) : Has (tabOf bl) k l := ⟨fun i e => by unfold tabOf; rw [e, h]; rfl⟩
theorem Has.get {T : Tab} {k : Nat} {l : List Fd} (h : Has T k l) {i : Nat} {F : Fd} (e : tabOf [(k, l)] i = some F) : T i = some F := by
  unfold tabOf at e
  by_cases hk : i / 100 = k
  · subst hk
    rw [List.lookup_cons_self] at e
    rw [h.h i rfl]
    exact e
  · rw [List.lookup_cons, beq_false_of_ne hk] at e
    cases e
end Pv

namespace Pv
open PySem L2
/-- is_whole(value) -/
def f0 : Fd := ⟨1, 1, [],
  (.ret (.and (.blt .isInt (.cons (.var 0) .nil)) (.not (.blt .isBool (.cons (.var 0) .nil)))))⟩
/-- is_level(value) -/
def f1 : Fd := ⟨1, 1, [],
  (.ret (.and (.callB 0 (.cons (.var 0) .nil)) (.chain .le .le (.lit (.int 1)) (.var 0) (.lit (.int 3)))))⟩
/-- is_letter(value, sign) -/
def f2 : Fd := ⟨1, 2, [],
  (.seq (.ite (.or (.not (.blt .isStr (.cons (.var 0) .nil))) (.or (.not (.chain .le .le (.lit (.int 1)) (.blt .len (.cons (.var 0) .nil)) (.lit (.int 12)))) (.cmp .notIn (.blt .idx (.cons (.var 0) (.cons (.lit (.int 0)) .nil))) (.lit (.str "abcdefghijklmnopqrstuvwxyz"))))) (.ret (.lit (.bl false))) .skip)
  (.ret (.blt .all (.cons (.lc (.or (.cmp .inn (.var 1) (.lit (.str "abcdefghijklmnopqrstuvwxyz"))) (.cmp .inn (.var 1) (.lit (.str "0123456789")))) [1] false (.sVal (.var 0)) (.lit (.bl true))) .nil))))⟩
/-- are_letters(value, one) -/
def f3 : Fd := ⟨1, 2, [],
  (.seq (.ite (.or (.not (.blt .isTuple (.cons (.var 0) .nil))) (.or (.cmp .gt (.blt .len (.cons (.var 0) .nil)) (.lit (.int 12))) (.not (.blt .all (.cons (.lc (.callB 2 (.cons (.var 1) .nil)) [1] false (.sVal (.var 0)) (.lit (.bl true))) .nil))))) (.ret (.lit (.bl false))) .skip)
  (.ret (.blt .all (.cons (.lc (.cmp .eq (.blt .count (.cons (.var 0) (.cons (.var 1) .nil))) (.lit (.int 1))) [1] false (.sVal (.var 0)) (.lit (.bl true))) .nil))))⟩
/-- is_order(value, letters, strengths, one) -/
def f4 : Fd := ⟨1, 4, [],
  (.seq (.ite (.or (.not (.blt .isTuple (.cons (.var 0) .nil))) (.or (.cmp .ne (.blt .len (.cons (.var 0) .nil)) (.lit (.int 2))) (.not (.callB 3 (.cons (.blt .idx (.cons (.var 0) (.cons (.lit (.int 0)) .nil))) .nil))))) (.ret (.lit (.bl false))) .skip)
  (.seq (.sets [1, 2] (.var 0))
  (.seq (.ite (.or (.not (.blt .isTuple (.cons (.var 2) .nil))) (.cmp .ne (.blt .len (.cons (.var 2) .nil)) (.blt .max2 (.cons (.lit (.int 0)) (.cons (.bin .sub (.blt .len (.cons (.var 1) .nil)) (.lit (.int 1))) .nil))))) (.ret (.lit (.bl false))) .skip)
  (.ret (.blt .all (.cons (.lc (.callB 1 (.cons (.var 3) .nil)) [3] false (.sVal (.var 2)) (.lit (.bl true))) .nil))))))⟩
/-- _law_stream(_law_script) -/
def f5 : Fd := ⟨1, 1, [],
  (.ret (.lst (.cons (.blt .list (.cons (.var 0) .nil)) (.cons (.lit (.int 0)) (.cons (.lit (.int 0)) .nil)))))⟩
/-- _law_next(_law_stream_here, _law_many, _law_k, _law_cell, _law_digit) -/
def f6 : Fd := ⟨2, 5, [0],
  (.seq (.ite (.cmp .eq (.blt .idx (.cons (.var 0) (.cons (.lit (.int 1)) .nil))) (.lit (.int 0))) (.seq (.set 2 (.blt .idx (.cons (.var 0) (.cons (.lit (.int 2)) .nil))))
  (.seq (.set 3 (.bin .add (.lit (.int 7)) (.var 2)))
  (.seq (.ite (.cmp .lt (.var 2) (.blt .len (.cons (.blt .idx (.cons (.var 0) (.cons (.lit (.int 0)) .nil))) .nil))) (.set 3 (.blt .abs (.cons (.blt .idx (.cons (.blt .idx (.cons (.var 0) (.cons (.lit (.int 0)) .nil))) (.cons (.var 2) .nil))) .nil))) .skip)
  (.seq (.ite (.cmp .lt (.var 3) (.bin .pow (.lit (.int 10)) (.lit (.int 18)))) (.seq (.set 3 (.bin .mod (.blt .int (.cons (.bin .add (.bin .add (.bin .mul (.var 3) (.lit (.int 48271))) (.bin .mul (.var 2) (.lit (.int 69621)))) (.lit (.int 11))) .nil)) (.lit (.int 2147483647))))
  (.set 3 (.bin .add (.bin .mul (.bin .mod (.blt .int (.cons (.bin .add (.bin .mul (.var 3) (.lit (.int 16807))) (.lit (.int 13))) .nil)) (.lit (.int 2147483647))) (.lit (.int 65537))) (.var 3)))) .skip)
  (.seq (.setI 0 (.lit (.int 1)) (.var 3))
  (.setI 0 (.lit (.int 2)) (.bin .add (.var 2) (.lit (.int 1))))))))) .skip)
  (.seq (.set 4 (.bin .mod (.blt .int (.cons (.blt .idx (.cons (.var 0) (.cons (.lit (.int 1)) .nil))) .nil)) (.var 1)))
  (.seq (.setI 0 (.lit (.int 1)) (.bin .div (.blt .idx (.cons (.var 0) (.cons (.lit (.int 1)) .nil))) (.var 1)))
  (.ret (.var 4)))))⟩
/-- _law_equal(_law_actual, _law_due, _law_at) -/
def f7 : Fd := ⟨2, 3, [],
  (.seq (.ite (.cmp .isN (.var 1) (.lit .non)) (.ret (.cmp .isN (.var 0) (.lit .non))) .skip)
  (.seq (.ite (.blt .isBool (.cons (.var 1) .nil)) (.ret (.and (.blt .isBool (.cons (.var 0) .nil)) (.cmp .eq (.var 0) (.var 1)))) .skip)
  (.seq (.ite (.blt .isInt (.cons (.var 1) .nil)) (.ret (.and (.callB 0 (.cons (.var 0) .nil)) (.cmp .eq (.var 0) (.var 1)))) .skip)
  (.seq (.ite (.blt .isStr (.cons (.var 1) .nil)) (.ret (.and (.blt .isStr (.cons (.var 0) .nil)) (.cmp .eq (.var 0) (.var 1)))) .skip)
  (.seq (.ite (.and (.blt .isTuple (.cons (.var 1) .nil)) (.not (.blt .isTuple (.cons (.var 0) .nil)))) (.ret (.lit (.bl false))) .skip)
  (.seq (.ite (.and (.blt .isList (.cons (.var 1) .nil)) (.not (.blt .isList (.cons (.var 0) .nil)))) (.ret (.lit (.bl false))) .skip)
  (.seq (.ite (.cmp .ne (.blt .len (.cons (.var 0) .nil)) (.blt .len (.cons (.var 1) .nil))) (.ret (.lit (.bl false))) .skip)
  (.ret (.blt .all (.cons (.lc (.callB 7 (.cons (.blt .idx (.cons (.var 0) (.cons (.var 2) .nil))) (.cons (.blt .idx (.cons (.var 1) (.cons (.var 2) .nil))) .nil))) [2] false (.sRng1 (.blt .len (.cons (.var 1) .nil))) (.lit (.bl true))) .nil))))))))))⟩
/-- _law_pick(_law_stream_here, _law_rows) -/
def f8 : Fd := ⟨2, 2, [0],
  (.ret (.blt .idx (.cons (.var 1) (.cons (.call 6 [(0, 0)] (.cons (.var 0) (.cons (.blt .len (.cons (.var 1) .nil)) .nil))) .nil))))⟩
/-- _law_names(_law_stream_here, _law_many, _law_rows, _law_left, _law_k) -/
def f9 : Fd := ⟨2, 5, [0],
  (.seq (.set 2 (.lst (.cons (.lst (.cons (.lit (.str "a")) (.cons (.lit (.str "b")) (.cons (.lit (.str "c")) (.cons (.lit (.str "d")) (.cons (.lit (.str "e")) (.cons (.lit (.str "f")) (.cons (.lit (.str "g")) (.cons (.lit (.str "h")) (.cons (.lit (.str "i")) (.cons (.lit (.str "j")) (.cons (.lit (.str "k")) (.cons (.lit (.str "l")) .nil))))))))))))) (.cons (.lst (.cons (.lit (.str "ae")) (.cons (.lit (.str "a")) (.cons (.lit (.str "a1")) (.cons (.lit (.str "b2c")) (.cons (.lit (.str "z")) (.cons (.lit (.str "zz")) (.cons (.lit (.str "before")) (.cons (.lit (.str "x")) (.cons (.lit (.str "y9")) (.cons (.lit (.str "abcdefghijkl")) (.cons (.lit (.str "q")) (.cons (.lit (.str "o")) .nil))))))))))))) .nil))))
  (.seq (.set 3 (.blt .list (.cons (.call 8 [(0, 0)] (.cons (.var 0) (.cons (.var 2) .nil))) .nil)))
  (.ret (.blt .tuple (.cons (.lc (.om .popAt 3 (.cons (.call 6 [(0, 0)] (.cons (.var 0) (.cons (.blt .len (.cons (.var 3) .nil)) .nil))) .nil)) [4] false (.sRng1 (.var 1)) (.lit (.bl true))) .nil)))))⟩
/-- _law_order(_law_stream_here, _law_most, _law_letters, _law_k) -/
def f10 : Fd := ⟨2, 4, [0],
  (.seq (.set 2 (.call 9 [(0, 0)] (.cons (.var 0) (.cons (.call 6 [(0, 0)] (.cons (.var 0) (.cons (.bin .add (.var 1) (.lit (.int 1))) .nil))) .nil))))
  (.ret (.tup (.cons (.var 2) (.cons (.blt .tuple (.cons (.lc (.bin .add (.lit (.int 1)) (.call 6 [(0, 0)] (.cons (.var 0) (.cons (.lit (.int 3)) .nil)))) [3] false (.sRng1 (.bin .sub (.blt .len (.cons (.var 2) .nil)) (.lit (.int 1)))) (.lit (.bl true))) .nil)) .nil)))))⟩
/-- check_order(order, name) -/
def f11 : Fd := ⟨2, 2, [],
  (.ite (.not (.callB 4 (.cons (.var 0) .nil))) (.rai 1 ["name"] (.cons (.var 1) .nil)) .skip)⟩
/-- check_member(order, letter, name) -/
def f12 : Fd := ⟨3, 3, [],
  (.ite (.or (.not (.blt .isStr (.cons (.var 1) .nil))) (.cmp .notIn (.var 1) (.blt .idx (.cons (.var 0) (.cons (.lit (.int 0)) .nil))))) (.rai 1 ["name"] (.cons (.var 2) .nil)) .skip)⟩
/-- place_of(order, letter) -/
def f13 : Fd := ⟨2, 2, [],
  (.ret (.blt .index (.cons (.blt .idx (.cons (.var 0) (.cons (.lit (.int 0)) .nil))) (.cons (.var 1) .nil))))⟩
/-- difference_of(order, low, high) -/
def f14 : Fd := ⟨3, 3, [],
  (.ret (.blt .minS (.cons (.bin .add (.sl (.blt .idx (.cons (.var 0) (.cons (.lit (.int 1)) .nil))) (.cons (.var 1) .nil) (.cons (.var 2) .nil)) (.tup (.cons (.lit (.int 4)) .nil))) .nil)))⟩
/-- difference(order, first, second, places) -/
def f15 : Fd := ⟨3, 4, [],
  (.seq (.ex (.callB 11 (.cons (.var 0) (.cons (.lit (.str "order")) .nil))))
  (.seq (.ex (.callB 12 (.cons (.var 0) (.cons (.var 1) (.cons (.lit (.str "first")) .nil)))))
  (.seq (.ex (.callB 12 (.cons (.var 0) (.cons (.var 2) (.cons (.lit (.str "second")) .nil)))))
  (.seq (.set 3 (.blt .sorted (.cons (.lst (.cons (.callB 13 (.cons (.var 0) (.cons (.var 1) .nil))) (.cons (.callB 13 (.cons (.var 0) (.cons (.var 2) .nil))) .nil))) .nil)))
  (.ret (.callB 14 (.cons (.var 0) (.cons (.blt .idx (.cons (.var 3) (.cons (.lit (.int 0)) .nil))) (.cons (.blt .idx (.cons (.var 3) (.cons (.lit (.int 1)) .nil))) .nil)))))))))⟩
/-- _law_difference(_law_order_here, _law_i, _law_j, _law_found, _law_k) -/
def f16 : Fd := ⟨3, 5, [],
  (.seq (.set 3 (.lit (.int 4)))
  (.seq (.for [4] false (.sRng2 (.blt .min2 (.cons (.var 1) (.cons (.var 2) .nil))) (.blt .max2 (.cons (.var 1) (.cons (.var 2) .nil)))) (.set 3 (.blt .min2 (.cons (.var 3) (.cons (.blt .idx (.cons (.blt .idx (.cons (.var 0) (.cons (.lit (.int 1)) .nil))) (.cons (.var 4) .nil))) .nil)))))
  (.ret (.var 3))))⟩
/-- check_level(level) -/
def f17 : Fd := ⟨1, 1, [],
  (.ite (.not (.callB 1 (.cons (.var 0) .nil))) (.rai 1 ["name"] (.cons (.lit (.str "level")) .nil)) .skip)⟩
/-- groups_at(order, level, found, at, letter) -/
def f18 : Fd := ⟨2, 5, [],
  (.seq (.set 2 (.lst .nil))
  (.seq (.for [3, 4] true (.sEnum (.blt .idx (.cons (.var 0) (.cons (.lit (.int 0)) .nil)))) (.ite (.and (.cmp .gt (.var 3) (.lit (.int 0))) (.cmp .gt (.blt .idx (.cons (.blt .idx (.cons (.var 0) (.cons (.lit (.int 1)) .nil))) (.cons (.bin .sub (.var 3) (.lit (.int 1))) .nil))) (.var 1))) (.setI 2 (.un .neg (.lit (.int 1))) (.bin .add (.blt .idx (.cons (.var 2) (.cons (.un .neg (.lit (.int 1))) .nil))) (.tup (.cons (.var 4) .nil)))) (.ex (.om .append 2 (.cons (.tup (.cons (.var 4) .nil)) .nil)))))
  (.ret (.var 2))))⟩
/-- groups(order, level) -/
def f19 : Fd := ⟨2, 2, [],
  (.seq (.ex (.callB 11 (.cons (.var 0) (.cons (.lit (.str "order")) .nil))))
  (.seq (.ex (.callB 17 (.cons (.var 1) .nil)))
  (.ret (.call 18 [] (.cons (.var 0) (.cons (.var 1) .nil))))))⟩
/-- group_of(order, letter, level, group) -/
def f20 : Fd := ⟨3, 4, [],
  (.seq (.ex (.callB 11 (.cons (.var 0) (.cons (.lit (.str "order")) .nil))))
  (.seq (.ex (.callB 12 (.cons (.var 0) (.cons (.var 1) (.cons (.lit (.str "letter")) .nil)))))
  (.seq (.ex (.callB 17 (.cons (.var 2) .nil)))
  (.ret (.blt .idx (.cons (.lc (.var 3) [3] false (.sVal (.call 18 [] (.cons (.var 0) (.cons (.var 2) .nil)))) (.cmp .inn (.var 1) (.var 3))) (.cons (.lit (.int 0)) .nil)))))))⟩
/-- check_letters(letters) -/
def f21 : Fd := ⟨1, 1, [],
  (.ite (.not (.callB 3 (.cons (.var 0) .nil))) (.rai 1 ["name"] (.cons (.lit (.str "letters")) .nil)) .skip)⟩
/-- removed(order, letter, letters, strengths, at, left) -/
def f22 : Fd := ⟨2, 6, [],
  (.seq (.sets [2, 3] (.var 0))
  (.seq (.set 4 (.blt .index (.cons (.var 2) (.cons (.var 1) .nil))))
  (.seq (.set 5 (.bin .add (.sl (.var 2) .nil (.cons (.var 4) .nil)) (.sl (.var 2) (.cons (.bin .add (.var 4) (.lit (.int 1))) .nil) .nil)))
  (.seq (.ite (.cmp .eq (.var 4) (.lit (.int 0))) (.ret (.tup (.cons (.var 5) (.cons (.sl (.var 3) (.cons (.lit (.int 1)) .nil) .nil) .nil)))) .skip)
  (.seq (.ite (.cmp .eq (.var 4) (.bin .sub (.blt .len (.cons (.var 2) .nil)) (.lit (.int 1)))) (.ret (.tup (.cons (.var 5) (.cons (.sl (.var 3) .nil (.cons (.un .neg (.lit (.int 1))) .nil)) .nil)))) .skip)
  (.ret (.tup (.cons (.var 5) (.cons (.bin .add (.bin .add (.sl (.var 3) .nil (.cons (.bin .sub (.var 4) (.lit (.int 1))) .nil)) (.tup (.cons (.blt .min2 (.cons (.blt .idx (.cons (.var 3) (.cons (.bin .sub (.var 4) (.lit (.int 1))) .nil))) (.cons (.blt .idx (.cons (.var 3) (.cons (.var 4) .nil))) .nil))) .nil))) (.sl (.var 3) (.cons (.bin .add (.var 4) (.lit (.int 1))) .nil) .nil)) .nil)))))))))⟩
/-- without(order, letters, found, letter) -/
def f23 : Fd := ⟨2, 4, [],
  (.seq (.ex (.callB 11 (.cons (.var 0) (.cons (.lit (.str "order")) .nil))))
  (.seq (.ex (.callB 21 (.cons (.var 1) .nil)))
  (.seq (.set 2 (.var 0))
  (.seq (.for [3] false (.sVal (.var 1)) (.ite (.cmp .inn (.var 3) (.blt .idx (.cons (.var 2) (.cons (.lit (.int 0)) .nil)))) (.set 2 (.call 22 [] (.cons (.var 2) (.cons (.var 3) .nil)))) .skip))
  (.ret (.var 2))))))⟩
/-- reversed_order(order) -/
def f24 : Fd := ⟨1, 1, [],
  (.seq (.ex (.callB 11 (.cons (.var 0) (.cons (.lit (.str "order")) .nil))))
  (.ret (.tup (.cons (.blt .rev (.cons (.blt .idx (.cons (.var 0) (.cons (.lit (.int 0)) .nil))) .nil)) (.cons (.blt .rev (.cons (.blt .idx (.cons (.var 0) (.cons (.lit (.int 1)) .nil))) .nil)) .nil)))))⟩
/-- is_row(value, many, one) -/
def f25 : Fd := ⟨2, 3, [],
  (.ret (.and (.blt .isTuple (.cons (.var 0) .nil)) (.and (.cmp .eq (.blt .len (.cons (.var 0) .nil)) (.var 1)) (.blt .all (.cons (.lc (.callB 0 (.cons (.var 2) .nil)) [2] false (.sVal (.var 0)) (.lit (.bl true))) .nil)))))⟩
/-- is_scheme(value, row, i, j, number) -/
def f26 : Fd := ⟨1, 5, [],
  (.seq (.ite (.or (.not (.blt .isTuple (.cons (.var 0) .nil))) (.or (.cmp .gt (.blt .len (.cons (.var 0) .nil)) (.lit (.int 12))) (.not (.blt .all (.cons (.lc (.callB 25 (.cons (.var 1) (.cons (.blt .len (.cons (.var 0) .nil)) .nil))) [1] false (.sVal (.var 0)) (.lit (.bl true))) .nil))))) (.ret (.lit (.bl false))) .skip)
  (.seq (.for [2, 1] true (.sEnum (.var 0)) (.for [3, 4] true (.sEnum (.var 1)) (.ite (.or (.cmp .ne (.var 4) (.blt .idx (.cons (.blt .idx (.cons (.var 0) (.cons (.var 3) .nil))) (.cons (.var 2) .nil)))) (.or (.and (.cmp .eq (.var 2) (.var 3)) (.cmp .ne (.var 4) (.lit (.int 4)))) (.and (.cmp .ne (.var 2) (.var 3)) (.not (.callB 1 (.cons (.var 4) .nil)))))) (.ret (.lit (.bl false))) .skip)))
  (.ret (.lit (.bl true)))))⟩
/-- is_table(value, i, j, k) -/
def f27 : Fd := ⟨1, 4, [],
  (.seq (.ite (.not (.callB 26 (.cons (.var 0) .nil))) (.ret (.lit (.bl false))) .skip)
  (.ret (.blt .all (.cons (.lc (.cmp .eq (.blt .idx (.cons (.blt .idx (.cons (.var 0) (.cons (.var 1) .nil))) (.cons (.var 3) .nil))) (.blt .min2 (.cons (.blt .idx (.cons (.blt .idx (.cons (.var 0) (.cons (.var 1) .nil))) (.cons (.var 2) .nil))) (.cons (.blt .idx (.cons (.blt .idx (.cons (.var 0) (.cons (.var 2) .nil))) (.cons (.var 3) .nil))) .nil)))) [1, 2, 3] true (.sVal (.call 9901 [] (.cons (.blt .len (.cons (.var 0) .nil)) .nil))) (.lit (.bl true))) .nil))))⟩
/-- order_of(letters, table, at) -/
def f28 : Fd := ⟨2, 3, [],
  (.seq (.ex (.callB 21 (.cons (.var 0) .nil)))
  (.seq (.ite (.or (.not (.callB 27 (.cons (.var 1) .nil))) (.cmp .ne (.blt .len (.cons (.var 1) .nil)) (.blt .len (.cons (.var 0) .nil)))) (.rai 1 ["name"] (.cons (.lit (.str "table")) .nil)) .skip)
  (.ret (.tup (.cons (.var 0) (.cons (.blt .tuple (.cons (.lc (.blt .idx (.cons (.blt .idx (.cons (.var 1) (.cons (.var 2) .nil))) (.cons (.bin .add (.var 2) (.lit (.int 1))) .nil))) [2] false (.sRng1 (.bin .sub (.blt .len (.cons (.var 0) .nil)) (.lit (.int 1)))) (.lit (.bl true))) .nil)) .nil))))))⟩
/-- is_rule(value) -/
def f29 : Fd := ⟨1, 1, [],
  (.seq (.ite (.or (.not (.blt .isTuple (.cons (.var 0) .nil))) (.or (.cmp .ne (.blt .len (.cons (.var 0) .nil)) (.lit (.int 4))) (.or (.not (.blt .isStr (.cons (.blt .idx (.cons (.var 0) (.cons (.lit (.int 0)) .nil))) .nil))) (.cmp .notIn (.blt .idx (.cons (.var 0) (.cons (.lit (.int 0)) .nil))) (.lit (.tup [(.str "after"), (.str "before")])))))) (.ret (.lit (.bl false))) .skip)
  (.seq (.ite (.or (.not (.callB 2 (.cons (.blt .idx (.cons (.var 0) (.cons (.lit (.int 1)) .nil))) .nil))) (.or (.not (.callB 2 (.cons (.blt .idx (.cons (.var 0) (.cons (.lit (.int 3)) .nil))) .nil))) (.cmp .eq (.blt .idx (.cons (.var 0) (.cons (.lit (.int 1)) .nil))) (.blt .idx (.cons (.var 0) (.cons (.lit (.int 3)) .nil)))))) (.ret (.lit (.bl false))) .skip)
  (.ret (.and (.callB 0 (.cons (.blt .idx (.cons (.var 0) (.cons (.lit (.int 2)) .nil))) .nil)) (.chain .le .le (.lit (.int 1)) (.blt .idx (.cons (.var 0) (.cons (.lit (.int 2)) .nil))) (.lit (.int 3)))))))⟩
/-- is_rule_list(value, rule) -/
def f30 : Fd := ⟨1, 2, [],
  (.ret (.and (.blt .isTuple (.cons (.var 0) .nil)) (.and (.cmp .le (.blt .len (.cons (.var 0) .nil)) (.lit (.int 20))) (.blt .all (.cons (.lc (.callB 29 (.cons (.var 1) .nil)) [1] false (.sVal (.var 0)) (.lit (.bl true))) .nil)))))⟩
/-- _law_names(_law_stream_here, _law_pools) -/
def f31 : Fd := ⟨1, 2, [0],
  (.seq (.set 1 (.lst (.cons (.lst (.cons (.lit (.str "a")) (.cons (.lit (.str "b")) (.cons (.lit (.str "c")) (.cons (.lit (.str "d")) (.cons (.lit (.str "e")) (.cons (.lit (.str "f")) (.cons (.lit (.str "g")) (.cons (.lit (.str "h")) (.cons (.lit (.str "k")) (.cons (.lit (.str "m")) (.cons (.lit (.str "p")) (.cons (.lit (.str "z")) .nil))))))))))))) .nil)))
  (.seq (.ex (.om .append 1 (.cons (.lst (.cons (.lit (.str "ae")) (.cons (.lit (.str "a1")) (.cons (.lit (.str "cat")) (.cons (.lit (.str "d2")) (.cons (.lit (.str "ee")) (.cons (.lit (.str "f")) (.cons (.lit (.str "gull")) (.cons (.lit (.str "h9")) (.cons (.lit (.str "oe")) (.cons (.lit (.str "abcdefghijkl")) (.cons (.lit (.str "q")) (.cons (.lit (.str "z")) .nil))))))))))))) .nil)))
  (.ret (.blt .idx (.cons (.var 1) (.cons (.call 6 [(0, 0)] (.cons (.var 0) (.cons (.lit (.int 2)) .nil))) .nil))))))⟩
/-- _law_shuffled(_law_stream_here, _law_names_here, _law_left, _law_found, _law_k) -/
def f32 : Fd := ⟨2, 5, [0],
  (.seq (.set 2 (.blt .list (.cons (.var 1) .nil)))
  (.seq (.set 3 (.lst .nil))
  (.seq (.for [4] false (.sRng1 (.blt .len (.cons (.var 1) .nil))) (.ex (.om .append 3 (.cons (.om .popAt 2 (.cons (.call 6 [(0, 0)] (.cons (.var 0) (.cons (.blt .len (.cons (.var 2) .nil)) .nil))) .nil)) .nil))))
  (.ret (.var 3)))))⟩
/-- _law_order(_law_stream_here, _law_names_here, _law_weak, _law_strengths, _law_k) -/
def f33 : Fd := ⟨2, 5, [0],
  (.seq (.set 2 (.blt .idx (.cons (.lst (.cons (.lst (.cons (.lit (.int 1)) (.cons (.lit (.int 2)) (.cons (.lit (.int 3)) .nil)))) (.cons (.lst (.cons (.lit (.int 1)) (.cons (.lit (.int 1)) (.cons (.lit (.int 1)) (.cons (.lit (.int 2)) (.cons (.lit (.int 3)) .nil)))))) (.cons (.lst (.cons (.lit (.int 2)) (.cons (.lit (.int 3)) (.cons (.lit (.int 3)) (.cons (.lit (.int 1)) .nil))))) (.cons (.lst (.cons (.lit (.int 1)) .nil)) .nil))))) (.cons (.call 6 [(0, 0)] (.cons (.var 0) (.cons (.lit (.int 4)) .nil))) .nil))))
  (.seq (.set 3 (.lc (.blt .idx (.cons (.var 2) (.cons (.call 6 [(0, 0)] (.cons (.var 0) (.cons (.blt .len (.cons (.var 2) .nil)) .nil))) .nil))) [4] false (.sRng1 (.bin .sub (.blt .len (.cons (.var 1) .nil)) (.lit (.int 1)))) (.lit (.bl true))))
  (.ret (.tup (.cons (.blt .tuple (.cons (.call 32 [(0, 0)] (.cons (.var 0) (.cons (.var 1) .nil))) .nil)) (.cons (.blt .tuple (.cons (.var 3) .nil)) .nil))))))⟩
/-- _law_difference(_law_order_here, _law_x, _law_y, _law_low, _law_high) -/
def f34 : Fd := ⟨3, 5, [],
  (.seq (.ite (.cmp .eq (.var 1) (.var 2)) (.ret (.lit (.int 4))) .skip)
  (.seq (.set 3 (.blt .min2 (.cons (.blt .index (.cons (.blt .idx (.cons (.var 0) (.cons (.lit (.int 0)) .nil))) (.cons (.var 1) .nil))) (.cons (.blt .index (.cons (.blt .idx (.cons (.var 0) (.cons (.lit (.int 0)) .nil))) (.cons (.var 2) .nil))) .nil))))
  (.seq (.set 4 (.blt .max2 (.cons (.blt .index (.cons (.blt .idx (.cons (.var 0) (.cons (.lit (.int 0)) .nil))) (.cons (.var 1) .nil))) (.cons (.blt .index (.cons (.blt .idx (.cons (.var 0) (.cons (.lit (.int 0)) .nil))) (.cons (.var 2) .nil))) .nil))))
  (.ret (.blt .minS (.cons (.sl (.blt .idx (.cons (.var 0) (.cons (.lit (.int 1)) .nil))) (.cons (.var 3) .nil) (.cons (.var 4) .nil)) .nil))))))⟩
/-- _law_without(_law_order_here, _law_letter, _law_letters, _law_one, _law_strengths, _law_k) -/
def f35 : Fd := ⟨2, 6, [],
  (.seq (.set 2 (.lc (.var 3) [3] false (.sVal (.blt .idx (.cons (.var 0) (.cons (.lit (.int 0)) .nil)))) (.cmp .ne (.var 3) (.var 1))))
  (.seq (.set 4 (.lc (.callB 34 (.cons (.var 0) (.cons (.blt .idx (.cons (.var 2) (.cons (.var 5) .nil))) (.cons (.blt .idx (.cons (.var 2) (.cons (.bin .add (.var 5) (.lit (.int 1))) .nil))) .nil)))) [5] false (.sRng1 (.bin .sub (.blt .len (.cons (.var 2) .nil)) (.lit (.int 1)))) (.lit (.bl true))))
  (.ret (.tup (.cons (.blt .tuple (.cons (.var 2) .nil)) (.cons (.blt .tuple (.cons (.var 4) .nil)) .nil))))))⟩
/-- _law_put(_law_order_here, _law_rule_here, _law_side, _law_anchor, _law_strength, _law_letter, _law_letters, _law_at, _law_place, _law_strengths) -/
def f36 : Fd := ⟨2, 10, [],
  (.seq (.sets [2, 3, 4, 5] (.var 1))
  (.seq (.ite (.cmp .inn (.var 5) (.blt .idx (.cons (.var 0) (.cons (.lit (.int 0)) .nil)))) (.set 0 (.call 35 [] (.cons (.var 0) (.cons (.var 5) .nil)))) .skip)
  (.seq (.set 6 (.blt .list (.cons (.blt .idx (.cons (.var 0) (.cons (.lit (.int 0)) .nil))) .nil)))
  (.seq (.set 7 (.blt .index (.cons (.var 6) (.cons (.var 3) .nil))))
  (.seq (.ite (.cmp .eq (.var 2) (.lit (.str "after"))) (.seq (.set 8 (.bin .add (.var 7) (.lit (.int 1))))
  (.seq (.whl (.and (.cmp .lt (.var 8) (.blt .len (.cons (.var 6) .nil))) (.cmp .gt (.callB 34 (.cons (.var 0) (.cons (.var 3) (.cons (.blt .idx (.cons (.var 6) (.cons (.var 8) .nil))) .nil)))) (.var 4))) (.set 8 (.bin .add (.var 8) (.lit (.int 1)))))
  (.seq (.set 9 (.blt .list (.cons (.blt .idx (.cons (.var 0) (.cons (.lit (.int 1)) .nil))) .nil)))
  (.ex (.om .insert 9 (.cons (.bin .sub (.var 8) (.lit (.int 1))) (.cons (.var 4) .nil))))))) (.seq (.set 8 (.var 7))
  (.seq (.whl (.and (.cmp .gt (.var 8) (.lit (.int 0))) (.cmp .gt (.callB 34 (.cons (.var 0) (.cons (.var 3) (.cons (.blt .idx (.cons (.var 6) (.cons (.bin .sub (.var 8) (.lit (.int 1))) .nil))) .nil)))) (.var 4))) (.set 8 (.bin .sub (.var 8) (.lit (.int 1)))))
  (.seq (.set 9 (.blt .list (.cons (.blt .idx (.cons (.var 0) (.cons (.lit (.int 1)) .nil))) .nil)))
  (.ex (.om .insert 9 (.cons (.var 8) (.cons (.var 4) .nil))))))))
  (.seq (.ex (.om .insert 6 (.cons (.var 8) (.cons (.var 5) .nil))))
  (.ret (.tup (.cons (.blt .tuple (.cons (.var 6) .nil)) (.cons (.blt .tuple (.cons (.var 9) .nil)) .nil))))))))))⟩
/-- _law_rule(_law_stream_here, _law_order_here, _law_more, _law_anchor, _law_others, _law_one, _law_letter) -/
def f37 : Fd := ⟨3, 7, [0],
  (.seq (.set 3 (.blt .idx (.cons (.blt .idx (.cons (.var 1) (.cons (.lit (.int 0)) .nil))) (.cons (.call 6 [(0, 0)] (.cons (.var 0) (.cons (.blt .len (.cons (.blt .idx (.cons (.var 1) (.cons (.lit (.int 0)) .nil))) .nil)) .nil))) .nil))))
  (.seq (.set 4 (.lc (.var 5) [5] false (.sVal (.bin .add (.blt .list (.cons (.blt .idx (.cons (.var 1) (.cons (.lit (.int 0)) .nil))) .nil)) (.var 2))) (.cmp .ne (.var 5) (.var 3))))
  (.seq (.set 6 (.blt .idx (.cons (.var 4) (.cons (.call 6 [(0, 0)] (.cons (.var 0) (.cons (.blt .len (.cons (.var 4) .nil)) .nil))) .nil))))
  (.ret (.tup (.cons (.blt .idx (.cons (.lst (.cons (.lit (.str "after")) (.cons (.lit (.str "before")) .nil))) (.cons (.call 6 [(0, 0)] (.cons (.var 0) (.cons (.lit (.int 2)) .nil))) .nil))) (.cons (.var 3) (.cons (.bin .add (.lit (.int 1)) (.call 6 [(0, 0)] (.cons (.var 0) (.cons (.lit (.int 3)) .nil)))) (.cons (.var 6) .nil)))))))))⟩
/-- check_rule(order, rule) -/
def f38 : Fd := ⟨2, 2, [],
  (.seq (.ex (.callB 11 (.cons (.var 0) (.cons (.lit (.str "order")) .nil))))
  (.ite (.not (.callB 29 (.cons (.var 1) .nil))) (.rai 1 ["name"] (.cons (.lit (.str "rule")) .nil)) .skip))⟩
/-- why_not(order, rule) -/
def f39 : Fd := ⟨2, 2, [],
  (.seq (.ite (.cmp .notIn (.blt .idx (.cons (.var 1) (.cons (.lit (.int 1)) .nil))) (.blt .idx (.cons (.var 0) (.cons (.lit (.int 0)) .nil)))) (.ret (.lit (.str "anchor"))) .skip)
  (.ret (.ite (.and (.cmp .ge (.blt .len (.cons (.blt .idx (.cons (.var 0) (.cons (.lit (.int 0)) .nil))) .nil)) (.lit (.int 12))) (.cmp .notIn (.blt .idx (.cons (.var 1) (.cons (.lit (.int 3)) .nil))) (.blt .idx (.cons (.var 0) (.cons (.lit (.int 0)) .nil))))) (.lit (.str "full")) (.lit (.str "")))))⟩
/-- turned_around(order) -/
def f40 : Fd := ⟨1, 1, [],
  (.ret (.tup (.cons (.blt .rev (.cons (.blt .idx (.cons (.var 0) (.cons (.lit (.int 0)) .nil))) .nil)) (.cons (.blt .rev (.cons (.blt .idx (.cons (.var 0) (.cons (.lit (.int 1)) .nil))) .nil)) .nil))))⟩
/-- put_after(order, anchor, strength, letter, letters, strengths, at, row) -/
def f41 : Fd := ⟨4, 8, [],
  (.seq (.sets [4, 5] (.var 0))
  (.seq (.set 6 (.blt .index (.cons (.var 4) (.cons (.var 1) .nil))))
  (.seq (.whl (.and (.cmp .lt (.var 6) (.blt .len (.cons (.var 5) .nil))) (.cmp .gt (.blt .idx (.cons (.var 5) (.cons (.var 6) .nil))) (.var 2))) (.set 6 (.bin .add (.var 6) (.lit (.int 1)))))
  (.seq (.set 7 (.bin .add (.bin .add (.sl (.var 4) .nil (.cons (.bin .add (.var 6) (.lit (.int 1))) .nil)) (.tup (.cons (.var 3) .nil))) (.sl (.var 4) (.cons (.bin .add (.var 6) (.lit (.int 1))) .nil) .nil)))
  (.ret (.tup (.cons (.var 7) (.cons (.bin .add (.bin .add (.sl (.var 5) .nil (.cons (.var 6) .nil)) (.tup (.cons (.var 2) .nil))) (.sl (.var 5) (.cons (.var 6) .nil) .nil)) .nil))))))))⟩
/-- put(order, rule, side, anchor, strength, letter) -/
def f42 : Fd := ⟨2, 6, [],
  (.seq (.sets [2, 3, 4, 5] (.var 1))
  (.seq (.ite (.cmp .inn (.var 5) (.blt .idx (.cons (.var 0) (.cons (.lit (.int 0)) .nil)))) (.set 0 (.call 22 [] (.cons (.var 0) (.cons (.var 5) .nil)))) .skip)
  (.seq (.ite (.cmp .eq (.var 2) (.lit (.str "after"))) (.ret (.call 41 [] (.cons (.var 0) (.cons (.var 3) (.cons (.var 4) (.cons (.var 5) .nil)))))) .skip)
  (.ret (.call 40 [] (.cons (.call 41 [] (.cons (.call 40 [] (.cons (.var 0) .nil)) (.cons (.var 3) (.cons (.var 4) (.cons (.var 5) .nil))))) .nil))))))⟩
/-- can_apply(order, rule) -/
def f43 : Fd := ⟨2, 2, [],
  (.seq (.ex (.callB 38 (.cons (.var 0) (.cons (.var 1) .nil))))
  (.ret (.cmp .eq (.callB 39 (.cons (.var 0) (.cons (.var 1) .nil))) (.lit (.str "")))))⟩
/-- applied(order, rule, why) -/
def f44 : Fd := ⟨2, 3, [],
  (.seq (.ex (.callB 38 (.cons (.var 0) (.cons (.var 1) .nil))))
  (.seq (.set 2 (.callB 39 (.cons (.var 0) (.cons (.var 1) .nil))))
  (.seq (.ite (.cmp .ne (.var 2) (.lit (.str ""))) (.rai 2 ["index", "why"] (.cons (.lit (.int 0)) (.cons (.var 2) .nil))) .skip)
  (.ret (.call 42 [] (.cons (.var 0) (.cons (.var 1) .nil)))))))⟩
/-- led(order, rules, index, rule, why) -/
def f45 : Fd := ⟨2, 5, [],
  (.seq (.ex (.callB 11 (.cons (.var 0) (.cons (.lit (.str "order")) .nil))))
  (.seq (.ite (.not (.callB 30 (.cons (.var 1) .nil))) (.rai 1 ["name"] (.cons (.lit (.str "rules")) .nil)) .skip)
  (.seq (.for [2, 3] true (.sEnum (.var 1)) (.seq (.set 4 (.callB 39 (.cons (.var 0) (.cons (.var 3) .nil))))
  (.seq (.ite (.cmp .ne (.var 4) (.lit (.str ""))) (.rai 2 ["index", "why"] (.cons (.var 2) (.cons (.var 4) .nil))) .skip)
  (.set 0 (.call 42 [] (.cons (.var 0) (.cons (.var 3) .nil)))))))
  (.ret (.var 0)))))⟩
/-- placed(order, rule, letters, strengths, at, ahead) -/
def f46 : Fd := ⟨2, 6, [],
  (.seq (.sets [2, 3] (.call 44 [] (.cons (.var 0) (.cons (.var 1) .nil))))
  (.seq (.set 4 (.blt .index (.cons (.var 2) (.cons (.blt .idx (.cons (.var 1) (.cons (.lit (.int 3)) .nil))) .nil))))
  (.seq (.set 5 (.ite (.cmp .gt (.var 4) (.lit (.int 0))) (.blt .idx (.cons (.var 3) (.cons (.bin .sub (.var 4) (.lit (.int 1))) .nil))) (.lit .non)))
  (.ret (.tup (.cons (.var 4) (.cons (.var 5) (.cons (.ite (.cmp .lt (.var 4) (.blt .len (.cons (.var 3) .nil))) (.blt .idx (.cons (.var 3) (.cons (.var 4) .nil))) (.lit .non)) .nil))))))))⟩
/-- leading(order, letter, goal, found, side, anchor, rules, strength, rule) -/
def f47 : Fd := ⟨3, 9, [],
  (.seq (.set 3 (.lst .nil))
  (.seq (.for [4] false (.sVal (.lit (.tup [(.str "after"), (.str "before")]))) (.for [5] false (.sVal (.blt .idx (.cons (.var 0) (.cons (.lit (.int 0)) .nil)))) (.ite (.cmp .ne (.var 5) (.var 1)) (.seq (.set 6 (.lc (.tup (.cons (.var 4) (.cons (.var 5) (.cons (.var 7) (.cons (.var 1) .nil))))) [7] false (.sVal (.tup (.cons (.lit (.int 1)) (.cons (.lit (.int 2)) (.cons (.lit (.int 3)) .nil))))) (.lit (.bl true))))
  (.set 3 (.bin .add (.var 3) (.lc (.var 8) [8] false (.sVal (.var 6)) (.cmp .eq (.call 42 [] (.cons (.var 0) (.cons (.var 8) .nil))) (.var 2)))))) .skip)))
  (.ret (.var 3))))⟩
/-- alike(order, rule, goal) -/
def f48 : Fd := ⟨2, 3, [],
  (.seq (.set 2 (.call 44 [] (.cons (.var 0) (.cons (.var 1) .nil))))
  (.ret (.call 47 [] (.cons (.var 0) (.cons (.blt .idx (.cons (.var 1) (.cons (.lit (.int 3)) .nil))) (.cons (.var 2) .nil))))))⟩
/-- way_back(order, rule, goal) -/
def f49 : Fd := ⟨2, 3, [],
  (.seq (.set 2 (.call 44 [] (.cons (.var 0) (.cons (.var 1) .nil))))
  (.seq (.ite (.cmp .notIn (.blt .idx (.cons (.var 1) (.cons (.lit (.int 3)) .nil))) (.blt .idx (.cons (.var 0) (.cons (.lit (.int 0)) .nil)))) (.ret (.lit .non)) .skip)
  (.ret (.ite (.cmp .eq (.var 2) (.var 0)) (.tup .nil) (.tup (.cons (.blt .idx (.cons (.call 47 [] (.cons (.var 2) (.cons (.blt .idx (.cons (.var 1) (.cons (.lit (.int 3)) .nil))) (.cons (.var 0) .nil)))) (.cons (.lit (.int 0)) .nil))) .nil))))))⟩
def GAl : List Fd := [f0, f1, f2, f3, f4, f5, f6, f7, f8, f9, f10, f11, f12, f13, f14, f15, f16, f17, f18, f19, f20, f21, f22, f23, f24, f25, f26, f27, f28, f29, f30, f31, f32, f33, f34, f35, f36, f37, f38, f39, f40, f41, f42, f43, f44, f45, f46, f47, f48, f49]
theorem GAg {T : Tab} [h : Has T 0 GAl] (i : Nat) {F : Fd} (e : tabOf [(0, GAl)] i = some F) : T i = some F := h.get e
end Pv

namespace Pv
open PySem L2
/-- check_two(first, second) -/
def f400 : Fd := ⟨2, 2, [],
  (.seq (.ite (.not (.callB 4 (.cons (.var 0) .nil))) (.rai 1 ["name"] (.cons (.lit (.str "first")) .nil)) .skip)
  (.ite (.not (.callB 4 (.cons (.var 1) .nil))) (.rai 1 ["name"] (.cons (.lit (.str "second")) .nil)) .skip))⟩
/-- places_of(order, at, letter) -/
def f401 : Fd := ⟨1, 3, [],
  (.ret (.dc (.var 2) (.var 1) [1, 2] true (.sEnum (.blt .idx (.cons (.var 0) (.cons (.lit (.int 0)) .nil)))) (.lit (.bl true))))⟩
/-- least_between(order, low, high) -/
def f402 : Fd := ⟨3, 3, [],
  (.ret (.blt .minS (.cons (.sl (.blt .idx (.cons (.var 0) (.cons (.lit (.int 1)) .nil))) (.cons (.var 1) .nil) (.cons (.var 2) .nil)) .nil)))⟩
/-- is_list(first, second, letters, rows, letter, one, other, low, high, start, end) -/
def f403 : Fd := ⟨3, 11, [],
  (.seq (.set 3 (.lst (.cons (.call 401 [] (.cons (.var 0) .nil)) (.cons (.call 401 [] (.cons (.var 1) .nil)) .nil))))
  (.seq (.ite (.not (.blt .all (.cons (.lc (.and (.cmp .inn (.var 4) (.blt .idx (.cons (.var 3) (.cons (.lit (.int 0)) .nil)))) (.cmp .inn (.var 4) (.blt .idx (.cons (.var 3) (.cons (.lit (.int 1)) .nil))))) [4] false (.sVal (.var 2)) (.lit (.bl true))) .nil))) (.ret (.lit (.bl false))) .skip)
  (.seq (.for [5, 6] true (.sZip (.var 2) (.sl (.var 2) (.cons (.lit (.int 1)) .nil) .nil)) (.seq (.par 7 8 (.blt .idx (.cons (.blt .idx (.cons (.var 3) (.cons (.lit (.int 0)) .nil))) (.cons (.var 5) .nil))) (.blt .idx (.cons (.blt .idx (.cons (.var 3) (.cons (.lit (.int 0)) .nil))) (.cons (.var 6) .nil))))
  (.seq (.par 9 10 (.blt .idx (.cons (.blt .idx (.cons (.var 3) (.cons (.lit (.int 1)) .nil))) (.cons (.var 5) .nil))) (.blt .idx (.cons (.blt .idx (.cons (.var 3) (.cons (.lit (.int 1)) .nil))) (.cons (.var 6) .nil))))
  (.ite (.or (.cmp .ge (.var 7) (.var 8)) (.or (.cmp .ge (.var 9) (.var 10)) (.cmp .ne (.callB 402 (.cons (.var 0) (.cons (.var 7) (.cons (.var 8) .nil)))) (.callB 402 (.cons (.var 1) (.cons (.var 9) (.cons (.var 10) .nil))))))) (.ret (.lit (.bl false))) .skip))))
  (.ret (.lit (.bl true))))))⟩
/-- is_common(first, second, letters, letter) -/
def f404 : Fd := ⟨3, 4, [],
  (.seq (.ex (.callB 400 (.cons (.var 0) (.cons (.var 1) .nil))))
  (.seq (.ite (.or (.not (.blt .isTuple (.cons (.var 2) .nil))) (.not (.blt .all (.cons (.lc (.blt .isStr (.cons (.var 3) .nil)) [3] false (.sVal (.var 2)) (.lit (.bl true))) .nil)))) (.ret (.lit (.bl false))) .skip)
  (.ret (.callB 403 (.cons (.var 0) (.cons (.var 1) (.cons (.var 2) .nil)))))))⟩
/-- _law_moved(_law_stream_here, _law_order_here, _law_letters_here, _law_strengths_here, _law_turn, _law_letter) -/
def f405 : Fd := ⟨2, 6, [0],
  (.seq (.set 2 (.blt .list (.cons (.blt .idx (.cons (.var 1) (.cons (.lit (.int 0)) .nil))) .nil)))
  (.seq (.set 3 (.blt .list (.cons (.blt .idx (.cons (.var 1) (.cons (.lit (.int 1)) .nil))) .nil)))
  (.seq (.for [4] false (.sRng1 (.call 6 [(0, 0)] (.cons (.var 0) (.cons (.lit (.int 3)) .nil)))) (.seq (.ite (.var 2) (.seq (.set 5 (.om .popAt 2 (.cons (.call 6 [(0, 0)] (.cons (.var 0) (.cons (.blt .len (.cons (.var 2) .nil)) .nil))) .nil)))
  (.ex (.om .insert 2 (.cons (.call 6 [(0, 0)] (.cons (.var 0) (.cons (.bin .add (.blt .len (.cons (.var 2) .nil)) (.lit (.int 1))) .nil))) (.cons (.var 5) .nil))))) .skip)
  (.ite (.var 3) (.setI 3 (.call 6 [(0, 0)] (.cons (.var 0) (.cons (.blt .len (.cons (.var 3) .nil)) .nil))) (.bin .add (.lit (.int 1)) (.call 6 [(0, 0)] (.cons (.var 0) (.cons (.lit (.int 3)) .nil))))) .skip)))
  (.ret (.tup (.cons (.blt .tuple (.cons (.var 2) .nil)) (.cons (.blt .tuple (.cons (.var 3) .nil)) .nil)))))))⟩
/-- _law_two(_law_stream_here, _law_most, _law_first) -/
def f406 : Fd := ⟨2, 3, [0],
  (.seq (.set 2 (.call 316 [(0, 0)] (.cons (.var 0) (.cons (.var 1) .nil))))
  (.seq (.ite (.cmp .gt (.call 6 [(0, 0)] (.cons (.var 0) (.cons (.lit (.int 3)) .nil))) (.lit (.int 0))) (.ret (.tup (.cons (.var 2) (.cons (.call 405 [(0, 0)] (.cons (.var 0) (.cons (.var 2) .nil))) .nil)))) .skip)
  (.ret (.tup (.cons (.var 2) (.cons (.call 316 [(0, 0)] (.cons (.var 0) (.cons (.var 1) .nil))) .nil))))))⟩
/-- _law_difference(_law_order_here, _law_one, _law_other, _law_low, _law_high) -/
def f407 : Fd := ⟨3, 5, [],
  (.seq (.set 3 (.blt .index (.cons (.blt .idx (.cons (.var 0) (.cons (.lit (.int 0)) .nil))) (.cons (.var 1) .nil))))
  (.seq (.set 4 (.blt .index (.cons (.blt .idx (.cons (.var 0) (.cons (.lit (.int 0)) .nil))) (.cons (.var 2) .nil))))
  (.seq (.ite (.cmp .eq (.var 3) (.var 4)) (.ret (.lit (.int 4))) .skip)
  (.ret (.blt .minS (.cons (.sl (.blt .idx (.cons (.var 0) (.cons (.lit (.int 1)) .nil))) (.cons (.blt .min2 (.cons (.var 3) (.cons (.var 4) .nil))) .nil) (.cons (.blt .max2 (.cons (.var 3) (.cons (.var 4) .nil))) .nil)) .nil))))))⟩
/-- _law_can_follow(_law_first, _law_second, _law_one, _law_other, _law_order_here) -/
def f408 : Fd := ⟨4, 5, [],
  (.seq (.for [4] false (.sVal (.lst (.cons (.var 0) (.cons (.var 1) .nil)))) (.ite (.or (.cmp .notIn (.var 2) (.blt .idx (.cons (.var 4) (.cons (.lit (.int 0)) .nil)))) (.or (.cmp .notIn (.var 3) (.blt .idx (.cons (.var 4) (.cons (.lit (.int 0)) .nil)))) (.cmp .ge (.blt .index (.cons (.blt .idx (.cons (.var 4) (.cons (.lit (.int 0)) .nil))) (.cons (.var 2) .nil))) (.blt .index (.cons (.blt .idx (.cons (.var 4) (.cons (.lit (.int 0)) .nil))) (.cons (.var 3) .nil)))))) (.ret (.lit (.bl false))) .skip))
  (.ret (.cmp .eq (.callB 407 (.cons (.var 0) (.cons (.var 2) (.cons (.var 3) .nil)))) (.callB 407 (.cons (.var 1) (.cons (.var 2) (.cons (.var 3) .nil)))))))⟩
/-- _wall(k) -/
def f409 : Fd := ⟨1, 1, [],
  (.whl (.lit (.bl true)) .skip)⟩
/-- _law_lists(_law_first, _law_second, _law_rows, _law_letter, _law_longer, _law_row) -/
def f410 : Fd := ⟨2, 6, [],
  (.seq (.set 2 (.lst (.cons (.tup .nil) .nil)))
  (.seq (.for [3] false (.sVal (.blt .idx (.cons (.var 1) (.cons (.lit (.int 0)) .nil)))) (.seq (.set 4 (.lst .nil))
  (.seq (.ite (.cmp .inn (.var 3) (.blt .idx (.cons (.var 0) (.cons (.lit (.int 0)) .nil)))) (.for [5] false (.sVal (.var 2)) (.ite (.or (.not (.var 5)) (.callB 408 (.cons (.var 0) (.cons (.var 1) (.cons (.blt .idx (.cons (.var 5) (.cons (.un .neg (.lit (.int 1))) .nil))) (.cons (.var 3) .nil)))))) (.ex (.om .append 4 (.cons (.bin .add (.var 5) (.tup (.cons (.var 3) .nil))) .nil))) .skip)) .skip)
  (.set 2 (.bin .add (.var 2) (.var 4))))))
  (.ret (.var 2))))⟩
/-- _law_places(_law_second, _law_row, _law_letter) -/
def f411 : Fd := ⟨2, 3, [],
  (.ret (.lc (.blt .index (.cons (.blt .idx (.cons (.var 0) (.cons (.lit (.int 0)) .nil))) (.cons (.var 2) .nil))) [2] false (.sVal (.var 1)) (.lit (.bl true))))⟩
/-- _law_longest(_law_first, _law_second, _law_rows, _law_most, _law_row, _law_told, _law_at, _law_places_here) -/
def f412 : Fd := ⟨2, 8, [],
  (.seq (.set 2 (.call 410 [] (.cons (.var 0) (.cons (.var 1) .nil))))
  (.seq (.set 3 (.blt .maxS (.cons (.lc (.blt .len (.cons (.var 4) .nil)) [4] false (.sVal (.var 2)) (.lit (.bl true))) .nil)))
  (.seq (.set 5 (.blt .sorted (.cons (.lc (.call 411 [] (.cons (.var 1) (.cons (.var 4) .nil))) [4] false (.sVal (.var 2)) (.cmp .eq (.blt .len (.cons (.var 4) .nil)) (.var 3))) .nil)))
  (.ret (.lc (.blt .tuple (.cons (.lc (.blt .idx (.cons (.blt .idx (.cons (.var 1) (.cons (.lit (.int 0)) .nil))) (.cons (.var 6) .nil))) [6] false (.sVal (.var 7)) (.lit (.bl true))) .nil)) [7] false (.sVal (.var 5)) (.lit (.bl true)))))))⟩
def GEl : List Fd := [f400, f401, f402, f403, f404, f405, f406, f407, f408, f409, f410, f411, f412]
end Pv

namespace Pv
open PySem L2
/-- longest_in(pairs, lengths, found, left, choices, i, one) -/
def f600 : Fd := ⟨1, 7, [],
  (.seq (.set 1 (.mth (.callL 605 (.cons (.ob "Pairs" "lengths" (.var 0)) .nil))))
  (.seq (.set 2 (.lst .nil))
  (.seq (.set 3 (.blt .maxS (.cons (.bin .add (.lst (.cons (.lit (.int 0)) .nil)) (.var 1)) .nil)))
  (.seq (.set 4 (.lrng (.at (.var 0) "many")))
  (.seq (.whl (.cmp .gt (.var 3) (.lit (.int 0))) (.seq (.set 5 (.blt .minS (.cons (.lc (.var 6) [6] false (.sVal (.var 4)) (.cmp .eq (.blt .idx (.cons (.var 1) (.cons (.var 6) .nil))) (.var 3))) .nil)))
  (.seq (.ex (.om .append 2 (.cons (.blt .idx (.cons (.at (.var 0) "letters") (.cons (.var 5) .nil))) .nil)))
  (.seq (.set 4 (.blt .idx (.cons (.at (.var 0) "links") (.cons (.var 5) .nil))))
  (.set 3 (.bin .subI (.var 3) (.lit (.int 1))))))))
  (.ret (.blt .tuple (.cons (.var 2) .nil))))))))⟩
/-- longest_of(first, second) -/
def f601 : Fd := ⟨2, 2, [],
  (.ret (.call 600 [] (.cons (.new "Pairs" 603 (.cons (.var 0) (.cons (.var 1) .nil))) .nil)))⟩
/-- longest_common(first, second) -/
def f602 : Fd := ⟨2, 2, [],
  (.seq (.ex (.callB 400 (.cons (.var 0) (.cons (.var 1) .nil))))
  (.ret (.call 601 [] (.cons (.var 0) (.cons (.var 1) .nil)))))⟩
/-- __init__(self, first, second, at, letter, j, i) -/
def f603 : Fd := ⟨3, 7, [0],
  (.seq (.setA 0 "Pairs" "places" (.call 401 [] (.cons (.var 1) .nil)))
  (.seq (.setA 0 "Pairs" "first" (.var 1))
  (.seq (.setA 0 "Pairs" "second" (.var 2))
  (.seq (.setA 0 "Pairs" "own" (.lc (.var 3) [3, 4] true (.sEnum (.blt .idx (.cons (.var 2) (.cons (.lit (.int 0)) .nil)))) (.cmp .inn (.var 4) (.at (.var 0) "places"))))
  (.seq (.setA 0 "Pairs" "letters" (.lc (.blt .idx (.cons (.blt .idx (.cons (.var 2) (.cons (.lit (.int 0)) .nil))) (.cons (.var 3) .nil))) [3] false (.sVal (.at (.var 0) "own")) (.lit (.bl true))))
  (.seq (.setA 0 "Pairs" "many" (.blt .len (.cons (.at (.var 0) "own") .nil)))
  (.setA 0 "Pairs" "links" (.lc (.lc (.var 5) [5] false (.sRng2 (.bin .add (.var 6) (.lit (.int 1))) (.at (.var 0) "many")) (.mth (.callB 604 (.cons (.ob "Pairs" "can_follow" (.var 0)) (.cons (.var 6) (.cons (.var 5) .nil)))))) [6] false (.sRng1 (.at (.var 0) "many")) (.lit (.bl true))))))))))⟩
/-- can_follow(self, i, j, low, high) -/
def f604 : Fd := ⟨3, 5, [],
  (.seq (.set 3 (.blt .idx (.cons (.at (.var 0) "places") (.cons (.blt .idx (.cons (.at (.var 0) "letters") (.cons (.var 1) .nil))) .nil))))
  (.seq (.set 4 (.blt .idx (.cons (.at (.var 0) "places") (.cons (.blt .idx (.cons (.at (.var 0) "letters") (.cons (.var 2) .nil))) .nil))))
  (.seq (.ite (.cmp .gt (.var 3) (.var 4)) (.ret (.lit (.bl false))) .skip)
  (.ret (.cmp .eq (.callB 402 (.cons (.at (.var 0) "first") (.cons (.var 3) (.cons (.var 4) .nil)))) (.callB 402 (.cons (.at (.var 0) "second") (.cons (.blt .idx (.cons (.at (.var 0) "own") (.cons (.var 1) .nil))) (.cons (.blt .idx (.cons (.at (.var 0) "own") (.cons (.var 2) .nil))) .nil)))))))))⟩
/-- lengths(self, found, _, i, j) -/
def f605 : Fd := ⟨1, 5, [],
  (.seq (.set 1 (.lc (.lit (.int 1)) [2] false (.sVal (.at (.var 0) "letters")) (.lit (.bl true))))
  (.seq (.for [3] false (.sRng3 (.bin .sub (.at (.var 0) "many") (.lit (.int 1))) (.un .neg (.lit (.int 1))) (.un .neg (.lit (.int 1)))) (.setI 1 (.var 3) (.bin .add (.lit (.int 1)) (.blt .maxS (.cons (.bin .add (.lst (.cons (.lit (.int 0)) .nil)) (.lc (.blt .idx (.cons (.var 1) (.cons (.var 4) .nil))) [4] false (.sVal (.blt .idx (.cons (.at (.var 0) "links") (.cons (.var 3) .nil)))) (.lit (.bl true)))) .nil)))))
  (.ret (.var 1))))⟩
/-- levels_of(first, second, pairs, found, _, at, level) -/
def f606 : Fd := ⟨2, 7, [],
  (.seq (.set 2 (.new "Pairs" 603 (.cons (.var 0) (.cons (.var 1) .nil))))
  (.seq (.set 3 (.lc (.lit (.int 0)) [4] false (.sVal (.blt .idx (.cons (.var 1) (.cons (.lit (.int 0)) .nil)))) (.lit (.bl true))))
  (.seq (.for [5, 6] true (.sZip (.at (.var 2) "own") (.mth (.callL 610 (.cons (.ob "Pairs" "levels" (.var 2)) .nil)))) (.setI 3 (.var 5) (.var 6)))
  (.ret (.blt .tuple (.cons (.var 3) .nil))))))⟩
/-- levels_for(first, second) -/
def f607 : Fd := ⟨2, 2, [],
  (.seq (.ex (.callB 400 (.cons (.var 0) (.cons (.var 1) .nil))))
  (.ret (.call 606 [] (.cons (.var 0) (.cons (.var 1) .nil)))))⟩
/-- are_right(first, second, levels, one, pairs, at, row, level, i, j) -/
def f608 : Fd := ⟨3, 10, [],
  (.seq (.ite (.or (.not (.blt .isTuple (.cons (.var 2) .nil))) (.or (.cmp .ne (.blt .len (.cons (.var 2) .nil)) (.blt .len (.cons (.blt .idx (.cons (.var 1) (.cons (.lit (.int 0)) .nil))) .nil))) (.not (.blt .all (.cons (.lc (.callB 0 (.cons (.var 3) .nil)) [3] false (.sVal (.var 2)) (.lit (.bl true))) .nil))))) (.ret (.lit (.bl false))) .skip)
  (.seq (.set 4 (.new "Pairs" 603 (.cons (.var 0) (.cons (.var 1) .nil))))
  (.seq (.ite (.not (.blt .all (.cons (.lc (.or (.cmp .eq (.blt .idx (.cons (.var 2) (.cons (.var 5) .nil))) (.lit (.int 0))) (.cmp .inn (.blt .idx (.cons (.blt .idx (.cons (.var 1) (.cons (.lit (.int 0)) .nil))) (.cons (.var 5) .nil))) (.at (.var 4) "places"))) [5] false (.sRng1 (.blt .len (.cons (.var 2) .nil))) (.lit (.bl true))) .nil))) (.ret (.lit (.bl false))) .skip)
  (.seq (.set 6 (.lc (.blt .idx (.cons (.var 2) (.cons (.var 5) .nil))) [5] false (.sVal (.at (.var 4) "own")) (.lit (.bl true))))
  (.seq (.ite (.not (.blt .all (.cons (.lc (.cmp .ge (.var 7) (.lit (.int 1))) [7] false (.sVal (.var 6)) (.lit (.bl true))) .nil))) (.ret (.lit (.bl false))) .skip)
  (.seq (.for [8] false (.sRng1 (.at (.var 4) "many")) (.ite (.blt .any (.cons (.lc (.cmp .le (.blt .idx (.cons (.var 6) (.cons (.var 9) .nil))) (.blt .idx (.cons (.var 6) (.cons (.var 8) .nil)))) [9] false (.sVal (.blt .idx (.cons (.at (.var 4) "links") (.cons (.var 8) .nil)))) (.lit (.bl true))) .nil)) (.ret (.lit (.bl false))) .skip))
  (.ret (.lit (.bl true)))))))))⟩
/-- accepts_levels(first, second, levels) -/
def f609 : Fd := ⟨3, 3, [],
  (.seq (.ex (.callB 400 (.cons (.var 0) (.cons (.var 1) .nil))))
  (.ret (.callB 608 (.cons (.var 0) (.cons (.var 1) (.cons (.var 2) .nil))))))⟩
/-- levels(self, found, _, i, j) -/
def f610 : Fd := ⟨1, 5, [],
  (.seq (.set 1 (.lc (.lit (.int 1)) [2] false (.sVal (.at (.var 0) "letters")) (.lit (.bl true))))
  (.seq (.for [3] false (.sRng1 (.at (.var 0) "many")) (.for [4] false (.sVal (.blt .idx (.cons (.at (.var 0) "links") (.cons (.var 3) .nil)))) (.setI 1 (.var 4) (.blt .max2 (.cons (.blt .idx (.cons (.var 1) (.cons (.var 4) .nil))) (.cons (.bin .add (.blt .idx (.cons (.var 1) (.cons (.var 3) .nil))) (.lit (.int 1))) .nil))))))
  (.ret (.var 1))))⟩
/-- reaches(first, second, letter) -/
def f611 : Fd := ⟨2, 3, [],
  (.seq (.ite (.not (.blt .idx (.cons (.var 0) (.cons (.lit (.int 0)) .nil)))) (.ret (.not (.blt .idx (.cons (.var 1) (.cons (.lit (.int 0)) .nil))))) .skip)
  (.ret (.blt .all (.cons (.lc (.cmp .inn (.var 2) (.blt .idx (.cons (.var 1) (.cons (.lit (.int 0)) .nil)))) [2] false (.sVal (.blt .idx (.cons (.var 0) (.cons (.lit (.int 0)) .nil)))) (.lit (.bl true))) .nil))))⟩
/-- from_left(second, low, high, letters, strengths, at) -/
def f612 : Fd := ⟨3, 6, [],
  (.seq (.sets [3, 4] (.var 0))
  (.ret (.lc (.tup (.cons (.lit (.str "after")) (.cons (.blt .idx (.cons (.var 3) (.cons (.bin .sub (.var 5) (.lit (.int 1))) .nil))) (.cons (.blt .idx (.cons (.var 4) (.cons (.bin .sub (.var 5) (.lit (.int 1))) .nil))) (.cons (.blt .idx (.cons (.var 3) (.cons (.var 5) .nil))) .nil))))) [5] false (.sRng2 (.var 1) (.var 2)) (.lit (.bl true)))))⟩
/-- from_right(second, low, high, letters, strengths, at) -/
def f613 : Fd := ⟨3, 6, [],
  (.seq (.sets [3, 4] (.var 0))
  (.ret (.lc (.tup (.cons (.lit (.str "before")) (.cons (.blt .idx (.cons (.var 3) (.cons (.bin .add (.var 5) (.lit (.int 1))) .nil))) (.cons (.blt .idx (.cons (.var 4) (.cons (.var 5) .nil))) (.cons (.blt .idx (.cons (.var 3) (.cons (.var 5) .nil))) .nil))))) [5] false (.sRng3 (.bin .sub (.var 2) (.lit (.int 1))) (.bin .sub (.var 1) (.lit (.int 1))) (.un .neg (.lit (.int 1)))) (.lit (.bl true)))))⟩
/-- gap_rules(second, low, high, strongest, cut) -/
def f614 : Fd := ⟨3, 5, [],
  (.seq (.set 3 (.blt .minS (.cons (.sl (.blt .idx (.cons (.var 0) (.cons (.lit (.int 1)) .nil))) (.cons (.var 1) .nil) (.cons (.var 2) .nil)) .nil)))
  (.seq (.set 4 (.bin .add (.var 1) (.blt .index (.cons (.sl (.blt .idx (.cons (.var 0) (.cons (.lit (.int 1)) .nil))) (.cons (.var 1) .nil) (.cons (.var 2) .nil)) (.cons (.var 3) .nil)))))
  (.ret (.bin .add (.call 612 [] (.cons (.var 0) (.cons (.bin .add (.var 1) (.lit (.int 1))) (.cons (.bin .add (.var 4) (.lit (.int 1))) .nil)))) (.call 613 [] (.cons (.var 0) (.cons (.bin .add (.var 4) (.lit (.int 1))) (.cons (.var 2) .nil))))))))⟩
/-- keep(second, letters, places, letter, found, low, high) -/
def f615 : Fd := ⟨2, 7, [],
  (.seq (.set 2 (.lc (.blt .index (.cons (.blt .idx (.cons (.var 0) (.cons (.lit (.int 0)) .nil))) (.cons (.var 3) .nil))) [3] false (.sVal (.var 1)) (.lit (.bl true))))
  (.seq (.set 4 (.call 613 [] (.cons (.var 0) (.cons (.lit (.int 0)) (.cons (.blt .idx (.cons (.var 2) (.cons (.lit (.int 0)) .nil))) .nil)))))
  (.seq (.for [5, 6] true (.sZip (.var 2) (.sl (.var 2) (.cons (.lit (.int 1)) .nil) .nil)) (.set 4 (.bin .add (.var 4) (.call 614 [] (.cons (.var 0) (.cons (.var 5) (.cons (.var 6) .nil)))))))
  (.ret (.blt .tuple (.cons (.bin .add (.var 4) (.call 612 [] (.cons (.var 0) (.cons (.bin .add (.blt .idx (.cons (.var 2) (.cons (.un .neg (.lit (.int 1))) .nil))) (.lit (.int 1))) (.cons (.blt .len (.cons (.blt .idx (.cons (.var 0) (.cons (.lit (.int 0)) .nil))) .nil)) .nil))))) .nil))))))⟩
/-- check_orders(first, second) -/
def f616 : Fd := ⟨2, 2, [],
  (.seq (.ex (.callB 11 (.cons (.var 0) (.cons (.lit (.str "first")) .nil))))
  (.ex (.callB 11 (.cons (.var 1) (.cons (.lit (.str "second")) .nil)))))⟩
/-- can_reach(first, second) -/
def f617 : Fd := ⟨2, 2, [],
  (.seq (.ex (.callB 616 (.cons (.var 0) (.cons (.var 1) .nil))))
  (.ret (.callB 611 (.cons (.var 0) (.cons (.var 1) .nil)))))⟩
/-- distance_of(first, second) -/
def f618 : Fd := ⟨2, 2, [],
  (.ret (.bin .sub (.blt .len (.cons (.blt .idx (.cons (.var 1) (.cons (.lit (.int 0)) .nil))) .nil)) (.blt .len (.cons (.call 601 [] (.cons (.var 0) (.cons (.var 1) .nil))) .nil))))⟩
/-- distance(first, second) -/
def f619 : Fd := ⟨2, 2, [],
  (.seq (.ex (.callB 616 (.cons (.var 0) (.cons (.var 1) .nil))))
  (.ret (.ite (.callB 611 (.cons (.var 0) (.cons (.var 1) .nil))) (.callB 618 (.cons (.var 0) (.cons (.var 1) .nil))) (.lit .non))))⟩
/-- rules_of(first, second) -/
def f620 : Fd := ⟨2, 2, [],
  (.ret (.ite (.blt .idx (.cons (.var 1) (.cons (.lit (.int 0)) .nil))) (.call 615 [] (.cons (.var 1) (.cons (.call 601 [] (.cons (.var 0) (.cons (.var 1) .nil))) .nil))) (.tup .nil)))⟩
/-- shortest_rules(first, second) -/
def f621 : Fd := ⟨2, 2, [],
  (.seq (.ex (.callB 616 (.cons (.var 0) (.cons (.var 1) .nil))))
  (.ret (.ite (.callB 611 (.cons (.var 0) (.cons (.var 1) .nil))) (.call 620 [] (.cons (.var 0) (.cons (.var 1) .nil))) (.lit .non))))⟩
/-- moved_letters(first, second, kept, letter) -/
def f622 : Fd := ⟨2, 4, [],
  (.seq (.ex (.callB 616 (.cons (.var 0) (.cons (.var 1) .nil))))
  (.seq (.ite (.not (.callB 611 (.cons (.var 0) (.cons (.var 1) .nil)))) (.ret (.lit .non)) .skip)
  (.seq (.set 2 (.call 601 [] (.cons (.var 0) (.cons (.var 1) .nil))))
  (.ret (.blt .tuple (.cons (.lc (.var 3) [3] false (.sVal (.blt .idx (.cons (.var 1) (.cons (.lit (.int 0)) .nil)))) (.cmp .notIn (.var 3) (.var 2))) .nil))))))⟩
/-- end_of(order, rules, rule) -/
def f623 : Fd := ⟨2, 3, [],
  (.seq (.for [2] false (.sVal (.var 1)) (.seq (.ite (.cmp .ne (.callB 39 (.cons (.var 0) (.cons (.var 2) .nil))) (.lit (.str ""))) (.ret (.lit .non)) .skip)
  (.set 0 (.call 42 [] (.cons (.var 0) (.cons (.var 2) .nil))))))
  (.ret (.var 0)))⟩
/-- told(first, second, rules) -/
def f624 : Fd := ⟨3, 3, [],
  (.seq (.ex (.callB 616 (.cons (.var 0) (.cons (.var 1) .nil))))
  (.seq (.ite (.not (.callB 30 (.cons (.var 2) .nil))) (.rai 1 ["name"] (.cons (.lit (.str "rules")) .nil)) .skip)
  (.seq (.ite (.cmp .ne (.call 623 [] (.cons (.var 0) (.cons (.var 2) .nil))) (.var 1)) (.ret (.lit (.str "fails"))) .skip)
  (.ret (.ite (.cmp .eq (.blt .len (.cons (.var 2) .nil)) (.callB 618 (.cons (.var 0) (.cons (.var 1) .nil)))) (.lit (.str "fewest")) (.lit (.str "leads")))))))⟩
/-- _law_is_common(_law_first, _law_second, _law_row, _law_k, _law_x, _law_y) -/
def f625 : Fd := ⟨3, 6, [],
  (.seq (.for [3] false (.sRng1 (.bin .sub (.blt .len (.cons (.var 2) .nil)) (.lit (.int 1)))) (.seq (.set 4 (.blt .idx (.cons (.var 2) (.cons (.var 3) .nil))))
  (.seq (.set 5 (.blt .idx (.cons (.var 2) (.cons (.bin .add (.var 3) (.lit (.int 1))) .nil))))
  (.seq (.ite (.or (.cmp .gt (.blt .index (.cons (.blt .idx (.cons (.var 0) (.cons (.lit (.int 0)) .nil))) (.cons (.var 4) .nil))) (.blt .index (.cons (.blt .idx (.cons (.var 0) (.cons (.lit (.int 0)) .nil))) (.cons (.var 5) .nil)))) (.cmp .gt (.blt .index (.cons (.blt .idx (.cons (.var 1) (.cons (.lit (.int 0)) .nil))) (.cons (.var 4) .nil))) (.blt .index (.cons (.blt .idx (.cons (.var 1) (.cons (.lit (.int 0)) .nil))) (.cons (.var 5) .nil))))) (.ret (.lit (.bl false))) .skip)
  (.ite (.cmp .ne (.callB 34 (.cons (.var 0) (.cons (.var 4) (.cons (.var 5) .nil)))) (.callB 34 (.cons (.var 1) (.cons (.var 4) (.cons (.var 5) .nil))))) (.ret (.lit (.bl false))) .skip)))))
  (.ret (.lit (.bl true))))⟩
/-- _law_commons(_law_first, _law_second, _law_rows, _law_letter, _law_one, _law_longer, _law_row) -/
def f626 : Fd := ⟨2, 7, [],
  (.seq (.set 2 (.lst (.cons (.tup .nil) .nil)))
  (.seq (.for [3] false (.sVal (.lc (.var 4) [4] false (.sVal (.blt .idx (.cons (.var 1) (.cons (.lit (.int 0)) .nil)))) (.cmp .inn (.var 4) (.blt .idx (.cons (.var 0) (.cons (.lit (.int 0)) .nil)))))) (.seq (.set 5 (.lst .nil))
  (.seq (.for [6] false (.sVal (.var 2)) (.ite (.callB 625 (.cons (.var 0) (.cons (.var 1) (.cons (.bin .add (.sl (.var 6) (.cons (.un .neg (.lit (.int 1))) .nil) .nil) (.tup (.cons (.var 3) .nil))) .nil)))) (.ex (.om .append 5 (.cons (.bin .add (.var 6) (.tup (.cons (.var 3) .nil))) .nil))) .skip))
  (.set 2 (.bin .add (.var 2) (.var 5))))))
  (.ret (.var 2))))⟩
/-- _law_longest(_law_first, _law_second, _law_rows, _law_size, _law_row, _law_places, _law_one, _law_at) -/
def f627 : Fd := ⟨2, 8, [],
  (.seq (.set 2 (.call 626 [] (.cons (.var 0) (.cons (.var 1) .nil))))
  (.seq (.set 3 (.blt .maxS (.cons (.lc (.blt .len (.cons (.var 4) .nil)) [4] false (.sVal (.var 2)) (.lit (.bl true))) .nil)))
  (.seq (.set 5 (.lc (.blt .tuple (.cons (.lc (.blt .index (.cons (.blt .idx (.cons (.var 1) (.cons (.lit (.int 0)) .nil))) (.cons (.var 6) .nil))) [6] false (.sVal (.var 4)) (.lit (.bl true))) .nil)) [4] false (.sVal (.var 2)) (.cmp .eq (.blt .len (.cons (.var 4) .nil)) (.var 3))))
  (.ret (.blt .tuple (.cons (.lc (.blt .idx (.cons (.blt .idx (.cons (.var 1) (.cons (.lit (.int 0)) .nil))) (.cons (.var 7) .nil))) [7] false (.sVal (.blt .minS (.cons (.var 5) .nil))) (.lit (.bl true))) .nil))))))⟩
/-- _law_near(_law_stream_here, _law_order_here, _law_more, _law_turns, _law_here, _law_turn, _law_rule_here) -/
def f628 : Fd := ⟨4, 7, [0],
  (.seq (.set 4 (.var 1))
  (.seq (.for [5] false (.sRng1 (.var 3)) (.seq (.set 6 (.call 37 [(0, 0)] (.cons (.var 0) (.cons (.var 4) (.cons (.var 2) .nil)))))
  (.ite (.or (.cmp .lt (.blt .len (.cons (.blt .idx (.cons (.var 4) (.cons (.lit (.int 0)) .nil))) .nil)) (.lit (.int 12))) (.cmp .inn (.blt .idx (.cons (.var 6) (.cons (.lit (.int 3)) .nil))) (.blt .idx (.cons (.var 4) (.cons (.lit (.int 0)) .nil))))) (.set 4 (.call 36 [] (.cons (.var 4) (.cons (.var 6) .nil)))) .skip)))
  (.ret (.var 4))))⟩
/-- _law_pair(_law_stream_here, _law_most, _law_names_here, _law_many, _law_first, _law_pick) -/
def f629 : Fd := ⟨2, 6, [0],
  (.seq (.set 2 (.call 31 [(0, 0)] (.cons (.var 0) .nil)))
  (.seq (.set 3 (.bin .add (.lit (.int 1)) (.call 6 [(0, 0)] (.cons (.var 0) (.cons (.var 1) .nil)))))
  (.seq (.set 4 (.call 33 [(0, 0)] (.cons (.var 0) (.cons (.sl (.var 2) .nil (.cons (.var 3) .nil)) .nil))))
  (.seq (.set 5 (.call 6 [(0, 0)] (.cons (.var 0) (.cons (.lit (.int 6)) .nil))))
  (.seq (.ite (.cmp .lt (.var 5) (.lit (.int 2))) (.ret (.tup (.cons (.var 4) (.cons (.call 33 [(0, 0)] (.cons (.var 0) (.cons (.sl (.var 2) .nil (.cons (.var 3) .nil)) .nil))) .nil)))) .skip)
  (.seq (.ite (.and (.cmp .eq (.var 5) (.lit (.int 2))) (.cmp .lt (.var 3) (.lit (.int 10)))) (.ret (.tup (.cons (.var 4) (.cons (.call 33 [(0, 0)] (.cons (.var 0) (.cons (.sl (.var 2) .nil (.cons (.bin .add (.bin .add (.var 3) (.lit (.int 1))) (.call 6 [(0, 0)] (.cons (.var 0) (.cons (.lit (.int 2)) .nil)))) .nil)) .nil))) .nil)))) .skip)
  (.seq (.ite (.cmp .eq (.var 5) (.lit (.int 3))) (.ret (.tup (.cons (.var 4) (.cons (.call 628 [(0, 0)] (.cons (.var 0) (.cons (.var 4) (.cons (.sl (.var 2) (.cons (.var 3) .nil) (.cons (.bin .add (.var 3) (.lit (.int 2))) .nil)) (.cons (.call 6 [(0, 0)] (.cons (.var 0) (.cons (.lit (.int 4)) .nil))) .nil))))) .nil)))) .skip)
  (.ret (.tup (.cons (.var 4) (.cons (.call 628 [(0, 0)] (.cons (.var 0) (.cons (.var 4) (.cons (.lst .nil) (.cons (.bin .mul (.call 6 [(0, 0)] (.cons (.var 0) (.cons (.lit (.int 4)) .nil))) (.blt .int (.cons (.cmp .gt (.var 3) (.lit (.int 1))) .nil))) .nil))))) .nil)))))))))))⟩
/-- keeping_rules(first, second, letters, letter) -/
def f630 : Fd := ⟨3, 4, [],
  (.seq (.ex (.callB 11 (.cons (.var 0) (.cons (.lit (.str "first")) .nil))))
  (.seq (.ex (.callB 11 (.cons (.var 1) (.cons (.lit (.str "second")) .nil))))
  (.seq (.ite (.or (.not (.blt .isTuple (.cons (.var 2) .nil))) (.or (.not (.var 2)) (.not (.blt .all (.cons (.lc (.callB 2 (.cons (.var 3) .nil)) [3] false (.sVal (.var 2)) (.lit (.bl true))) .nil))))) (.rai 1 ["name"] (.cons (.lit (.str "letters")) .nil)) .skip)
  (.seq (.ite (.not (.callB 403 (.cons (.var 0) (.cons (.var 1) (.cons (.var 2) .nil))))) (.rai 1 ["name"] (.cons (.lit (.str "letters")) .nil)) .skip)
  (.ret (.ite (.callB 611 (.cons (.var 0) (.cons (.var 1) .nil))) (.call 615 [] (.cons (.var 1) (.cons (.var 2) .nil))) (.lit .non)))))))⟩
/-- _law_led(_law_order_here, _law_rules, _law_rule_here) -/
def f631 : Fd := ⟨2, 3, [],
  (.seq (.for [2] false (.sVal (.var 1)) (.seq (.ite (.or (.cmp .notIn (.blt .idx (.cons (.var 2) (.cons (.lit (.int 1)) .nil))) (.blt .idx (.cons (.var 0) (.cons (.lit (.int 0)) .nil)))) (.and (.cmp .eq (.blt .len (.cons (.blt .idx (.cons (.var 0) (.cons (.lit (.int 0)) .nil))) .nil)) (.lit (.int 12))) (.cmp .notIn (.blt .idx (.cons (.var 2) (.cons (.lit (.int 3)) .nil))) (.blt .idx (.cons (.var 0) (.cons (.lit (.int 0)) .nil)))))) (.ret (.lit .non)) .skip)
  (.set 0 (.call 36 [] (.cons (.var 0) (.cons (.var 2) .nil))))))
  (.ret (.var 0)))⟩
/-- answer_for(first, second) -/
def f632 : Fd := ⟨2, 2, [],
  (.seq (.ex (.callB 616 (.cons (.var 0) (.cons (.var 1) .nil))))
  (.ret (.ite (.callB 611 (.cons (.var 0) (.cons (.var 1) .nil))) (.tup (.cons (.call 620 [] (.cons (.var 0) (.cons (.var 1) .nil))) (.cons (.call 606 [] (.cons (.var 0) (.cons (.var 1) .nil))) .nil))) (.lit .non))))⟩
/-- is_fewest(first, second, rules, levels) -/
def f633 : Fd := ⟨4, 4, [],
  (.seq (.ex (.callB 616 (.cons (.var 0) (.cons (.var 1) .nil))))
  (.seq (.ite (.or (.not (.callB 30 (.cons (.var 2) .nil))) (.or (.cmp .ne (.call 623 [] (.cons (.var 0) (.cons (.var 2) .nil))) (.var 1)) (.not (.callB 608 (.cons (.var 0) (.cons (.var 1) (.cons (.var 3) .nil))))))) (.ret (.lit (.bl false))) .skip)
  (.ret (.cmp .eq (.bin .add (.blt .len (.cons (.var 2) .nil)) (.blt .maxS (.cons (.bin .add (.lst (.cons (.lit (.int 0)) .nil)) (.blt .list (.cons (.var 3) .nil))) .nil))) (.blt .len (.cons (.blt .idx (.cons (.var 1) (.cons (.lit (.int 0)) .nil))) .nil))))))⟩
/-- has_letters(value, letters) -/
def f634 : Fd := ⟨2, 2, [],
  (.ret (.and (.callB 4 (.cons (.var 0) .nil)) (.cmp .eq (.blt .sorted (.cons (.blt .idx (.cons (.var 0) (.cons (.lit (.int 0)) .nil))) .nil)) (.blt .sorted (.cons (.var 1) .nil)))))⟩
/-- is_path(value, order) -/
def f635 : Fd := ⟨1, 2, [],
  (.seq (.ite (.or (.not (.blt .isTuple (.cons (.var 0) .nil))) (.or (.not (.chain .le .le (.lit (.int 1)) (.blt .len (.cons (.var 0) .nil)) (.lit (.int 6)))) (.not (.callB 4 (.cons (.blt .idx (.cons (.var 0) (.cons (.lit (.int 0)) .nil))) .nil))))) (.ret (.lit (.bl false))) .skip)
  (.ret (.and (.cmp .gt (.blt .len (.cons (.blt .idx (.cons (.blt .idx (.cons (.var 0) (.cons (.lit (.int 0)) .nil))) (.cons (.lit (.int 0)) .nil))) .nil)) (.lit (.int 0))) (.blt .all (.cons (.lc (.callB 634 (.cons (.var 1) (.cons (.blt .idx (.cons (.blt .idx (.cons (.var 0) (.cons (.lit (.int 0)) .nil))) (.cons (.lit (.int 0)) .nil))) .nil))) [1] false (.sVal (.var 0)) (.lit (.bl true))) .nil)))))⟩
/-- check_path(value) -/
def f636 : Fd := ⟨1, 1, [],
  (.ite (.not (.callB 635 (.cons (.var 0) .nil))) (.rai 1 ["name"] (.cons (.lit (.str "orders")) .nil)) .skip)⟩
/-- length_of(orders, one, other) -/
def f637 : Fd := ⟨1, 3, [],
  (.ret (.blt .sum (.cons (.lc (.callB 618 (.cons (.var 1) (.cons (.var 2) .nil))) [1, 2] true (.sZip (.var 0) (.sl (.var 0) (.cons (.lit (.int 1)) .nil) .nil)) (.lit (.bl true))) .nil)))⟩
/-- length(orders) -/
def f638 : Fd := ⟨1, 1, [],
  (.seq (.ex (.callB 636 (.cons (.var 0) .nil)))
  (.ret (.callB 637 (.cons (.var 0) .nil))))⟩
/-- direct(orders) -/
def f639 : Fd := ⟨1, 1, [],
  (.seq (.ex (.callB 636 (.cons (.var 0) .nil)))
  (.ret (.callB 618 (.cons (.blt .idx (.cons (.var 0) (.cons (.lit (.int 0)) .nil))) (.cons (.blt .idx (.cons (.var 0) (.cons (.un .neg (.lit (.int 1))) .nil))) .nil)))))⟩
/-- is_shortest(orders) -/
def f640 : Fd := ⟨1, 1, [],
  (.seq (.ex (.callB 636 (.cons (.var 0) .nil)))
  (.ret (.cmp .eq (.callB 637 (.cons (.var 0) .nil)) (.callB 618 (.cons (.blt .idx (.cons (.var 0) (.cons (.lit (.int 0)) .nil))) (.cons (.blt .idx (.cons (.var 0) (.cons (.un .neg (.lit (.int 1))) .nil))) .nil))))))⟩
/-- farthest(orders, distances, order) -/
def f641 : Fd := ⟨1, 3, [],
  (.seq (.ex (.callB 636 (.cons (.var 0) .nil)))
  (.seq (.set 1 (.lc (.callB 618 (.cons (.blt .idx (.cons (.var 0) (.cons (.lit (.int 0)) .nil))) (.cons (.var 2) .nil))) [2] false (.sVal (.var 0)) (.lit (.bl true))))
  (.ret (.blt .index (.cons (.var 1) (.cons (.blt .maxS (.cons (.var 1) .nil)) .nil))))))⟩
/-- _law_far(_law_first, _law_second, _law_row, _law_one, _law_best, _law_k, _law_longest, _law_j, _law_x, _law_y) -/
def f642 : Fd := ⟨2, 10, [],
  (.seq (.set 2 (.lc (.var 3) [3] false (.sVal (.blt .idx (.cons (.var 1) (.cons (.lit (.int 0)) .nil)))) (.cmp .inn (.var 3) (.blt .idx (.cons (.var 0) (.cons (.lit (.int 0)) .nil))))))
  (.seq (.set 4 (.lst .nil))
  (.seq (.for [5] false (.sRng1 (.blt .len (.cons (.var 2) .nil))) (.seq (.set 6 (.lit (.int 0)))
  (.seq (.for [7] false (.sRng1 (.var 5)) (.seq (.set 8 (.blt .idx (.cons (.var 2) (.cons (.var 7) .nil))))
  (.seq (.set 9 (.blt .idx (.cons (.var 2) (.cons (.var 5) .nil))))
  (.ite (.and (.cmp .lt (.blt .index (.cons (.blt .idx (.cons (.var 0) (.cons (.lit (.int 0)) .nil))) (.cons (.var 8) .nil))) (.blt .index (.cons (.blt .idx (.cons (.var 0) (.cons (.lit (.int 0)) .nil))) (.cons (.var 9) .nil)))) (.cmp .eq (.callB 34 (.cons (.var 0) (.cons (.var 8) (.cons (.var 9) .nil)))) (.callB 34 (.cons (.var 1) (.cons (.var 8) (.cons (.var 9) .nil)))))) (.set 6 (.blt .max2 (.cons (.var 6) (.cons (.blt .idx (.cons (.var 4) (.cons (.var 7) .nil))) .nil)))) .skip))))
  (.ex (.om .append 4 (.cons (.bin .add (.var 6) (.lit (.int 1))) .nil))))))
  (.ret (.bin .sub (.blt .len (.cons (.blt .idx (.cons (.var 1) (.cons (.lit (.int 0)) .nil))) .nil)) (.blt .maxS (.cons (.bin .add (.var 4) (.lst (.cons (.lit (.int 0)) .nil))) .nil)))))))⟩
/-- _law_some_path(_law_stream_here, _law_most, _law_long, _law_names_here, _law_many, _law_rows, _law_turn, _law_row, _law_k) -/
def f643 : Fd := ⟨3, 9, [0],
  (.seq (.set 3 (.call 31 [(0, 0)] (.cons (.var 0) .nil)))
  (.seq (.set 4 (.bin .add (.lit (.int 1)) (.call 6 [(0, 0)] (.cons (.var 0) (.cons (.var 1) .nil)))))
  (.seq (.set 5 (.lst (.cons (.call 33 [(0, 0)] (.cons (.var 0) (.cons (.sl (.var 3) .nil (.cons (.var 4) .nil)) .nil))) .nil)))
  (.seq (.for [6] false (.sRng1 (.call 6 [(0, 0)] (.cons (.var 0) (.cons (.var 2) .nil)))) (.seq (.set 7 (.call 33 [(0, 0)] (.cons (.var 0) (.cons (.sl (.var 3) .nil (.cons (.var 4) .nil)) .nil))))
  (.seq (.ite (.and (.cmp .gt (.var 4) (.lit (.int 1))) (.cmp .gt (.call 6 [(0, 0)] (.cons (.var 0) (.cons (.lit (.int 3)) .nil))) (.lit (.int 0)))) (.seq (.set 7 (.blt .idx (.cons (.var 5) (.cons (.un .neg (.lit (.int 1))) .nil))))
  (.for [8] false (.sRng1 (.call 6 [(0, 0)] (.cons (.var 0) (.cons (.lit (.int 3)) .nil)))) (.set 7 (.call 36 [] (.cons (.var 7) (.cons (.call 37 [(0, 0)] (.cons (.var 0) (.cons (.var 7) (.cons (.lst .nil) .nil)))) .nil)))))) .skip)
  (.ex (.om .append 5 (.cons (.var 7) .nil))))))
  (.ret (.blt .tuple (.cons (.var 5) .nil)))))))⟩
/-- check_alike(value, order, name) -/
def f644 : Fd := ⟨3, 3, [],
  (.ite (.not (.callB 634 (.cons (.var 0) (.cons (.blt .idx (.cons (.var 1) (.cons (.lit (.int 0)) .nil))) .nil)))) (.rai 1 ["name"] (.cons (.var 2) .nil)) .skip)⟩
/-- check_begin(value, name) -/
def f645 : Fd := ⟨2, 2, [],
  (.ite (.or (.not (.callB 4 (.cons (.var 0) .nil))) (.not (.blt .idx (.cons (.var 0) (.cons (.lit (.int 0)) .nil))))) (.rai 1 ["name"] (.cons (.var 1) .nil)) .skip)⟩
/-- lies_between(middle, first, second) -/
def f646 : Fd := ⟨3, 3, [],
  (.seq (.ex (.callB 645 (.cons (.var 0) (.cons (.lit (.str "middle")) .nil))))
  (.seq (.ex (.callB 644 (.cons (.var 1) (.cons (.var 0) (.cons (.lit (.str "first")) .nil)))))
  (.seq (.ex (.callB 644 (.cons (.var 2) (.cons (.var 0) (.cons (.lit (.str "second")) .nil)))))
  (.ret (.cmp .eq (.bin .add (.callB 618 (.cons (.var 1) (.cons (.var 0) .nil))) (.callB 618 (.cons (.var 0) (.cons (.var 2) .nil)))) (.callB 618 (.cons (.var 1) (.cons (.var 2) .nil))))))))⟩
/-- joined_rules(orders, found, one, other) -/
def f647 : Fd := ⟨1, 4, [],
  (.seq (.ex (.callB 636 (.cons (.var 0) .nil)))
  (.seq (.set 1 (.tup .nil))
  (.seq (.for [2, 3] true (.sZip (.var 0) (.sl (.var 0) (.cons (.lit (.int 1)) .nil) .nil)) (.set 1 (.bin .add (.var 1) (.call 620 [] (.cons (.var 2) (.cons (.var 3) .nil))))))
  (.ret (.var 1)))))⟩
/-- kept_along(orders, moved, rule, letter) -/
def f648 : Fd := ⟨1, 4, [],
  (.seq (.set 1 (.lc (.blt .idx (.cons (.var 2) (.cons (.lit (.int 3)) .nil))) [2] false (.sVal (.call 647 [] (.cons (.var 0) .nil))) (.lit (.bl true))))
  (.ret (.blt .tuple (.cons (.lc (.var 3) [3] false (.sVal (.blt .idx (.cons (.blt .idx (.cons (.var 0) (.cons (.lit (.int 0)) .nil))) (.cons (.lit (.int 0)) .nil)))) (.cmp .notIn (.var 3) (.var 1))) .nil))))⟩
/-- is_step(first, second, letter) -/
def f649 : Fd := ⟨2, 3, [],
  (.seq (.ite (.cmp .eq (.var 0) (.var 1)) (.ret (.lit (.bl false))) .skip)
  (.ret (.blt .any (.cons (.lc (.cmp .eq (.call 22 [] (.cons (.var 0) (.cons (.var 2) .nil))) (.call 22 [] (.cons (.var 1) (.cons (.var 2) .nil)))) [2] false (.sVal (.blt .idx (.cons (.var 0) (.cons (.lit (.int 0)) .nil)))) (.lit (.bl true))) .nil))))⟩
/-- is_one_rule_away(first, second) -/
def f650 : Fd := ⟨2, 2, [],
  (.seq (.ex (.callB 645 (.cons (.var 0) (.cons (.lit (.str "first")) .nil))))
  (.seq (.ex (.callB 644 (.cons (.var 1) (.cons (.var 0) (.cons (.lit (.str "second")) .nil)))))
  (.ret (.callB 649 (.cons (.var 0) (.cons (.var 1) .nil))))))⟩
/-- way(first, second, found, rule) -/
def f651 : Fd := ⟨2, 4, [],
  (.seq (.ex (.callB 645 (.cons (.var 0) (.cons (.lit (.str "first")) .nil))))
  (.seq (.ex (.callB 644 (.cons (.var 1) (.cons (.var 0) (.cons (.lit (.str "second")) .nil)))))
  (.seq (.set 2 (.lst (.cons (.var 0) .nil)))
  (.seq (.for [3] false (.sVal (.call 620 [] (.cons (.var 0) (.cons (.var 1) .nil)))) (.ex (.om .append 2 (.cons (.call 42 [] (.cons (.blt .idx (.cons (.var 2) (.cons (.un .neg (.lit (.int 1))) .nil))) (.cons (.var 3) .nil))) .nil))))
  (.ret (.blt .tuple (.cons (.var 2) .nil)))))))⟩
/-- is_row(first, second, value, order, one, other) -/
def f652 : Fd := ⟨3, 6, [],
  (.seq (.ite (.or (.not (.blt .isTuple (.cons (.var 2) .nil))) (.or (.not (.var 2)) (.not (.blt .all (.cons (.lc (.callB 634 (.cons (.var 3) (.cons (.blt .idx (.cons (.var 0) (.cons (.lit (.int 0)) .nil))) .nil))) [3] false (.sVal (.var 2)) (.lit (.bl true))) .nil))))) (.ret (.lit (.bl false))) .skip)
  (.seq (.ite (.or (.cmp .ne (.blt .idx (.cons (.var 2) (.cons (.lit (.int 0)) .nil))) (.var 0)) (.cmp .ne (.blt .idx (.cons (.var 2) (.cons (.un .neg (.lit (.int 1))) .nil))) (.var 1))) (.ret (.lit (.bl false))) .skip)
  (.ret (.blt .all (.cons (.lc (.callB 649 (.cons (.var 4) (.cons (.var 5) .nil))) [4, 5] true (.sZip (.var 2) (.sl (.var 2) (.cons (.lit (.int 1)) .nil) .nil)) (.lit (.bl true))) .nil)))))⟩
/-- is_shortest_row(first, second, row, levels) -/
def f653 : Fd := ⟨4, 4, [],
  (.seq (.ex (.callB 645 (.cons (.var 0) (.cons (.lit (.str "first")) .nil))))
  (.seq (.ex (.callB 644 (.cons (.var 1) (.cons (.var 0) (.cons (.lit (.str "second")) .nil)))))
  (.seq (.ite (.or (.not (.callB 652 (.cons (.var 0) (.cons (.var 1) (.cons (.var 2) .nil))))) (.not (.callB 608 (.cons (.var 0) (.cons (.var 1) (.cons (.var 3) .nil)))))) (.ret (.lit (.bl false))) .skip)
  (.ret (.cmp .eq (.bin .add (.bin .sub (.blt .len (.cons (.var 2) .nil)) (.lit (.int 1))) (.blt .maxS (.cons (.var 3) .nil))) (.blt .len (.cons (.blt .idx (.cons (.var 0) (.cons (.lit (.int 0)) .nil))) .nil)))))))⟩
def GGl : List Fd := [f600, f601, f602, f603, f604, f605, f606, f607, f608, f609, f610, f611, f612, f613, f614, f615, f616, f617, f618, f619, f620, f621, f622, f623, f624, f625, f626, f627, f628, f629, f630, f631, f632, f633, f634, f635, f636, f637, f638, f639, f640, f641, f642, f643, f644, f645, f646, f647, f648, f649, f650, f651, f652, f653]
end Pv

namespace W84
open PySem PySem.Spec PyProof.Rows L2 Pv
def body : List Stmt := PySem.Challenge.pw_fewestrules_k84_refusals_of_paths.main.body
abbrev topS (i : Nat) : Stmt := body.getD i (.Pass ⟨0, 0, 0, 0⟩)
def nos : List Str := ["len", "abs", "int", "bool", "str", "list", "tuple", "all", "any", "min", "max", "sum", "sorted", "isinstance", "range", "enumerate", "zip"]
def consts : List (Str × D) := [("CHARACTERS", .str "abcdefghijklmnopqrstuvwxyz"), ("DIGITS", .str "0123456789"), ("LONGEST", .int 12), ("MOST", .int 12), ("MOST_ORDERS", .int 6)]
def fns : List (Str × FSig) := [(("is_whole" : Str), (⟨0, 1, [], false, true⟩ : FSig)), (("is_level" : Str), (⟨1, 1, [], false, true⟩ : FSig)), (("is_letter" : Str), (⟨2, 1, [], false, true⟩ : FSig)), (("are_letters" : Str), (⟨3, 1, [], false, true⟩ : FSig)), (("is_order" : Str), (⟨4, 1, [], false, true⟩ : FSig)), (("removed" : Str), (⟨22, 2, [], false, false⟩ : FSig)), (("places_of" : Str), (⟨401, 1, [], false, false⟩ : FSig)), (("least_between" : Str), (⟨402, 3, [], false, true⟩ : FSig)), (("longest_in" : Str), (⟨600, 1, [], false, false⟩ : FSig)), (("longest_of" : Str), (⟨601, 2, [], false, false⟩ : FSig)), (("is_integer" : Str), (⟨0, 1, [], false, true⟩ : FSig)), (("are_right" : Str), (⟨608, 3, [], false, true⟩ : FSig)), (("turned_around" : Str), (⟨40, 1, [], false, false⟩ : FSig)), (("put_after" : Str), (⟨41, 4, [], false, false⟩ : FSig)), (("put" : Str), (⟨42, 2, [], false, false⟩ : FSig)), (("from_left" : Str), (⟨612, 3, [], true, false⟩ : FSig)), (("from_right" : Str), (⟨613, 3, [], true, false⟩ : FSig)), (("gap_rules" : Str), (⟨614, 3, [], true, false⟩ : FSig)), (("keep" : Str), (⟨615, 2, [], false, false⟩ : FSig)), (("distance_of" : Str), (⟨618, 2, [], false, true⟩ : FSig)), (("rules_of" : Str), (⟨620, 2, [], false, false⟩ : FSig)), (("has_letters" : Str), (⟨634, 2, [], false, true⟩ : FSig)), (("is_path" : Str), (⟨635, 1, [], false, true⟩ : FSig)), (("check_path" : Str), (⟨636, 1, [], false, true⟩ : FSig)), (("check_alike" : Str), (⟨644, 3, [], false, true⟩ : FSig)), (("check_begin" : Str), (⟨645, 2, [], false, true⟩ : FSig)), (("length_of" : Str), (⟨637, 1, [], false, true⟩ : FSig)), (("length" : Str), (⟨638, 1, [], false, true⟩ : FSig)), (("direct" : Str), (⟨639, 1, [], false, true⟩ : FSig)), (("is_shortest" : Str), (⟨640, 1, [], false, true⟩ : FSig)), (("farthest" : Str), (⟨641, 1, [], false, true⟩ : FSig)), (("joined_rules" : Str), (⟨647, 1, [], false, false⟩ : FSig)), (("kept_along" : Str), (⟨648, 1, [], false, false⟩ : FSig)), (("lies_between" : Str), (⟨646, 3, [], false, true⟩ : FSig)), (("is_step" : Str), (⟨649, 2, [], false, true⟩ : FSig)), (("is_one_rule_away" : Str), (⟨650, 2, [], false, true⟩ : FSig)), (("way" : Str), (⟨651, 2, [], false, false⟩ : FSig)), (("is_row" : Str), (⟨652, 3, [], false, true⟩ : FSig)), (("is_shortest_row" : Str), (⟨653, 4, [], false, true⟩ : FSig)), (("_law_stream" : Str), (⟨5, 1, [], true, false⟩ : FSig)), (("_law_next" : Str), (⟨6, 2, [0], false, false⟩ : FSig)), (("_law_path_told" : Str), (⟨9900, 2, [], false, false⟩ : FSig)), (("_law_told" : Str), (⟨9901, 4, [], false, false⟩ : FSig)), (("law" : Str), (⟨9902, 1, [], false, true⟩ : FSig))]
def exs : List (Str × XSig) := [(("RulesError" : Str), (⟨0, []⟩ : XSig)), (("BadValue" : Str), (⟨1, ["name"]⟩ : XSig))]
def cls : List (Str × CSig) := [(("Pairs" : Str), (⟨["places", "first", "second", "own", "letters", "many", "links"], some (⟨603, 3, [0], false, true⟩ : FSig), [(("can_follow" : Str), (⟨604, 3, [], false, true⟩ : FSig)), (("lengths" : Str), (⟨605, 1, [], true, true⟩ : FSig)), (("levels" : Str), (⟨610, 1, [], true, true⟩ : FSig))]⟩ : CSig))]
/-- _law_path_told -/
def f9900 : Fd := ⟨2, 3, [],
  (.seq (.tr (.ite (.cmp .eq (.var 0) (.lit (.int 0))) (.ex (.callB 638 (.cons (.var 1) .nil))) (.ite (.cmp .eq (.var 0) (.lit (.int 1))) (.ex (.callB 639 (.cons (.var 1) .nil))) (.ite (.cmp .eq (.var 0) (.lit (.int 2))) (.ex (.callB 640 (.cons (.var 1) .nil))) (.ite (.cmp .eq (.var 0) (.lit (.int 3))) (.ex (.callB 641 (.cons (.var 1) .nil))) (.ite (.cmp .eq (.var 0) (.lit (.int 4))) (.ex (.call 647 [] (.cons (.var 1) .nil))) (.ex (.call 648 [] (.cons (.var 1) .nil)))))))) [(1, (.one (.fld "name")))])
  (.ret (.lit (.str ""))))⟩
/-- _law_told -/
def f9901 : Fd := ⟨4, 5, [],
  (.seq (.tr (.ite (.cmp .eq (.var 0) (.lit (.int 0))) (.ex (.callB 646 (.cons (.var 1) (.cons (.var 2) (.cons (.var 3) .nil))))) (.ite (.cmp .eq (.var 0) (.lit (.int 1))) (.ex (.callB 650 (.cons (.var 1) (.cons (.var 2) .nil)))) (.ite (.cmp .eq (.var 0) (.lit (.int 2))) (.ex (.call 651 [] (.cons (.var 1) (.cons (.var 2) .nil)))) (.ex (.callB 653 (.cons (.var 1) (.cons (.var 2) (.cons (.lit .non) (.cons (.lit .non) .nil))))))))) [(1, (.one (.fld "name")))])
  (.ret (.lit (.str ""))))⟩
/-- law -/
def f9902 : Fd := ⟨1, 15, [],
  (.seq (.set 1 (.call 5 [] (.cons (.var 0) .nil)))
  (.seq (.set 2 (.tup (.cons (.lit (.str "a")) (.cons (.lit (.str "b")) (.cons (.lit (.str "c")) (.cons (.lit (.str "d")) (.cons (.lit (.str "e")) (.cons (.lit (.str "f")) (.cons (.lit (.str "g")) (.cons (.lit (.str "h")) (.cons (.lit (.str "i")) (.cons (.lit (.str "j")) (.cons (.lit (.str "k")) (.cons (.lit (.str "l")) .nil))))))))))))))
  (.seq (.set 3 (.tup (.cons (.lit (.int 1)) (.cons (.lit (.int 2)) (.cons (.lit (.int 3)) (.cons (.lit (.int 1)) (.cons (.lit (.int 2)) (.cons (.lit (.int 3)) (.cons (.lit (.int 1)) (.cons (.lit (.int 2)) (.cons (.lit (.int 3)) (.cons (.lit (.int 1)) (.cons (.lit (.int 2)) .nil)))))))))))))
  (.seq (.set 4 (.tup (.cons (.var 2) (.cons (.var 3) .nil))))
  (.seq (.set 5 (.tup (.cons (.blt .rev (.cons (.var 2) .nil)) (.cons (.blt .rev (.cons (.var 3) .nil)) .nil))))
  (.seq (.set 6 (.tup (.cons (.sl (.var 2) .nil (.cons (.lit (.int 11)) .nil)) (.cons (.sl (.var 3) .nil (.cons (.lit (.int 10)) .nil)) .nil))))
  (.seq (.set 7 (.tup (.cons (.bin .add (.sl (.var 2) .nil (.cons (.lit (.int 11)) .nil)) (.tup (.cons (.lit (.str "z")) .nil))) (.cons (.var 3) .nil))))
  (.seq (.set 8 (.lst (.cons (.tup .nil) (.cons (.bin .mul (.tup (.cons (.var 4) .nil)) (.lit (.int 7))) (.cons (.lst (.cons (.var 4) .nil)) (.cons (.tup (.cons (.var 4) (.cons (.var 6) .nil))) (.cons (.tup (.cons (.var 4) (.cons (.var 7) .nil))) (.cons (.tup (.cons (.var 4) (.cons (.lit .non) .nil))) (.cons (.lit .non) (.cons (.tup (.cons (.tup (.cons (.tup .nil) (.cons (.tup .nil) .nil))) .nil)) (.cons (.tup (.cons (.tup (.cons (.var 2) (.cons (.tup (.cons (.lit (.int 1)) .nil)) .nil))) .nil)) (.cons (.var 4) .nil))))))))))))
  (.seq (.set 9 (.blt .idx (.cons (.var 8) (.cons (.call 6 [(0, 1)] (.cons (.var 1) (.cons (.lit (.int 10)) .nil))) .nil))))
  (.seq (.set 10 (.call 6 [(0, 1)] (.cons (.var 1) (.cons (.lit (.int 6)) .nil))))
  (.seq (.set 11 (.tup (.cons (.var 4) (.cons (.var 5) (.cons (.var 4) (.cons (.var 5) (.cons (.var 4) (.cons (.var 4) .nil))))))))
  (.seq (.ite (.or (.cmp (.notB true) (.callB 635 (.cons (.var 11) .nil)) (.lit (.bl true))) (.cmp (.notB false) (.callB 635 (.cons (.var 9) .nil)) (.lit (.bl false)))) (.ret (.lit (.bl false))) .skip)
  (.seq (.ite (.or (.cmp .ne (.call 9900 [] (.cons (.var 10) (.cons (.var 9) .nil))) (.lit (.str "orders"))) (.cmp .ne (.call 9900 [] (.cons (.var 10) (.cons (.var 11) .nil))) (.lit (.str "")))) (.ret (.lit (.bl false))) .skip)
  (.seq (.set 12 (.blt .idx (.cons (.lst (.cons (.tup (.cons (.tup .nil) (.cons (.tup .nil) .nil))) (.cons (.lit .non) (.cons (.tup (.cons (.var 2) (.cons (.tup (.cons (.lit (.int 1)) .nil)) .nil))) (.cons (.tup (.cons (.tup (.cons (.lit (.str "a")) (.cons (.lit (.str "b")) (.cons (.lit (.str "b")) .nil)))) (.cons (.tup (.cons (.lit (.int 1)) (.cons (.lit (.int 1)) .nil))) .nil))) (.cons (.lst (.cons (.tup (.cons (.lit (.str "a")) .nil)) (.cons (.tup .nil) .nil))) (.cons (.tup (.cons (.tup (.cons (.lit (.str "a")) (.cons (.lit (.str "b")) .nil))) (.cons (.tup (.cons (.lit (.int 4)) .nil)) .nil))) .nil))))))) (.cons (.call 6 [(0, 1)] (.cons (.var 1) (.cons (.lit (.int 6)) .nil))) .nil))))
  (.seq (.set 13 (.blt .idx (.cons (.lst (.cons (.var 6) (.cons (.var 7) (.cons (.var 12) .nil)))) (.cons (.call 6 [(0, 1)] (.cons (.var 1) (.cons (.lit (.int 3)) .nil))) .nil))))
  (.seq (.set 10 (.call 6 [(0, 1)] (.cons (.var 1) (.cons (.lit (.int 4)) .nil))))
  (.seq (.set 14 (.blt .idx (.cons (.lst (.cons (.lst (.cons (.lit (.str "middle")) (.cons (.lit (.str "first")) (.cons (.lit (.str "second")) .nil)))) (.cons (.lst (.cons (.lit (.str "first")) (.cons (.lit (.str "second")) .nil))) (.cons (.lst (.cons (.lit (.str "first")) (.cons (.lit (.str "second")) .nil))) (.cons (.lst (.cons (.lit (.str "first")) (.cons (.lit (.str "second")) .nil))) .nil))))) (.cons (.var 10) .nil))))
  (.seq (.ite (.and (.cmp .eq (.var 10) (.lit (.int 0))) (.cmp .eq (.var 12) (.tup (.cons (.tup .nil) (.cons (.tup .nil) .nil))))) (.seq (.set 12 (.tup (.cons (.var 2) (.cons (.tup (.cons (.lit (.int 1)) .nil)) .nil))))
  (.set 13 (.blt .idx (.cons (.lst (.cons (.var 6) (.cons (.var 7) (.cons (.var 12) .nil)))) (.cons (.call 6 [(0, 1)] (.cons (.var 1) (.cons (.lit (.int 3)) .nil))) .nil))))) .skip)
  (.seq (.ite (.or (.cmp .ne (.call 9901 [] (.cons (.var 10) (.cons (.var 12) (.cons (.var 13) (.cons (.var 13) .nil))))) (.blt .idx (.cons (.var 14) (.cons (.lit (.int 0)) .nil)))) (.cmp .ne (.call 9901 [] (.cons (.var 10) (.cons (.var 4) (.cons (.var 13) (.cons (.var 13) .nil))))) (.blt .idx (.cons (.var 14) (.cons (.lit (.int 1)) .nil))))) (.ret (.lit (.bl false))) .skip)
  (.seq (.ite (.and (.cmp .eq (.var 10) (.lit (.int 0))) (.cmp .ne (.call 9901 [] (.cons (.lit (.int 0)) (.cons (.var 4) (.cons (.var 5) (.cons (.var 13) .nil))))) (.lit (.str "second")))) (.ret (.lit (.bl false))) .skip)
  (.ret (.cmp .eq (.call 9901 [] (.cons (.var 10) (.cons (.var 4) (.cons (.var 5) (.cons (.var 4) .nil))))) (.lit (.str ""))))))))))))))))))))))))⟩
def own : List Fd := [f9900, f9901, f9902]
def T : Tab := tabOf [(0, GAl), (4, GEl), (6, GGl), (99, own)]
instance : Has T 0 GAl := Has.of rfl
instance : Has T 4 GEl := Has.of rfl
instance : Has T 6 GGl := Has.of rfl
instance : Has T 99 own := Has.of rfl
theorem c8 : compD ["value"] 1 [] false fns consts nos exs cls (defScope (topS 8)) (defBody (topS 8)) = some f0 := by kernel_rfl
theorem s8 : FnScope ["value"] ["value"] (defScope (topS 8)) := ⟨rfl, rfl, rfl, by decide +kernel, rfl, by decide +kernel, by decide +kernel⟩
theorem c9 : compD ["value"] 1 [] false fns consts nos exs cls (defScope (topS 9)) (defBody (topS 9)) = some f1 := by kernel_rfl
theorem s9 : FnScope ["value"] ["value"] (defScope (topS 9)) := ⟨rfl, rfl, rfl, by decide +kernel, rfl, by decide +kernel, by decide +kernel⟩
theorem c10 : compD ["value", "sign"] 1 [] false fns consts nos exs cls (defScope (topS 10)) (defBody (topS 10)) = some f2 := by kernel_rfl
theorem s10 : FnScope ["value", "sign"] ["value"] (defScope (topS 10)) := ⟨rfl, rfl, rfl, by decide +kernel, rfl, by decide +kernel, by decide +kernel⟩
theorem c11 : compD ["value", "one"] 1 [] false fns consts nos exs cls (defScope (topS 11)) (defBody (topS 11)) = some f3 := by kernel_rfl
theorem s11 : FnScope ["value", "one"] ["value"] (defScope (topS 11)) := ⟨rfl, rfl, rfl, by decide +kernel, rfl, by decide +kernel, by decide +kernel⟩
theorem c12 : compD ["value", "letters", "strengths", "one"] 1 [] false fns consts nos exs cls (defScope (topS 12)) (defBody (topS 12)) = some f4 := by kernel_rfl
theorem s12 : FnScope ["value", "letters", "strengths", "one"] ["value"] (defScope (topS 12)) := ⟨rfl, rfl, rfl, by decide +kernel, rfl, by decide +kernel, by decide +kernel⟩
theorem c13 : compD ["order", "letter", "letters", "strengths", "at", "left"] 2 [] false fns consts nos exs cls (defScope (topS 13)) (defBody (topS 13)) = some f22 := by kernel_rfl
theorem s13 : FnScope ["order", "letter", "letters", "strengths", "at", "left"] ["order", "letter"] (defScope (topS 13)) := ⟨rfl, rfl, rfl, by decide +kernel, rfl, by decide +kernel, by decide +kernel⟩
theorem c15 : compD ["order", "at", "letter"] 1 [] false fns consts nos exs cls (defScope (topS 15)) (defBody (topS 15)) = some f401 := by kernel_rfl
theorem s15 : FnScope ["order", "at", "letter"] ["order"] (defScope (topS 15)) := ⟨rfl, rfl, rfl, by decide +kernel, rfl, by decide +kernel, by decide +kernel⟩
theorem c16 : compD ["order", "low", "high"] 3 [] false fns consts nos exs cls (defScope (topS 16)) (defBody (topS 16)) = some f402 := by kernel_rfl
theorem s16 : FnScope ["order", "low", "high"] ["order", "low", "high"] (defScope (topS 16)) := ⟨rfl, rfl, rfl, by decide +kernel, rfl, by decide +kernel, by decide +kernel⟩
theorem c18 : compD ["pairs", "lengths", "found", "left", "choices", "i", "one"] 1 [] false fns consts nos exs cls (defScope (topS 18)) (defBody (topS 18)) = some f600 := by kernel_rfl
theorem s18 : FnScope ["pairs", "lengths", "found", "left", "choices", "i", "one"] ["pairs"] (defScope (topS 18)) := ⟨rfl, rfl, rfl, by decide +kernel, rfl, by decide +kernel, by decide +kernel⟩
theorem c19 : compD ["first", "second"] 2 [] false fns consts nos exs cls (defScope (topS 19)) (defBody (topS 19)) = some f601 := by kernel_rfl
theorem s19 : FnScope ["first", "second"] ["first", "second"] (defScope (topS 19)) := ⟨rfl, rfl, rfl, by decide +kernel, rfl, by decide +kernel, by decide +kernel⟩
theorem c20 : compD ["value"] 1 [] false fns consts nos exs cls (defScope (topS 20)) (defBody (topS 20)) = some f0 := by kernel_rfl
theorem s20 : FnScope ["value"] ["value"] (defScope (topS 20)) := ⟨rfl, rfl, rfl, by decide +kernel, rfl, by decide +kernel, by decide +kernel⟩
theorem c21 : compD ["first", "second", "levels", "one", "pairs", "at", "row", "level", "i", "j"] 3 [] false fns consts nos exs cls (defScope (topS 21)) (defBody (topS 21)) = some f608 := by kernel_rfl
theorem s21 : FnScope ["first", "second", "levels", "one", "pairs", "at", "row", "level", "i", "j"] ["first", "second", "levels"] (defScope (topS 21)) := ⟨rfl, rfl, rfl, by decide +kernel, rfl, by decide +kernel, by decide +kernel⟩
theorem c23 : compD ["order"] 1 [] false fns consts nos exs cls (defScope (topS 23)) (defBody (topS 23)) = some f40 := by kernel_rfl
theorem s23 : FnScope ["order"] ["order"] (defScope (topS 23)) := ⟨rfl, rfl, rfl, by decide +kernel, rfl, by decide +kernel, by decide +kernel⟩
theorem c24 : compD ["order", "anchor", "strength", "letter", "letters", "strengths", "at", "row"] 4 [] false fns consts nos exs cls (defScope (topS 24)) (defBody (topS 24)) = some f41 := by kernel_rfl
theorem s24 : FnScope ["order", "anchor", "strength", "letter", "letters", "strengths", "at", "row"] ["order", "anchor", "strength", "letter"] (defScope (topS 24)) := ⟨rfl, rfl, rfl, by decide +kernel, rfl, by decide +kernel, by decide +kernel⟩
theorem c25 : compD ["order", "rule", "side", "anchor", "strength", "letter"] 2 [] false fns consts nos exs cls (defScope (topS 25)) (defBody (topS 25)) = some f42 := by kernel_rfl
theorem s25 : FnScope ["order", "rule", "side", "anchor", "strength", "letter"] ["order", "rule"] (defScope (topS 25)) := ⟨rfl, rfl, rfl, by decide +kernel, rfl, by decide +kernel, by decide +kernel⟩
theorem c27 : compD ["second", "low", "high", "letters", "strengths", "at"] 3 [] true fns consts nos exs cls (defScope (topS 27)) (defBody (topS 27)) = some f612 := by kernel_rfl
theorem s27 : FnScope ["second", "low", "high", "letters", "strengths", "at"] ["second", "low", "high"] (defScope (topS 27)) := ⟨rfl, rfl, rfl, by decide +kernel, rfl, by decide +kernel, by decide +kernel⟩
theorem c28 : compD ["second", "low", "high", "letters", "strengths", "at"] 3 [] true fns consts nos exs cls (defScope (topS 28)) (defBody (topS 28)) = some f613 := by kernel_rfl
theorem s28 : FnScope ["second", "low", "high", "letters", "strengths", "at"] ["second", "low", "high"] (defScope (topS 28)) := ⟨rfl, rfl, rfl, by decide +kernel, rfl, by decide +kernel, by decide +kernel⟩
theorem c29 : compD ["second", "low", "high", "strongest", "cut"] 3 [] true fns consts nos exs cls (defScope (topS 29)) (defBody (topS 29)) = some f614 := by kernel_rfl
theorem s29 : FnScope ["second", "low", "high", "strongest", "cut"] ["second", "low", "high"] (defScope (topS 29)) := ⟨rfl, rfl, rfl, by decide +kernel, rfl, by decide +kernel, by decide +kernel⟩
theorem c30 : compD ["second", "letters", "places", "letter", "found", "low", "high"] 2 [] false fns consts nos exs cls (defScope (topS 30)) (defBody (topS 30)) = some f615 := by kernel_rfl
theorem s30 : FnScope ["second", "letters", "places", "letter", "found", "low", "high"] ["second", "letters"] (defScope (topS 30)) := ⟨rfl, rfl, rfl, by decide +kernel, rfl, by decide +kernel, by decide +kernel⟩
theorem c32 : compD ["first", "second"] 2 [] false fns consts nos exs cls (defScope (topS 32)) (defBody (topS 32)) = some f618 := by kernel_rfl
theorem s32 : FnScope ["first", "second"] ["first", "second"] (defScope (topS 32)) := ⟨rfl, rfl, rfl, by decide +kernel, rfl, by decide +kernel, by decide +kernel⟩
theorem c33 : compD ["first", "second"] 2 [] false fns consts nos exs cls (defScope (topS 33)) (defBody (topS 33)) = some f620 := by kernel_rfl
theorem s33 : FnScope ["first", "second"] ["first", "second"] (defScope (topS 33)) := ⟨rfl, rfl, rfl, by decide +kernel, rfl, by decide +kernel, by decide +kernel⟩
theorem c36 : compD ["value", "letters"] 2 [] false fns consts nos exs cls (defScope (topS 36)) (defBody (topS 36)) = some f634 := by kernel_rfl
theorem s36 : FnScope ["value", "letters"] ["value", "letters"] (defScope (topS 36)) := ⟨rfl, rfl, rfl, by decide +kernel, rfl, by decide +kernel, by decide +kernel⟩
theorem c37 : compD ["value", "order"] 1 [] false fns consts nos exs cls (defScope (topS 37)) (defBody (topS 37)) = some f635 := by kernel_rfl
theorem s37 : FnScope ["value", "order"] ["value"] (defScope (topS 37)) := ⟨rfl, rfl, rfl, by decide +kernel, rfl, by decide +kernel, by decide +kernel⟩
theorem c38 : compD ["value"] 1 [] false fns consts nos exs cls (defScope (topS 38)) (defBody (topS 38)) = some f636 := by kernel_rfl
theorem s38 : FnScope ["value"] ["value"] (defScope (topS 38)) := ⟨rfl, rfl, rfl, by decide +kernel, rfl, by decide +kernel, by decide +kernel⟩
theorem c39 : compD ["value", "order", "name"] 3 [] false fns consts nos exs cls (defScope (topS 39)) (defBody (topS 39)) = some f644 := by kernel_rfl
theorem s39 : FnScope ["value", "order", "name"] ["value", "order", "name"] (defScope (topS 39)) := ⟨rfl, rfl, rfl, by decide +kernel, rfl, by decide +kernel, by decide +kernel⟩
theorem c40 : compD ["value", "name"] 2 [] false fns consts nos exs cls (defScope (topS 40)) (defBody (topS 40)) = some f645 := by kernel_rfl
theorem s40 : FnScope ["value", "name"] ["value", "name"] (defScope (topS 40)) := ⟨rfl, rfl, rfl, by decide +kernel, rfl, by decide +kernel, by decide +kernel⟩
theorem c41 : compD ["orders", "one", "other"] 1 [] false fns consts nos exs cls (defScope (topS 41)) (defBody (topS 41)) = some f637 := by kernel_rfl
theorem s41 : FnScope ["orders", "one", "other"] ["orders"] (defScope (topS 41)) := ⟨rfl, rfl, rfl, by decide +kernel, rfl, by decide +kernel, by decide +kernel⟩
theorem c42 : compD ["orders"] 1 [] false fns consts nos exs cls (defScope (topS 42)) (defBody (topS 42)) = some f638 := by kernel_rfl
theorem s42 : FnScope ["orders"] ["orders"] (defScope (topS 42)) := ⟨rfl, rfl, rfl, by decide +kernel, rfl, by decide +kernel, by decide +kernel⟩
theorem c43 : compD ["orders"] 1 [] false fns consts nos exs cls (defScope (topS 43)) (defBody (topS 43)) = some f639 := by kernel_rfl
theorem s43 : FnScope ["orders"] ["orders"] (defScope (topS 43)) := ⟨rfl, rfl, rfl, by decide +kernel, rfl, by decide +kernel, by decide +kernel⟩
theorem c44 : compD ["orders"] 1 [] false fns consts nos exs cls (defScope (topS 44)) (defBody (topS 44)) = some f640 := by kernel_rfl
theorem s44 : FnScope ["orders"] ["orders"] (defScope (topS 44)) := ⟨rfl, rfl, rfl, by decide +kernel, rfl, by decide +kernel, by decide +kernel⟩
theorem c45 : compD ["orders", "distances", "order"] 1 [] false fns consts nos exs cls (defScope (topS 45)) (defBody (topS 45)) = some f641 := by kernel_rfl
theorem s45 : FnScope ["orders", "distances", "order"] ["orders"] (defScope (topS 45)) := ⟨rfl, rfl, rfl, by decide +kernel, rfl, by decide +kernel, by decide +kernel⟩
theorem c46 : compD ["orders", "found", "one", "other"] 1 [] false fns consts nos exs cls (defScope (topS 46)) (defBody (topS 46)) = some f647 := by kernel_rfl
theorem s46 : FnScope ["orders", "found", "one", "other"] ["orders"] (defScope (topS 46)) := ⟨rfl, rfl, rfl, by decide +kernel, rfl, by decide +kernel, by decide +kernel⟩
theorem c47 : compD ["orders", "moved", "rule", "letter"] 1 [] false fns consts nos exs cls (defScope (topS 47)) (defBody (topS 47)) = some f648 := by kernel_rfl
theorem s47 : FnScope ["orders", "moved", "rule", "letter"] ["orders"] (defScope (topS 47)) := ⟨rfl, rfl, rfl, by decide +kernel, rfl, by decide +kernel, by decide +kernel⟩
theorem c48 : compD ["middle", "first", "second"] 3 [] false fns consts nos exs cls (defScope (topS 48)) (defBody (topS 48)) = some f646 := by kernel_rfl
theorem s48 : FnScope ["middle", "first", "second"] ["middle", "first", "second"] (defScope (topS 48)) := ⟨rfl, rfl, rfl, by decide +kernel, rfl, by decide +kernel, by decide +kernel⟩
theorem c50 : compD ["first", "second", "letter"] 2 [] false fns consts nos exs cls (defScope (topS 50)) (defBody (topS 50)) = some f649 := by kernel_rfl
theorem s50 : FnScope ["first", "second", "letter"] ["first", "second"] (defScope (topS 50)) := ⟨rfl, rfl, rfl, by decide +kernel, rfl, by decide +kernel, by decide +kernel⟩
theorem c51 : compD ["first", "second"] 2 [] false fns consts nos exs cls (defScope (topS 51)) (defBody (topS 51)) = some f650 := by kernel_rfl
theorem s51 : FnScope ["first", "second"] ["first", "second"] (defScope (topS 51)) := ⟨rfl, rfl, rfl, by decide +kernel, rfl, by decide +kernel, by decide +kernel⟩
theorem c52 : compD ["first", "second", "found", "rule"] 2 [] false fns consts nos exs cls (defScope (topS 52)) (defBody (topS 52)) = some f651 := by kernel_rfl
theorem s52 : FnScope ["first", "second", "found", "rule"] ["first", "second"] (defScope (topS 52)) := ⟨rfl, rfl, rfl, by decide +kernel, rfl, by decide +kernel, by decide +kernel⟩
theorem c53 : compD ["first", "second", "value", "order", "one", "other"] 3 [] false fns consts nos exs cls (defScope (topS 53)) (defBody (topS 53)) = some f652 := by kernel_rfl
theorem s53 : FnScope ["first", "second", "value", "order", "one", "other"] ["first", "second", "value"] (defScope (topS 53)) := ⟨rfl, rfl, rfl, by decide +kernel, rfl, by decide +kernel, by decide +kernel⟩
theorem c54 : compD ["first", "second", "row", "levels"] 4 [] false fns consts nos exs cls (defScope (topS 54)) (defBody (topS 54)) = some f653 := by kernel_rfl
theorem s54 : FnScope ["first", "second", "row", "levels"] ["first", "second", "row", "levels"] (defScope (topS 54)) := ⟨rfl, rfl, rfl, by decide +kernel, rfl, by decide +kernel, by decide +kernel⟩
theorem c56 : compD ["_law_script"] 1 [] true fns consts nos exs cls (defScope (topS 56)) (defBody (topS 56)) = some f5 := by kernel_rfl
theorem s56 : FnScope ["_law_script"] ["_law_script"] (defScope (topS 56)) := ⟨rfl, rfl, rfl, by decide +kernel, rfl, by decide +kernel, by decide +kernel⟩
theorem c57 : compD ["_law_stream_here", "_law_many", "_law_k", "_law_cell", "_law_digit"] 2 [0] false fns consts nos exs cls (defScope (topS 57)) (defBody (topS 57)) = some f6 := by kernel_rfl
theorem s57 : FnScope ["_law_stream_here", "_law_many", "_law_k", "_law_cell", "_law_digit"] ["_law_stream_here", "_law_many"] (defScope (topS 57)) := ⟨rfl, rfl, rfl, by decide +kernel, rfl, by decide +kernel, by decide +kernel⟩
theorem c58 : compD ["_law_which", "_law_orders", "e"] 2 [] false fns consts nos exs cls (defScope (topS 58)) (defBody (topS 58)) = some f9900 := by kernel_rfl
theorem s58 : FnScope ["_law_which", "_law_orders", "e"] ["_law_which", "_law_orders"] (defScope (topS 58)) := ⟨rfl, rfl, rfl, by decide +kernel, rfl, by decide +kernel, by decide +kernel⟩
theorem c59 : compD ["_law_which", "_law_one", "_law_two", "_law_three", "e"] 4 [] false fns consts nos exs cls (defScope (topS 59)) (defBody (topS 59)) = some f9901 := by kernel_rfl
theorem s59 : FnScope ["_law_which", "_law_one", "_law_two", "_law_three", "e"] ["_law_which", "_law_one", "_law_two", "_law_three"] (defScope (topS 59)) := ⟨rfl, rfl, rfl, by decide +kernel, rfl, by decide +kernel, by decide +kernel⟩
theorem c60 : compD ["_law_script", "_law_stream_here", "_law_letters", "_law_strengths", "_law_order", "_law_back", "_law_shorter", "_law_other", "_law_wrong", "_law_bad", "_law_which", "_law_good", "_law_none", "_law_unlike", "_law_names"] 1 [] false fns consts nos exs cls (defScope (topS 60)) (defBody (topS 60)) = some f9902 := by kernel_rfl
theorem s60 : FnScope ["_law_script", "_law_stream_here", "_law_letters", "_law_strengths", "_law_order", "_law_back", "_law_shorter", "_law_other", "_law_wrong", "_law_bad", "_law_which", "_law_good", "_law_none", "_law_unlike", "_law_names"] ["_law_script"] (defScope (topS 60)) := ⟨rfl, rfl, rfl, by decide +kernel, rfl, by decide +kernel, by decide +kernel⟩
theorem c17_0 : compD ["self", "first", "second", "at", "letter", "j", "i"] 3 [0] false fns consts nos exs cls (defScope (iniS (topS 17) 0)) (defBody (iniS (topS 17) 0)) = some f603 := by kernel_rfl
theorem s17_0 : FnScope ["self", "first", "second", "at", "letter", "j", "i"] ["self", "first", "second"] (defScope (iniS (topS 17) 0)) := ⟨rfl, rfl, rfl, by decide +kernel, rfl, by decide +kernel, by decide +kernel⟩
theorem c17_1 : compD ["self", "i", "j", "low", "high"] 3 [] false fns consts nos exs cls (defScope (iniS (topS 17) 1)) (defBody (iniS (topS 17) 1)) = some f604 := by kernel_rfl
theorem s17_1 : FnScope ["self", "i", "j", "low", "high"] ["self", "i", "j"] (defScope (iniS (topS 17) 1)) := ⟨rfl, rfl, rfl, by decide +kernel, rfl, by decide +kernel, by decide +kernel⟩
theorem c17_2 : compD ["self", "found", "_", "i", "j"] 1 [] true fns consts nos exs cls (defScope (iniS (topS 17) 2)) (defBody (iniS (topS 17) 2)) = some f605 := by kernel_rfl
theorem s17_2 : FnScope ["self", "found", "_", "i", "j"] ["self"] (defScope (iniS (topS 17) 2)) := ⟨rfl, rfl, rfl, by decide +kernel, rfl, by decide +kernel, by decide +kernel⟩
theorem c17_3 : compD ["self", "found", "_", "i", "j"] 1 [] true fns consts nos exs cls (defScope (iniS (topS 17) 3)) (defBody (iniS (topS 17) 3)) = some f610 := by kernel_rfl
theorem s17_3 : FnScope ["self", "found", "_", "i", "j"] ["self"] (defScope (iniS (topS 17) 3)) := ⟨rfl, rfl, rfl, by decide +kernel, rfl, by decide +kernel, by decide +kernel⟩
end W84

/-! Orders as plain lists: differences, a letter taken out, a letter put in. -/
namespace Pv
section
variable {f g : Nat → Int} {i j k n : Nat} {s t : Int}
/-- the least of n values from i on, at most 4 -/
def rmin (f : Nat → Int) (i : Nat) : Nat → Int
  | 0 => 4
  | n + 1 => min (f i) (rmin f (i + 1) n)
theorem lt_rmin : ∀ {n i : Nat}, s < rmin f i n ↔ s < 4 ∧ ∀ k, i ≤ k → k < i + n → s < f k
  | 0, i => by simp only [rmin]; exact ⟨fun h => ⟨h, fun k _ _ => by omega⟩, fun h => h.1⟩
  | n + 1, i => by
    simp only [rmin]
    have ih := @lt_rmin n (i + 1)
    constructor
    · intro h
      have h2 := ih.mp (by omega)
      refine ⟨h2.1, fun k h3 h4 => ?_⟩
      by_cases e : k = i
      · subst e; omega
      · exact h2.2 k (by omega) (by omega)
    · rintro ⟨h1, h2⟩
      have h3 := ih.mpr ⟨h1, fun k h3 h4 => h2 k (by omega) (by omega)⟩
      have h4 := h2 i (by omega) (by omega)
      omega
/-- the difference of two places -/
def Df (f : Nat → Int) (i j : Nat) : Int := rmin f (min i j) (max i j - min i j)
theorem lt_Df : s < Df f i j ↔ s < 4 ∧ ∀ k, min i j ≤ k → k < max i j → s < f k := by
  unfold Df
  rw [lt_rmin]
  constructor
  · rintro ⟨h1, h2⟩; exact ⟨h1, fun k h3 h4 => h2 k h3 (by omega)⟩
  · rintro ⟨h1, h2⟩; exact ⟨h1, fun k h3 h4 => h2 k h3 (by omega)⟩
theorem int_ext {a b : Int} (h : ∀ s, s < a ↔ s < b) : a = b := by
  have h1 := h (a - 1)
  have h2 := h (b - 1)
  omega
end

section
variable {α : Type} [DecidableEq α]
abbrev Od (α : Type) := List α × List Int
def st (o : Od α) (k : Nat) : Int := o.2.getD k 0
def ix (o : Od α) (x : α) : Nat := o.1.idxOf x
/-- the difference of two letters -/
def dif (o : Od α) (x y : α) : Int := Df (st o) (ix o x) (ix o y)
structure Ok (o : Od α) : Prop where
  nd : o.1.Nodup
  len : o.2.length = o.1.length - 1
  rg : ∀ s ∈ o.2, 1 ≤ s ∧ s ≤ 3
variable {o o' : Od α} {x y z a : α} {k n : Nat} {s : Int}
theorem st_get (h : k < o.2.length) : st o k = o.2[k] := by unfold st; simp [h]
theorem Ok.st (w : Ok o) (h : k + 1 < o.1.length) : 1 ≤ st o k ∧ st o k ≤ 3 := by
  have := w.len
  rw [st_get (by omega)]
  exact w.rg _ (List.getElem_mem _)
theorem ix_lt (h : x ∈ o.1) : ix o x < o.1.length := List.idxOf_lt_length_of_mem h
theorem get_ix (h : x ∈ o.1) : o.1[ix o x]'(ix_lt h) = x := List.getElem_idxOf (ix_lt h)
theorem ix_get (w : Ok o) (h : k < o.1.length) : ix o o.1[k] = k := List.Nodup.idxOf_getElem w.nd k h
theorem ix_inj (hx : x ∈ o.1) (hy : y ∈ o.1) (h : ix o x = ix o y) : x = y := by
  have h1 := get_ix hx
  have h2 := get_ix hy
  rw [← h1, ← h2]
  simp only [h]
/-! ### a letter taken out -/
def rmv (o : Od α) (x : α) : Od α :=
  (o.1.take (ix o x) ++ o.1.drop (ix o x + 1),
    if ix o x = 0 then o.2.drop 1 else if ix o x = o.1.length - 1 then o.2.dropLast
    else o.2.take (ix o x - 1) ++ [min (st o (ix o x - 1)) (st o (ix o x))] ++ o.2.drop (ix o x + 1))
theorem rmv_len (hx : x ∈ o.1) : (rmv o x).1.length = o.1.length - 1 := by
  have := ix_lt hx
  unfold rmv
  simp only [List.length_append, List.length_take, List.length_drop]
  omega
theorem rmv_get (hx : x ∈ o.1) (h : k < (rmv o x).1.length) (h2 : (if k < ix o x then k else k + 1) < o.1.length) : (rmv o x).1[k] = o.1[if k < ix o x then k else k + 1] := by
  have h0 := ix_lt hx
  have h1 := rmv_len hx
  have e : (rmv o x).1[k]? = o.1[if k < ix o x then k else k + 1]? := by
    show (o.1.take (ix o x) ++ o.1.drop (ix o x + 1))[k]? = _
    rw [List.getElem?_append, List.length_take, List.getElem?_take, List.getElem?_drop]
    by_cases c : k < ix o x
    · rw [if_pos (by omega), if_pos c, if_pos c]
    · rw [if_neg (by omega), if_neg c]
      congr 1; omega
  rw [List.getElem?_eq_getElem h, List.getElem?_eq_getElem h2] at e
  exact Option.some.inj e
theorem rmv_slen (w : Ok o) (hx : x ∈ o.1) : (rmv o x).2.length = o.1.length - 1 - 1 := by
  have h0 := ix_lt hx
  have h1 := w.len
  unfold rmv
  dsimp only
  split
  · simp; omega
  · split
    · simp; omega
    · simp; omega
theorem st_eq : st o k = (o.2[k]?).getD 0 := by unfold st; rw [List.getD_eq_getElem?_getD]
theorem rmv_st (w : Ok o) (hx : x ∈ o.1) (h : k + 1 < o.1.length - 1) : st (rmv o x) k = if k + 1 < ix o x then st o k else if k + 1 = ix o x then min (st o k) (st o (k + 1)) else st o (k + 1) := by
  have h0 := ix_lt hx
  have h1 := w.len
  rw [st_eq]
  unfold rmv
  dsimp only
  by_cases e1 : ix o x = 0
  · rw [if_pos e1, if_neg (by omega), if_neg (by omega), st_eq, List.getElem?_drop]
    congr 2; omega
  · rw [if_neg e1]
    by_cases e2 : ix o x = o.1.length - 1
    · rw [if_pos e2, if_pos (by omega), st_eq, List.getElem?_dropLast, if_pos (by omega)]
    · rw [if_neg e2, List.append_assoc, List.getElem?_append, List.length_take, List.getElem?_append, List.length_singleton, List.getElem?_take, List.getElem?_drop]
      by_cases c1 : k + 1 < ix o x
      · rw [if_pos (by omega), if_pos (by omega), if_pos c1, st_eq]
      · rw [if_neg (by omega), if_neg c1]
        by_cases c2 : k + 1 = ix o x
        · rw [if_pos (by omega), if_pos c2]
          have e3 : ix o x - 1 = k := by omega
          have e4 : k - min (ix o x - 1) o.2.length = 0 := by omega
          rw [e4, e3, ← c2]
          rfl
        · rw [if_neg (by omega), if_neg c2, st_eq]
          congr 2; omega
theorem rmv_rows (hx : x ∈ o.1) (w : Ok o) : (rmv o x).1 = o.1.filter fun y => decide (y ≠ x) := by
  have h0 := ix_lt hx
  have key : ∀ (l : List α), l.Nodup → x ∈ l → l.take (l.idxOf x) ++ l.drop (l.idxOf x + 1) = l.filter fun y => decide (y ≠ x) := by
    intro l
    induction l with
    | nil => intro _ h; cases h
    | cons b l ih =>
      intro hn hm
      rw [List.nodup_cons] at hn
      by_cases e : b = x
      · subst e
        have : l.filter (fun y => decide (y ≠ b)) = l := List.filter_eq_self.mpr fun y hy => by
          have : y ≠ b := fun e => hn.1 (by rw [← e]; exact hy)
          simp [this]
        rw [List.filter_cons_of_neg (by simp), this]
        simp
      · have hm' : x ∈ l := by
          rcases List.mem_cons.mp hm with q | q
          · exact absurd q.symm e
          · exact q
        have := ih hn.2 hm'
        have e2 : (b :: l).idxOf x = l.idxOf x + 1 := by
          simp only [List.idxOf, List.findIdx_cons, beq_false_of_ne e]
          rfl
        rw [e2, List.filter_cons_of_pos (by simp [e]), ← this]
        rfl
  exact key o.1 w.nd hx
theorem mem_rmv (w : Ok o) (hx : x ∈ o.1) : y ∈ (rmv o x).1 ↔ y ∈ o.1 ∧ y ≠ x := by
  rw [rmv_rows hx w]; simp
theorem Ok.rmv (w : Ok o) (hx : x ∈ o.1) : Ok (rmv o x) := by
  refine ⟨by rw [rmv_rows hx w]; exact w.nd.filter _, by rw [rmv_slen w hx, rmv_len hx], fun s hs => ?_⟩
  obtain ⟨k, hk, rfl⟩ := List.getElem_of_mem hs
  have h2 := rmv_slen w hx
  have h3 := ix_lt hx
  rw [← st_get hk, rmv_st w hx (by omega)]
  have a := w.st (k := k) (by omega)
  have b := w.st (k := k + 1) (by omega)
  split
  · exact a
  · split
    · omega
    · exact b
/-- the place in what is left -/
theorem ix_rmv (w : Ok o) (hx : x ∈ o.1) (hy : y ∈ o.1) (h : y ≠ x) : ix (rmv o x) y = if ix o y < ix o x then ix o y else ix o y - 1 := by
  have h1 := ix_lt hx
  have h2 := ix_lt hy
  have h3 : ix o y ≠ ix o x := fun e => h (ix_inj hy hx e)
  have h4 := rmv_len hx
  obtain ⟨p, hp, hp2⟩ : ∃ p, p = (if ix o y < ix o x then ix o y else ix o y - 1) ∧ (if p < ix o x then p else p + 1) = ix o y := ⟨_, rfl, by grind⟩
  have hp3 : p < (rmv o x).1.length := by grind
  have e : (rmv o x).1[p] = y := by
    rw [rmv_get hx hp3 (by rw [hp2]; exact h2)]
    simp only [hp2]
    exact get_ix hy
  have := ix_get (w.rmv hx) hp3
  rw [e] at this
  rw [this, hp]
theorem dif_rmv (w : Ok o) (hx : x ∈ o.1) (hy : y ∈ o.1) (hz : z ∈ o.1) (h1 : y ≠ x) (h2 : z ≠ x) : dif (rmv o x) y z = dif o y z := by
  have a1 := ix_lt hx
  have a2 := ix_lt hy
  have a3 := ix_lt hz
  have b1 : ix o y ≠ ix o x := fun e => h1 (ix_inj hy hx e)
  have b2 : ix o z ≠ ix o x := fun e => h2 (ix_inj hz hx e)
  unfold dif
  rw [ix_rmv w hx hy h1, ix_rmv w hx hz h2]
  obtain ⟨p, hp⟩ : ∃ p, p = (if ix o y < ix o x then ix o y else ix o y - 1) := ⟨_, rfl⟩
  obtain ⟨r, hr⟩ : ∃ p, p = (if ix o z < ix o x then ix o z else ix o z - 1) := ⟨_, rfl⟩
  rw [← hp, ← hr]
  have hp' : (ix o y < ix o x ∧ p = ix o y) ∨ (ix o x < ix o y ∧ p + 1 = ix o y) := by grind
  have hr' : (ix o z < ix o x ∧ r = ix o z) ∨ (ix o x < ix o z ∧ r + 1 = ix o z) := by grind
  clear hp hr
  refine int_ext fun s => ?_
  rw [lt_Df, lt_Df]
  constructor
  · rintro ⟨u, q⟩
    refine ⟨u, fun k k1 k2 => ?_⟩
    by_cases c : k < ix o x
    · have := q k (by omega) (by omega)
      by_cases c1 : k + 1 = ix o x
      · rw [rmv_st w hx (by omega), if_neg (by omega), if_pos c1] at this
        omega
      · rw [rmv_st w hx (by omega), if_pos (by omega)] at this
        exact this
    · have := q (k - 1) (by omega) (by omega)
      rw [rmv_st w hx (by omega), if_neg (by omega)] at this
      have e : k - 1 + 1 = k := by omega
      rw [e] at this
      by_cases c1 : k = ix o x
      · rw [if_pos c1] at this; omega
      · rw [if_neg c1] at this; exact this
  · rintro ⟨u, q⟩
    refine ⟨u, fun k k1 k2 => ?_⟩
    rw [rmv_st w hx (by omega)]
    by_cases c1 : k + 1 < ix o x
    · rw [if_pos c1]; exact q k (by omega) (by omega)
    · rw [if_neg c1]
      by_cases c2 : k + 1 = ix o x
      · rw [if_pos c2]
        have u1 := q k (by omega) (by omega)
        have u2 := q (k + 1) (by omega) (by omega)
        omega
      · rw [if_neg c2]; exact q (k + 1) (by omega) (by omega)
end
end Pv

/-! A letter put in. -/
namespace Pv
section
variable {α : Type} [DecidableEq α] {o o' o0 o1 o2 : Od α} {x y z a : α} {k n q : Nat} {s : Int}
def insAt (o : Od α) (q : Nat) (s : Int) (x : α) : Od α := (o.1.take (q + 1) ++ x :: o.1.drop (q + 1), o.2.take q ++ s :: o.2.drop q)
theorem insAt_len (hq : q < o.1.length) : (insAt o q s x).1.length = o.1.length + 1 := by
  unfold insAt; simp only [List.length_append, List.length_take, List.length_cons, List.length_drop]; omega
theorem insAt_slen (w : Ok o) (hq : q < o.1.length) : (insAt o q s x).2.length = o.1.length := by
  have := w.len
  unfold insAt; simp only [List.length_append, List.length_take, List.length_cons, List.length_drop]; omega
theorem insAt_nd (w : Ok o) (hx : x ∉ o.1) : (insAt o q s x).1.Nodup := by
  unfold insAt
  dsimp only
  have h := w.nd
  rw [← List.take_append_drop (q + 1) o.1, List.nodup_append] at h
  rw [List.nodup_append, List.nodup_cons]
  refine ⟨h.1, ⟨fun m => hx (List.mem_of_mem_drop m), h.2.1⟩, fun b hb c hc => ?_⟩
  rcases List.mem_cons.mp hc with rfl | hc
  · exact fun e => hx (by rw [← e]; exact List.mem_of_mem_take hb)
  · exact h.2.2 b hb c hc
theorem Ok.insAt (w : Ok o) (hx : x ∉ o.1) (hq : q < o.1.length) (hs : 1 ≤ s ∧ s ≤ 3) : Ok (insAt o q s x) := by
  refine ⟨insAt_nd w hx, by rw [insAt_slen w hq, insAt_len hq]; omega, fun t ht => ?_⟩
  have : t ∈ o.2.take q ++ s :: o.2.drop q := ht
  rcases List.mem_append.mp this with h | h
  · exact w.rg t (List.mem_of_mem_take h)
  · rcases List.mem_cons.mp h with rfl | h
    · exact hs
    · exact w.rg t (List.mem_of_mem_drop h)
theorem ix_of_get (w : Ok o) (h : o.1[k]? = some y) : ix o y = k := by
  obtain ⟨h1, h2⟩ := List.getElem?_eq_some_iff.mp h
  rw [← h2]
  exact ix_get w h1
theorem get_ix? (h : y ∈ o.1) : o.1[ix o y]? = some y := by rw [List.getElem?_eq_getElem (ix_lt h), get_ix h]
/-- the place at which a letter goes behind an anchor -/
structure RunOk (o : Od α) (a : α) (s : Int) (q : Nat) : Prop where
  lo : ix o a ≤ q
  hi : q < o.1.length
  all : ∀ k, ix o a ≤ k → k < q → s < st o k
  stop : q + 1 < o.1.length → st o q ≤ s
/-! ### in reverse -/
def rev (o : Od α) : Od α := (o.1.reverse, o.2.reverse)
theorem Ok.rev (w : Ok o) : Ok (rev o) := ⟨(List.reverse_perm o.1).nodup_iff.mpr w.nd, by show o.2.reverse.length = o.1.reverse.length - 1; rw [List.length_reverse, List.length_reverse, w.len], fun s hs => w.rg s (List.mem_reverse.mp hs)⟩
theorem mem_rev : x ∈ (rev o).1 ↔ x ∈ o.1 := List.mem_reverse
theorem ix_rev (w : Ok o) (hx : x ∈ o.1) : ix (rev o) x = o.1.length - 1 - ix o x := by
  have h := ix_lt hx
  refine ix_of_get w.rev ?_
  show o.1.reverse[_]? = _
  rw [List.getElem?_reverse (by omega)]
  have : o.1.length - 1 - (o.1.length - 1 - ix o x) = ix o x := by omega
  rw [this]
  exact get_ix? hx
theorem st_rev (w : Ok o) (h : k + 1 < o.1.length) : st (rev o) k = st o (o.1.length - 2 - k) := by
  have := w.len
  rw [st_eq, st_eq]
  show (o.2.reverse[k]?).getD 0 = _
  rw [List.getElem?_reverse (by omega)]
  congr 2; omega
theorem dif_rev (w : Ok o) (hx : x ∈ o.1) (hy : y ∈ o.1) : dif (rev o) x y = dif o x y := by
  have h1 := ix_lt hx
  have h2 := ix_lt hy
  unfold dif
  rw [ix_rev w hx, ix_rev w hy]
  refine int_ext fun s => ?_
  rw [lt_Df, lt_Df]
  constructor
  · rintro ⟨u, h⟩
    refine ⟨u, fun k k1 k2 => ?_⟩
    have := h (o.1.length - 2 - k) (by omega) (by omega)
    rw [st_rev w (by omega)] at this
    have e : o.1.length - 2 - (o.1.length - 2 - k) = k := by omega
    rw [e] at this
    exact this
  · rintro ⟨u, h⟩
    refine ⟨u, fun k k1 k2 => ?_⟩
    rw [st_rev w (by omega)]
    exact h _ (by omega) (by omega)

/-! ### rules -/
structure Rl (α : Type) where
  aft : Bool
  a : α
  s : Int
  x : α
  deriving DecidableEq
variable {r r' : Rl α}
structure RlOk (r : Rl α) : Prop where
  ne : r.a ≠ r.x
  lo : 1 ≤ r.s
  hi : r.s ≤ 3
def runQ (o : Od α) (a : α) (s : Int) : Nat := ix o a + ((o.2.drop (ix o a)).takeWhile fun t => decide (s < t)).length
def putA (o : Od α) (a : α) (s : Int) (x : α) : Od α := insAt o (runQ o a s) s x
/-- a letter that is not there is put -/
def put0 (o : Od α) (r : Rl α) : Od α := if r.aft then putA o r.a r.s r.x else rev (putA (rev o) r.a r.s r.x)
def out (o : Od α) (x : α) : Od α := if x ∈ o.1 then rmv o x else o
def put (o : Od α) (r : Rl α) : Od α := put0 (out o r.x) r
/-- which letters stand ahead of the letter of a rule, by its point -/
def Bef (o : Od α) (r : Rl α) (y : α) : Bool := if r.aft then decide (ix o y ≤ ix o r.a) || decide (r.s < dif o r.a y) else decide (ix o y < ix o r.a) && !decide (r.s < dif o r.a y)
/-- o1 is the result of a rule whose letter o0 does not have -/
structure Is (o0 : Od α) (r : Rl α) (o1 : Od α) : Prop where
  rows : o1.1 = o0.1.filter (Bef o0 r) ++ r.x :: o0.1.filter fun y => !Bef o0 r y
  old : ∀ y, y ∈ o0.1 → ∀ z, z ∈ o0.1 → dif o1 y z = dif o0 y z
  new : ∀ y, y ∈ o0.1 → dif o1 r.x y = min r.s (dif o0 r.a y)
  ok : Ok o1
theorem ix_ne (hy : y ∈ o.1) (hz : z ∈ o.1) (h : y ≠ z) : ix o y ≠ ix o z := fun e => h (ix_inj hy hz e)
def flip (r : Rl α) : Rl α := { r with aft := !r.aft }
theorem Bef_rev (w : Ok o) (ha : r.a ∈ o.1) (hy : y ∈ o.1) : Bef (rev o) (flip r) y = !Bef o r y := by
  have h1 := ix_lt ha
  have h2 := ix_lt hy
  unfold Bef
  show (if (!r.aft) = true then decide (ix (rev o) y ≤ ix (rev o) r.a) || decide (r.s < dif (rev o) r.a y) else decide (ix (rev o) y < ix (rev o) r.a) && !decide (r.s < dif (rev o) r.a y)) = _
  rw [ix_rev w ha, ix_rev w hy, dif_rev w ha hy]
  cases r.aft
  · simp only [Bool.not_false, if_true, Bool.false_eq_true, if_false]
    rw [Bool.eq_iff_iff]
    simp only [Bool.or_eq_true, decide_eq_true_eq, Bool.not_eq_true', Bool.and_eq_false_imp, Bool.not_eq_false']
    omega
  · simp only [Bool.not_true, if_true, Bool.false_eq_true, if_false]
    rw [Bool.eq_iff_iff]
    simp only [Bool.and_eq_true, decide_eq_true_eq, Bool.not_eq_true', Bool.or_eq_false_iff, decide_eq_false_iff_not]
    omega
theorem Is.rev (w : Ok o0) (ha : r.a ∈ o0.1) (h : Is o0 r o1) : Is (rev o0) (flip r) (rev o1) := by
  have mem : ∀ y, y ∈ o0.1 → y ∈ o1.1 := fun y hy => by
    rw [h.rows]
    cases hb : Bef o0 r y
    · simp [hy, hb]
    · simp [hy, hb]
  have memx : r.x ∈ o1.1 := by rw [h.rows]; simp
  refine ⟨?_, fun y hy z hz => ?_, fun y hy => ?_, h.ok.rev⟩
  · show o1.1.reverse = o0.1.reverse.filter _ ++ r.x :: o0.1.reverse.filter _
    have e1 : o0.1.reverse.filter (Bef (Pv.rev o0) (flip r)) = o0.1.reverse.filter fun y => !Bef o0 r y := List.filter_congr fun y hy => Bef_rev w ha (List.mem_reverse.mp hy)
    have e2 : (o0.1.reverse.filter fun y => !Bef (Pv.rev o0) (flip r) y) = o0.1.reverse.filter (Bef o0 r) := List.filter_congr fun y hy => by rw [Bef_rev w ha (List.mem_reverse.mp hy), Bool.not_not]
    rw [e1, e2, h.rows, List.reverse_append, List.reverse_cons, List.filter_reverse, List.filter_reverse]
    simp
  · have hy' := mem_rev.mp hy
    have hz' := mem_rev.mp hz
    rw [dif_rev h.ok (mem y hy') (mem z hz'), dif_rev w hy' hz', h.old y hy' z hz']
  · have hy' := mem_rev.mp hy
    show dif (Pv.rev o1) r.x y = min r.s (dif (Pv.rev o0) r.a y)
    rw [dif_rev h.ok memx (mem y hy'), dif_rev w ha hy', h.new y hy']
theorem Ok.out (w : Ok o) : Ok (out o x) := by
  unfold Pv.out
  split
  · exact w.rmv (by assumption)
  · exact w
theorem mem_out (w : Ok o) : y ∈ (out o x).1 ↔ y ∈ o.1 ∧ y ≠ x := by
  unfold out
  split
  · exact mem_rmv w (by assumption)
  · rename_i h
    exact ⟨fun q => ⟨q, fun e => h (by rw [← e]; exact q)⟩, fun q => q.1⟩
end
end Pv

set_option maxHeartbeats 1000000
/-! Small facts of the small language. -/
namespace Pv
open PySem L2

section
variable {i j : Int} {x y : Str} {b : Bool} {xs ys : List D}
@[simp] theorem binF_add_int : binF .add (.int i) (.int j) = some (.int (i + j)) := rfl
@[simp] theorem binF_sub_int : binF .sub (.int i) (.int j) = some (.int (i - j)) := rfl
@[simp] theorem binF_addI_int : binF .addI (.int i) (.int j) = some (.int (i + j)) := rfl
@[simp] theorem binF_subI_int : binF .subI (.int i) (.int j) = some (.int (i - j)) := rfl
@[simp] theorem binF_mul_int : binF .mul (.int i) (.int j) = if (smallI i || smallI j) = true then some (.int (i * j)) else none := rfl
@[simp] theorem binF_div_int : binF .div (.int i) (.int j) = if 0 < j ∧ j < 1073741824 then some (.int (i / j)) else none := rfl
@[simp] theorem binF_mod_int : binF .mod (.int i) (.int j) = if 0 < j then some (.int (i % j)) else none := rfl
@[simp] theorem binF_pow_int : binF .pow (.int i) (.int j) = if 0 ≤ j ∧ j ≤ 1000000 ∧ i.natAbs < 2 ^ 64 then some (.int (i ^ j.toNat)) else none := rfl
@[simp] theorem unF_neg : unF .neg (.int i) = some (.int (-i)) := rfl
theorem LIM_eq : LIM = 1000000 := rfl
theorem add_tup (h : xs.length + ys.length ≤ 1000000) : binF .add (.tup xs) (.tup ys) = some (.tup (xs ++ ys)) := if_pos h
theorem add_lst (h : xs.length + ys.length ≤ 1000000) : binF .add (.lst xs) (.lst ys) = some (.lst (xs ++ ys)) := if_pos h
theorem eqD_int : eqD (.int i) (.int j) = decide (i = j) := by
  simp only [eqD, toPy, PyData.eqv]; rw [Bool.eq_iff_iff]; simp
theorem eqD_str : eqD (.str x) (.str y) = decide (x = y) := by
  simp only [eqD, toPy, PyData.eqv]; rw [Bool.eq_iff_iff]; simp
@[simp] theorem shal_int : shal (.int i) = true := by simp [shal, dep]
@[simp] theorem shal_str : shal (.str x) = true := by simp [shal, dep]
@[simp] theorem shal_bl : shal (.bl b) = true := by simp [shal, dep]
@[simp] theorem shal_non : shal .non = true := by simp [shal, dep]
@[simp] theorem cmpF_eq_int : cmpF .eq (.int i) (.int j) = some (decide (i = j)) := by simp [cmpF, eqD_int]
@[simp] theorem cmpF_ne_int : cmpF .ne (.int i) (.int j) = some (!decide (i = j)) := by simp [cmpF, eqD_int]
@[simp] theorem cmpF_eq_str : cmpF .eq (.str x) (.str y) = some (decide (x = y)) := by simp [cmpF, eqD_str]
@[simp] theorem cmpF_ne_str : cmpF .ne (.str x) (.str y) = some (!decide (x = y)) := by simp [cmpF, eqD_str]
@[simp] theorem cmpF_lt_int : cmpF .lt (.int i) (.int j) = some (decide (i < j)) := rfl
@[simp] theorem cmpF_le_int : cmpF .le (.int i) (.int j) = some (decide (i ≤ j)) := rfl
@[simp] theorem cmpF_gt_int : cmpF .gt (.int i) (.int j) = some (decide (j < i)) := rfl
@[simp] theorem cmpF_ge_int : cmpF .ge (.int i) (.int j) = some (decide (j ≤ i)) := rfl
@[simp] theorem cmpF_isN {d e : D} : cmpF .isN d e = some (isNon d) := rfl
@[simp] theorem cmpF_notN {d e : D} : cmpF .notN d e = some (!isNon d) := rfl
@[simp] theorem cmpF_isB {d e : D} : cmpF (.isB b) d e = isF (fun c => c == b) d := rfl
@[simp] theorem cmpF_notB {d e : D} : cmpF (.notB b) d e = isF (fun c => !(c == b)) d := rfl
@[simp] theorem truth_bl : truth (.bl b) = b := by cases b <;> rfl
@[simp] theorem truth_int : truth (.int i) = (i != 0) := rfl
@[simp] theorem truth_tup : truth (.tup xs) = !xs.isEmpty := rfl
@[simp] theorem truth_lst : truth (.lst xs) = !xs.isEmpty := rfl
@[simp] theorem truth_str : truth (.str x) = (x.length != 0) := rfl
@[simp] theorem truth_non : truth .non = false := rfl
@[simp] theorem blt_len_tup : bltF .len [.tup xs] = some (.int xs.length) := rfl
@[simp] theorem blt_len_lst : bltF .len [.lst xs] = some (.int xs.length) := rfl
@[simp] theorem blt_len_str : bltF .len [.str x] = some (.int x.length) := rfl
@[simp] theorem blt_len_scr {ns : List Int} : bltF .len [.scr ns] = some (.int ns.length) := rfl
@[simp] theorem blt_abs : bltF .abs [.int i] = some (.int (if i < 0 then -i else i)) := rfl
@[simp] theorem blt_int : bltF .int [.int i] = some (.int i) := rfl
@[simp] theorem blt_intb : bltF .int [.bl b] = some (.int (if b then 1 else 0)) := rfl
@[simp] theorem blt_list_scr {ns : List Int} : bltF .list [.scr ns] = some (.lst (ns.map D.int)) := rfl
@[simp] theorem blt_list_tup : bltF .list [.tup xs] = some (.lst xs) := rfl
@[simp] theorem blt_list_lst : bltF .list [.lst xs] = some (.lst xs) := rfl
@[simp] theorem blt_tuple_lst : bltF .tuple [.lst xs] = some (.tup xs) := rfl
@[simp] theorem blt_tuple_tup : bltF .tuple [.tup xs] = some (.tup xs) := rfl
@[simp] theorem blt_rev_tup : bltF .rev [.tup xs] = some (.tup xs.reverse) := rfl
@[simp] theorem blt_rev_lst : bltF .rev [.lst xs] = some (.lst xs.reverse) := rfl
@[simp] theorem blt_min2 : bltF .min2 [.int i, .int j] = some (.int (min i j)) := by
  show some (D.int (if j < i then j else i)) = _
  congr 2; omega
@[simp] theorem blt_max2 : bltF .max2 [.int i, .int j] = some (.int (max i j)) := by
  show some (D.int (if j > i then j else i)) = _
  congr 2; omega
@[simp] theorem blt_idx {a c : D} : bltF .idx [a, c] = idxF a c := rfl
@[simp] theorem idx_tup : idxF (.tup xs) (.int i) = atP xs i := rfl
@[simp] theorem idx_lst : idxF (.lst xs) (.int i) = atP xs i := rfl
@[simp] theorem idx_scr {ns : List Int} : idxF (.scr ns) (.int i) = (atP ns i).map .int := rfl
@[simp] theorem blt_isInt {d : D} : bltF .isInt [d] = some (.bl (match d with | .int _ => true | .bl _ => true | _ => false)) := rfl
@[simp] theorem blt_isBool {d : D} : bltF .isBool [d] = some (.bl (match d with | .bl _ => true | _ => false)) := rfl
@[simp] theorem blt_isStr {d : D} : bltF .isStr [d] = some (.bl (match d with | .str _ => true | _ => false)) := rfl
@[simp] theorem blt_isTuple {d : D} : bltF .isTuple [d] = some (.bl (match d with | .tup _ => true | _ => false)) := rfl
@[simp] theorem blt_isList {d : D} : bltF .isList [d] = some (.bl (match d with | .lst _ => true | .scr _ => true | _ => false)) := rfl
theorem atP_nat {α : Type} {l : List α} {n : Nat} : atP l (n : Int) = l[n]? := by
  unfold atP ixP
  by_cases h : (n : Int) < l.length
  · rw [if_pos (by omega), if_pos h]
    simp
  · rw [if_pos (by omega), if_neg h]
    rw [List.getElem?_eq_none (by omega)]
    rfl
theorem atP_of {α : Type} {l : List α} {i : Int} (h : 0 ≤ i) : atP l i = l[i.toNat]? := by
  obtain ⟨n, rfl⟩ := Int.eq_ofNat_of_zero_le h
  exact atP_nat
@[simp] theorem atP0 {α : Type} {l : List α} : atP l 0 = l[0]? := atP_nat (n := 0)
@[simp] theorem atP1 {α : Type} {l : List α} : atP l 1 = l[1]? := atP_nat (n := 1)
@[simp] theorem atP2 {α : Type} {l : List α} : atP l 2 = l[2]? := atP_nat (n := 2)
@[simp] theorem atP3 {α : Type} {l : List α} : atP l 3 = l[3]? := atP_nat (n := 3)
/-- slices -/
theorem sl_to {xs : List D} {i : Int} (h : 0 ≤ i) : slF (.tup xs) none (some i) = some (.tup (xs.take i.toNat)) := by
  show some (D.tup ((xs.drop 0).take _)) = _
  simp only [cutN, if_neg (show ¬ i < 0 by omega), Nat.sub_zero, List.drop_zero]
  congr 2
  rw [List.take_eq_take_iff]; omega
theorem sl_from {xs : List D} {i : Int} (h : 0 ≤ i) : slF (.tup xs) (some i) none = some (.tup (xs.drop i.toNat)) := by
  show some (D.tup ((xs.drop _).take _)) = _
  simp only [cutN, if_neg (show ¬ i < 0 by omega)]
  congr 2
  by_cases hi : i.toNat ≤ xs.length
  · rw [Nat.min_eq_left hi]
    rw [List.take_of_length_le (by rw [List.length_drop]; omega)]
  · rw [List.drop_eq_nil_of_le (by omega : xs.length ≤ i.toNat), List.drop_eq_nil_of_le (by omega)]
    simp
theorem sl_ab {xs : List D} {i j : Int} (h : 0 ≤ i) (h2 : 0 ≤ j) : slF (.tup xs) (some i) (some j) = some (.tup ((xs.drop i.toNat).take (j.toNat - i.toNat))) := by
  show some (D.tup ((xs.drop _).take _)) = _
  simp only [cutN, if_neg (show ¬ i < 0 by omega), if_neg (show ¬ j < 0 by omega)]
  congr 2
  by_cases hi : i.toNat ≤ xs.length
  · rw [Nat.min_eq_left hi, List.take_eq_take_iff, List.length_drop]; omega
  · rw [List.drop_eq_nil_of_le (by omega : xs.length ≤ i.toNat), List.drop_eq_nil_of_le (by omega)]
    simp
theorem sl_init {xs : List D} : slF (.tup xs) none (some (-1)) = some (.tup xs.dropLast) := by
  show some (D.tup ((xs.drop 0).take _)) = _
  simp only [cutN, if_pos (show (-1 : Int) < 0 by omega), Nat.sub_zero, List.drop_zero]
  congr 2
  rw [List.dropLast_eq_take]
  congr 1; omega
theorem sl_to_l {xs : List D} {i : Int} (h : 0 ≤ i) : slF (.lst xs) none (some i) = some (.lst (xs.take i.toNat)) := by
  have := sl_to (xs := xs) h
  simp only [slF, Option.some.injEq, D.tup.injEq] at this ⊢
  rw [this]
theorem sl_from_l {xs : List D} {i : Int} (h : 0 ≤ i) : slF (.lst xs) (some i) none = some (.lst (xs.drop i.toNat)) := by
  have := sl_from (xs := xs) h
  simp only [slF, Option.some.injEq, D.tup.injEq] at this ⊢
  rw [this]
theorem sl_ab_l {xs : List D} {i j : Int} (h : 0 ≤ i) (h2 : 0 ≤ j) : slF (.lst xs) (some i) (some j) = some (.lst ((xs.drop i.toNat).take (j.toNat - i.toNat))) := by
  have := sl_ab (xs := xs) h h2
  simp only [slF, Option.some.injEq, D.tup.injEq] at this ⊢
  rw [this]
theorem bls_of : ∀ l : List Bool, blsOf (l.map D.bl) = some l
  | [] => rfl
  | x :: l => by simp only [List.map_cons, blsOf, bls_of l]; try rfl
end

/-! ### expressions that change nothing, comprehensions of them -/
section
variable {cf : Cf} {e src t : Ex} {env : Env} {Q : D → Env → Prop} {i : Nat}
def Pu (cf : Cf) (e : Ex) (env : Env) (d : D) : Prop := evE cf e env = .ok (d, env)
theorem Pu.of {d : D} (h : WE cf e env fun x v => x = d ∧ v = env) : Pu cf e env d := by
  obtain ⟨x, v, h1, rfl, rfl⟩ := h
  exact h1
theorem bl_all {α : Type} {l : List α} {f : α → Bool} : bltF .all [.lst (l.map fun x => D.bl (f x))] = some (.bl (l.all f)) := by
  have : l.map (fun x => D.bl (f x)) = (l.map f).map D.bl := by simp
  rw [this]
  show (blsOf _).map (fun bs => D.bl (bs.all id)) = _
  rw [bls_of]
  simp
theorem bl_any {α : Type} {l : List α} {f : α → Bool} : bltF .any [.lst (l.map fun x => D.bl (f x))] = some (.bl (l.any f)) := by
  have : l.map (fun x => D.bl (f x)) = (l.map f).map D.bl := by simp
  rw [this]
  show (blsOf _).map (fun bs => D.bl (bs.any id)) = _
  rw [bls_of]
  simp
theorem WS_seqI {s u : Sm} {N B C : Env → Prop} {Rt : D → Env → Prop} (h : ∀ N' : Env → Prop, (∀ e, WS cf u e N Rt B C → N' e) → WS cf s env N' Rt B C) : WS cf (.seq s u) env N Rt B C := by
  rw [WS_seq]
  exact h _ fun _ q => q
end
end Pv

set_option maxHeartbeats 1000000
/-! The stream, what is equal, letters and orders. -/
namespace Pv
open PySem L2

/-! ### the stream -/
/-- a stream of the law -/
def Stm (S : D) : Prop := ∃ (cs : List Int) (w k : Int), S = .lst [.lst (cs.map .int), .int w, .int k] ∧ 0 ≤ k
def fillSm : Sm := (.ite (.cmp .eq (.blt .idx (.cons (.var 0) (.cons (.lit (.int 1)) .nil))) (.lit (.int 0))) (.seq (.set 2 (.blt .idx (.cons (.var 0) (.cons (.lit (.int 2)) .nil))))
  (.seq (.set 3 (.bin .add (.lit (.int 7)) (.var 2)))
  (.seq (.ite (.cmp .lt (.var 2) (.blt .len (.cons (.blt .idx (.cons (.var 0) (.cons (.lit (.int 0)) .nil))) .nil))) (.set 3 (.blt .abs (.cons (.blt .idx (.cons (.blt .idx (.cons (.var 0) (.cons (.lit (.int 0)) .nil))) (.cons (.var 2) .nil))) .nil))) .skip)
  (.seq (.ite (.cmp .lt (.var 3) (.bin .pow (.lit (.int 10)) (.lit (.int 18)))) (.seq (.set 3 (.bin .mod (.blt .int (.cons (.bin .add (.bin .add (.bin .mul (.var 3) (.lit (.int 48271))) (.bin .mul (.var 2) (.lit (.int 69621)))) (.lit (.int 11))) .nil)) (.lit (.int 2147483647))))
  (.set 3 (.bin .add (.bin .mul (.bin .mod (.blt .int (.cons (.bin .add (.bin .mul (.var 3) (.lit (.int 16807))) (.lit (.int 13))) .nil)) (.lit (.int 2147483647))) (.lit (.int 65537))) (.var 3)))) .skip)
  (.seq (.setI 0 (.lit (.int 1)) (.var 3))
  (.setI 0 (.lit (.int 2)) (.bin .add (.var 2) (.lit (.int 1))))))))) .skip)
theorem next_fill {cf : Cf} {N B C : Env → Prop} {Rt : D → Env → Prop} {cs : List Int} {w m k : Int} (hk : 0 ≤ k) (fin : ∀ e2 e3 w k, 0 ≤ k → N [some (.lst [.lst (cs.map .int), .int w, .int k]), some (.int m), e2, e3, none]) :
    WS cf fillSm [some (.lst [.lst (cs.map .int), .int w, .int k]), some (.int m), none, none, none] N Rt B C := by
  have s1 : smallI 48271 = true := by decide
  have s2 : smallI 69621 = true := by decide
  have s3 : smallI 16807 = true := by decide
  have s4 : smallI 65537 = true := by decide
  have x1 : ixP 3 1 = some 1 := rfl
  have x2 : ixP 3 2 = some 2 := rfl
  have p1 : (0 : Int) < 2147483647 := by decide
  have pw : binF .pow (.int 10) (.int 18) = some (.int 1000000000000000000) := rfl
  unfold fillSm
  simp only [WS_seq, WS_set, WS_ite, WS_ret, WS_skip, WS_ex, WS_sets, WS_setI, setP_lst, setP_dct, WS_par, WS_brk, WS_cnt, WS_for, WE_var, WE_lit, WE_bin, WE_cmp, WE_and, WE_or, WE_not, WE_ite, WE_chain, WE_tup, WE_lst, WE_sl, WE_blt, WE_call, WE_callB, WE_om, lstB_lst, WE_dnew, WE_at, WE_ob, WE_mth, WE_callL, WE_new, WE_lrng, WS_setA, setAP_obj, WS_swp, setLP_lst, WE_un, WA_nil, WA_cons, WO_nil, WO_cons, WI_val, WI_rng1, WI_rng2, WI_rng3, WI_enum, List.getElem?_cons_zero, List.getElem?_cons_succ, List.set_cons_zero, List.set_cons_succ, List.set_nil, Option.some.injEq, exists_eq_left', exists_eq_left, binF_add_int, binF_sub_int, binF_addI_int, binF_subI_int, binF_mul_int, binF_div_int, binF_mod_int, unF_neg, cmpF_eq_int, cmpF_ne_int, cmpF_eq_str, cmpF_ne_str, cmpF_lt_int, cmpF_le_int, cmpF_gt_int, cmpF_ge_int, cmpF_isN, cmpF_notN, cmpF_isB, cmpF_notB, isNon, isF, truth_bl, truth_int, truth_tup, truth_lst, truth_str, truth_non, blt_len_tup, blt_len_lst, blt_len_str, blt_len_scr, blt_abs, blt_int, blt_intb, blt_list_scr, blt_list_tup, blt_list_lst, blt_tuple_lst, blt_tuple_tup, blt_min2, blt_max2, blt_idx, blt_isInt, blt_isBool, blt_isStr, blt_isTuple, blt_isList, blt_rev_tup, blt_rev_lst, idx_tup, idx_lst, atP0, atP1, atP2, atP3, if_true, if_false, ite_true, ite_false, Bool.false_eq_true, Bool.not_true, Bool.not_false, decide_eq_true_eq, D.lst.injEq, D.int.injEq, D.tup.injEq, D.str.injEq, D.bl.injEq, List.length_cons, List.length_nil, List.map_cons, List.map_nil, List.cons_append, List.nil_append, Nat.reduceSub, Nat.reduceAdd, List.reduceReplicate, outsOf, patch, setAll, wipeE, backE, seqOf, itF, Option.getD_some, true_and, and_true, implies_true, eq_self, LIM_eq, Nat.reduceLeDiff, scalD, bl_all, bl_any, List.isEmpty_cons, List.isEmpty_nil]
  by_cases hw : w = 0
  · rw [if_pos hw]
    have go : ∀ c : Int, (∃ z, binF .pow (.int 10) (.int 18) = some z ∧ ∃ z', cmpF .lt (.int c) z = some z' ∧ True) := fun c => ⟨_, pw, _, rfl, trivial⟩
    by_cases hl : k < (cs.map D.int).length
    · obtain ⟨c, hc⟩ : ∃ c, cs[k.toNat]? = some c := ⟨cs[k.toNat]'(by simp at hl; omega), by simp⟩
      have hc' : atP (cs.map D.int) k = some (.int c) := by rw [atP_of hk, List.getElem?_map, hc]; rfl
      rw [if_pos hl, hc']
      simp only [WS_seq, WS_set, WS_ite, WS_ret, WS_skip, WS_ex, WS_sets, WS_setI, setP_lst, setP_dct, WS_par, WS_brk, WS_cnt, WS_for, WE_var, WE_lit, WE_bin, WE_cmp, WE_and, WE_or, WE_not, WE_ite, WE_chain, WE_tup, WE_lst, WE_sl, WE_blt, WE_call, WE_callB, WE_om, lstB_lst, WE_dnew, WE_at, WE_ob, WE_mth, WE_callL, WE_new, WE_lrng, WS_setA, setAP_obj, WS_swp, setLP_lst, WE_un, WA_nil, WA_cons, WO_nil, WO_cons, WI_val, WI_rng1, WI_rng2, WI_rng3, WI_enum, List.getElem?_cons_zero, List.getElem?_cons_succ, List.set_cons_zero, List.set_cons_succ, List.set_nil, Option.some.injEq, exists_eq_left', exists_eq_left, binF_add_int, binF_sub_int, binF_addI_int, binF_subI_int, binF_mul_int, binF_div_int, binF_mod_int, unF_neg, cmpF_eq_int, cmpF_ne_int, cmpF_eq_str, cmpF_ne_str, cmpF_lt_int, cmpF_le_int, cmpF_gt_int, cmpF_ge_int, cmpF_isN, cmpF_notN, cmpF_isB, cmpF_notB, isNon, isF, truth_bl, truth_int, truth_tup, truth_lst, truth_str, truth_non, blt_len_tup, blt_len_lst, blt_len_str, blt_len_scr, blt_abs, blt_int, blt_intb, blt_list_scr, blt_list_tup, blt_list_lst, blt_tuple_lst, blt_tuple_tup, blt_min2, blt_max2, blt_idx, blt_isInt, blt_isBool, blt_isStr, blt_isTuple, blt_isList, blt_rev_tup, blt_rev_lst, idx_tup, idx_lst, atP0, atP1, atP2, atP3, if_true, if_false, ite_true, ite_false, Bool.false_eq_true, Bool.not_true, Bool.not_false, decide_eq_true_eq, D.lst.injEq, D.int.injEq, D.tup.injEq, D.str.injEq, D.bl.injEq, List.length_cons, List.length_nil, List.map_cons, List.map_nil, List.cons_append, List.nil_append, Nat.reduceSub, Nat.reduceAdd, List.reduceReplicate, outsOf, patch, setAll, wipeE, backE, seqOf, itF, Option.getD_some, true_and, and_true, implies_true, eq_self, LIM_eq, Nat.reduceLeDiff, scalD, bl_all, bl_any, List.isEmpty_cons, List.isEmpty_nil, binF_pow_int, pw, s1, s2, s3, s4, Bool.or_true, if_true, p1, x1, x2]
      repeat' split
      all_goals exact fin _ _ _ _ (by omega)
    · rw [if_neg hl]
      simp only [WS_seq, WS_set, WS_ite, WS_ret, WS_skip, WS_ex, WS_sets, WS_setI, setP_lst, setP_dct, WS_par, WS_brk, WS_cnt, WS_for, WE_var, WE_lit, WE_bin, WE_cmp, WE_and, WE_or, WE_not, WE_ite, WE_chain, WE_tup, WE_lst, WE_sl, WE_blt, WE_call, WE_callB, WE_om, lstB_lst, WE_dnew, WE_at, WE_ob, WE_mth, WE_callL, WE_new, WE_lrng, WS_setA, setAP_obj, WS_swp, setLP_lst, WE_un, WA_nil, WA_cons, WO_nil, WO_cons, WI_val, WI_rng1, WI_rng2, WI_rng3, WI_enum, List.getElem?_cons_zero, List.getElem?_cons_succ, List.set_cons_zero, List.set_cons_succ, List.set_nil, Option.some.injEq, exists_eq_left', exists_eq_left, binF_add_int, binF_sub_int, binF_addI_int, binF_subI_int, binF_mul_int, binF_div_int, binF_mod_int, unF_neg, cmpF_eq_int, cmpF_ne_int, cmpF_eq_str, cmpF_ne_str, cmpF_lt_int, cmpF_le_int, cmpF_gt_int, cmpF_ge_int, cmpF_isN, cmpF_notN, cmpF_isB, cmpF_notB, isNon, isF, truth_bl, truth_int, truth_tup, truth_lst, truth_str, truth_non, blt_len_tup, blt_len_lst, blt_len_str, blt_len_scr, blt_abs, blt_int, blt_intb, blt_list_scr, blt_list_tup, blt_list_lst, blt_tuple_lst, blt_tuple_tup, blt_min2, blt_max2, blt_idx, blt_isInt, blt_isBool, blt_isStr, blt_isTuple, blt_isList, blt_rev_tup, blt_rev_lst, idx_tup, idx_lst, atP0, atP1, atP2, atP3, if_true, if_false, ite_true, ite_false, Bool.false_eq_true, Bool.not_true, Bool.not_false, decide_eq_true_eq, D.lst.injEq, D.int.injEq, D.tup.injEq, D.str.injEq, D.bl.injEq, List.length_cons, List.length_nil, List.map_cons, List.map_nil, List.cons_append, List.nil_append, Nat.reduceSub, Nat.reduceAdd, List.reduceReplicate, outsOf, patch, setAll, wipeE, backE, seqOf, itF, Option.getD_some, true_and, and_true, implies_true, eq_self, LIM_eq, Nat.reduceLeDiff, scalD, bl_all, bl_any, List.isEmpty_cons, List.isEmpty_nil, binF_pow_int, pw, s1, s2, s3, s4, Bool.or_true, if_true, p1, x1, x2]
      repeat' split
      all_goals exact fin _ _ _ _ (by omega)
  · rw [if_neg hw]
    exact fin _ _ _ _ hk
section
variable {T : Tab} [Has T 0 GAl] {n : Nat} {Q : D → List D → Prop}
theorem next_wp {S : D} (hS : Stm S) {m : Int} (h0 : 0 < m) (h1 : m < 1073741824) (q : ∀ (d : Nat) S', (d : Int) < m → Stm S' → Q (.int d) [S']) : WC (evC T (n + 1)) 6 [S, .int m] Q := by
  obtain ⟨cs, w, k, rfl, hk⟩ := hS
  refine WC_of (GAg 6 rfl) rfl ?_
  show WS (evC T n) (.seq fillSm _) [some (.lst [.lst (cs.map .int), .int w, .int k]), some (.int m), none, none, none] _ _ _ _
  rw [WS_seq]
  refine next_fill hk fun e2 e3 w k hk => ?_
  have x1 : ixP 3 1 = some 1 := rfl
  simp only [WS_seq, WS_set, WS_ite, WS_ret, WS_skip, WS_ex, WS_sets, WS_setI, setP_lst, setP_dct, WS_par, WS_brk, WS_cnt, WS_for, WE_var, WE_lit, WE_bin, WE_cmp, WE_and, WE_or, WE_not, WE_ite, WE_chain, WE_tup, WE_lst, WE_sl, WE_blt, WE_call, WE_callB, WE_om, lstB_lst, WE_dnew, WE_at, WE_ob, WE_mth, WE_callL, WE_new, WE_lrng, WS_setA, setAP_obj, WS_swp, setLP_lst, WE_un, WA_nil, WA_cons, WO_nil, WO_cons, WI_val, WI_rng1, WI_rng2, WI_rng3, WI_enum, List.getElem?_cons_zero, List.getElem?_cons_succ, List.set_cons_zero, List.set_cons_succ, List.set_nil, Option.some.injEq, exists_eq_left', exists_eq_left, binF_add_int, binF_sub_int, binF_addI_int, binF_subI_int, binF_mul_int, binF_div_int, binF_mod_int, unF_neg, cmpF_eq_int, cmpF_ne_int, cmpF_eq_str, cmpF_ne_str, cmpF_lt_int, cmpF_le_int, cmpF_gt_int, cmpF_ge_int, cmpF_isN, cmpF_notN, cmpF_isB, cmpF_notB, isNon, isF, truth_bl, truth_int, truth_tup, truth_lst, truth_str, truth_non, blt_len_tup, blt_len_lst, blt_len_str, blt_len_scr, blt_abs, blt_int, blt_intb, blt_list_scr, blt_list_tup, blt_list_lst, blt_tuple_lst, blt_tuple_tup, blt_min2, blt_max2, blt_idx, blt_isInt, blt_isBool, blt_isStr, blt_isTuple, blt_isList, blt_rev_tup, blt_rev_lst, idx_tup, idx_lst, atP0, atP1, atP2, atP3, if_true, if_false, ite_true, ite_false, Bool.false_eq_true, Bool.not_true, Bool.not_false, decide_eq_true_eq, D.lst.injEq, D.int.injEq, D.tup.injEq, D.str.injEq, D.bl.injEq, List.length_cons, List.length_nil, List.map_cons, List.map_nil, List.cons_append, List.nil_append, Nat.reduceSub, Nat.reduceAdd, List.reduceReplicate, outsOf, patch, setAll, wipeE, backE, seqOf, itF, Option.getD_some, true_and, and_true, implies_true, eq_self, LIM_eq, Nat.reduceLeDiff, scalD, bl_all, bl_any, List.isEmpty_cons, List.isEmpty_nil, h0, h1, and_self, x1]
  have h2 := Int.emod_nonneg w (show m ≠ 0 by omega)
  have h3 := Int.emod_lt_of_pos w h0
  obtain ⟨d, hd⟩ := Int.eq_ofNat_of_zero_le h2
  rw [hd] at h3 ⊢
  exact q d _ h3 ⟨cs, _, k, rfl, hk⟩
theorem stream_wp {ns : List Int} (q : ∀ S, Stm S → Q S []) : WC (evC T (n + 1)) 5 [.scr ns] Q := by
  refine WC_of (GAg 5 rfl) rfl ?_
  simp only [f5, WS_seq, WS_set, WS_ite, WS_ret, WS_skip, WS_ex, WS_sets, WS_setI, setP_lst, setP_dct, WS_par, WS_brk, WS_cnt, WS_for, WE_var, WE_lit, WE_bin, WE_cmp, WE_and, WE_or, WE_not, WE_ite, WE_chain, WE_tup, WE_lst, WE_sl, WE_blt, WE_call, WE_callB, WE_om, lstB_lst, WE_dnew, WE_at, WE_ob, WE_mth, WE_callL, WE_new, WE_lrng, WS_setA, setAP_obj, WS_swp, setLP_lst, WE_un, WA_nil, WA_cons, WO_nil, WO_cons, WI_val, WI_rng1, WI_rng2, WI_rng3, WI_enum, List.getElem?_cons_zero, List.getElem?_cons_succ, List.set_cons_zero, List.set_cons_succ, List.set_nil, Option.some.injEq, exists_eq_left', exists_eq_left, binF_add_int, binF_sub_int, binF_addI_int, binF_subI_int, binF_mul_int, binF_div_int, binF_mod_int, unF_neg, cmpF_eq_int, cmpF_ne_int, cmpF_eq_str, cmpF_ne_str, cmpF_lt_int, cmpF_le_int, cmpF_gt_int, cmpF_ge_int, cmpF_isN, cmpF_notN, cmpF_isB, cmpF_notB, isNon, isF, truth_bl, truth_int, truth_tup, truth_lst, truth_str, truth_non, blt_len_tup, blt_len_lst, blt_len_str, blt_len_scr, blt_abs, blt_int, blt_intb, blt_list_scr, blt_list_tup, blt_list_lst, blt_tuple_lst, blt_tuple_tup, blt_min2, blt_max2, blt_idx, blt_isInt, blt_isBool, blt_isStr, blt_isTuple, blt_isList, blt_rev_tup, blt_rev_lst, idx_tup, idx_lst, atP0, atP1, atP2, atP3, if_true, if_false, ite_true, ite_false, Bool.false_eq_true, Bool.not_true, Bool.not_false, decide_eq_true_eq, D.lst.injEq, D.int.injEq, D.tup.injEq, D.str.injEq, D.bl.injEq, List.length_cons, List.length_nil, List.map_cons, List.map_nil, List.cons_append, List.nil_append, Nat.reduceSub, Nat.reduceAdd, List.reduceReplicate, outsOf, patch, setAll, wipeE, backE, seqOf, itF, Option.getD_some, true_and, and_true, implies_true, eq_self, LIM_eq, Nat.reduceLeDiff, scalD, bl_all, bl_any, List.isEmpty_cons, List.isEmpty_nil]
  exact q _ ⟨ns, 0, 0, rfl, Int.le_refl 0⟩
end

/-! ### what is equal -/
mutual
def eqT : D → D → Bool
  | .non, .non => true
  | .bl a, .bl b => a == b
  | .int a, .int b => decide (a = b)
  | .str a, .str b => decide (a = b)
  | .tup a, .tup b => eqTs a b
  | .lst a, .lst b => eqTs a b
  | _, _ => false
def eqTs : List D → List D → Bool
  | [], [] => true
  | a :: as, b :: bs => eqT a b && eqTs as bs
  | _, _ => false
end
section
variable {T : Tab} [Has T 0 GAl] {n : Nat} {Q : D → List D → Prop}
/-- data of the law: no script in it, not long -/
inductive Fine : D → Prop
  | non : Fine .non
  | bl (b : Bool) : Fine (.bl b)
  | int (i : Int) : Fine (.int i)
  | str (x : Str) : Fine (.str x)
  | tup {xs : List D} : xs.length ≤ LIM → (∀ x ∈ xs, Fine x) → Fine (.tup xs)
  | lst {xs : List D} : xs.length ≤ LIM → (∀ x ∈ xs, Fine x) → Fine (.lst xs)
mutual
theorem eqT_self : ∀ {d : D}, Fine d → eqT d d = true
  | .non, _ => rfl
  | .bl b, _ => by simp [eqT]
  | .int i, _ => by simp [eqT]
  | .str x, _ => by simp [eqT]
  | .tup xs, h => by
    cases h with
    | tup _ h => simp only [eqT]; exact eqTs_self h
  | .lst xs, h => by
    cases h with
    | lst _ h => simp only [eqT]; exact eqTs_self h
  | .scr _, h => by cases h
theorem eqTs_self : ∀ {xs : List D}, (∀ x ∈ xs, Fine x) → eqTs xs xs = true
  | [], _ => rfl
  | x :: xs, h => by
    simp only [eqTs, Bool.and_eq_true]
    exact ⟨eqT_self (h x List.mem_cons_self), eqTs_self fun y hy => h y (List.mem_cons_of_mem _ hy)⟩
end
end
end Pv

set_option maxHeartbeats 1000000
/-! Letters and orders. -/
namespace Pv
open PySem L2
/-! ### letters -/
def chAZ : Str := "abcdefghijklmnopqrstuvwxyz"
def ch09 : Str := "0123456789"
def signB (c : Nat) : Bool := decide (c ∈ chAZ.cps.toList) || decide (c ∈ ch09.cps.toList)
def letterB (x : Str) : Bool := decide (1 ≤ x.length) && decide (x.length ≤ 12) && decide (x.cps.toList.getD 0 0 ∈ chAZ.cps.toList) && x.cps.toList.all signB
section
variable {T : Tab} [Has T 0 GAl] {n : Nat} {Q : D → List D → Prop}
/-- an order of the package -/
structure Good (o : Od Str) : Prop where
  ok : Ok o
  le : o.1.length ≤ 12
  lt : ∀ x ∈ o.1, letterB x = true
def strsD (ls : List Str) : D := .tup (ls.map D.str)
def intsD (ls : List Int) : D := .tup (ls.map D.int)
end
end Pv

set_option maxHeartbeats 1000000
/-! Rules. -/
namespace Pv
open PySem L2
theorem ex_pair {α β : Type} {a : α} {b : β} {P : α → β → Prop} : (∃ d zs, (a, b) = (d, zs) ∧ P d zs) ↔ P a b := ⟨fun ⟨_, _, h, q⟩ => by cases h; exact q, fun q => ⟨_, _, rfl, q⟩⟩
theorem WS_iteT {cf : Cf} {a : Ex} {s u : Sm} {env : Env} {N B C : Env → Prop} {Rt : D → Env → Prop} (h : WE cf a env fun x e => truth x = true ∧ WS cf s e N Rt B C) : WS cf (.ite a s u) env N Rt B C := by
  rw [WS_ite]
  refine h.mono fun d v ⟨h1, h2⟩ => ?_
  rw [if_pos h1]; exact h2
theorem WS_iteF {cf : Cf} {a : Ex} {s u : Sm} {env : Env} {N B C : Env → Prop} {Rt : D → Env → Prop} (h : WE cf a env fun x e => truth x = false ∧ WS cf u e N Rt B C) : WS cf (.ite a s u) env N Rt B C := by
  rw [WS_ite]
  refine h.mono fun d v ⟨h1, h2⟩ => ?_
  rw [if_neg (by rw [h1]; decide)]; exact h2
theorem tn0 : (0 : Int).toNat = 0 := rfl
theorem tn1 {a : Nat} : ((a : Int) + 1).toNat = a + 1 := by omega
theorem tn2 {a : Nat} : ((a : Int) - 1).toNat = a - 1 := by omega
section
variable {T : Tab} [Has T 0 GAl] {n : Nat} {Q : D → List D → Prop} {o : Od Str} {x : Str} {r : Rl Str}
end
end Pv

set_option maxHeartbeats 1000000
/-! The law's own reckoning of rules. -/
namespace Pv
open PySem L2
section
variable {T : Tab} [Has T 0 GAl] {n : Nat} {Q : D → List D → Prop} {o : Od Str} {x y : Str} {r : Rl Str}
theorem out_rows (w : Ok o) : (out o x).1 = o.1.filter fun y => !decide (y = x) := by
  unfold out
  split
  · rename_i h
    rw [rmv_rows h w]
    simp
  · rename_i h
    rw [List.filter_eq_self.mpr]
    intro y hy
    have : y ≠ x := fun e => h (by rw [← e]; exact hy)
    simp [this]
theorem dif_out (w : Ok o) {y z : Str} (hy : y ∈ (out o x).1) (hz : z ∈ (out o x).1) : dif (out o x) y z = dif o y z := by
  have a := (mem_out w).mp hy
  have b := (mem_out w).mp hz
  unfold out
  split
  · rename_i h
    exact dif_rmv w h a.1 b.1 a.2 b.2
  · rfl
theorem getD_mem {l : List Str} {k : Nat} (h : k < l.length) : l.getD k "" ∈ l := by
  rw [List.getD_eq_getElem?_getD, List.getElem?_eq_getElem h]; exact List.getElem_mem h
end
end Pv

set_option maxHeartbeats 1000000
/-! Rules checked and applied; drawn names, orders, rules. -/
namespace Pv
open PySem L2
structure GoodR (r : Rl Str) : Prop where
  ok : RlOk r
  la : letterB r.a = true
  lx : letterB r.x = true
section
variable {T : Tab} [Has T 0 GAl] {n : Nat} {Q : D → List D → Prop} {o : Od Str} {x y : Str} {r : Rl Str} {S : D}
/-! ### drawn -/
structure Pool (ps : List Str) : Prop where
  nd : ps.Nodup
  le : ps.length ≤ 12
  lt : ∀ x ∈ ps, letterB x = true
theorem Pool.sub {ps qs : List Str} (p : Pool ps) (h : qs.Sublist ps) : Pool qs := ⟨p.nd.sublist h, Nat.le_trans h.length_le p.le, fun x hx => p.lt x (h.subset hx)⟩
end
end Pv

set_option maxHeartbeats 1000000
/-! How the laws upon one rule begin; letters taken out, orders in reverse. -/
namespace Pv
open PySem L2
section
variable {T : Tab} [Has T 0 GAl] {n : Nat} {Q : D → List D → Prop} {o : Od Str} {x y : Str} {r : Rl Str} {S : D}
def outs (o : Od Str) (ls : List Str) : Od Str := ls.foldl (fun o x => out o x) o
/-! ### a third letter, the reverse -/
theorem Bef_out (w : Ok o) (ha : r.a ∈ (out o x).1) (hy : y ∈ (out o x).1) : Bef (out o x) r y = Bef o r y := by
  have a := (mem_out w).mp ha
  have b := (mem_out w).mp hy
  unfold Bef
  rw [dif_out w ha hy]
  have key : ∀ z w' : Str, z ∈ (out o x).1 → w' ∈ (out o x).1 → (ix (out o x) z < ix (out o x) w' ↔ ix o z < ix o w') ∧ (ix (out o x) z ≤ ix (out o x) w' ↔ ix o z ≤ ix o w') := fun z w' hz hw => by
    have z1 := (mem_out w).mp hz
    have w1 := (mem_out w).mp hw
    unfold out
    split
    · rename_i hx
      have n1 := ix_ne z1.1 hx z1.2
      have n2 := ix_ne w1.1 hx w1.2
      rw [ix_rmv w hx z1.1 z1.2, ix_rmv w hx w1.1 w1.2]
      constructor <;> (split <;> split <;> omega)
    · exact ⟨Iff.rfl, Iff.rfl⟩
  rw [Bool.eq_iff_iff]
  have k1 := key y r.a hy ha
  simp only [k1.1, k1.2]
/-- a letter taken out of the result of a rule that moves another letter, anchored at another one -/
theorem Is.out {o0 o1 : Od Str} (w : Ok o0) (h : Is o0 r o1) (ha : r.a ∈ o0.1) (hx : r.x ∉ o0.1) (h1 : x ≠ r.a) (h2 : x ≠ r.x) : Is (out o0 x) r (out o1 x) := by
  have mem : ∀ y, y ∈ o0.1 → y ∈ o1.1 := fun y hy => by
    rw [h.rows]
    cases hb : Bef o0 r y
    · simp [hy, hb]
    · simp [hy, hb]
  have memx : r.x ∈ o1.1 := by rw [h.rows]; simp
  have ha' : r.a ∈ (Pv.out o0 x).1 := (mem_out w).mpr ⟨ha, fun e => h1 e.symm⟩
  have hx' : r.x ∈ (Pv.out o1 x).1 := (mem_out h.ok).mpr ⟨memx, fun e => h2 e.symm⟩
  have up : ∀ y, y ∈ (Pv.out o0 x).1 → y ∈ (Pv.out o1 x).1 := fun y hy => by
    have := (mem_out w).mp hy
    exact (mem_out h.ok).mpr ⟨mem y this.1, this.2⟩
  refine ⟨?_, fun y hy z hz => ?_, fun y hy => ?_, h.ok.out⟩
  · rw [out_rows h.ok, h.rows, List.filter_append, List.filter_cons_of_pos (by simpa using fun e => h2 e.symm), List.filter_filter, List.filter_filter]
    have e1 : (Pv.out o0 x).1.filter (Bef (Pv.out o0 x) r) = (Pv.out o0 x).1.filter (Bef o0 r) := List.filter_congr fun y hy => Bef_out w ha' hy
    have e2 : ((Pv.out o0 x).1.filter fun y => !Bef (Pv.out o0 x) r y) = (Pv.out o0 x).1.filter fun y => !Bef o0 r y := List.filter_congr fun y hy => by rw [Bef_out w ha' hy]
    rw [e1, e2, out_rows w, List.filter_filter, List.filter_filter]
    congr 1
    · exact List.filter_congr fun y _ => Bool.and_comm _ _
    · congr 1
      exact List.filter_congr fun y _ => Bool.and_comm _ _
  · rw [dif_out h.ok (up y hy) (up z hz), dif_out w hy hz]
    exact h.old y ((mem_out w).mp hy).1 z ((mem_out w).mp hz).1
  · rw [dif_out h.ok hx' (up y hy), dif_out w ha' hy]
    exact h.new y ((mem_out w).mp hy).1
end
end Pv

set_option maxHeartbeats 4000000
namespace W84
open PySem Pv
def ls12 : List D := [.str "a", .str "b", .str "c", .str "d", .str "e", .str "f", .str "g", .str "h", .str "i", .str "j", .str "k", .str "l"]
def ss11 : List D := [.int 1, .int 2, .int 3, .int 1, .int 2, .int 3, .int 1, .int 2, .int 3, .int 1, .int 2]
def o12 : D := .tup [.tup ls12, .tup ss11]
def back : D := .tup [.tup ls12.reverse, .tup ss11.reverse]
def shorter : D := .tup [.tup (ls12.take 11), .tup (ss11.take 10)]
def other : D := .tup [.tup (ls12.take 11 ++ [.str "z"]), .tup ss11]
def few : D := .tup [.tup ls12, .tup [.int 1]]
def bads : List D := [.tup [], .tup (List.replicate 7 o12), .lst [o12], .tup [o12, shorter], .tup [o12, other], .tup [o12, .non], .non, .tup [.tup [.tup [], .tup []]], .tup [few], o12]
def good : D := .tup [o12, back, o12, back, o12, o12]
def nones : List D := [.tup [.tup [], .tup []], .non, few, .tup [.tup [.str "a", .str "b", .str "b"], .tup [.int 1, .int 1]], .lst [.tup [.str "a"], .tup []], .tup [.tup [.str "a", .str "b"], .tup [.int 4]]]
def us : List D := shorter :: other :: nones
def told (x : Str) : Out (D × List D) := .ok (.str x, [])
theorem F1 (n : Nat) : evC T (n + 11) 635 [good] = .ok (.bl true, []) := by kernel_rfl
theorem F2 (n : Nat) : (bads.map fun b => evC T (n + 11) 635 [b]) = List.replicate 10 (.ok (.bl false, [])) := by kernel_rfl
theorem F3 (n : Nat) : ((List.range 6).map fun w => bads.map fun b => evC T (n + 11) 9900 [.int (w : Nat), b]) = List.replicate 6 (List.replicate 10 (told "orders")) := by kernel_rfl
theorem F4 (n : Nat) : ((List.range 6).map fun w => evC T (n + 11) 9900 [.int (w : Nat), good]) = List.replicate 6 (told "") := by kernel_rfl
theorem F5 (n : Nat) (X : D) : ((List.range 4).map fun w => nones.map fun b => evC T (n + 11) 9901 [.int (w : Nat), b, X, X]) = List.replicate 6 (told "middle") :: List.replicate 3 (List.replicate 6 (told "first")) := by kernel_rfl
theorem F6 (n : Nat) : ((List.range 4).map fun w => us.map fun u => evC T (n + 11) 9901 [.int (w : Nat), o12, u, u]) = List.replicate 8 (told "first") :: List.replicate 3 (List.replicate 8 (told "second")) := by kernel_rfl
theorem F7 (n : Nat) : (us.map fun u => evC T (n + 11) 9901 [.int 0, o12, back, u]) = List.replicate 8 (told "second") := by kernel_rfl
theorem F8 (n : Nat) : ((List.range 4).map fun w => evC T (n + 11) 9901 [.int (w : Nat), o12, back, o12]) = List.replicate 4 (told "") := by kernel_rfl
theorem rep_at {α β : Type} {l : List α} {f : α → β} {c : β} {m : Nat} (h : l.map f = List.replicate m c) {x : α} (hx : x ∈ l) : f x = c :=
  List.eq_of_mem_replicate (h ▸ List.mem_map.mpr ⟨x, hx, rfl⟩)
section
variable {n : Nat} {Q : D → List D → Prop}
theorem G1 (q : Q (.bl true) []) : WC (evC T (n + 11)) 635 [good] Q := ⟨_, _, F1 n, q⟩
theorem G2 {b : D} (hb : b ∈ bads) (q : Q (.bl false) []) : WC (evC T (n + 11)) 635 [b] Q := ⟨_, _, rep_at (F2 n) hb, q⟩
theorem G3 {w : Nat} {b : D} (hw : w < 6) (hb : b ∈ bads) (q : Q (.str "orders") []) : WC (evC T (n + 11)) 9900 [.int (w : Nat), b] Q := ⟨_, _, rep_at (rep_at (F3 n) (List.mem_range.mpr hw)) hb, q⟩
theorem G4 {w : Nat} (hw : w < 6) (q : Q (.str "") []) : WC (evC T (n + 11)) 9900 [.int (w : Nat), good] Q := ⟨_, _, rep_at (F4 n) (List.mem_range.mpr hw), q⟩
theorem G5 {w : Nat} {b X : D} (hw : w < 4) (hb : b ∈ nones) (q : Q (.str (if w = 0 then "middle" else "first")) []) : WC (evC T (n + 11)) 9901 [.int (w : Nat), b, X, X] Q := by
  have h := congrArg (fun l => l[w]?) (F5 n X)
  have h4 : w = 0 ∨ w = 1 ∨ w = 2 ∨ w = 3 := by omega
  rcases h4 with rfl | rfl | rfl | rfl <;> exact ⟨_, _, rep_at (Option.some.inj h) hb, q⟩
theorem G6 {w : Nat} {u : D} (hw : w < 4) (hu : u ∈ us) (q : Q (.str (if w = 0 then "first" else "second")) []) : WC (evC T (n + 11)) 9901 [.int (w : Nat), o12, u, u] Q := by
  have h := congrArg (fun l => l[w]?) (F6 n)
  have h4 : w = 0 ∨ w = 1 ∨ w = 2 ∨ w = 3 := by omega
  rcases h4 with rfl | rfl | rfl | rfl <;> exact ⟨_, _, rep_at (Option.some.inj h) hu, q⟩
theorem G7 {u : D} (hu : u ∈ us) (q : Q (.str "second") []) : WC (evC T (n + 11)) 9901 [.int 0, o12, back, u] Q := ⟨_, _, rep_at (F7 n) hu, q⟩
theorem G8 {w : Nat} (hw : w < 4) (q : Q (.str "") []) : WC (evC T (n + 11)) 9901 [.int (w : Nat), o12, back, o12] Q := ⟨_, _, rep_at (F8 n) (List.mem_range.mpr hw), q⟩
end
end W84

set_option maxHeartbeats 4000000
namespace W84
open PySem Pv
section
variable {n : Nat} {Q : D → List D → Prop}
theorem law_wp {ns : List Int} : WC (evC T (n + 12)) 9902 [.scr ns] fun d _ => d = .bl true := by
  refine WC_of (F := f9902) rfl rfl ?_
  simp only [f9902]
  (refine WS_seqI fun N' hN => ?_; simp (disch := first | omega | (simp only [List.length_map, List.length_append, List.length_cons, List.length_nil, List.length_take, List.length_drop, List.length_reverse, List.length_range, List.length_replicate]; omega)) only [List.map_cons, List.map_nil, Nat.reduceSub, List.reduceReplicate, List.cons_append, List.nil_append, WS_set, WE_call, patch, setAll, WA_cons, WA_nil, WE_var, List.getElem?_cons_zero, Option.some.injEq, List.set_cons_succ, List.set_cons_zero, exists_eq_left'])
  refine stream_wp fun S hS => ?_
  (try simp (disch := first | omega | (simp only [List.length_map, List.length_append, List.length_cons, List.length_nil, List.length_take, List.length_drop, List.length_reverse, List.length_range, List.length_replicate]; omega)) only [WS_seq, WS_set, WS_ite, WS_ret, WS_skip, WS_ex, WS_sets, WS_setI, setP_lst, setP_dct, WS_par, WS_brk, WS_cnt, WS_for, WE_var, WE_lit, WE_bin, WE_cmp, WE_and, WE_or, WE_not, WE_ite, WE_chain, WE_tup, WE_lst, WE_sl, WE_blt, WE_call, WE_callB, WE_om, lstB_lst, WE_dnew, WE_at, WE_ob, WE_mth, WE_callL, WE_new, WE_lrng, WS_setA, setAP_obj, WS_swp, setLP_lst, WE_un, WA_nil, WA_cons, WO_nil, WO_cons, WI_val, WI_rng1, WI_rng2, WI_rng3, WI_enum, List.getElem?_cons_zero, List.getElem?_cons_succ, List.set_cons_zero, List.set_cons_succ, List.set_nil, Option.some.injEq, exists_eq_left', exists_eq_left, binF_add_int, binF_sub_int, binF_addI_int, binF_subI_int, binF_mul_int, binF_div_int, binF_mod_int, unF_neg, cmpF_eq_int, cmpF_ne_int, cmpF_eq_str, cmpF_ne_str, cmpF_lt_int, cmpF_le_int, cmpF_gt_int, cmpF_ge_int, cmpF_isN, cmpF_notN, cmpF_isB, cmpF_notB, isNon, isF, truth_bl, truth_int, truth_tup, truth_lst, truth_str, truth_non, blt_len_tup, blt_len_lst, blt_len_str, blt_len_scr, blt_abs, blt_int, blt_intb, blt_list_scr, blt_list_tup, blt_list_lst, blt_tuple_lst, blt_tuple_tup, blt_min2, blt_max2, blt_idx, blt_isInt, blt_isBool, blt_isStr, blt_isTuple, blt_isList, blt_rev_tup, blt_rev_lst, idx_tup, idx_lst, atP0, atP1, atP2, atP3, if_true, if_false, ite_true, ite_false, Bool.false_eq_true, Bool.not_true, Bool.not_false, decide_eq_true_eq, D.lst.injEq, D.int.injEq, D.tup.injEq, D.str.injEq, D.bl.injEq, List.length_cons, List.length_nil, List.map_cons, List.map_nil, List.cons_append, List.nil_append, Nat.reduceSub, Nat.reduceAdd, List.reduceReplicate, outsOf, patch, setAll, wipeE, backE, seqOf, itF, Option.getD_some, true_and, and_true, implies_true, eq_self, LIM_eq, Nat.reduceLeDiff, scalD, bl_all, bl_any, List.isEmpty_cons, List.isEmpty_nil, ex_pair, sl_to, sl_from, sl_ab, sl_init, sl_to_l, sl_from_l, sl_ab_l, add_tup, add_lst, Int.toNat_natCast, tn1, tn2, tn0, ← List.map_take, ← List.map_drop, ← List.map_append, ← List.map_dropLast, ← List.map_reverse])
  refine hN _ ?_
  clear hN N'
  have det : ∀ {i : Nat} {e : Ex} {s : Sm} {env : Pv.Env} {N : Pv.Env → Prop} {R' : D → Pv.Env → Prop} {B C : Pv.Env → Prop} (d : D), evE (evC T (n + 11)) e env = .ok (d, env) → WS (evC T (n + 11)) s (env.set i (some d)) N R' B C → WS (evC T (n + 11)) (.seq (.set i e) s) env N R' B C := fun {i e s env N R' B C} d h1 h2 => by
    rw [WS_seq, WS_set]
    exact ⟨d, env, h1, h2⟩
  refine det (.tup ls12) rfl ?_
  refine det (.tup ss11) rfl ?_
  refine det o12 rfl ?_
  refine det back rfl ?_
  refine det shorter rfl ?_
  refine det other rfl ?_
  refine det (.lst bads) rfl ?_
  simp only [List.set_cons_zero, List.set_cons_succ]
  (refine WS_seqI fun N' hN => ?_; simp (disch := first | omega | (simp only [List.length_map, List.length_append, List.length_cons, List.length_nil, List.length_take, List.length_drop, List.length_reverse, List.length_range, List.length_replicate]; omega)) only [WS_set, WE_blt, WA_cons, WA_nil, blt_idx, WE_call, patch, List.map_cons, List.map_nil, List.set_cons_zero, WE_lit, WE_var, List.getElem?_cons_succ, List.getElem?_cons_zero, Option.some.injEq, Option.getD_some, exists_eq_left'])
  refine next_wp hS (by decide) (by decide) fun u S hu hS => ?_
  have hu : u < bads.length := by show u < 10; omega
  have a8 : atP bads (u : Nat) = some bads[u] := by rw [atP_nat, List.getElem?_eq_getElem hu]
  have hb : bads[u] ∈ bads := List.getElem_mem hu
  generalize bads[u] = b at a8 hb
  (try simp (disch := first | omega | (simp only [List.length_map, List.length_append, List.length_cons, List.length_nil, List.length_take, List.length_drop, List.length_reverse, List.length_range, List.length_replicate]; omega)) only [idx_lst, a8, Option.some.injEq, setAll, List.set_cons_succ, List.set_cons_zero, exists_eq_left'])
  refine hN _ ?_
  clear hN N'
  (refine WS_seqI fun N' hN => ?_; simp (disch := first | omega | (simp only [List.length_map, List.length_append, List.length_cons, List.length_nil, List.length_take, List.length_drop, List.length_reverse, List.length_range, List.length_replicate]; omega)) only [WS_set, WE_call, patch, List.map_cons, List.map_nil, WA_cons, List.set_cons_zero, WA_nil, WE_lit, WE_var, List.getElem?_cons_succ, List.getElem?_cons_zero, Option.some.injEq, Option.getD_some, exists_eq_left'])
  refine next_wp hS (by decide) (by decide) fun w S hw hS => ?_
  have hw6 : w < 6 := by omega
  (try simp (disch := first | omega | (simp only [List.length_map, List.length_append, List.length_cons, List.length_nil, List.length_take, List.length_drop, List.length_reverse, List.length_range, List.length_replicate]; omega)) only [setAll, List.set_cons_succ, List.set_cons_zero])
  refine hN _ ?_
  clear hN N'
  refine det good rfl ?_
  simp only [List.set_cons_zero, List.set_cons_succ]
  refine WS_seqI fun N' hN => ?_
  refine WS_iteF ?_
  simp (disch := first | omega | (simp only [List.length_map, List.length_append, List.length_cons, List.length_nil, List.length_take, List.length_drop, List.length_reverse, List.length_range, List.length_replicate]; omega)) only [WE_or, WE_cmp, cmpF_notB, isF, truth_bl, WE_lit, WE_callB, scalD, WA_cons, WA_nil, WE_var, List.getElem?_cons_succ, List.getElem?_cons_zero, Option.some.injEq, exists_eq_left']
  refine G1 ?_
  simp (disch := first | omega | (simp only [List.length_map, List.length_append, List.length_cons, List.length_nil, List.length_take, List.length_drop, List.length_reverse, List.length_range, List.length_replicate]; omega)) only [Option.some.injEq, exists_eq_left', true_and]
  rw [if_neg (by decide)]
  refine G2 hb ?_
  simp (disch := first | omega | (simp only [List.length_map, List.length_append, List.length_cons, List.length_nil, List.length_take, List.length_drop, List.length_reverse, List.length_range, List.length_replicate]; omega)) only [Option.some.injEq, exists_eq_left', true_and]
  refine ⟨rfl, ?_⟩
  rw [WS_skip]
  refine hN _ ?_
  clear hN N'
  refine WS_seqI fun N' hN => ?_
  refine WS_iteF ?_
  simp (disch := first | omega | (simp only [List.length_map, List.length_append, List.length_cons, List.length_nil, List.length_take, List.length_drop, List.length_reverse, List.length_range, List.length_replicate]; omega)) only [WE_or, WE_cmp, truth_bl, WE_lit, WE_call, patch, List.map_nil, setAll, WA_cons, WA_nil, WE_var, List.getElem?_cons_succ, List.getElem?_cons_zero, Option.some.injEq, exists_eq_left']
  refine G3 hw6 hb ?_
  simp (disch := first | omega | (simp only [List.length_map, List.length_append, List.length_cons, List.length_nil, List.length_take, List.length_drop, List.length_reverse, List.length_range, List.length_replicate]; omega)) only [cmpF_ne_str, decide_true, Bool.not_true, Option.some.injEq, exists_eq_left', Bool.false_eq_true, true_and, if_false]
  refine G4 hw6 ?_
  simp (disch := first | omega | (simp only [List.length_map, List.length_append, List.length_cons, List.length_nil, List.length_take, List.length_drop, List.length_reverse, List.length_range, List.length_replicate]; omega)) only [cmpF_ne_str, decide_true, Bool.not_true, Option.some.injEq, exists_eq_left', true_and]
  rw [WS_skip]
  refine hN _ ?_
  clear hN N'
  -- what is none, what is unlike
  refine WS_seqI fun N' hN => ?_
  rw [WS_set, WE_blt, WA_cons]
  refine ⟨.lst nones, _, rfl, ?_⟩
  simp (disch := first | omega | (simp only [List.length_map, List.length_append, List.length_cons, List.length_nil, List.length_take, List.length_drop, List.length_reverse, List.length_range, List.length_replicate]; omega)) only [WA_cons, WA_nil, blt_idx, WE_call, patch, List.map_cons, List.map_nil, List.set_cons_zero, WE_lit, WE_var, List.getElem?_cons_succ, List.getElem?_cons_zero, Option.some.injEq, Option.getD_some, exists_eq_left']
  refine next_wp hS (by decide) (by decide) fun v S hv hS => ?_
  have hv : v < nones.length := by show v < 6; omega
  have a12 : atP nones (v : Nat) = some nones[v] := by rw [atP_nat, List.getElem?_eq_getElem hv]
  have hz : nones[v] ∈ nones := List.getElem_mem hv
  generalize nones[v] = z at a12 hz
  (try simp (disch := first | omega | (simp only [List.length_map, List.length_append, List.length_cons, List.length_nil, List.length_take, List.length_drop, List.length_reverse, List.length_range, List.length_replicate]; omega)) only [idx_lst, a12, Option.some.injEq, setAll, List.set_cons_succ, List.set_cons_zero, exists_eq_left'])
  refine hN _ ?_
  clear hN N'
  have pick : ∀ z ∈ nones, ∀ k : Nat, k < 3 → ∃ u ∈ us, atP [shorter, other, z] (k : Nat) = some u := fun z hz k hk => by
    have h3 : k = 0 ∨ k = 1 ∨ k = 2 := by omega
    rcases h3 with rfl | rfl | rfl
    · exact ⟨shorter, by simp [us], rfl⟩
    · exact ⟨other, by simp [us], rfl⟩
    · exact ⟨z, by simp [us, hz], rfl⟩
  refine WS_seqI fun N' hN => ?_
  rw [WS_set]
  simp (disch := first | omega | (simp only [List.length_map, List.length_append, List.length_cons, List.length_nil, List.length_take, List.length_drop, List.length_reverse, List.length_range, List.length_replicate]; omega)) only [WE_blt, WA_cons, WA_nil, blt_idx, WE_call, patch, List.map_cons, List.map_nil, List.set_cons_zero, WE_lit, WE_var, WE_lst, LIM_eq, List.length_cons, Nat.reduceLeDiff, List.length_nil, true_and, List.getElem?_cons_succ, List.getElem?_cons_zero, Option.some.injEq, Option.getD_some, exists_eq_left']
  refine next_wp hS (by decide) (by decide) fun k S hk hS => ?_
  obtain ⟨t, ht, a13⟩ := pick z hz k (by omega)
  (try simp (disch := first | omega | (simp only [List.length_map, List.length_append, List.length_cons, List.length_nil, List.length_take, List.length_drop, List.length_reverse, List.length_range, List.length_replicate]; omega)) only [idx_lst, a13, Option.some.injEq, setAll, List.set_cons_succ, List.set_cons_zero, exists_eq_left'])
  refine hN _ ?_
  clear hN N' a13
  (refine WS_seqI fun N' hN => ?_; simp (disch := first | omega | (simp only [List.length_map, List.length_append, List.length_cons, List.length_nil, List.length_take, List.length_drop, List.length_reverse, List.length_range, List.length_replicate]; omega)) only [WS_set, WE_call, patch, List.map_cons, List.map_nil, WA_cons, List.set_cons_zero, WA_nil, WE_lit, WE_var, List.getElem?_cons_succ, List.getElem?_cons_zero, Option.some.injEq, Option.getD_some, exists_eq_left'])
  refine next_wp hS (by decide) (by decide) fun w S hw hS => ?_
  have hw4 : w < 4 := by omega
  (try simp (disch := first | omega | (simp only [List.length_map, List.length_append, List.length_cons, List.length_nil, List.length_take, List.length_drop, List.length_reverse, List.length_range, List.length_replicate]; omega)) only [setAll, List.set_cons_succ, List.set_cons_zero])
  refine hN _ ?_
  clear hN N'
  obtain ⟨nm, hnm⟩ : ∃ nm : List D, nm = if w = 0 then [D.str "middle", .str "first", .str "second"] else [.str "first", .str "second"] := ⟨_, rfl⟩
  have a14 : atP [D.lst [.str "middle", .str "first", .str "second"], .lst [.str "first", .str "second"], .lst [.str "first", .str "second"], .lst [.str "first", .str "second"]] (w : Nat) = some (.lst nm) := by
    have h4 : w = 0 ∨ w = 1 ∨ w = 2 ∨ w = 3 := by omega
    rcases h4 with rfl | rfl | rfl | rfl <;> (rw [hnm]; rfl)
  (refine WS_seqI fun N' hN => ?_; simp (disch := first | omega | (simp only [List.length_map, List.length_append, List.length_cons, List.length_nil, List.length_take, List.length_drop, List.length_reverse, List.length_range, List.length_replicate]; omega)) only [WS_set, WE_blt, WA_cons, WA_nil, blt_idx, WE_var, WE_lst, LIM_eq, List.length_cons, Nat.reduceLeDiff, List.length_nil, true_and, WE_lit, List.getElem?_cons_succ, List.getElem?_cons_zero, Option.some.injEq, List.set_cons_succ, List.set_cons_zero, exists_eq_left', idx_lst, a14]; refine hN _ ?_; clear hN; clear N')
  have n0 : nm[0]? = some (.str (if w = 0 then "middle" else "first")) := by rw [hnm]; split <;> rfl
  have n1 : nm[1]? = some (.str (if w = 0 then "first" else "second")) := by rw [hnm]; split <;> rfl
  clear hnm a14
  have fin : ∀ (S z t : D), Stm S → z ∈ nones → t ∈ us → ∀ (env : Pv.Env), env = [some (.scr ns), some S, some (.tup ls12), some (.tup ss11), some o12, some back, some shorter, some other, some (.lst bads), some b, some (.int (w : Nat)), some good, some z, some t, some (.lst nm)] → ∀ (N' : Pv.Env → Prop) (B C : Pv.Env → Prop), WS (evC T (n + 11)) (.seq (.ite (.or (.cmp .ne (.call 9901 [] (.cons (.var 10) (.cons (.var 12) (.cons (.var 13) (.cons (.var 13) .nil))))) (.blt .idx (.cons (.var 14) (.cons (.lit (.int 0)) .nil)))) (.cmp .ne (.call 9901 [] (.cons (.var 10) (.cons (.var 4) (.cons (.var 13) (.cons (.var 13) .nil))))) (.blt .idx (.cons (.var 14) (.cons (.lit (.int 1)) .nil))))) (.ret (.lit (.bl false))) .skip)
  (.seq (.ite (.and (.cmp .eq (.var 10) (.lit (.int 0))) (.cmp .ne (.call 9901 [] (.cons (.lit (.int 0)) (.cons (.var 4) (.cons (.var 5) (.cons (.var 13) .nil))))) (.lit (.str "second")))) (.ret (.lit (.bl false))) .skip)
  (.ret (.cmp .eq (.call 9901 [] (.cons (.var 10) (.cons (.var 4) (.cons (.var 5) (.cons (.var 4) .nil))))) (.lit (.str "")))))) env N' (fun d _ => d = .bl true) B C := fun S z t hS hz ht env he N' B C => by
    subst he
    refine WS_seqI fun N2 hN2 => ?_
    refine WS_iteF ?_
    simp (disch := first | omega | (simp only [List.length_map, List.length_append, List.length_cons, List.length_nil, List.length_take, List.length_drop, List.length_reverse, List.length_range, List.length_replicate]; omega)) only [WE_or, WE_cmp, truth_bl, WE_blt, WA_cons, WA_nil, blt_idx, WE_lit, WE_var, WE_call, patch, List.map_nil, setAll, List.getElem?_cons_succ, List.getElem?_cons_zero, Option.some.injEq, exists_eq_left', idx_lst, atP1, atP0]
    refine G5 hw4 hz ?_
    simp (disch := first | omega | (simp only [List.length_map, List.length_append, List.length_cons, List.length_nil, List.length_take, List.length_drop, List.length_reverse, List.length_range, List.length_replicate]; omega)) only [n0, Option.some.injEq, exists_eq_left', cmpF_ne_str, decide_true, Bool.not_true, Bool.false_eq_true, true_and, if_false]
    refine G6 hw4 ht ?_
    simp (disch := first | omega | (simp only [List.length_map, List.length_append, List.length_cons, List.length_nil, List.length_take, List.length_drop, List.length_reverse, List.length_range, List.length_replicate]; omega)) only [n1, Option.some.injEq, exists_eq_left', cmpF_ne_str, decide_true, Bool.not_true, true_and]
    rw [WS_skip]
    refine hN2 _ ?_
    clear hN2 N2
    refine WS_seqI fun N2 hN2 => ?_
    refine WS_iteF ?_
    by_cases c : ((w : Nat) : Int) = 0
    · simp (disch := first | omega | (simp only [List.length_map, List.length_append, List.length_cons, List.length_nil, List.length_take, List.length_drop, List.length_reverse, List.length_range, List.length_replicate]; omega)) only [WE_and, WE_cmp, truth_bl, WE_lit, WE_call, patch, List.map_nil, setAll, WA_cons, WA_nil, WE_var, List.getElem?_cons_succ, List.getElem?_cons_zero, Option.some.injEq, exists_eq_left', cmpF_eq_int, decide_eq_true c, if_true]
      refine G7 ht ?_
      simp (disch := first | omega | (simp only [List.length_map, List.length_append, List.length_cons, List.length_nil, List.length_take, List.length_drop, List.length_reverse, List.length_range, List.length_replicate]; omega)) only [cmpF_ne_str, decide_true, Bool.not_true, Option.some.injEq, exists_eq_left', true_and]
      rw [WS_skip]
      refine hN2 _ ?_
      clear hN2 N2
      rw [WS_ret]
      simp (disch := first | omega | (simp only [List.length_map, List.length_append, List.length_cons, List.length_nil, List.length_take, List.length_drop, List.length_reverse, List.length_range, List.length_replicate]; omega)) only [WE_cmp, D.bl.injEq, WE_lit, WE_call, patch, WA_cons, WA_nil, WE_var, List.getElem?_cons_succ, List.getElem?_cons_zero, Option.some.injEq, exists_eq_left']
      refine G8 hw4 ?_
      simp (disch := first | omega | (simp only [List.length_map, List.length_append, List.length_cons, List.length_nil, List.length_take, List.length_drop, List.length_reverse, List.length_range, List.length_replicate]; omega)) only [cmpF_eq_str, decide_true, Option.some.injEq, exists_eq_left']
    · simp (disch := first | omega | (simp only [List.length_map, List.length_append, List.length_cons, List.length_nil, List.length_take, List.length_drop, List.length_reverse, List.length_range, List.length_replicate]; omega)) only [WE_and, WE_cmp, truth_bl, WE_lit, WE_call, patch, List.map_nil, setAll, WA_cons, WA_nil, WE_var, List.getElem?_cons_succ, List.getElem?_cons_zero, Option.some.injEq, exists_eq_left', cmpF_eq_int, c, decide_false, Bool.false_eq_true, true_and, if_false]
      rw [WS_skip]
      refine hN2 _ ?_
      clear hN2 N2
      rw [WS_ret]
      simp (disch := first | omega | (simp only [List.length_map, List.length_append, List.length_cons, List.length_nil, List.length_take, List.length_drop, List.length_reverse, List.length_range, List.length_replicate]; omega)) only [WE_cmp, D.bl.injEq, WE_lit, WE_call, patch, WA_cons, WA_nil, WE_var, List.getElem?_cons_succ, List.getElem?_cons_zero, Option.some.injEq, exists_eq_left']
      refine G8 hw4 ?_
      simp (disch := first | omega | (simp only [List.length_map, List.length_append, List.length_cons, List.length_nil, List.length_take, List.length_drop, List.length_reverse, List.length_range, List.length_replicate]; omega)) only [cmpF_eq_str, decide_true, Option.some.injEq, exists_eq_left']
  have hsh : ∃ bb, cmpF .eq z (.tup [.tup [], .tup []]) = some bb := by
    have : (nones.all fun z => (cmpF .eq z (.tup [.tup [], .tup []])).isSome) = true := by decide +kernel
    exact Option.isSome_iff_exists.mp (List.all_eq_true.mp this z hz)
  obtain ⟨bb, hbb⟩ := hsh
  have no : ∀ {N' : Pv.Env → Prop} {s : Sm} {R' : D → Pv.Env → Prop} {B C : Pv.Env → Prop}, (w ≠ 0 ∨ bb = false) → N' [some (.scr ns), some S, some (.tup ls12), some (.tup ss11), some o12, some back, some shorter, some other, some (.lst bads), some b, some (.int (w : Nat)), some good, some z, some t, some (.lst nm)] → WS (evC T (n + 11)) (.ite (.and (.cmp .eq (.var 10) (.lit (.int 0))) (.cmp .eq (.var 12) (.tup (.cons (.tup .nil) (.cons (.tup .nil) .nil))))) s .skip) [some (.scr ns), some S, some (.tup ls12), some (.tup ss11), some o12, some back, some shorter, some other, some (.lst bads), some b, some (.int (w : Nat)), some good, some z, some t, some (.lst nm)] N' R' B C := fun {N' s R' B C} h hN => by
    refine WS_iteF ?_
    by_cases c : ((w : Nat) : Int) = 0
    · have hb0 : bb = false := h.resolve_left (by omega)
      rw [hb0] at hbb
      simp (disch := first | omega | (simp only [List.length_map, List.length_append, List.length_cons, List.length_nil, List.length_take, List.length_drop, List.length_reverse, List.length_range, List.length_replicate]; omega)) only [WE_and, WE_cmp, truth_bl, WE_tup, LIM_eq, WA_cons, List.length_cons, Nat.reduceLeDiff, WA_nil, List.length_nil, true_and, WE_var, WE_lit, List.getElem?_cons_succ, List.getElem?_cons_zero, Option.some.injEq, exists_eq_left', hbb, cmpF_eq_int, decide_eq_true c, if_true]
      rw [WS_skip]
      exact hN
    · simp (disch := first | omega | (simp only [List.length_map, List.length_append, List.length_cons, List.length_nil, List.length_take, List.length_drop, List.length_reverse, List.length_range, List.length_replicate]; omega)) only [WE_and, WE_cmp, truth_bl, WE_tup, LIM_eq, WA_cons, List.length_cons, Nat.reduceLeDiff, WA_nil, List.length_nil, true_and, WE_var, WE_lit, List.getElem?_cons_succ, List.getElem?_cons_zero, Option.some.injEq, exists_eq_left', cmpF_eq_int, c, decide_false, Bool.false_eq_true, if_false]
      rw [WS_skip]
      exact hN
  by_cases hc : w ≠ 0 ∨ bb = false
  · refine WS_seqI fun N' hN => ?_
    refine no hc ?_
    refine hN _ ?_
    clear hN N'
    exact fin S z t hS hz ht _ rfl _ _ _
  · have w0 : w = 0 := Classical.byContradiction fun h => hc (.inl h)
    have b1 : bb = true := by cases bb with | true => rfl | false => exact absurd (.inr rfl) hc
    have c : ((w : Nat) : Int) = 0 := by omega
    rw [b1] at hbb
    refine WS_seqI fun N' hN => ?_
    refine WS_iteT ?_
    simp (disch := first | omega | (simp only [List.length_map, List.length_append, List.length_cons, List.length_nil, List.length_take, List.length_drop, List.length_reverse, List.length_range, List.length_replicate]; omega)) only [WE_and, WE_cmp, truth_bl, WE_tup, LIM_eq, WA_cons, List.length_cons, Nat.reduceLeDiff, WA_nil, List.length_nil, true_and, WE_var, WE_lit, List.getElem?_cons_succ, List.getElem?_cons_zero, Option.some.injEq, exists_eq_left', hbb, cmpF_eq_int, decide_eq_true c, if_true]
    refine WS_seqI fun N2 hN2 => ?_
    rw [WS_set]
    refine ⟨few, _, rfl, ?_⟩
    refine hN2 _ ?_
    clear hN2 N2
    simp only [List.set_cons_zero, List.set_cons_succ]
    rw [WS_set]
    simp (disch := first | omega | (simp only [List.length_map, List.length_append, List.length_cons, List.length_nil, List.length_take, List.length_drop, List.length_reverse, List.length_range, List.length_replicate]; omega)) only [WE_blt, WA_cons, WA_nil, blt_idx, WE_call, patch, List.map_cons, List.map_nil, List.set_cons_zero, WE_lit, WE_var, WE_lst, LIM_eq, List.length_cons, Nat.reduceLeDiff, List.length_nil, true_and, List.getElem?_cons_succ, List.getElem?_cons_zero, Option.some.injEq, Option.getD_some, exists_eq_left']
    refine next_wp hS (by decide) (by decide) fun k S hk hS => ?_
    obtain ⟨t, ht, a13⟩ := pick few (by simp [nones]) k (by omega)
    (try simp (disch := first | omega | (simp only [List.length_map, List.length_append, List.length_cons, List.length_nil, List.length_take, List.length_drop, List.length_reverse, List.length_range, List.length_replicate]; omega)) only [idx_lst, a13, Option.some.injEq, setAll, List.set_cons_succ, List.set_cons_zero, exists_eq_left'])
    refine hN _ ?_
    clear hN N'
    refine fin S few t hS (by simp [nones]) ht _ ?_ _ _ _
    first | rfl | (rw [w0]; rfl)
end
theorem plain : ∀ ns : List Int, ns.length ≤ 63 → ∃ os, evC T LV 9902 [.scr ns] = .ok (.bl true, os) := fun ns _ => by
  obtain ⟨d, os, h, rfl⟩ := law_wp (ns := ns)
  exact ⟨os, h⟩
end W84

set_option maxHeartbeats 4000000
namespace W84
open PySem PySem.Spec PyProof.Rows L2 Pv
theorem all_mk {P : Program} {w : World} {K : PySem.W.Frag} {h : Heap} {mg : Str → Option Value} {fa : Addr} (X : K.In h) (G : h.Ns mainGlobals mg) (hfa : mg "law" = some (.ref fa))
    {f0 f1 f2 f3 f4 f5 f6 f7 f8 f9 f10 f11 f12 f13 f14 f15 f16 f17 f18 f19 f20 f21 f22 f23 f24 f25 f26 f27 f28 f29 f30 f31 f32 f33 f34 f35 f36 f37 f38 f39 f40 f41 f42 f43 : Addr} {od0 an0 od1 an1 od2 an2 od3 an3 od4 an4 od5 an5 od6 an6 od7 an7 od8 an8 od9 an9 od10 an10 od11 an11 od12 an12 od13 an13 od14 an14 od15 an15 od16 an16 od17 an17 od18 an18 od19 an19 od20 an20 od21 an21 od22 an22 od23 an23 od24 an24 od25 an25 od26 an26 od27 an27 od28 an28 od29 an29 od30 an30 od31 an31 od32 an32 od33 an33 od34 an34 od35 an35 od36 an36 od37 an37 od38 an38 od39 an39 od40 an40 od41 an41 od42 an42 od43 an43 : Option Addr} {sl0 sl1 sl2 sl3 sl4 sl5 sl6 sl7 sl8 sl9 sl10 sl11 sl12 sl13 sl14 sl15 sl16 sl17 sl18 sl19 sl20 sl21 sl22 sl23 sl24 sl25 sl26 sl27 sl28 sl29 sl30 sl31 sl32 sl33 sl34 sl35 sl36 sl37 sl38 sl39 sl40 sl41 sl42 sl43 : Array (Option Value)} {oc0 kV0 dc0 pm0 cd0 ct0 oc1 kV1 dc1 pm1 cd1 ct1 oc2 kV2 dc2 pm2 cd2 ct2 oc3 kV3 dc3 pm3 cd3 ct3 oc4 kV4 dc4 pm4 cd4 ct4 oc5 kV5 dc5 pm5 cd5 ct5 oc6 kV6 dc6 pm6 cd6 ct6 oc7 kV7 dc7 pm7 cd7 ct7 oc8 kV8 dc8 pm8 cd8 ct8 oc9 kV9 dc9 pm9 cd9 ct9 oc10 kV10 dc10 pm10 cd10 ct10 oc11 kV11 dc11 pm11 cd11 ct11 oc12 kV12 dc12 pm12 cd12 ct12 oc13 kV13 dc13 pm13 cd13 ct13 oc14 kV14 dc14 pm14 cd14 ct14 oc15 kV15 dc15 pm15 cd15 ct15 oc16 kV16 dc16 pm16 cd16 ct16 oc17 kV17 dc17 pm17 cd17 ct17 oc18 kV18 dc18 pm18 cd18 ct18 oc19 kV19 dc19 pm19 cd19 ct19 oc20 kV20 dc20 pm20 cd20 ct20 oc21 kV21 dc21 pm21 cd21 ct21 oc22 kV22 dc22 pm22 cd22 ct22 oc23 kV23 dc23 pm23 cd23 ct23 oc24 kV24 dc24 pm24 cd24 ct24 oc25 kV25 dc25 pm25 cd25 ct25 oc26 kV26 dc26 pm26 cd26 ct26 oc27 kV27 dc27 pm27 cd27 ct27 oc28 kV28 dc28 pm28 cd28 ct28 oc29 kV29 dc29 pm29 cd29 ct29 oc30 kV30 dc30 pm30 cd30 ct30 oc31 kV31 dc31 pm31 cd31 ct31 oc32 kV32 dc32 pm32 cd32 ct32 oc33 kV33 dc33 pm33 cd33 ct33 oc34 kV34 dc34 pm34 cd34 ct34 oc35 kV35 dc35 pm35 cd35 ct35 oc36 kV36 dc36 pm36 cd36 ct36 oc37 kV37 dc37 pm37 cd37 ct37 oc38 kV38 dc38 pm38 cd38 ct38 oc39 kV39 dc39 pm39 cd39 ct39 oc40 kV40 dc40 pm40 cd40 ct40 oc41 kV41 dc41 pm41 cd41 ct41 oc42 kV42 dc42 pm42 cd42 ct42 oc43 kV43 dc43 pm43 cd43 ct43 : Value} {t0 : Tok} {t2 : Tok} {t4 : Tok} {t6 : Tok} {t8 : Tok} {C0 : Addr} {C1 : Addr} {xnm1 xq1 : Str} {xN1 : Addr} {xbs1 : List Value} {xsn1 : List Str} {xsub1 : List Value} {xab1 : Bool} {xcol1 : Option Bool} {xdd1 : Option Addr} {xm01 xm11 xm21 xm31 xm51 : Option Value} {xf1 : Addr} {xod1 xan1 : Option Addr} {xsl1 : Array (Option Value)} {xoc1 xkV1 xdc1 xpm1 xcd1 xct1 : Value} {Y0 : Addr} {yf0_0 : Addr} {yod0_0 yan0_0 : Option Addr} {ysl0_0 : Array (Option Value)} {yoc0_0 ykV0_0 ydc0_0 ypm0_0 ycd0_0 yct0_0 : Value} {yf1_0 : Addr} {yod1_0 yan1_0 : Option Addr} {ysl1_0 : Array (Option Value)} {yoc1_0 ykV1_0 ydc1_0 ypm1_0 ycd1_0 yct1_0 : Value} {yf2_0 : Addr} {yod2_0 yan2_0 : Option Addr} {ysl2_0 : Array (Option Value)} {yoc2_0 ykV2_0 ydc2_0 ypm2_0 ycd2_0 yct2_0 : Value} {yf3_0 : Addr} {yod3_0 yan3_0 : Option Addr} {ysl3_0 : Array (Option Value)} {yoc3_0 ykV3_0 ydc3_0 ypm3_0 ycd3_0 yct3_0 : Value}
    (a0 : PySem.W.nsIn K mainGlobals "is_whole" = some (some (.ref f0)))
    (l0 : K.lookup f0 = some ⟨oc0, od0, .func (PySem.W.fnOf "is_whole" "is_whole" (defArgs (topS 8)) (defBody (topS 8)) (defScope (topS 8)) .none kV0 dc0 pm0 an0 cd0 ct0), sl0⟩)
    (c0 : PySem.W.codeIn K cd0 "is_whole" = true)
    (k0 : PySem.W.keepIn K (.ref f0) = true)
    (a1 : PySem.W.nsIn K mainGlobals "is_level" = some (some (.ref f1)))
    (l1 : K.lookup f1 = some ⟨oc1, od1, .func (PySem.W.fnOf "is_level" "is_level" (defArgs (topS 9)) (defBody (topS 9)) (defScope (topS 9)) .none kV1 dc1 pm1 an1 cd1 ct1), sl1⟩)
    (c1 : PySem.W.codeIn K cd1 "is_level" = true)
    (k1 : PySem.W.keepIn K (.ref f1) = true)
    (a2 : PySem.W.nsIn K mainGlobals "is_letter" = some (some (.ref f2)))
    (l2 : K.lookup f2 = some ⟨oc2, od2, .func (PySem.W.fnOf "is_letter" "is_letter" (defArgs (topS 10)) (defBody (topS 10)) (defScope (topS 10)) .none kV2 dc2 pm2 an2 cd2 ct2), sl2⟩)
    (c2 : PySem.W.codeIn K cd2 "is_letter" = true)
    (k2 : PySem.W.keepIn K (.ref f2) = true)
    (a3 : PySem.W.nsIn K mainGlobals "are_letters" = some (some (.ref f3)))
    (l3 : K.lookup f3 = some ⟨oc3, od3, .func (PySem.W.fnOf "are_letters" "are_letters" (defArgs (topS 11)) (defBody (topS 11)) (defScope (topS 11)) .none kV3 dc3 pm3 an3 cd3 ct3), sl3⟩)
    (c3 : PySem.W.codeIn K cd3 "are_letters" = true)
    (k3 : PySem.W.keepIn K (.ref f3) = true)
    (a4 : PySem.W.nsIn K mainGlobals "is_order" = some (some (.ref f4)))
    (l4 : K.lookup f4 = some ⟨oc4, od4, .func (PySem.W.fnOf "is_order" "is_order" (defArgs (topS 12)) (defBody (topS 12)) (defScope (topS 12)) .none kV4 dc4 pm4 an4 cd4 ct4), sl4⟩)
    (c4 : PySem.W.codeIn K cd4 "is_order" = true)
    (k4 : PySem.W.keepIn K (.ref f4) = true)
    (a5 : PySem.W.nsIn K mainGlobals "removed" = some (some (.ref f5)))
    (l5 : K.lookup f5 = some ⟨oc5, od5, .func (PySem.W.fnOf "removed" "removed" (defArgs (topS 13)) (defBody (topS 13)) (defScope (topS 13)) .none kV5 dc5 pm5 an5 cd5 ct5), sl5⟩)
    (c5 : PySem.W.codeIn K cd5 "removed" = true)
    (k5 : PySem.W.keepIn K (.ref f5) = true)
    (a6 : PySem.W.nsIn K mainGlobals "places_of" = some (some (.ref f6)))
    (l6 : K.lookup f6 = some ⟨oc6, od6, .func (PySem.W.fnOf "places_of" "places_of" (defArgs (topS 15)) (defBody (topS 15)) (defScope (topS 15)) .none kV6 dc6 pm6 an6 cd6 ct6), sl6⟩)
    (c6 : PySem.W.codeIn K cd6 "places_of" = true)
    (k6 : PySem.W.keepIn K (.ref f6) = true)
    (a7 : PySem.W.nsIn K mainGlobals "least_between" = some (some (.ref f7)))
    (l7 : K.lookup f7 = some ⟨oc7, od7, .func (PySem.W.fnOf "least_between" "least_between" (defArgs (topS 16)) (defBody (topS 16)) (defScope (topS 16)) .none kV7 dc7 pm7 an7 cd7 ct7), sl7⟩)
    (c7 : PySem.W.codeIn K cd7 "least_between" = true)
    (k7 : PySem.W.keepIn K (.ref f7) = true)
    (a8 : PySem.W.nsIn K mainGlobals "longest_in" = some (some (.ref f8)))
    (l8 : K.lookup f8 = some ⟨oc8, od8, .func (PySem.W.fnOf "longest_in" "longest_in" (defArgs (topS 18)) (defBody (topS 18)) (defScope (topS 18)) .none kV8 dc8 pm8 an8 cd8 ct8), sl8⟩)
    (c8 : PySem.W.codeIn K cd8 "longest_in" = true)
    (k8 : PySem.W.keepIn K (.ref f8) = true)
    (a9 : PySem.W.nsIn K mainGlobals "longest_of" = some (some (.ref f9)))
    (l9 : K.lookup f9 = some ⟨oc9, od9, .func (PySem.W.fnOf "longest_of" "longest_of" (defArgs (topS 19)) (defBody (topS 19)) (defScope (topS 19)) .none kV9 dc9 pm9 an9 cd9 ct9), sl9⟩)
    (c9 : PySem.W.codeIn K cd9 "longest_of" = true)
    (k9 : PySem.W.keepIn K (.ref f9) = true)
    (a10 : PySem.W.nsIn K mainGlobals "is_integer" = some (some (.ref f10)))
    (l10 : K.lookup f10 = some ⟨oc10, od10, .func (PySem.W.fnOf "is_integer" "is_integer" (defArgs (topS 20)) (defBody (topS 20)) (defScope (topS 20)) .none kV10 dc10 pm10 an10 cd10 ct10), sl10⟩)
    (c10 : PySem.W.codeIn K cd10 "is_integer" = true)
    (k10 : PySem.W.keepIn K (.ref f10) = true)
    (a11 : PySem.W.nsIn K mainGlobals "are_right" = some (some (.ref f11)))
    (l11 : K.lookup f11 = some ⟨oc11, od11, .func (PySem.W.fnOf "are_right" "are_right" (defArgs (topS 21)) (defBody (topS 21)) (defScope (topS 21)) .none kV11 dc11 pm11 an11 cd11 ct11), sl11⟩)
    (c11 : PySem.W.codeIn K cd11 "are_right" = true)
    (k11 : PySem.W.keepIn K (.ref f11) = true)
    (a12 : PySem.W.nsIn K mainGlobals "turned_around" = some (some (.ref f12)))
    (l12 : K.lookup f12 = some ⟨oc12, od12, .func (PySem.W.fnOf "turned_around" "turned_around" (defArgs (topS 23)) (defBody (topS 23)) (defScope (topS 23)) .none kV12 dc12 pm12 an12 cd12 ct12), sl12⟩)
    (c12 : PySem.W.codeIn K cd12 "turned_around" = true)
    (k12 : PySem.W.keepIn K (.ref f12) = true)
    (a13 : PySem.W.nsIn K mainGlobals "put_after" = some (some (.ref f13)))
    (l13 : K.lookup f13 = some ⟨oc13, od13, .func (PySem.W.fnOf "put_after" "put_after" (defArgs (topS 24)) (defBody (topS 24)) (defScope (topS 24)) .none kV13 dc13 pm13 an13 cd13 ct13), sl13⟩)
    (c13 : PySem.W.codeIn K cd13 "put_after" = true)
    (k13 : PySem.W.keepIn K (.ref f13) = true)
    (a14 : PySem.W.nsIn K mainGlobals "put" = some (some (.ref f14)))
    (l14 : K.lookup f14 = some ⟨oc14, od14, .func (PySem.W.fnOf "put" "put" (defArgs (topS 25)) (defBody (topS 25)) (defScope (topS 25)) .none kV14 dc14 pm14 an14 cd14 ct14), sl14⟩)
    (c14 : PySem.W.codeIn K cd14 "put" = true)
    (k14 : PySem.W.keepIn K (.ref f14) = true)
    (a15 : PySem.W.nsIn K mainGlobals "from_left" = some (some (.ref f15)))
    (l15 : K.lookup f15 = some ⟨oc15, od15, .func (PySem.W.fnOf "from_left" "from_left" (defArgs (topS 27)) (defBody (topS 27)) (defScope (topS 27)) .none kV15 dc15 pm15 an15 cd15 ct15), sl15⟩)
    (c15 : PySem.W.codeIn K cd15 "from_left" = true)
    (k15 : PySem.W.keepIn K (.ref f15) = true)
    (a16 : PySem.W.nsIn K mainGlobals "from_right" = some (some (.ref f16)))
    (l16 : K.lookup f16 = some ⟨oc16, od16, .func (PySem.W.fnOf "from_right" "from_right" (defArgs (topS 28)) (defBody (topS 28)) (defScope (topS 28)) .none kV16 dc16 pm16 an16 cd16 ct16), sl16⟩)
    (c16 : PySem.W.codeIn K cd16 "from_right" = true)
    (k16 : PySem.W.keepIn K (.ref f16) = true)
    (a17 : PySem.W.nsIn K mainGlobals "gap_rules" = some (some (.ref f17)))
    (l17 : K.lookup f17 = some ⟨oc17, od17, .func (PySem.W.fnOf "gap_rules" "gap_rules" (defArgs (topS 29)) (defBody (topS 29)) (defScope (topS 29)) .none kV17 dc17 pm17 an17 cd17 ct17), sl17⟩)
    (c17 : PySem.W.codeIn K cd17 "gap_rules" = true)
    (k17 : PySem.W.keepIn K (.ref f17) = true)
    (a18 : PySem.W.nsIn K mainGlobals "keep" = some (some (.ref f18)))
    (l18 : K.lookup f18 = some ⟨oc18, od18, .func (PySem.W.fnOf "keep" "keep" (defArgs (topS 30)) (defBody (topS 30)) (defScope (topS 30)) .none kV18 dc18 pm18 an18 cd18 ct18), sl18⟩)
    (c18 : PySem.W.codeIn K cd18 "keep" = true)
    (k18 : PySem.W.keepIn K (.ref f18) = true)
    (a19 : PySem.W.nsIn K mainGlobals "distance_of" = some (some (.ref f19)))
    (l19 : K.lookup f19 = some ⟨oc19, od19, .func (PySem.W.fnOf "distance_of" "distance_of" (defArgs (topS 32)) (defBody (topS 32)) (defScope (topS 32)) .none kV19 dc19 pm19 an19 cd19 ct19), sl19⟩)
    (c19 : PySem.W.codeIn K cd19 "distance_of" = true)
    (k19 : PySem.W.keepIn K (.ref f19) = true)
    (a20 : PySem.W.nsIn K mainGlobals "rules_of" = some (some (.ref f20)))
    (l20 : K.lookup f20 = some ⟨oc20, od20, .func (PySem.W.fnOf "rules_of" "rules_of" (defArgs (topS 33)) (defBody (topS 33)) (defScope (topS 33)) .none kV20 dc20 pm20 an20 cd20 ct20), sl20⟩)
    (c20 : PySem.W.codeIn K cd20 "rules_of" = true)
    (k20 : PySem.W.keepIn K (.ref f20) = true)
    (a21 : PySem.W.nsIn K mainGlobals "has_letters" = some (some (.ref f21)))
    (l21 : K.lookup f21 = some ⟨oc21, od21, .func (PySem.W.fnOf "has_letters" "has_letters" (defArgs (topS 36)) (defBody (topS 36)) (defScope (topS 36)) .none kV21 dc21 pm21 an21 cd21 ct21), sl21⟩)
    (c21 : PySem.W.codeIn K cd21 "has_letters" = true)
    (k21 : PySem.W.keepIn K (.ref f21) = true)
    (a22 : PySem.W.nsIn K mainGlobals "is_path" = some (some (.ref f22)))
    (l22 : K.lookup f22 = some ⟨oc22, od22, .func (PySem.W.fnOf "is_path" "is_path" (defArgs (topS 37)) (defBody (topS 37)) (defScope (topS 37)) .none kV22 dc22 pm22 an22 cd22 ct22), sl22⟩)
    (c22 : PySem.W.codeIn K cd22 "is_path" = true)
    (k22 : PySem.W.keepIn K (.ref f22) = true)
    (a23 : PySem.W.nsIn K mainGlobals "check_path" = some (some (.ref f23)))
    (l23 : K.lookup f23 = some ⟨oc23, od23, .func (PySem.W.fnOf "check_path" "check_path" (defArgs (topS 38)) (defBody (topS 38)) (defScope (topS 38)) .none kV23 dc23 pm23 an23 cd23 ct23), sl23⟩)
    (c23 : PySem.W.codeIn K cd23 "check_path" = true)
    (k23 : PySem.W.keepIn K (.ref f23) = true)
    (a24 : PySem.W.nsIn K mainGlobals "check_alike" = some (some (.ref f24)))
    (l24 : K.lookup f24 = some ⟨oc24, od24, .func (PySem.W.fnOf "check_alike" "check_alike" (defArgs (topS 39)) (defBody (topS 39)) (defScope (topS 39)) .none kV24 dc24 pm24 an24 cd24 ct24), sl24⟩)
    (c24 : PySem.W.codeIn K cd24 "check_alike" = true)
    (k24 : PySem.W.keepIn K (.ref f24) = true)
    (a25 : PySem.W.nsIn K mainGlobals "check_begin" = some (some (.ref f25)))
    (l25 : K.lookup f25 = some ⟨oc25, od25, .func (PySem.W.fnOf "check_begin" "check_begin" (defArgs (topS 40)) (defBody (topS 40)) (defScope (topS 40)) .none kV25 dc25 pm25 an25 cd25 ct25), sl25⟩)
    (c25 : PySem.W.codeIn K cd25 "check_begin" = true)
    (k25 : PySem.W.keepIn K (.ref f25) = true)
    (a26 : PySem.W.nsIn K mainGlobals "length_of" = some (some (.ref f26)))
    (l26 : K.lookup f26 = some ⟨oc26, od26, .func (PySem.W.fnOf "length_of" "length_of" (defArgs (topS 41)) (defBody (topS 41)) (defScope (topS 41)) .none kV26 dc26 pm26 an26 cd26 ct26), sl26⟩)
    (c26 : PySem.W.codeIn K cd26 "length_of" = true)
    (k26 : PySem.W.keepIn K (.ref f26) = true)
    (a27 : PySem.W.nsIn K mainGlobals "length" = some (some (.ref f27)))
    (l27 : K.lookup f27 = some ⟨oc27, od27, .func (PySem.W.fnOf "length" "length" (defArgs (topS 42)) (defBody (topS 42)) (defScope (topS 42)) .none kV27 dc27 pm27 an27 cd27 ct27), sl27⟩)
    (c27 : PySem.W.codeIn K cd27 "length" = true)
    (k27 : PySem.W.keepIn K (.ref f27) = true)
    (a28 : PySem.W.nsIn K mainGlobals "direct" = some (some (.ref f28)))
    (l28 : K.lookup f28 = some ⟨oc28, od28, .func (PySem.W.fnOf "direct" "direct" (defArgs (topS 43)) (defBody (topS 43)) (defScope (topS 43)) .none kV28 dc28 pm28 an28 cd28 ct28), sl28⟩)
    (c28 : PySem.W.codeIn K cd28 "direct" = true)
    (k28 : PySem.W.keepIn K (.ref f28) = true)
    (a29 : PySem.W.nsIn K mainGlobals "is_shortest" = some (some (.ref f29)))
    (l29 : K.lookup f29 = some ⟨oc29, od29, .func (PySem.W.fnOf "is_shortest" "is_shortest" (defArgs (topS 44)) (defBody (topS 44)) (defScope (topS 44)) .none kV29 dc29 pm29 an29 cd29 ct29), sl29⟩)
    (c29 : PySem.W.codeIn K cd29 "is_shortest" = true)
    (k29 : PySem.W.keepIn K (.ref f29) = true)
    (a30 : PySem.W.nsIn K mainGlobals "farthest" = some (some (.ref f30)))
    (l30 : K.lookup f30 = some ⟨oc30, od30, .func (PySem.W.fnOf "farthest" "farthest" (defArgs (topS 45)) (defBody (topS 45)) (defScope (topS 45)) .none kV30 dc30 pm30 an30 cd30 ct30), sl30⟩)
    (c30 : PySem.W.codeIn K cd30 "farthest" = true)
    (k30 : PySem.W.keepIn K (.ref f30) = true)
    (a31 : PySem.W.nsIn K mainGlobals "joined_rules" = some (some (.ref f31)))
    (l31 : K.lookup f31 = some ⟨oc31, od31, .func (PySem.W.fnOf "joined_rules" "joined_rules" (defArgs (topS 46)) (defBody (topS 46)) (defScope (topS 46)) .none kV31 dc31 pm31 an31 cd31 ct31), sl31⟩)
    (c31 : PySem.W.codeIn K cd31 "joined_rules" = true)
    (k31 : PySem.W.keepIn K (.ref f31) = true)
    (a32 : PySem.W.nsIn K mainGlobals "kept_along" = some (some (.ref f32)))
    (l32 : K.lookup f32 = some ⟨oc32, od32, .func (PySem.W.fnOf "kept_along" "kept_along" (defArgs (topS 47)) (defBody (topS 47)) (defScope (topS 47)) .none kV32 dc32 pm32 an32 cd32 ct32), sl32⟩)
    (c32 : PySem.W.codeIn K cd32 "kept_along" = true)
    (k32 : PySem.W.keepIn K (.ref f32) = true)
    (a33 : PySem.W.nsIn K mainGlobals "lies_between" = some (some (.ref f33)))
    (l33 : K.lookup f33 = some ⟨oc33, od33, .func (PySem.W.fnOf "lies_between" "lies_between" (defArgs (topS 48)) (defBody (topS 48)) (defScope (topS 48)) .none kV33 dc33 pm33 an33 cd33 ct33), sl33⟩)
    (c33 : PySem.W.codeIn K cd33 "lies_between" = true)
    (k33 : PySem.W.keepIn K (.ref f33) = true)
    (a34 : PySem.W.nsIn K mainGlobals "is_step" = some (some (.ref f34)))
    (l34 : K.lookup f34 = some ⟨oc34, od34, .func (PySem.W.fnOf "is_step" "is_step" (defArgs (topS 50)) (defBody (topS 50)) (defScope (topS 50)) .none kV34 dc34 pm34 an34 cd34 ct34), sl34⟩)
    (c34 : PySem.W.codeIn K cd34 "is_step" = true)
    (k34 : PySem.W.keepIn K (.ref f34) = true)
    (a35 : PySem.W.nsIn K mainGlobals "is_one_rule_away" = some (some (.ref f35)))
    (l35 : K.lookup f35 = some ⟨oc35, od35, .func (PySem.W.fnOf "is_one_rule_away" "is_one_rule_away" (defArgs (topS 51)) (defBody (topS 51)) (defScope (topS 51)) .none kV35 dc35 pm35 an35 cd35 ct35), sl35⟩)
    (c35 : PySem.W.codeIn K cd35 "is_one_rule_away" = true)
    (k35 : PySem.W.keepIn K (.ref f35) = true)
    (a36 : PySem.W.nsIn K mainGlobals "way" = some (some (.ref f36)))
    (l36 : K.lookup f36 = some ⟨oc36, od36, .func (PySem.W.fnOf "way" "way" (defArgs (topS 52)) (defBody (topS 52)) (defScope (topS 52)) .none kV36 dc36 pm36 an36 cd36 ct36), sl36⟩)
    (c36 : PySem.W.codeIn K cd36 "way" = true)
    (k36 : PySem.W.keepIn K (.ref f36) = true)
    (a37 : PySem.W.nsIn K mainGlobals "is_row" = some (some (.ref f37)))
    (l37 : K.lookup f37 = some ⟨oc37, od37, .func (PySem.W.fnOf "is_row" "is_row" (defArgs (topS 53)) (defBody (topS 53)) (defScope (topS 53)) .none kV37 dc37 pm37 an37 cd37 ct37), sl37⟩)
    (c37 : PySem.W.codeIn K cd37 "is_row" = true)
    (k37 : PySem.W.keepIn K (.ref f37) = true)
    (a38 : PySem.W.nsIn K mainGlobals "is_shortest_row" = some (some (.ref f38)))
    (l38 : K.lookup f38 = some ⟨oc38, od38, .func (PySem.W.fnOf "is_shortest_row" "is_shortest_row" (defArgs (topS 54)) (defBody (topS 54)) (defScope (topS 54)) .none kV38 dc38 pm38 an38 cd38 ct38), sl38⟩)
    (c38 : PySem.W.codeIn K cd38 "is_shortest_row" = true)
    (k38 : PySem.W.keepIn K (.ref f38) = true)
    (a39 : PySem.W.nsIn K mainGlobals "_law_stream" = some (some (.ref f39)))
    (l39 : K.lookup f39 = some ⟨oc39, od39, .func (PySem.W.fnOf "_law_stream" "_law_stream" (defArgs (topS 56)) (defBody (topS 56)) (defScope (topS 56)) .none kV39 dc39 pm39 an39 cd39 ct39), sl39⟩)
    (c39 : PySem.W.codeIn K cd39 "_law_stream" = true)
    (k39 : PySem.W.keepIn K (.ref f39) = true)
    (a40 : PySem.W.nsIn K mainGlobals "_law_next" = some (some (.ref f40)))
    (l40 : K.lookup f40 = some ⟨oc40, od40, .func (PySem.W.fnOf "_law_next" "_law_next" (defArgs (topS 57)) (defBody (topS 57)) (defScope (topS 57)) .none kV40 dc40 pm40 an40 cd40 ct40), sl40⟩)
    (c40 : PySem.W.codeIn K cd40 "_law_next" = true)
    (k40 : PySem.W.keepIn K (.ref f40) = true)
    (a41 : PySem.W.nsIn K mainGlobals "_law_path_told" = some (some (.ref f41)))
    (l41 : K.lookup f41 = some ⟨oc41, od41, .func (PySem.W.fnOf "_law_path_told" "_law_path_told" (defArgs (topS 58)) (defBody (topS 58)) (defScope (topS 58)) .none kV41 dc41 pm41 an41 cd41 ct41), sl41⟩)
    (c41 : PySem.W.codeIn K cd41 "_law_path_told" = true)
    (k41 : PySem.W.keepIn K (.ref f41) = true)
    (a42 : PySem.W.nsIn K mainGlobals "_law_told" = some (some (.ref f42)))
    (l42 : K.lookup f42 = some ⟨oc42, od42, .func (PySem.W.fnOf "_law_told" "_law_told" (defArgs (topS 59)) (defBody (topS 59)) (defScope (topS 59)) .none kV42 dc42 pm42 an42 cd42 ct42), sl42⟩)
    (c42 : PySem.W.codeIn K cd42 "_law_told" = true)
    (k42 : PySem.W.keepIn K (.ref f42) = true)
    (a43 : PySem.W.nsIn K mainGlobals "law" = some (some (.ref f43)))
    (l43 : K.lookup f43 = some ⟨oc43, od43, .func (PySem.W.fnOf "law" "law" (defArgs (topS 60)) (defBody (topS 60)) (defScope (topS 60)) .none kV43 dc43 pm43 an43 cd43 ct43), sl43⟩)
    (c43 : PySem.W.codeIn K cd43 "law" = true)
    (k43 : PySem.W.keepIn K (.ref f43) = true)
    (g1 : PySem.W.nsIn K mainGlobals "CHARACTERS" = some (some (.str "abcdefghijklmnopqrstuvwxyz" t0)))
    (g3 : PySem.W.nsIn K mainGlobals "DIGITS" = some (some (.str "0123456789" t2)))
    (g5 : PySem.W.nsIn K mainGlobals "LONGEST" = some (some (.int 12 t4)))
    (g7 : PySem.W.nsIn K mainGlobals "MOST" = some (some (.int 12 t6)))
    (g9 : PySem.W.nsIn K mainGlobals "MOST_ORDERS" = some (some (.int 6 t8)))
    (n0 : PySem.W.nsIn K mainGlobals "len" = some none)
    (n1 : PySem.W.nsIn K mainGlobals "abs" = some none)
    (n2 : PySem.W.nsIn K mainGlobals "int" = some none)
    (n3 : PySem.W.nsIn K mainGlobals "bool" = some none)
    (n4 : PySem.W.nsIn K mainGlobals "str" = some none)
    (n5 : PySem.W.nsIn K mainGlobals "list" = some none)
    (n6 : PySem.W.nsIn K mainGlobals "tuple" = some none)
    (n7 : PySem.W.nsIn K mainGlobals "all" = some none)
    (n8 : PySem.W.nsIn K mainGlobals "any" = some none)
    (n9 : PySem.W.nsIn K mainGlobals "min" = some none)
    (n10 : PySem.W.nsIn K mainGlobals "max" = some none)
    (n11 : PySem.W.nsIn K mainGlobals "sum" = some none)
    (n12 : PySem.W.nsIn K mainGlobals "sorted" = some none)
    (n13 : PySem.W.nsIn K mainGlobals "isinstance" = some none)
    (n14 : PySem.W.nsIn K mainGlobals "range" = some none)
    (n15 : PySem.W.nsIn K mainGlobals "enumerate" = some none)
    (n16 : PySem.W.nsIn K mainGlobals "zip" = some none)
    (xg0 : PySem.W.nsIn K mainGlobals "RulesError" = some (some (.ref C0)))
    (xg1 : PySem.W.nsIn K mainGlobals "BadValue" = some (some (.ref C1)))
    (xb0 : PySem.W.subIn K (.ref C0) (.type "BaseException") = some true)
    (xi0 : PySem.W.isClsIn K C0 = true)
    (xt0 : PySem.W.typeIn K (.ref C0) = some (.type "type"))
    (xb1 : PySem.W.subIn K (.ref C1) (.type "BaseException") = some true)
    (xi1 : PySem.W.isClsIn K C1 = true)
    (xt1 : PySem.W.typeIn K (.ref C1) = some (.type "type"))
    (xgs : PySem.W.specialIn K (.builtin "object.__class__") "__get__" = some (some (.builtin "getset_descriptor.__get__")))
    (xtk : PySem.W.takesIn K (.builtin "object.__class__") = some true)
    (xL1 : K.lookup C1 = some (excClassObj xnm1 xq1 C1 xN1 xbs1 (.ref C0 :: [.type "ValueError", .type "Exception", .type "BaseException", .type "object"]) true xsn1 xsub1 xab1 xcol1 xdd1 xm01 xm11 xm21 xm31 xm51 "ValueError.__new__"))
    (xsa1 : PySem.W.findIn K (.ref C1) "__setattr__" = some (some (.builtin "object.__setattr__")))
    (xga1 : PySem.W.findIn K (.ref C1) "__getattribute__" = some (some (.builtin "BaseException.__getattribute__")))
    (xgg1 : PySem.W.findIn K (.ref C1) "__getattr__" = some none)
    (xn0_1 : PySem.W.findIn K (.ref C1) "name" = some none)
    (xk1 : PySem.W.keepIn K (.ref C1) = true)
    (xh1 : PySem.W.hasDictIn K C1 = true)
    (xcl1 : PySem.W.findIn K (.ref C1) "__class__" = some (some (.builtin "object.__class__")))
    (xmr1 : PySem.W.mroIn K C1 (.type "object") = some true)
    (xve1 : PySem.W.subIn K (.ref C1) (.type "ValueError") = some true)
    (xp0_1 : PySem.W.subIn K (.ref C1) (.ref C0) = some true)
    (xp1_1 : PySem.W.subIn K (.ref C1) (.ref C1) = some true)
    (xiC1 : PySem.W.findIn K (.ref C1) "__init__" = some (some (.ref xf1)))
    (xtI1 : PySem.W.typeIn K (.ref xf1) = some (.type "function"))
    (xlI1 : K.lookup xf1 = some ⟨xoc1, xod1, .func (PySem.W.fnOf "__init__" "BadValue.__init__" (defArgs (iniS (topS 2) 0)) (defBody (iniS (topS 2) 0)) (defScope (iniS (topS 2) 0)) .none xkV1 xdc1 xpm1 xan1 xcd1 xct1), xsl1⟩)
    (xcI1 : PySem.W.codeIn K xcd1 "BadValue.__init__" = true)
    (xkI1 : PySem.W.keepIn K (.ref xf1) = true)
    (yg0 : PySem.W.nsIn K mainGlobals "Pairs" = some (some (.ref Y0)))
    (ypg0 : PySem.W.plainGet K Y0 Str.empty = true)
    (yhd0 : PySem.W.hasDictIn K Y0 = true)
    (ypo0 : PySem.W.plainOver K Y0 = true)
    (ysa0 : PySem.W.findIn K (.ref Y0) "__setattr__" = some (some (.builtin "object.__setattr__")))
    (ynb0 : PySem.W.findIn K (.ref Y0) "__bool__" = some none)
    (ynl0 : PySem.W.findIn K (.ref Y0) "__len__" = some none)
    (ycl0 : PySem.W.findIn K (.ref Y0) "__class__" = some (some (.builtin "object.__class__")))
    (ymr0 : PySem.W.mroIn K Y0 (.type "object") = some true)
    (yn0_0 : PySem.W.subIn K (.ref Y0) (.type "int") = some false)
    (yn1_0 : PySem.W.subIn K (.ref Y0) (.type "bool") = some false)
    (yn2_0 : PySem.W.subIn K (.ref Y0) (.type "str") = some false)
    (yn3_0 : PySem.W.subIn K (.ref Y0) (.type "tuple") = some false)
    (yn4_0 : PySem.W.subIn K (.ref Y0) (.type "list") = some false)
    (ya0_0 : PySem.W.findIn K (.ref Y0) "places" = some none)
    (ya1_0 : PySem.W.findIn K (.ref Y0) "first" = some none)
    (ya2_0 : PySem.W.findIn K (.ref Y0) "second" = some none)
    (ya3_0 : PySem.W.findIn K (.ref Y0) "own" = some none)
    (ya4_0 : PySem.W.findIn K (.ref Y0) "letters" = some none)
    (ya5_0 : PySem.W.findIn K (.ref Y0) "many" = some none)
    (ya6_0 : PySem.W.findIn K (.ref Y0) "links" = some none)
    (yk0 : PySem.W.keepIn K (.ref Y0) = true)
    (ymk0 : PySem.W.makesIn K Y0 = true)
    (yM0_0 : PySem.W.findIn K (.ref Y0) "__init__" = some (some (.ref yf0_0)))
    (yF0_0 : PySem.W.isFn K (.ref yf0_0) = true)
    (yK0_0 : PySem.W.keepIn K (.ref yf0_0) = true)
    (yL0_0 : K.lookup yf0_0 = some ⟨yoc0_0, yod0_0, .func (PySem.W.fnOf "__init__" "Pairs.__init__" (defArgs (iniS (topS 17) 0)) (defBody (iniS (topS 17) 0)) (defScope (iniS (topS 17) 0)) .none ykV0_0 ydc0_0 ypm0_0 yan0_0 ycd0_0 yct0_0), ysl0_0⟩)
    (yC0_0 : PySem.W.codeIn K ycd0_0 "Pairs.__init__" = true)
    (yM1_0 : PySem.W.findIn K (.ref Y0) "can_follow" = some (some (.ref yf1_0)))
    (yF1_0 : PySem.W.isFn K (.ref yf1_0) = true)
    (yK1_0 : PySem.W.keepIn K (.ref yf1_0) = true)
    (yL1_0 : K.lookup yf1_0 = some ⟨yoc1_0, yod1_0, .func (PySem.W.fnOf "can_follow" "Pairs.can_follow" (defArgs (iniS (topS 17) 1)) (defBody (iniS (topS 17) 1)) (defScope (iniS (topS 17) 1)) .none ykV1_0 ydc1_0 ypm1_0 yan1_0 ycd1_0 yct1_0), ysl1_0⟩)
    (yC1_0 : PySem.W.codeIn K ycd1_0 "Pairs.can_follow" = true)
    (yM2_0 : PySem.W.findIn K (.ref Y0) "lengths" = some (some (.ref yf2_0)))
    (yF2_0 : PySem.W.isFn K (.ref yf2_0) = true)
    (yK2_0 : PySem.W.keepIn K (.ref yf2_0) = true)
    (yL2_0 : K.lookup yf2_0 = some ⟨yoc2_0, yod2_0, .func (PySem.W.fnOf "lengths" "Pairs.lengths" (defArgs (iniS (topS 17) 2)) (defBody (iniS (topS 17) 2)) (defScope (iniS (topS 17) 2)) .none ykV2_0 ydc2_0 ypm2_0 yan2_0 ycd2_0 yct2_0), ysl2_0⟩)
    (yC2_0 : PySem.W.codeIn K ycd2_0 "Pairs.lengths" = true)
    (yM3_0 : PySem.W.findIn K (.ref Y0) "levels" = some (some (.ref yf3_0)))
    (yF3_0 : PySem.W.isFn K (.ref yf3_0) = true)
    (yK3_0 : PySem.W.keepIn K (.ref yf3_0) = true)
    (yL3_0 : K.lookup yf3_0 = some ⟨yoc3_0, yod3_0, .func (PySem.W.fnOf "levels" "Pairs.levels" (defArgs (iniS (topS 17) 3)) (defBody (iniS (topS 17) 3)) (defScope (iniS (topS 17) 3)) .none ykV3_0 ydc3_0 ypm3_0 yan3_0 ycd3_0 yct3_0), ysl3_0⟩)
    (yC3_0 : PySem.W.codeIn K ycd3_0 "Pairs.levels" = true)
    : ∃ (fd : FuncData) (nm qual : Str), (∀ (s : Shared) (u : Value), BindsTo s fd ⟨[u], []⟩ [("_law_script", u)]) ∧ Fun K nm qual (topS 60) fa fd ∧ ∀ base : Heap, TabOk P w K mg base T fns consts nos exs cls := by
  have e := hfa.symm.trans (PySem.W.mg_of X G a43)
  cases e
  refine ⟨_, "law", "law", fun s u => .of_eq rfl, fun_mk (st := topS 60) l43 c43 k43, fun base => ?_⟩
  exact TabOk.mk' ((.cons (ent (PySem.W.mg_of X G a0) l0 c0 k0 W84.s8 (fun _ _ _ _ _ _ us hl => match us, hl with | [_], _ => rfl) rfl rfl W84.c8) (.cons (ent (PySem.W.mg_of X G a1) l1 c1 k1 W84.s9 (fun _ _ _ _ _ _ us hl => match us, hl with | [_], _ => rfl) rfl rfl W84.c9) (.cons (ent (PySem.W.mg_of X G a2) l2 c2 k2 W84.s10 (fun _ _ _ _ _ _ us hl => match us, hl with | [_], _ => rfl) rfl rfl W84.c10) (.cons (ent (PySem.W.mg_of X G a3) l3 c3 k3 W84.s11 (fun _ _ _ _ _ _ us hl => match us, hl with | [_], _ => rfl) rfl rfl W84.c11) (.cons (ent (PySem.W.mg_of X G a4) l4 c4 k4 W84.s12 (fun _ _ _ _ _ _ us hl => match us, hl with | [_], _ => rfl) rfl rfl W84.c12) (.cons (ent (PySem.W.mg_of X G a5) l5 c5 k5 W84.s13 (fun _ _ _ _ _ _ us hl => match us, hl with | [_, _], _ => rfl) rfl rfl W84.c13) (.cons (ent (PySem.W.mg_of X G a6) l6 c6 k6 W84.s15 (fun _ _ _ _ _ _ us hl => match us, hl with | [_], _ => rfl) rfl rfl W84.c15) (.cons (ent (PySem.W.mg_of X G a7) l7 c7 k7 W84.s16 (fun _ _ _ _ _ _ us hl => match us, hl with | [_, _, _], _ => rfl) rfl rfl W84.c16) (.cons (ent (PySem.W.mg_of X G a8) l8 c8 k8 W84.s18 (fun _ _ _ _ _ _ us hl => match us, hl with | [_], _ => rfl) rfl rfl W84.c18) (.cons (ent (PySem.W.mg_of X G a9) l9 c9 k9 W84.s19 (fun _ _ _ _ _ _ us hl => match us, hl with | [_, _], _ => rfl) rfl rfl W84.c19) (.cons (ent (PySem.W.mg_of X G a10) l10 c10 k10 W84.s20 (fun _ _ _ _ _ _ us hl => match us, hl with | [_], _ => rfl) rfl rfl W84.c20) (.cons (ent (PySem.W.mg_of X G a11) l11 c11 k11 W84.s21 (fun _ _ _ _ _ _ us hl => match us, hl with | [_, _, _], _ => rfl) rfl rfl W84.c21) (.cons (ent (PySem.W.mg_of X G a12) l12 c12 k12 W84.s23 (fun _ _ _ _ _ _ us hl => match us, hl with | [_], _ => rfl) rfl rfl W84.c23) (.cons (ent (PySem.W.mg_of X G a13) l13 c13 k13 W84.s24 (fun _ _ _ _ _ _ us hl => match us, hl with | [_, _, _, _], _ => rfl) rfl rfl W84.c24) (.cons (ent (PySem.W.mg_of X G a14) l14 c14 k14 W84.s25 (fun _ _ _ _ _ _ us hl => match us, hl with | [_, _], _ => rfl) rfl rfl W84.c25) (.cons (ent (PySem.W.mg_of X G a15) l15 c15 k15 W84.s27 (fun _ _ _ _ _ _ us hl => match us, hl with | [_, _, _], _ => rfl) rfl rfl W84.c27) (.cons (ent (PySem.W.mg_of X G a16) l16 c16 k16 W84.s28 (fun _ _ _ _ _ _ us hl => match us, hl with | [_, _, _], _ => rfl) rfl rfl W84.c28) (.cons (ent (PySem.W.mg_of X G a17) l17 c17 k17 W84.s29 (fun _ _ _ _ _ _ us hl => match us, hl with | [_, _, _], _ => rfl) rfl rfl W84.c29) (.cons (ent (PySem.W.mg_of X G a18) l18 c18 k18 W84.s30 (fun _ _ _ _ _ _ us hl => match us, hl with | [_, _], _ => rfl) rfl rfl W84.c30) (.cons (ent (PySem.W.mg_of X G a19) l19 c19 k19 W84.s32 (fun _ _ _ _ _ _ us hl => match us, hl with | [_, _], _ => rfl) rfl rfl W84.c32) (.cons (ent (PySem.W.mg_of X G a20) l20 c20 k20 W84.s33 (fun _ _ _ _ _ _ us hl => match us, hl with | [_, _], _ => rfl) rfl rfl W84.c33) (.cons (ent (PySem.W.mg_of X G a21) l21 c21 k21 W84.s36 (fun _ _ _ _ _ _ us hl => match us, hl with | [_, _], _ => rfl) rfl rfl W84.c36) (.cons (ent (PySem.W.mg_of X G a22) l22 c22 k22 W84.s37 (fun _ _ _ _ _ _ us hl => match us, hl with | [_], _ => rfl) rfl rfl W84.c37) (.cons (ent (PySem.W.mg_of X G a23) l23 c23 k23 W84.s38 (fun _ _ _ _ _ _ us hl => match us, hl with | [_], _ => rfl) rfl rfl W84.c38) (.cons (ent (PySem.W.mg_of X G a24) l24 c24 k24 W84.s39 (fun _ _ _ _ _ _ us hl => match us, hl with | [_, _, _], _ => rfl) rfl rfl W84.c39) (.cons (ent (PySem.W.mg_of X G a25) l25 c25 k25 W84.s40 (fun _ _ _ _ _ _ us hl => match us, hl with | [_, _], _ => rfl) rfl rfl W84.c40) (.cons (ent (PySem.W.mg_of X G a26) l26 c26 k26 W84.s41 (fun _ _ _ _ _ _ us hl => match us, hl with | [_], _ => rfl) rfl rfl W84.c41) (.cons (ent (PySem.W.mg_of X G a27) l27 c27 k27 W84.s42 (fun _ _ _ _ _ _ us hl => match us, hl with | [_], _ => rfl) rfl rfl W84.c42) (.cons (ent (PySem.W.mg_of X G a28) l28 c28 k28 W84.s43 (fun _ _ _ _ _ _ us hl => match us, hl with | [_], _ => rfl) rfl rfl W84.c43) (.cons (ent (PySem.W.mg_of X G a29) l29 c29 k29 W84.s44 (fun _ _ _ _ _ _ us hl => match us, hl with | [_], _ => rfl) rfl rfl W84.c44) (.cons (ent (PySem.W.mg_of X G a30) l30 c30 k30 W84.s45 (fun _ _ _ _ _ _ us hl => match us, hl with | [_], _ => rfl) rfl rfl W84.c45) (.cons (ent (PySem.W.mg_of X G a31) l31 c31 k31 W84.s46 (fun _ _ _ _ _ _ us hl => match us, hl with | [_], _ => rfl) rfl rfl W84.c46) (.cons (ent (PySem.W.mg_of X G a32) l32 c32 k32 W84.s47 (fun _ _ _ _ _ _ us hl => match us, hl with | [_], _ => rfl) rfl rfl W84.c47) (.cons (ent (PySem.W.mg_of X G a33) l33 c33 k33 W84.s48 (fun _ _ _ _ _ _ us hl => match us, hl with | [_, _, _], _ => rfl) rfl rfl W84.c48) (.cons (ent (PySem.W.mg_of X G a34) l34 c34 k34 W84.s50 (fun _ _ _ _ _ _ us hl => match us, hl with | [_, _], _ => rfl) rfl rfl W84.c50) (.cons (ent (PySem.W.mg_of X G a35) l35 c35 k35 W84.s51 (fun _ _ _ _ _ _ us hl => match us, hl with | [_, _], _ => rfl) rfl rfl W84.c51) (.cons (ent (PySem.W.mg_of X G a36) l36 c36 k36 W84.s52 (fun _ _ _ _ _ _ us hl => match us, hl with | [_, _], _ => rfl) rfl rfl W84.c52) (.cons (ent (PySem.W.mg_of X G a37) l37 c37 k37 W84.s53 (fun _ _ _ _ _ _ us hl => match us, hl with | [_, _, _], _ => rfl) rfl rfl W84.c53) (.cons (ent (PySem.W.mg_of X G a38) l38 c38 k38 W84.s54 (fun _ _ _ _ _ _ us hl => match us, hl with | [_, _, _, _], _ => rfl) rfl rfl W84.c54) (.cons (ent (PySem.W.mg_of X G a39) l39 c39 k39 W84.s56 (fun _ _ _ _ _ _ us hl => match us, hl with | [_], _ => rfl) rfl rfl W84.c56) (.cons (ent (PySem.W.mg_of X G a40) l40 c40 k40 W84.s57 (fun _ _ _ _ _ _ us hl => match us, hl with | [_, _], _ => rfl) rfl rfl W84.c57) (.cons (ent (PySem.W.mg_of X G a41) l41 c41 k41 W84.s58 (fun _ _ _ _ _ _ us hl => match us, hl with | [_, _], _ => rfl) rfl rfl W84.c58) (.cons (ent (PySem.W.mg_of X G a42) l42 c42 k42 W84.s59 (fun _ _ _ _ _ _ us hl => match us, hl with | [_, _, _, _], _ => rfl) rfl rfl W84.c59) (.cons (ent (PySem.W.mg_of X G a43) l43 c43 k43 W84.s60 (fun _ _ _ _ _ _ us hl => match us, hl with | [_], _ => rfl) rfl rfl W84.c60) .nil))))))))))))))))))))))))))))))))))))))))))))) ((.cons (PySem.W.mg_of X G g1) (CRep.str (by decide +kernel)) (.cons (PySem.W.mg_of X G g3) (CRep.str (by decide +kernel)) (.cons (PySem.W.mg_of X G g5) CRep.int (.cons (PySem.W.mg_of X G g7) CRep.int (.cons (PySem.W.mg_of X G g9) CRep.int .nil)))))) ((.cons (PySem.W.mg_none_of X G n0) (.cons (PySem.W.mg_none_of X G n1) (.cons (PySem.W.mg_none_of X G n2) (.cons (PySem.W.mg_none_of X G n3) (.cons (PySem.W.mg_none_of X G n4) (.cons (PySem.W.mg_none_of X G n5) (.cons (PySem.W.mg_none_of X G n6) (.cons (PySem.W.mg_none_of X G n7) (.cons (PySem.W.mg_none_of X G n8) (.cons (PySem.W.mg_none_of X G n9) (.cons (PySem.W.mg_none_of X G n10) (.cons (PySem.W.mg_none_of X G n11) (.cons (PySem.W.mg_none_of X G n12) (.cons (PySem.W.mg_none_of X G n13) (.cons (PySem.W.mg_none_of X G n14) (.cons (PySem.W.mg_none_of X G n15) (.cons (PySem.W.mg_none_of X G n16) .nil)))))))))))))))))) ((.cons ⟨C0, PySem.W.mg_of X G xg0, fun z => absurd rfl z⟩ (.cons (exP_mk (PySem.W.mg_of X G xg1) (.inl ⟨_, rfl⟩) xL1 rfl xsa1 xga1 xgg1 (no1 xn0_1) xk1 ⟨xb1, xi1, xt1⟩ xh1 xcl1 xgs xtk xmr1 xve1 (.cons ⟨C0, PySem.W.mg_of X G xg0, exm_ok ⟨xb0, xi0, xt0⟩ xp1_1 xp0_1⟩ (.cons ⟨C1, PySem.W.mg_of X G xg1, exm_ok ⟨xb1, xi1, xt1⟩ xp1_1 xp1_1⟩ .nil)) xiC1 xtI1 (ini1 (fun_mk (st := (iniS (topS 2) 0)) xlI1 xcI1 xkI1) (⟨rfl, rfl, rfl, by decide +kernel, rfl, by decide +kernel, by decide +kernel⟩ : FnScope ["self", "name"] ["self", "name"] (defScope (iniS (topS 2) 0))) rfl rfl rfl) ((fun_mk (st := (iniS (topS 2) 0)) xlI1 xcI1 xkI1).binds fun _ _ _ _ _ _ us hl => match us, hl with | [_, _], _ => rfl)) .nil))) ((.cons (clP_mk (PySem.W.mg_of X G yg0) yg0 ⟨⟨ypg0, yhd0, ypo0, ysa0⟩, ynb0, ynl0, ycl0, xgs, xtk, ymr0, nk_mk yn0_0 yn1_0 yn2_0 yn3_0 yn4_0⟩ (by intro f hf; simp only [List.mem_cons, List.not_mem_nil, or_false] at hf; rcases hf with rfl | rfl | rfl | rfl | rfl | rfl | rfl <;> assumption) (ini_mk ⟨ymk0, yM0_0, yF0_0, yk0⟩ (entM (st := iniS (topS 17) 0) yL0_0 yC0_0 yK0_0 W84.s17_0 (fun _ _ _ _ _ _ us hl => match us, hl with | [_, _, _], _ => rfl) rfl rfl W84.c17_0)) ((.cons ⟨_, ⟨yM1_0, yF1_0, yK1_0⟩, (entM (st := iniS (topS 17) 1) yL1_0 yC1_0 yK1_0 W84.s17_1 (fun _ _ _ _ _ _ us hl => match us, hl with | [_, _, _], _ => rfl) rfl rfl W84.c17_1)⟩ (.cons ⟨_, ⟨yM2_0, yF2_0, yK2_0⟩, (entM (st := iniS (topS 17) 2) yL2_0 yC2_0 yK2_0 W84.s17_2 (fun _ _ _ _ _ _ us hl => match us, hl with | [_], _ => rfl) rfl rfl W84.c17_2)⟩ (.cons ⟨_, ⟨yM3_0, yF3_0, yK3_0⟩, (entM (st := iniS (topS 17) 3) yL3_0 yC3_0 yK3_0 W84.s17_3 (fun _ _ _ _ _ _ us hl => match us, hl with | [_], _ => rfl) rfl rfl W84.c17_3)⟩ .nil))))) .nil))
end W84
open PySem PySem.W PyProof.Rows in
set_option maxRecDepth 100000 in
set_option maxHeartbeats 0 in
theorem PySem.Challenge.cw_fewestrules_k84_refusals_of_paths_holds : PySem.Challenge.rw_fewestrules_k84_refusals_of_paths.Holds := by
  w_on; o_law; k_head; (case hw => w_witness2)
  k_fill
  refine Pv.walk (l := PySem.Challenge.rw_fewestrules_k84_refusals_of_paths) (T := W84.T) (FNS := W84.fns) (CS := W84.consts) (NOS := W84.nos) (XS := W84.exs) (CLS := W84.cls) (F := ⟨9902, 1, [], false, true⟩) (x := "_law_script") rfl rfl (fun w h Y => PySem.W.kIn_of Y) rfl rfl rfl W84.plain W84.s60 rfl W84.c60 ?F
  case F =>
    intro w mg fa h KX G hmg
    refine' W84.all_mk KX G hmg ?a0 ?l0 ?c0 ?k0 ?a1 ?l1 ?c1 ?k1 ?a2 ?l2 ?c2 ?k2 ?a3 ?l3 ?c3 ?k3 ?a4 ?l4 ?c4 ?k4 ?a5 ?l5 ?c5 ?k5 ?a6 ?l6 ?c6 ?k6 ?a7 ?l7 ?c7 ?k7 ?a8 ?l8 ?c8 ?k8 ?a9 ?l9 ?c9 ?k9 ?a10 ?l10 ?c10 ?k10 ?a11 ?l11 ?c11 ?k11 ?a12 ?l12 ?c12 ?k12 ?a13 ?l13 ?c13 ?k13 ?a14 ?l14 ?c14 ?k14 ?a15 ?l15 ?c15 ?k15 ?a16 ?l16 ?c16 ?k16 ?a17 ?l17 ?c17 ?k17 ?a18 ?l18 ?c18 ?k18 ?a19 ?l19 ?c19 ?k19 ?a20 ?l20 ?c20 ?k20 ?a21 ?l21 ?c21 ?k21 ?a22 ?l22 ?c22 ?k22 ?a23 ?l23 ?c23 ?k23 ?a24 ?l24 ?c24 ?k24 ?a25 ?l25 ?c25 ?k25 ?a26 ?l26 ?c26 ?k26 ?a27 ?l27 ?c27 ?k27 ?a28 ?l28 ?c28 ?k28 ?a29 ?l29 ?c29 ?k29 ?a30 ?l30 ?c30 ?k30 ?a31 ?l31 ?c31 ?k31 ?a32 ?l32 ?c32 ?k32 ?a33 ?l33 ?c33 ?k33 ?a34 ?l34 ?c34 ?k34 ?a35 ?l35 ?c35 ?k35 ?a36 ?l36 ?c36 ?k36 ?a37 ?l37 ?c37 ?k37 ?a38 ?l38 ?c38 ?k38 ?a39 ?l39 ?c39 ?k39 ?a40 ?l40 ?c40 ?k40 ?a41 ?l41 ?c41 ?k41 ?a42 ?l42 ?c42 ?k42 ?a43 ?l43 ?c43 ?k43 ?g1 ?g3 ?g5 ?g7 ?g9 ?n0 ?n1 ?n2 ?n3 ?n4 ?n5 ?n6 ?n7 ?n8 ?n9 ?n10 ?n11 ?n12 ?n13 ?n14 ?n15 ?n16 ?xg0 ?xg1 ?xb0 ?xi0 ?xt0 ?xb1 ?xi1 ?xt1 ?xgs ?xtk ?xL1 ?xsa1 ?xga1 ?xgg1 ?xn0_1 ?xk1 ?xh1 ?xcl1 ?xmr1 ?xve1 ?xp0_1 ?xp1_1 ?xiC1 ?xtI1 ?xlI1 ?xcI1 ?xkI1 ?yg0 ?ypg0 ?yhd0 ?ypo0 ?ysa0 ?ynb0 ?ynl0 ?ycl0 ?ymr0 ?yn0_0 ?yn1_0 ?yn2_0 ?yn3_0 ?yn4_0 ?ya0_0 ?ya1_0 ?ya2_0 ?ya3_0 ?ya4_0 ?ya5_0 ?ya6_0 ?yk0 ?ymk0 ?yM0_0 ?yF0_0 ?yK0_0 ?yL0_0 ?yC0_0 ?yM1_0 ?yF1_0 ?yK1_0 ?yL1_0 ?yC1_0 ?yM2_0 ?yF2_0 ?yK2_0 ?yL2_0 ?yC2_0 ?yM3_0 ?yF3_0 ?yK3_0 ?yL3_0 ?yC3_0
    (case a0 => k_is)
    (case l0 => k_is)
    (case c0 => k_is)
    (case k0 => k_is)
    (case a1 => k_is)
    (case l1 => k_is)
    (case c1 => k_is)
    (case k1 => k_is)
    (case a2 => k_is)
    (case l2 => k_is)
    (case c2 => k_is)
    (case k2 => k_is)
    (case a3 => k_is)
    (case l3 => k_is)
    (case c3 => k_is)
    (case k3 => k_is)
    (case a4 => k_is)
    (case l4 => k_is)
    (case c4 => k_is)
    (case k4 => k_is)
    (case a5 => k_is)
    (case l5 => k_is)
    (case c5 => k_is)
    (case k5 => k_is)
    (case a6 => k_is)
    (case l6 => k_is)
    (case c6 => k_is)
    (case k6 => k_is)
    (case a7 => k_is)
    (case l7 => k_is)
    (case c7 => k_is)
    (case k7 => k_is)
    (case a8 => k_is)
    (case l8 => k_is)
    (case c8 => k_is)
    (case k8 => k_is)
    (case a9 => k_is)
    (case l9 => k_is)
    (case c9 => k_is)
    (case k9 => k_is)
    (case a10 => k_is)
    (case l10 => k_is)
    (case c10 => k_is)
    (case k10 => k_is)
    (case a11 => k_is)
    (case l11 => k_is)
    (case c11 => k_is)
    (case k11 => k_is)
    (case a12 => k_is)
    (case l12 => k_is)
    (case c12 => k_is)
    (case k12 => k_is)
    (case a13 => k_is)
    (case l13 => k_is)
    (case c13 => k_is)
    (case k13 => k_is)
    (case a14 => k_is)
    (case l14 => k_is)
    (case c14 => k_is)
    (case k14 => k_is)
    (case a15 => k_is)
    (case l15 => k_is)
    (case c15 => k_is)
    (case k15 => k_is)
    (case a16 => k_is)
    (case l16 => k_is)
    (case c16 => k_is)
    (case k16 => k_is)
    (case a17 => k_is)
    (case l17 => k_is)
    (case c17 => k_is)
    (case k17 => k_is)
    (case a18 => k_is)
    (case l18 => k_is)
    (case c18 => k_is)
    (case k18 => k_is)
    (case a19 => k_is)
    (case l19 => k_is)
    (case c19 => k_is)
    (case k19 => k_is)
    (case a20 => k_is)
    (case l20 => k_is)
    (case c20 => k_is)
    (case k20 => k_is)
    (case a21 => k_is)
    (case l21 => k_is)
    (case c21 => k_is)
    (case k21 => k_is)
    (case a22 => k_is)
    (case l22 => k_is)
    (case c22 => k_is)
    (case k22 => k_is)
    (case a23 => k_is)
    (case l23 => k_is)
    (case c23 => k_is)
    (case k23 => k_is)
    (case a24 => k_is)
    (case l24 => k_is)
    (case c24 => k_is)
    (case k24 => k_is)
    (case a25 => k_is)
    (case l25 => k_is)
    (case c25 => k_is)
    (case k25 => k_is)
    (case a26 => k_is)
    (case l26 => k_is)
    (case c26 => k_is)
    (case k26 => k_is)
    (case a27 => k_is)
    (case l27 => k_is)
    (case c27 => k_is)
    (case k27 => k_is)
    (case a28 => k_is)
    (case l28 => k_is)
    (case c28 => k_is)
    (case k28 => k_is)
    (case a29 => k_is)
    (case l29 => k_is)
    (case c29 => k_is)
    (case k29 => k_is)
    (case a30 => k_is)
    (case l30 => k_is)
    (case c30 => k_is)
    (case k30 => k_is)
    (case a31 => k_is)
    (case l31 => k_is)
    (case c31 => k_is)
    (case k31 => k_is)
    (case a32 => k_is)
    (case l32 => k_is)
    (case c32 => k_is)
    (case k32 => k_is)
    (case a33 => k_is)
    (case l33 => k_is)
    (case c33 => k_is)
    (case k33 => k_is)
    (case a34 => k_is)
    (case l34 => k_is)
    (case c34 => k_is)
    (case k34 => k_is)
    (case a35 => k_is)
    (case l35 => k_is)
    (case c35 => k_is)
    (case k35 => k_is)
    (case a36 => k_is)
    (case l36 => k_is)
    (case c36 => k_is)
    (case k36 => k_is)
    (case a37 => k_is)
    (case l37 => k_is)
    (case c37 => k_is)
    (case k37 => k_is)
    (case a38 => k_is)
    (case l38 => k_is)
    (case c38 => k_is)
    (case k38 => k_is)
    (case a39 => k_is)
    (case l39 => k_is)
    (case c39 => k_is)
    (case k39 => k_is)
    (case a40 => k_is)
    (case l40 => k_is)
    (case c40 => k_is)
    (case k40 => k_is)
    (case a41 => k_is)
    (case l41 => k_is)
    (case c41 => k_is)
    (case k41 => k_is)
    (case a42 => k_is)
    (case l42 => k_is)
    (case c42 => k_is)
    (case k42 => k_is)
    (case a43 => k_is)
    (case l43 => k_is)
    (case c43 => k_is)
    (case k43 => k_is)
    (case g1 => k_is)
    (case g3 => k_is)
    (case g5 => k_is)
    (case g7 => k_is)
    (case g9 => k_is)
    (case n0 => k_is)
    (case n1 => k_is)
    (case n2 => k_is)
    (case n3 => k_is)
    (case n4 => k_is)
    (case n5 => k_is)
    (case n6 => k_is)
    (case n7 => k_is)
    (case n8 => k_is)
    (case n9 => k_is)
    (case n10 => k_is)
    (case n11 => k_is)
    (case n12 => k_is)
    (case n13 => k_is)
    (case n14 => k_is)
    (case n15 => k_is)
    (case n16 => k_is)
    (case xg0 => k_is)
    (case xg1 => k_is)
    (case xb0 => k_is)
    (case xi0 => k_is)
    (case xt0 => k_is)
    (case xb1 => k_is)
    (case xi1 => k_is)
    (case xt1 => k_is)
    (case xgs => k_is)
    (case xtk => k_is)
    (case xL1 => k_is)
    (case xsa1 => k_is)
    (case xga1 => k_is)
    (case xgg1 => k_is)
    (case xn0_1 => k_is)
    (case xk1 => k_is)
    (case xh1 => k_is)
    (case xcl1 => k_is)
    (case xmr1 => k_is)
    (case xve1 => k_is)
    (case xp0_1 => k_is)
    (case xp1_1 => k_is)
    (case xiC1 => k_is)
    (case xtI1 => k_is)
    (case xlI1 => k_is)
    (case xcI1 => k_is)
    (case xkI1 => k_is)
    (case yg0 => k_is)
    (case ypg0 => k_is)
    (case yhd0 => k_is)
    (case ypo0 => k_is)
    (case ysa0 => k_is)
    (case ynb0 => k_is)
    (case ynl0 => k_is)
    (case ycl0 => k_is)
    (case ymr0 => k_is)
    (case yn0_0 => k_is)
    (case yn1_0 => k_is)
    (case yn2_0 => k_is)
    (case yn3_0 => k_is)
    (case yn4_0 => k_is)
    (case ya0_0 => k_is)
    (case ya1_0 => k_is)
    (case ya2_0 => k_is)
    (case ya3_0 => k_is)
    (case ya4_0 => k_is)
    (case ya5_0 => k_is)
    (case ya6_0 => k_is)
    (case yk0 => k_is)
    (case ymk0 => k_is)
    (case yM0_0 => k_is)
    (case yF0_0 => k_is)
    (case yK0_0 => k_is)
    (case yL0_0 => k_is)
    (case yC0_0 => k_is)
    (case yM1_0 => k_is)
    (case yF1_0 => k_is)
    (case yK1_0 => k_is)
    (case yL1_0 => k_is)
    (case yC1_0 => k_is)
    (case yM2_0 => k_is)
    (case yF2_0 => k_is)
    (case yK2_0 => k_is)
    (case yL2_0 => k_is)
    (case yC2_0 => k_is)
    (case yM3_0 => k_is)
    (case yF3_0 => k_is)
    (case yK3_0 => k_is)
    (case yL3_0 => k_is)
    (case yC3_0 => k_is)
