import PyProof.Rows.All
import Wide.All
import OpenK.AllK
import Wide.FinOn
import HandS.ForMost
import HandS.ForExc
import HandS.Wide
import HandS.Flow
import HandS.IsInst
import HandS.TupAny
import HandS.Deep
import KE.DataEq
import HandS.WordsDict
import HandS.StrMore
import HandS.SortInts
import HandS.TupLe
import HandS.Style
import HandS.More
import KE.KRevSl
import HandS.Small
import HandS.Replace
import HandS.Codes
import HandS.TupMul
import HandS.Conv
import HandS.Zip
import HandS.Iter
import HandS.TupLen
import KE.GoesEnum
import HandS.TryMany
import HandS.ExcInit
import HandS.ExcIs
import HandS.ExcField
import KE.KExcIs
import HandS.Defaults
import HandS.SetFor
import HandS.SetKeys
import PyProof.DictMoreH
import HandS.DictTup
import PyProof.StrOps2
import PySem.Challenge.RW_cosetyard_k30_one_letter
set_option Elab.async false
set_option linter.all false
set_option maxRecDepth 100000
set_option autoImplicit false
namespace Lv
open PySem PySem.Spec L2

/-! ### data: values as trees -/
inductive D where
  | non | bl (b : Bool) | int (i : Int) | str (x : Str) | ref (a : Addr) | ty (n : String)
  | lst (ds : List D) | tup (ds : List D) | dK (kvs : List (Key × D)) | dT (kvs : List (List Key × D)) | scr (ns : List Int)
  /-- dicts that a loop walks -/
  | fK (kvs : List (Key × D)) | fT (kvs : List (List Key × D))
  /-- an exception that was caught and kept: its class's name, its fields -/
  | exc (cn : Str) (fs : List (Str × D))
  /-- a class of the program's own, by its name -/
  | cls (cn : Str)
/-- an exception of the class at C, its dict at d -/
def exk (a C : Addr) (d : Option Addr) : HO := .ext fun h => ∃ (oe : Obj) (vs : Array Value), h.get? a = some oe ∧ oe.cls = .ref C ∧ oe.dict = d ∧ oe.data = .fields vs

/-! ### what stands for what, over a part F of the heap that no one changes -/
mutual
inductive DR (K : PySem.W.Frag) (F : Hp) : V → D → Prop
  | non : DR K F .non .non
  | bl (b : Bool) : DR K F (.bl b) (.bl b)
  | int (i : Int) : DR K F (.int i) (.int i)
  | str (x : Str) : DR K F (.str x) (.str x)
  | ref (a : Addr) : DR K F (.ref a) (.ref a)
  | ty (n : String) : DR K F (.ty n) (.ty n)
  | lst {a : Addr} {vs : List V} {ds : List D} : F a = some (.lst vs) → DRs K F vs ds → DR K F (.ref a) (.lst ds)
  | tup {a : Addr} {vs : List V} {ds : List D} : F a = some (.tup vs) → DRs K F vs ds → DR K F (.ref a) (.tup ds)
  | dK {a : Addr} {vs : List (Key × V)} {ds : List (Key × D)} : F a = some (.dK vs) → DKs K F vs ds → DR K F (.ref a) (.dK ds)
  | dT {a : Addr} {vs : List (List Key × V)} {ds : List (List Key × D)} : F a = some (.dT vs) → DTs K F vs ds → DR K F (.ref a) (.dT ds)
  | scr {a : Addr} {ns : List Int} : SqL K F a (ns.map V.int) → DR K F (.ref a) (.scr ns)
  | exc0 {a C : Addr} {cn : Str} : F a = some (exk a C none) → PySem.W.nsIn K mainGlobals cn = some (some (.ref C)) → DR K F (.ref a) (.exc cn [])
  | exc1 {a C dd : Addr} {cn : Str} {vs : List (Str × V)} {fs : List (Str × D)} : F a = some (exk a C (some dd)) → PySem.W.nsIn K mainGlobals cn = some (some (.ref C)) → F dd = some (.xd vs) → DFs K F vs fs → DR K F (.ref a) (.exc cn fs)
  | cls {C : Addr} {cn : Str} : PySem.W.nsIn K mainGlobals cn = some (some (.ref C)) → DR K F (.ref C) (.cls cn)
inductive DRs (K : PySem.W.Frag) (F : Hp) : List V → List D → Prop
  | nil : DRs K F [] []
  | cons {v : V} {vs : List V} {d : D} {ds : List D} : DR K F v d → DRs K F vs ds → DRs K F (v :: vs) (d :: ds)
inductive DKs (K : PySem.W.Frag) (F : Hp) : List (Key × V) → List (Key × D) → Prop
  | nil : DKs K F [] []
  | cons {k : Key} {v : V} {vs : List (Key × V)} {d : D} {ds : List (Key × D)} : DR K F v d → DKs K F vs ds → DKs K F ((k, v) :: vs) ((k, d) :: ds)
inductive DTs (K : PySem.W.Frag) (F : Hp) : List (List Key × V) → List (List Key × D) → Prop
  | nil : DTs K F [] []
  | cons {k : List Key} {v : V} {vs : List (List Key × V)} {d : D} {ds : List (List Key × D)} : DR K F v d → DTs K F vs ds → DTs K F ((k, v) :: vs) ((k, d) :: ds)
inductive DFs (K : PySem.W.Frag) (F : Hp) : List (Str × V) → List (Str × D) → Prop
  | nil : DFs K F [] []
  | cons {k : Str} {v : V} {vs : List (Str × V)} {d : D} {ds : List (Str × D)} : DR K F v d → DFs K F vs ds → DFs K F ((k, v) :: vs) ((k, d) :: ds)
end
section
variable {K : PySem.W.Frag} {F F' : Hp}
mutual
theorem DR.mono (e : Same F F') : ∀ {v : V} {d : D}, DR K F v d → DR K F' v d
  | _, _, .non => .non
  | _, _, .bl b => .bl b
  | _, _, .int i => .int i
  | _, _, .str x => .str x
  | _, _, .ref a => .ref a
  | _, _, .ty n => .ty n
  | _, _, .lst h hs => .lst (e _ _ h) (DRs.mono e hs)
  | _, _, .tup h hs => .tup (e _ _ h) (DRs.mono e hs)
  | _, _, .dK h hs => .dK (e _ _ h) (DKs.mono e hs)
  | _, _, .dT h hs => .dT (e _ _ h) (DTs.mono e hs)
  | _, _, .scr h => .scr (e.seq h)
  | _, _, .exc0 h n => .exc0 (e _ _ h) n
  | _, _, .exc1 h n h2 hs => .exc1 (e _ _ h) n (e _ _ h2) (DFs.mono e hs)
  | _, _, .cls n => .cls n
theorem DRs.mono (e : Same F F') : ∀ {vs : List V} {ds : List D}, DRs K F vs ds → DRs K F' vs ds
  | _, _, .nil => .nil
  | _, _, .cons h hs => .cons (DR.mono e h) (DRs.mono e hs)
theorem DKs.mono (e : Same F F') : ∀ {vs : List (Key × V)} {ds : List (Key × D)}, DKs K F vs ds → DKs K F' vs ds
  | _, _, .nil => .nil
  | _, _, .cons h hs => .cons (DR.mono e h) (DKs.mono e hs)
theorem DTs.mono (e : Same F F') : ∀ {vs : List (List Key × V)} {ds : List (List Key × D)}, DTs K F vs ds → DTs K F' vs ds
  | _, _, .nil => .nil
  | _, _, .cons h hs => .cons (DR.mono e h) (DTs.mono e hs)
theorem DFs.mono (e : Same F F') : ∀ {vs : List (Str × V)} {ds : List (Str × D)}, DFs K F vs ds → DFs K F' vs ds
  | _, _, .nil => .nil
  | _, _, .cons h hs => .cons (DR.mono e h) (DFs.mono e hs)
end
theorem DRs.length : ∀ {vs : List V} {ds : List D}, DRs K F vs ds → vs.length = ds.length
  | _, _, .nil => rfl
  | _, _, .cons _ hs => by simp [DRs.length hs]
theorem DKs.length : ∀ {vs : List (Key × V)} {ds : List (Key × D)}, DKs K F vs ds → vs.length = ds.length
  | _, _, .nil => rfl
  | _, _, .cons _ hs => by simp [DKs.length hs]
theorem DTs.length : ∀ {vs : List (List Key × V)} {ds : List (List Key × D)}, DTs K F vs ds → vs.length = ds.length
  | _, _, .nil => rfl
  | _, _, .cons _ hs => by simp [DTs.length hs]
theorem DRs.get : ∀ {vs : List V} {ds : List D} {i : Nat} {d : D}, DRs K F vs ds → ds[i]? = some d → ∃ v, vs[i]? = some v ∧ DR K F v d
  | _, _, _, _, .nil, e => by simp at e
  | _, _, 0, _, .cons h _, e => by simp at e; subst e; exact ⟨_, rfl, h⟩
  | _, _, i + 1, d, .cons _ hs, e => by
    obtain ⟨u, h1, h2⟩ := DRs.get (i := i) (d := d) hs (by simpa using e)
    exact ⟨u, by simpa using h1, h2⟩
theorem DRs.getV : ∀ {vs : List V} {ds : List D} {i : Nat} {v : V}, DRs K F vs ds → vs[i]? = some v → ∃ d, ds[i]? = some d ∧ DR K F v d
  | _, _, _, _, .nil, e => by simp at e
  | _, _, 0, _, .cons h _, e => by simp at e; subst e; exact ⟨_, rfl, h⟩
  | _, _, i + 1, v, .cons _ hs, e => by
    obtain ⟨u, h1, h2⟩ := DRs.getV (i := i) (v := v) hs (by simpa using e)
    exact ⟨u, by simpa using h1, h2⟩
theorem DRs.append : ∀ {vs ws : List V} {ds es : List D}, DRs K F vs ds → DRs K F ws es → DRs K F (vs ++ ws) (ds ++ es)
  | _, _, _, _, .nil, s => s
  | _, _, _, _, .cons r t, s => .cons r (DRs.append t s)
theorem DRs.take : ∀ {vs : List V} {ds : List D} (n : Nat), DRs K F vs ds → DRs K F (vs.take n) (ds.take n)
  | _, _, 0, _ => .nil
  | _, _, _ + 1, .nil => .nil
  | _, _, n + 1, .cons r t => .cons r (DRs.take n t)
theorem DRs.drop : ∀ {vs : List V} {ds : List D} (n : Nat), DRs K F vs ds → DRs K F (vs.drop n) (ds.drop n)
  | _, _, 0, r => r
  | _, _, _ + 1, .nil => .nil
  | _, _, n + 1, .cons r t => DRs.drop n t
theorem DRs.reverse {vs : List V} {ds : List D} (h : DRs K F vs ds) : DRs K F vs.reverse ds.reverse := by
  induction ds generalizing vs with
  | nil => cases h; exact .nil
  | cons d ds ih =>
    cases h with
    | cons h hs => rw [List.reverse_cons, List.reverse_cons]; exact (ih hs).append (.cons h .nil)
theorem DRs.set {x : V} {y : D} (r : DR K F x y) : ∀ {vs : List V} {ds : List D} (i : Nat), DRs K F vs ds → DRs K F (vs.set i x) (ds.set i y)
  | _, _, _, .nil => .nil
  | _, _, 0, .cons _ t => .cons r t
  | _, _, i + 1, .cons q t => .cons q (DRs.set r i t)
theorem DRs.eraseIdx : ∀ {vs : List V} {ds : List D} (i : Nat), DRs K F vs ds → DRs K F (vs.eraseIdx i) (ds.eraseIdx i)
  | _, _, _, .nil => .nil
  | _, _, 0, .cons _ t => t
  | _, _, i + 1, .cons q t => .cons q (DRs.eraseIdx i t)
theorem DRs.dropLast {vs : List V} {ds : List D} (h : DRs K F vs ds) : DRs K F vs.dropLast ds.dropLast := by
  rw [List.dropLast_eq_take, List.dropLast_eq_take, h.length]
  exact h.take _
theorem DRs.rep {vs : List V} {ds : List D} (h : DRs K F vs ds) : ∀ k : Nat, DRs K F (List.replicate k vs).flatten (List.replicate k ds).flatten
  | 0 => .nil
  | k + 1 => by rw [List.replicate_succ, List.replicate_succ, List.flatten_cons, List.flatten_cons]; exact h.append (DRs.rep h k)
theorem DRs.ints : ∀ {vs : List V} {ns : List Int}, DRs K F vs (ns.map D.int) → vs = ns.map V.int
  | _, [], h => by cases h; rfl
  | _, n :: ns, h => by
    cases h with
    | cons h hs => cases h; rw [List.map_cons, DRs.ints hs]
theorem DRs.ofInts : ∀ (ns : List Int), DRs K F (ns.map V.int) (ns.map D.int)
  | [] => .nil
  | n :: ns => .cons (.int n) (DRs.ofInts ns)
end
/-- what an object of one's own holds -/
inductive OR (K : PySem.W.Frag) (F : Hp) : HO → D → Prop
  | lst {vs : List V} {ds : List D} : DRs K F vs ds → OR K F (.lst vs) (.lst ds)
  | dK {vs : List (Key × V)} {ds : List (Key × D)} : DKs K F vs ds → OR K F (.dK vs) (.dK ds)
  | dT {vs : List (List Key × V)} {ds : List (List Key × D)} : DTs K F vs ds → OR K F (.dT vs) (.dT ds)
theorem OR.mono {K : PySem.W.Frag} {F F' : Hp} {o : HO} {d : D} (h : OR K F o d) (e : Same F F') : OR K F' o d := by
  cases h with
  | lst h => exact .lst (h.mono e)
  | dK h => exact .dK (h.mono e)
  | dT h => exact .dT (h.mono e)
theorem OR.frozen {K : PySem.W.Frag} {F : Hp} {o : HO} {d : D} {a : Addr} (h : OR K F o d) (e : F a = some o) : DR K F (.ref a) d := by
  cases h with
  | lst h => exact .lst e h
  | dK h => exact .dK e h
  | dT h => exact .dT e h

/-- what is told of what stands: an object of one's own, a dict that is walked -/
inductive RR (K : PySem.W.Frag) (F : Hp) : HO → D → Prop
  | own {o : HO} {d : D} : OR K F o d → RR K F o d
  | fK {ob : Obj} {vs : List (Key × V)} {ds : List (Key × D)} : DKs K F vs ds → RR K F (.frz ob (.dK vs)) (.fK ds)
  | fT {ob : Obj} {vs : List (List Key × V)} {ds : List (List Key × D)} : DTs K F vs ds → RR K F (.frz ob (.dT vs)) (.fT ds)
theorem RR.mono {K : PySem.W.Frag} {F F' : Hp} {o : HO} {d : D} (h : RR K F o d) (e : Same F F') : RR K F' o d := by
  cases h with
  | own h => exact .own (h.mono e)
  | fK h => exact .fK (h.mono e)
  | fT h => exact .fT (h.mono e)
/-- what may be read now: frozen, or a container with frozen things in it -/
def DT (K : PySem.W.Frag) (F He H : Hp) (v : V) (d : D) : Prop := DR K F v d ∨ ∃ a o, v = .ref a ∧ H a = some o ∧ RR K F o d
/-- what may be read, and stays so -/
def DZ (K : PySem.W.Frag) (F He H : Hp) (v : V) (d : D) : Prop := DR K F v d ∨ ∃ a o, v = .ref a ∧ H a = some o ∧ He a = none ∧ OR K F o d
theorem DZ.dt {K : PySem.W.Frag} {F He H : Hp} {v : V} {d : D} (h : DZ K F He H v d) : DT K F He H v d := h.elim .inl fun ⟨a, o, e, ho, _, q⟩ => .inr ⟨a, o, e, ho, .own q⟩

/-! ### the world beside: things that are named by their places, and change -/
inductive Cell where
  | lst (ds : List D) | dK (kvs : List (Key × D)) | dT (kvs : List (List Key × D)) | ins (cn : Str) (fs : List (Str × D))
  | fK (ob : Obj) (vs : List (Key × V)) (kvs : List (Key × D)) | fT (ob : Obj) (vs : List (List Key × V)) (kvs : List (List Key × D))
abbrev Om := Addr → Option Cell
inductive CR (K : PySem.W.Frag) (F He : Hp) (a : Addr) : HO → Cell → Prop
  | lst {vs : List V} {ds : List D} : DRs K F vs ds → CR K F He a (.lst vs) (.lst ds)
  | dK {vs : List (Key × V)} {ds : List (Key × D)} : DKs K F vs ds → CR K F He a (.dK vs) (.dK ds)
  | dT {vs : List (List Key × V)} {ds : List (List Key × D)} : DTs K F vs ds → CR K F He a (.dT vs) (.dT ds)
  | fK {ob : Obj} {vs : List (Key × V)} {ds : List (Key × D)} : DKs K F vs ds → CR K F He a (.frz ob (.dK vs)) (.fK ob vs ds)
  | fT {ob : Obj} {vs : List (List Key × V)} {ds : List (List Key × D)} : DTs K F vs ds → CR K F He a (.frz ob (.dT vs)) (.fT ob vs ds)
  | ins {C dx : Addr} {cn : Str} {vs : List (Str × V)} {fs : List (Str × D)} : PySem.W.nsIn K mainGlobals cn = some (some (.ref C)) → He dx = some (.own a) → DFs K F vs fs → CR K F He a (.ins C dx vs) (.ins cn fs)
theorem CR.mono {K : PySem.W.Frag} {F F' He : Hp} {a : Addr} {o : HO} {c : Cell} (h : CR K F He a o c) (e : Same F F') : CR K F' He a o c := by
  cases h with
  | lst h => exact .lst (h.mono e)
  | dK h => exact .dK (h.mono e)
  | dT h => exact .dT (h.mono e)
  | fK h => exact .fK (h.mono e)
  | fT h => exact .fT (h.mono e)
  | ins n h g => exact .ins n h (g.mono e)
/-- the part He of the heap holds just what w tells -/
structure rep (K : PySem.W.Frag) (w : Om) (F He : Hp) : Prop where
  some_ : ∀ a c, w a = some c → ∃ o, He a = some o ∧ CR K F He a o c
  none_ : ∀ a, w a = none → He a = none ∨ ∃ p, He a = some (.own p)
theorem grow {K : PySem.W.Frag} {w : Om} {F F' He : Hp} (h : rep K w F He) (s : Same F F') : rep K w F' He :=
  ⟨fun a c e => let ⟨o, h1, h2⟩ := h.some_ a c e; ⟨o, h1, h2.mono s⟩, h.none_⟩
/-- what is read at a name -/
def Cell.toD : Cell → Option D
  | .lst ds => some (.lst ds) | .dK kvs => some (.dK kvs) | .dT kvs => some (.dT kvs) | .fK _ _ kvs => some (.fK kvs) | .fT _ _ kvs => some (.fT kvs) | .ins _ _ => none
def resC (d : D) : Option Cell → D
  | some (.lst ds) => .lst ds | some (.dK kvs) => .dK kvs | some (.dT kvs) => .dT kvs | some (.fK _ _ kvs) => .fK kvs | some (.fT _ _ kvs) => .fT kvs | _ => d
def res (w : Om) : D → D
  | .ref a => resC (.ref a) (w a)
  | d => d
theorem res_ok {K : PySem.W.Frag} {w : Om} {F He H : Hp} {v : V} {d : D} (h : rep K w F He) (sh : Same He H) (r : DZ K F He H v d) : DT K F He H v (res w d) := by
  have key : ∀ {u : D}, res w u = u → DZ K F He H v u → DT K F He H v (res w u) := fun e r => by rw [e]; exact r.dt
  cases d with
  | ref a =>
    have hv : v = .ref a := by
      rcases r with r | ⟨_, _, _, _, _, q⟩
      · cases r; rfl
      · cases q
    subst hv
    cases e : w a with
    | none => exact key (by show resC (.ref a) (w a) = _; rw [e]; rfl) r
    | some c =>
      obtain ⟨o, h1, h2⟩ := h.some_ a c e
      have h3 := sh _ _ h1
      show DT K F He H (.ref a) (resC (.ref a) (w a))
      rw [e]
      cases h2 with
      | lst q => exact .inr ⟨a, _, rfl, h3, .own (.lst q)⟩
      | dK q => exact .inr ⟨a, _, rfl, h3, .own (.dK q)⟩
      | dT q => exact .inr ⟨a, _, rfl, h3, .own (.dT q)⟩
      | fK q => exact .inr ⟨a, _, rfl, h3, .fK q⟩
      | fT q => exact .inr ⟨a, _, rfl, h3, .fT q⟩
      | ins _ _ _ => exact r.dt
  | _ => exact key rfl r

/-- the heap in its parts: F frozen, He of the world beside -/
structure Wd  (K : PySem.W.Frag) (w : Om) (F He H : Hp) : Prop where
  sf : Same F H
  sh : Same He H
  dj : ∀ b o, He b = some o → F b = none
  ex : rep K w F He
/-- from one state to a later one -/
structure Step (F He H F' He' H' : Hp) : Prop where
  fz : Same F F'
  fzN : ∀ b, F' b ≠ none → F b ≠ none ∨ H b = none ∨ ∃ xs, H b = some (.tup xs)
  heN : ∀ b, He' b ≠ none → He b ≠ none ∨ H b = none
  keep : ∀ b o, H b = some o → He b = none → H' b = some o
  dom : ∀ b, H b ≠ none → H' b ≠ none
  tp : ∀ b xs, H' b = some (.tup xs) → H b = none ∨ H b = some (.tup xs)
theorem Step.refl {F He H : Hp} : Step F He H F He H := ⟨Same.refl _, fun _ h => .inl h, fun _ h => .inl h, fun _ _ h _ => h, fun _ h => h, fun _ _ h => .inr h⟩
theorem Step.trans {F He H F1 He1 H1 F2 He2 H2 : Hp} (a : Step F He H F1 He1 H1) (b : Step F1 He1 H1 F2 He2 H2) : Step F He H F2 He2 H2 where
  fz := a.fz.trans b.fz
  fzN := fun c h => by
    rcases b.fzN c h with h | h | ⟨xs, h⟩
    · exact a.fzN c h
    · exact .inr (.inl (Classical.byContradiction fun q => a.dom c q h))
    · rcases a.tp c xs h with h | h
      · exact .inr (.inl h)
      · exact .inr (.inr ⟨xs, h⟩)
  heN := fun c h => (b.heN c h).elim (fun h => a.heN c h) fun h => .inr (Classical.byContradiction fun q => a.dom c q h)
  keep := fun c o h n => b.keep c o (a.keep c o h n) (by
    cases e : He1 c with
    | none => rfl
    | some u =>
      rcases a.heN c (by rw [e]; exact fun z => nomatch z) with q | q
      · exact absurd n q
      · rw [q] at h; cases h)
  dom := fun c h => b.dom c (a.dom c h)
  tp := fun c xs h => (b.tp c xs h).elim (fun h => .inl (Classical.byContradiction fun q => a.dom c q h)) fun h => a.tp c xs h
section
variable  {K : PySem.W.Frag} {w : Om} {F He H F' He' H' : Hp} {p : Addr} {o : HO}
theorem Wd.fnone (x : Wd K w F He H) (h : H p = none) : F p = none := x.sf.free h
theorem Wd.henone (x : Wd K w F He H) (h : H p = none) : He p = none := x.sh.free h
/-- a new object -/
theorem Wd.alloc (x : Wd K w F He H) (h : H p = none) : Wd K w F He (upd H p o) where
  sf := fun b u e => by rw [upd_ne (ne_of_none (x.sf b u e) h)]; exact x.sf b u e
  sh := fun b u e => by rw [upd_ne (ne_of_none (x.sh b u e) h)]; exact x.sh b u e
  dj := x.dj
  ex := x.ex
theorem Step.alloc (h : H p = none) : Step F He H F He (upd H p o) where
  fz := Same.refl _
  fzN := fun _ h => .inl h
  heN := fun _ h => .inl h
  keep := fun b u e _ => by rw [upd_ne (ne_of_none e h)]; exact e
  dom := fun b e => by
    by_cases hb : b = p
    · subst hb; exact absurd h e
    · rw [upd_ne hb]; exact e
  tp := fun b xs e => by
    by_cases hb : b = p
    · subst hb; exact .inl h
    · rw [upd_ne hb] at e; exact .inr e
/-- an own object is frozen -/
theorem Wd.freeze (x : Wd K w F He H) (h : H p = some o) (n : F p = none) (m : He p = none) : Wd K w (upd F p o) He H where
  sf := fun b u e => by
    by_cases hb : b = p
    · subst hb; rw [upd_same] at e; rw [h]; exact e
    · rw [upd_ne hb] at e; exact x.sf b u e
  sh := x.sh
  dj := fun b u e => by rw [upd_ne (ne_of_none e m)]; exact x.dj b u e
  ex := grow x.ex fun b u e => by rw [upd_ne (ne_of_none e n)]; exact e
theorem same_upd (n : F p = none) : Same F (upd F p o) := fun b u e => by rw [upd_ne (ne_of_none e n)]; exact e
theorem Step.freeze (s : Step F He H F' He' H') (n : F' p = none) (h : H p = none) : Step F He H (upd F' p o) He' H' where
  fz := s.fz.trans (same_upd n)
  fzN := fun b e => by
    by_cases hb : b = p
    · subst hb; exact .inr (.inl h)
    · rw [upd_ne hb] at e; exact s.fzN b e
  heN := s.heN
  keep := s.keep
  dom := s.dom
  tp := s.tp
end

/-! ### the entry of a def: where its frame's story begins -/
structure Ent where
  K : PySem.W.Frag
  F0 : Hp
  He0 : Hp
  H0 : Hp
  w0 : Om
  rep0 : rep K w0 F0 He0
/-- a slot: nothing known, or own (true: a container that nothing else refers to), and the data -/
abbrev Sl := Option (Bool × D)
abbrev DSt := List Sl
def SlO (z : Ent) (F He H : Hp) : Sl → Option V → Prop
  | none, _ => True
  | some (false, d), v => ∃ x, v = some x ∧ DR z.K F x d
  | some (true, d), v => ∃ a o, v = some (.ref a) ∧ H a = some o ∧ F a = none ∧ He a = none ∧ z.H0 a = none ∧ OR z.K F o d
structure Rel (z : Ent) (δ : DSt) (w : Om) (F He : Hp) (σ : St) (H : Hp) : Prop where
  wd : Wd z.K w F He H
  st : Step z.F0 z.He0 z.H0 F He H
  len : σ.length = δ.length
  sl : ∀ (i : Nat) (s : Sl), δ[i]? = some s → ∃ v, σ[i]? = some v ∧ SlO z F He H s v
  inj : ∀ (i j : Nat) (d e : D) (a : Addr), δ[i]? = some (some (true, d)) → δ[j]? = some (some (true, e)) → σ[i]? = some (some (.ref a)) → σ[j]? = some (some (.ref a)) → i = j
section
variable {z : Ent} {δ : DSt} {w w' : Om} {F He H F' He' H' : Hp} {σ : St}
theorem SlO.step {s : Sl} {v : Option V} (x : SlO z F He H s v) (k : Step F He H F' He' H') : SlO z F' He' H' s v := by
  match s, x with
  | none, _ => exact True.intro
  | some (false, d), ⟨u, e, r⟩ => exact ⟨u, e, r.mono k.fz⟩
  | some (true, d), ⟨a, o, e, ho, n, m, f, r⟩ =>
    refine ⟨a, o, e, k.keep a o ho m, ?_, ?_, f, r.mono k.fz⟩
    · refine Classical.byContradiction fun q => ?_
      rcases k.fzN a q with q | q | ⟨xs, q⟩
      · exact q n
      · rw [ho] at q; cases q
      · rw [ho] at q; cases q; cases r
    · refine Classical.byContradiction fun q => (k.heN a q).elim (fun q => q m) fun q => ?_
      rw [ho] at q; cases q
theorem Rel.step (x : Rel z δ w F He σ H) (y : Wd z.K w' F' He' H') (k : Step F He H F' He' H') : Rel z δ w' F' He' σ H' where
  wd := y
  st := x.st.trans k
  len := x.len
  sl := fun i s e => let ⟨v, hv, r⟩ := x.sl i s e; ⟨v, hv, r.step k⟩
  inj := x.inj
end
/-- a result: own and new, or frozen -/
def Res (K : PySem.W.Frag) (F' He' Hb H' : Hp) : Bool → V → D → Prop
  | false, v, d => DR K F' v d
  | true, v, d => ∃ a o, v = .ref a ∧ H' a = some o ∧ F' a = none ∧ He' a = none ∧ Hb a = none ∧ OR K F' o d
section
variable  {K : PySem.W.Frag} {w w' : Om} {F He H F' He' H' F2 He2 H2 Hb : Hp} {v : V} {d : D}
theorem Res.thaw {b : Bool} (k : Step F He H F' He' H') (x : Wd K w' F' He' H') (r : Res K F' He' H H' b v d) :
    ∃ F2, Step F He H F2 He' H' ∧ Wd K w' F2 He' H' ∧ DR K F2 v d ∧ Same F' F2 := by
  cases b with
  | false => exact ⟨F', k, x, r, Same.refl _⟩
  | true =>
    obtain ⟨a, o, rfl, ho, n, m, f, q⟩ := r
    exact ⟨upd F' a o, k.freeze n f, x.freeze ho n m, (q.mono (same_upd n)).frozen upd_same, same_upd n⟩
theorem Res.dz {b : Bool} (r : Res K F' He' Hb H' b v d) : DZ K F' He' H' v d := by
  cases b with
  | false => exact .inl r
  | true =>
    obtain ⟨a, o, rfl, ho, n, m, f, q⟩ := r
    exact .inr ⟨a, o, rfl, ho, m, q⟩
theorem Res.dt {b : Bool} (r : Res K F' He' Hb H' b v d) : DT K F' He' H' v d := r.dz.dt
theorem Res.base {b : Bool} (k : Step F He H F' He' H') (r : Res K F2 He2 H' H2 b v d) : Res K F2 He2 H H2 b v d := by
  cases b with
  | false => exact r
  | true =>
    obtain ⟨a, o, e, ho, n, m, f, q⟩ := r
    exact ⟨a, o, e, ho, n, m, Classical.byContradiction fun q => k.dom a q f, q⟩
theorem DZ.step (r : DZ K F He H v d) (k : Step F He H F' He' H') : DZ K F' He' H' v d := by
  rcases r with r | ⟨a, o, e, ho, m, q⟩
  · exact .inl (r.mono k.fz)
  · refine .inr ⟨a, o, e, k.keep a o ho m, ?_, q.mono k.fz⟩
    refine Classical.byContradiction fun q => (k.heN a q).elim (fun q => q m) fun q => ?_
    rw [ho] at q; cases q
theorem DT.plain (h : ∀ o, ¬ RR K F o d) (r : DT K F He H v d) : DR K F v d := r.elim id fun ⟨_, _, _, _, q⟩ => absurd q (h _)
theorem DT.int {i : Int} (r : DT K F He H v (.int i)) : v = .int i := by
  cases r.plain fun o q => by cases q with | own q => cases q
  rfl
theorem DT.bl {i : Bool} (r : DT K F He H v (.bl i)) : v = .bl i := by
  cases r.plain fun o q => by cases q with | own q => cases q
  rfl
theorem DT.str {i : Str} (r : DT K F He H v (.str i)) : v = .str i := by
  cases r.plain fun o q => by cases q with | own q => cases q
  rfl
theorem DT.non (r : DT K F He H v .non) : v = .non := by
  cases r.plain fun o q => by cases q with | own q => cases q
  rfl
theorem DT.refV {a : Addr} (r : DT K F He H v (.ref a)) : v = .ref a := by
  cases r.plain fun o q => by cases q with | own q => cases q
  rfl
theorem DT.dr_tup {ds : List D} (r : DT K F He H v (.tup ds)) : DR K F v (.tup ds) := r.plain fun o q => by cases q with | own q => cases q
theorem DT.lst {ds : List D} (r : DT K F He H v (.lst ds)) (s : Same F H) : ∃ a vs, v = .ref a ∧ H a = some (.lst vs) ∧ DRs K F vs ds := by
  rcases r with r | ⟨a, o, e, ho, q⟩
  · cases r with | lst h hs => exact ⟨_, _, rfl, s _ _ h, hs⟩
  · cases q with | own q => cases q with | lst hs => exact ⟨a, _, e, ho, hs⟩
theorem DT.tup {ds : List D} (r : DT K F He H v (.tup ds)) (s : Same F H) : ∃ a vs, v = .ref a ∧ H a = some (.tup vs) ∧ DRs K F vs ds := by
  cases r.dr_tup with | tup h hs => exact ⟨_, _, rfl, s _ _ h, hs⟩
theorem DT.dK {ds : List (Key × D)} (r : DT K F He H v (.dK ds)) (s : Same F H) : ∃ a vs, v = .ref a ∧ H a = some (.dK vs) ∧ DKs K F vs ds := by
  rcases r with r | ⟨a, o, e, ho, q⟩
  · cases r with | dK h hs => exact ⟨_, _, rfl, s _ _ h, hs⟩
  · cases q with | own q => cases q with | dK hs => exact ⟨a, _, e, ho, hs⟩
theorem DT.dT {ds : List (List Key × D)} (r : DT K F He H v (.dT ds)) (s : Same F H) : ∃ a vs, v = .ref a ∧ H a = some (.dT vs) ∧ DTs K F vs ds := by
  rcases r with r | ⟨a, o, e, ho, q⟩
  · cases r with | dT h hs => exact ⟨_, _, rfl, s _ _ h, hs⟩
  · cases q with | own q => cases q with | dT hs => exact ⟨a, _, e, ho, hs⟩
theorem DT.fK {ds : List (Key × D)} (r : DT K F He H v (.fK ds)) : ∃ a ob vs, v = .ref a ∧ H a = some (.frz ob (.dK vs)) ∧ DKs K F vs ds := by
  rcases r with r | ⟨a, o, e, ho, q⟩
  · cases r
  · cases q with
    | own q => cases q
    | fK hs => exact ⟨a, _, _, e, ho, hs⟩
theorem DT.fT {ds : List (List Key × D)} (r : DT K F He H v (.fT ds)) : ∃ a ob vs, v = .ref a ∧ H a = some (.frz ob (.dT vs)) ∧ DTs K F vs ds := by
  rcases r with r | ⟨a, o, e, ho, q⟩
  · cases r
  · cases q with
    | own q => cases q
    | fT hs => exact ⟨a, _, _, e, ho, hs⟩
theorem DT.scr {ns : List Int} (r : DT K F He H v (.scr ns)) (s : Same F H) : ∃ a, v = .ref a ∧ SqL K H a (ns.map V.int) := by
  cases r.plain fun o q => by cases q with | own q => cases q
  exact ⟨_, rfl, s.seq (by assumption)⟩
theorem DT.of (r : DR K F v d) : DT K F He H v d := .inl r
end
end Lv

namespace Lv
open PySem PySem.Spec L2

/-! ### readings over data -/
abbrev DX  := DSt → Om → (Bool → D → Om → Prop) → Prop
abbrev DO  := DSt → Om → (D → Om → Prop) → Prop
abbrev DTs_  := DSt → Om → (Bool → Om → Prop) → Prop
abbrev DA  := DSt → Om → (List D → Om → Prop) → Prop
def liftX (z : Ent) (t : DX) : TE := fun σ H Q => ∃ δ w F He P, Rel z δ w F He σ H ∧ t δ w P ∧ ∀ b d w', P b d w' → ∀ v H' F' He', Wd z.K w' F' He' H' → Step F He H F' He' H' → Res z.K F' He' H H' b v d → Q v H'
def liftO (z : Ent) (t : DO) : TE := fun σ H Q => ∃ δ w F He P, Rel z δ w F He σ H ∧ t δ w P ∧ ∀ d w', P d w' → ∀ v H' F' He', Wd z.K w' F' He' H' → Step F He H F' He' H' → DZ z.K F' He' H' v d → Q v H'
def liftT (z : Ent) (t : DTs_) : TT := fun σ H Q => ∃ δ w F He P, Rel z δ w F He σ H ∧ t δ w P ∧ ∀ k w', P k w' → ∀ H' F' He', Wd z.K w' F' He' H' → Step F He H F' He' H' → Q k H'
def liftA (z : Ent) (t : DA) : TA := fun σ H Q => ∃ δ w F He P, Rel z δ w F He σ H ∧ t δ w P ∧ ∀ ds w', P ds w' → ∀ vs H' F' He', Wd z.K w' F' He' H' → Step F He H F' He' H' → DRs z.K F' vs ds → Q vs H'
/-- what is wanted behind a statement -/
structure DEnds  where
  nx : DSt → Om → Prop
  rt : Bool → D → Om → Prop
  bk : DSt → Om → Prop := fun _ _ => False
  ct : DSt → Om → Prop := fun _ _ => False
abbrev DS  := DEnds → DSt → Om → Prop
structure Conn (z : Ent) (F₀ : Hp) (E : DEnds) (D : Ends) : Prop where
  nx : ∀ δ w F He σ H, E.nx δ w → Rel z δ w F He σ H → Same F₀ F → D.nx σ H
  rt : ∀ b d w, E.rt b d w → ∀ v H F He, Wd z.K w F He H → Step z.F0 z.He0 z.H0 F He H → Res z.K F He z.H0 H b v d → D.rt v H
  bk : ∀ δ w F He σ H, E.bk δ w → Rel z δ w F He σ H → Same F₀ F → D.bk σ H
  ct : ∀ δ w F He σ H, E.ct δ w → Rel z δ w F He σ H → Same F₀ F → D.ct σ H
theorem Conn.mono {z : Ent} {F F' : Hp} {E : DEnds} {D : Ends} (c : Conn z F E D) (s : Same F F') : Conn z F' E D :=
  ⟨fun δ w G He σ H q R s' => c.nx δ w G He σ H q R (s.trans s'), c.rt, fun δ w G He σ H q R s' => c.bk δ w G He σ H q R (s.trans s'), fun δ w G He σ H q R s' => c.ct δ w G He σ H q R (s.trans s')⟩
def liftS (z : Ent) (t : DS) : TS := fun D σ H => ∃ δ w F He E, Rel z δ w F He σ H ∧ t E δ w ∧ Conn z F E D

theorem PE.imp {X : Cx} {e : Expr} {t t' : TE} (h : PE X e t) (f : ∀ σ H Q, t' σ H Q → t σ H Q) : PE X e t' := ⟨fun pins s σ H Q I q => h.run pins s σ H Q I (f σ H Q q)⟩
theorem PT.imp {X : Cx} {e : Expr} {t t' : TT} (h : PT X e t) (f : ∀ σ H Q, t' σ H Q → t σ H Q) : PT X e t' := ⟨fun pins s σ H Q I q => h.run pins s σ H Q I (f σ H Q q)⟩
theorem PW.imp {X : Cx} {e : Expr} {t t' : TT} (h : PW X e t) (f : ∀ σ H Q, t' σ H Q → t σ H Q) : PW X e t' := ⟨fun w pins s σ H Q I q => h.run w pins s σ H Q I (f σ H Q q)⟩
theorem PA.imp {X : Cx} {es : List Expr} {t t' : TA} (h : PA X es t) (f : ∀ σ H Q, t' σ H Q → t σ H Q) : PA X es t' := ⟨fun p pins s σ H Q I q => h.run p pins s σ H Q I (f σ H Q q)⟩
theorem PS.imp {X : Cx} {st : Stmt} {t t' : TS} (h : PS X st t) (f : ∀ D σ H, t' D σ H → t D σ H) : PS X st t' := ⟨fun pins s σ H D I q => h.run pins s σ H D I (f D σ H q)⟩
theorem PSs.imp {X : Cx} {st : List Stmt} {t t' : TS} (h : PSs X st t) (f : ∀ D σ H, t' D σ H → t D σ H) : PSs X st t' := ⟨fun pins s σ H D I q => h.run pins s σ H D I (f D σ H q)⟩

section
variable {X : Cx} {z : Ent} {pos : Pos}
abbrev JX (X : Cx) (z : Ent) (e : Expr) (t : DX) : Prop := PE X e (liftX z t)
abbrev JO (X : Cx) (z : Ent) (e : Expr) (t : DO) : Prop := PE X e (liftO z t)
abbrev JT (X : Cx) (z : Ent) (e : Expr) (t : DTs_) : Prop := PT X e (liftT z t)
abbrev JA (X : Cx) (z : Ent) (es : List Expr) (t : DA) : Prop := PA X es (liftA z t)
abbrev JS (X : Cx) (z : Ent) (st : Stmt) (t : DS) : Prop := PS X st (liftS z t)
abbrev JSs (X : Cx) (z : Ent) (st : List Stmt) (t : DS) : Prop := PSs X st (liftS z t)

/-! ### names and constants -/
def dVar  (i : Nat) : DX := fun δ w Q => match δ[i]? with
  | some (some (false, d)) => Q false d w
  | _ => False
def dVarR  (i : Nat) : DO := fun δ w Q => match δ[i]? with
  | some (some (_, d)) => Q d w
  | _ => False
def dC  (d : D) : DX := fun _ w Q => Q false d w
def oX  (t : DX) : DO := fun δ w Q => t δ w fun _ d w' => Q d w'
theorem jx_var {i : Nat} {e : Expr} (h : PE X e (tVar i)) : JX X z e (dVar i) := PE.imp h fun σ H Q ⟨δ, w, F, He, P, R, q, k⟩ => by
  unfold dVar at q
  split at q
  · next d e =>
    obtain ⟨v, hv, x, rfl, r⟩ := R.sl i _ e
    exact ⟨x, hv, k _ _ _ q x H F He R.wd .refl r⟩
  · exact q.elim
theorem jo_var {i : Nat} {e : Expr} (h : PE X e (tVar i)) : JO X z e (dVarR i) := PE.imp h fun σ H Q ⟨δ, w, F, He, P, R, q, k⟩ => by
  unfold dVarR at q
  split at q
  · next b d e =>
    obtain ⟨v, hv, r⟩ := R.sl i _ e
    cases b with
    | false =>
      obtain ⟨x, rfl, r⟩ := r
      exact ⟨x, hv, k _ _ q x H F He R.wd .refl (.inl r)⟩
    | true =>
      obtain ⟨a, o, rfl, ho, n, m, f, r⟩ := r
      exact ⟨.ref a, hv, k _ _ q _ H F He R.wd .refl (.inr ⟨a, o, rfl, ho, m, r⟩)⟩
  · exact q.elim
theorem jo_of {e : Expr} {t : DX} (h : JX X z e t) : JO X z e (oX t) := PE.imp h fun σ H Q ⟨δ, w, F, He, P, R, q, k⟩ =>
  ⟨δ, w, F, He, _, R, q, fun b d w' p v H' F' He' wd st r => k d w' p v H' F' He' wd st r.dz⟩
theorem jx_c {e : Expr} {v : V} {d : D} (h : PE X e (tC v)) (r : ∀ F, DR z.K F v d) : JX X z e (dC d) := PE.imp h fun σ H Q ⟨δ, w, F, He, P, R, q, k⟩ => k _ _ _ q v H F He R.wd .refl (r F)
theorem jx_int {i : Int} {j : Nat} : JX X z (.Constant (.int i) j pos) (dC (.int i)) := jx_c pe_int fun _ => .int i
theorem jx_bl {b : Bool} {j : Nat} : JX X z (.Constant (.bool b) j pos) (dC (.bl b)) := jx_c pe_bl fun _ => .bl b
theorem jx_non {j : Nat} : JX X z (.Constant .none j pos) (dC .non) := jx_c pe_non fun _ => .non
theorem jx_str {x : Str} {j : Nat} : JX X z (.Constant (.str x) j pos) (dC (.str x)) := jx_c pe_str fun _ => .str x

/-! ### operations of two operands -/
/-- sem: what comes, by the data; the ties of a value's rule -/
def Sem2 (z : Ent) (r : R2) (sem : D → D → (Bool → D → Prop) → Prop) : Prop := ∀ (w : Om) (F He H : Hp) (x y : V) (d e : D) (P : Bool → D → Prop) (Q : VK), Wd z.K w F He H → DT z.K F He H x d → DT z.K F He H y e → sem d e P →
  (∀ b d', P b d' → ∀ v H' F' He', Wd z.K w F' He' H' → Step F He H F' He' H' → Res z.K F' He' H H' b v d' → Q v H') → r x y H Q
def dBin  (sem : D → D → (Bool → D → Prop) → Prop) (ta tb : DO) : DX := fun δ w Q => ta δ w fun d w1 => tb δ w1 fun e w2 => sem (res w2 d) (res w2 e) fun b d' => Q b d' w2
theorem bin2 {r : R2} {sem : D → D → (Bool → D → Prop) → Prop} (hs : Sem2 z r sem) {ta tb : DO} {σ : St} {H : Hp} {Q : VK} (h : liftX z (dBin sem ta tb) σ H Q) : tOp r (liftO z ta) (liftO z tb) σ H Q := by
  obtain ⟨δ, w, F, He, P, R, q, k⟩ := h
  refine ⟨δ, w, F, He, _, R, q, fun d w1 q1 x H1 F1 He1 wd1 st1 r1 => ?_⟩
  refine ⟨δ, w1, F1, He1, _, R.step wd1 st1, q1, fun e w2 q2 y H2 F2 He2 wd2 st2 r2 => ?_⟩
  exact hs w2 F2 He2 H2 x y _ _ _ Q wd2 (res_ok wd2.ex wd2.sh (r1.step st2)) (res_ok wd2.ex wd2.sh r2) q2 fun b d' p v H' F' He' wd st rr => k b d' w2 p v H' F' He' wd ((st1.trans st2).trans st) (rr.base (st1.trans st2))
theorem jx_op {op : Operator} {r : R2} {sem : D → D → (Bool → D → Prop) → Prop} {a b : Expr} {ta tb : DO} (ho : OpR X (binaryOp op) r) (hs : Sem2 z r sem) (ha : JO X z a ta) (hb : JO X z b tb) : JX X z (.BinOp a op b pos) (dBin sem ta tb) :=
  PE.imp (pe_op ho ha hb) fun _ _ _ h => bin2 hs h
theorem jx_cmp {op : CmpOp} {r : R2} {sem : D → D → (Bool → D → Prop) → Prop} {a b : Expr} {ta tb : DO} (ho : OpR X (compareOp op) r) (hs : Sem2 z r sem) (ha : JO X z a ta) (hb : JO X z b tb) (hm : behindInMarks op b = false) : JX X z (.Compare a [op] [b] pos) (dBin sem ta tb) :=
  PE.imp (pe_cmpR ho ha hb hm) fun _ _ _ h => bin2 hs h
/-- the truth of a comparison -/
def dB  (t : DX) : DTs_ := fun δ w Q => t δ w fun _ d w' => match d with
  | .bl k => Q k w'
  | _ => False
theorem jt_cmp {op : CmpOp} {r : R2} {sem : D → D → (Bool → D → Prop) → Prop} {a b : Expr} {ta tb : DO} (ho : OpR X (compareOp op) r) (hs : Sem2 z r sem) (ha : JO X z a ta) (hb : JO X z b tb) (hm : behindInMarks op b = false) : JT X z (.Compare a [op] [b] pos) (dB (dBin sem ta tb)) :=
  PT.imp (pt_cmpR ho ha hb hm) fun σ H Q ⟨δ, w, F, He, P, R, q, k⟩ => by
    refine bin2 hs ⟨δ, w, F, He, _, R, q, fun b d w' p v H' F' He' wd st r => ?_⟩
    cases d with
    | bl c =>
      have e := r.dt.bl
      subst e
      exact ⟨c, rfl, k c w' p H' F' He' wd st⟩
    | _ => exact p.elim
/-- a new object as a result -/
theorem res_new {w : Om} {F He H : Hp} {p : Addr} {o : HO} {d : D} {P : Bool → D → Prop} {Q : VK} (wd : Wd z.K w F He H) (hp : H p = none) (r : OR z.K F o d) (q : P true d)
    (k : ∀ b d', P b d' → ∀ v H' F' He', Wd z.K w F' He' H' → Step F He H F' He' H' → Res z.K F' He' H H' b v d' → Q v H') : Q (.ref p) (upd H p o) :=
  k true d q _ _ F He (wd.alloc hp) (.alloc hp) ⟨p, o, rfl, upd_same, wd.fnone hp, wd.henone hp, hp, r⟩
/-- a new tuple -/
theorem res_tup {w : Om} {F He H : Hp} {p : Addr} {vs : List V} {ds : List D} {P : Bool → D → Prop} {Q : VK} (wd : Wd z.K w F He H) (hp : H p = none) (r : DRs z.K F vs ds) (q : P false (.tup ds))
    (k : ∀ b d', P b d' → ∀ v H' F' He', Wd z.K w F' He' H' → Step F He H F' He' H' → Res z.K F' He' H H' b v d' → Q v H') : Q (.ref p) (upd H p (.tup vs)) :=
  k false _ q _ _ (upd F p (.tup vs)) He ((wd.alloc hp).freeze upd_same (wd.fnone hp) (wd.henone hp)) ((Step.alloc hp).freeze (wd.fnone hp) hp)
    (.tup upd_same (r.mono (same_upd (wd.fnone hp))))
theorem res_at {w : Om} {F He H : Hp} {v : V} {d : D} {P : Bool → D → Prop} {Q : VK} (wd : Wd z.K w F He H) (r : DR z.K F v d) (q : P false d)
    (k : ∀ b d', P b d' → ∀ v H' F' He', Wd z.K w F' He' H' → Step F He H F' He' H' → Res z.K F' He' H H' b v d' → Q v H') : Q v H :=
  k false d q _ _ F He wd .refl r

def sAdd (d e : D) (P : Bool → D → Prop) : Prop := match d, e with
  | .int i, .int j => P false (.int (i + j))
  | .str x, .str y => x.length + y.length ≤ sizeLine ∧ P false (.str (x ++ y))
  | .lst xs, .lst ys => xs.length + ys.length ≤ sizeLine ∧ P true (.lst (xs ++ ys))
  | .tup xs, .tup ys => xs.length + ys.length ≤ sizeLine ∧ P false (.tup (xs ++ ys))
  | _, _ => False
def rAddD (K : PySem.W.Frag) : R2 := fun x y H Q => (∃ i j, x = .int i ∧ y = .int j ∧ Q (.int (i + j)) H) ∨ (∃ i j, x = .str i ∧ y = .str j ∧ i.length + j.length ≤ sizeLine ∧ Q (.str (i ++ j)) H) ∨ rCat x y H Q ∨ rCatA K x y H Q
theorem op_addD : OpR X (binaryOp .Add) (rAddD X.K) := op_add.or (op_add_str.or (op_cat.or op_catA))
end
end Lv

namespace Lv
open PySem PySem.Spec L2

/-! ### dicts over data -/
section
variable {κ : Type} [DecidableEq κ]
def valD (kvs : List (κ × D)) (k : κ) : Option D := (kvs.find? fun kv => decide (kv.1 = k)).map (·.2)
def putD (kvs : List (κ × D)) (k : κ) (v : D) : List (κ × D) :=
  if kvs.any fun kv => decide (kv.1 = k) then kvs.map fun kv => if kv.1 = k then (kv.1, v) else kv else kvs ++ [(k, v)]
def dropD (kvs : List (κ × D)) (k : κ) : List (κ × D) := kvs.filter fun kv => decide (kv.1 ≠ k)
end
def kD : Key → D
  | .inl i => .int i
  | .inr x => .str x
section
variable {K : PySem.W.Frag} {F : Hp}
theorem DKs.val {k : Key} : ∀ {vs : List (Key × V)} {ds : List (Key × D)}, DKs K F vs ds → (valV vs k = none ∧ valD ds k = none) ∨ ∃ v d, valV vs k = some v ∧ valD ds k = some d ∧ DR K F v d
  | _, _, .nil => .inl ⟨rfl, rfl⟩
  | _, _, .cons (k := j) (v := v) (d := d) h hs => by
    by_cases e : j = k
    · exact .inr ⟨v, d, by simp [valV, List.find?_cons, e], by simp [valD, List.find?_cons, e], h⟩
    · have := DKs.val (k := k) hs
      simpa [valV, valD, List.find?_cons, e] using this
theorem DTs.val {k : List Key} : ∀ {vs : List (List Key × V)} {ds : List (List Key × D)}, DTs K F vs ds → (valV vs k = none ∧ valD ds k = none) ∨ ∃ v d, valV vs k = some v ∧ valD ds k = some d ∧ DR K F v d
  | _, _, .nil => .inl ⟨rfl, rfl⟩
  | _, _, .cons (k := j) (v := v) (d := d) h hs => by
    by_cases e : j = k
    · exact .inr ⟨v, d, by simp [valV, List.find?_cons, e], by simp [valD, List.find?_cons, e], h⟩
    · have := DTs.val (k := k) hs
      simpa [valV, valD, List.find?_cons, e] using this
theorem DKs.app : ∀ {vs ws : List (Key × V)} {ds es : List (Key × D)}, DKs K F vs ds → DKs K F ws es → DKs K F (vs ++ ws) (ds ++ es)
  | _, _, _, _, .nil, s => s
  | _, _, _, _, .cons r t, s => .cons r (DKs.app t s)
theorem DTs.app : ∀ {vs ws : List (List Key × V)} {ds es : List (List Key × D)}, DTs K F vs ds → DTs K F ws es → DTs K F (vs ++ ws) (ds ++ es)
  | _, _, _, _, .nil, s => s
  | _, _, _, _, .cons r t, s => .cons r (DTs.app t s)
theorem DKs.any {k : Key} : ∀ {vs : List (Key × V)} {ds : List (Key × D)}, DKs K F vs ds → (vs.any fun kv => decide (kv.1 = k)) = ds.any fun kv => decide (kv.1 = k)
  | _, _, .nil => rfl
  | _, _, .cons r t => by simp [DKs.any t]
theorem DTs.any {k : List Key} : ∀ {vs : List (List Key × V)} {ds : List (List Key × D)}, DTs K F vs ds → (vs.any fun kv => decide (kv.1 = k)) = ds.any fun kv => decide (kv.1 = k)
  | _, _, .nil => rfl
  | _, _, .cons r t => by simp [DTs.any t]
theorem DKs.repl {k : Key} {x : V} {y : D} (r : DR K F x y) : ∀ {vs : List (Key × V)} {ds : List (Key × D)}, DKs K F vs ds → DKs K F (vs.map fun kv => if kv.1 = k then (kv.1, x) else kv) (ds.map fun kv => if kv.1 = k then (kv.1, y) else kv)
  | _, _, .nil => .nil
  | _, _, .cons (k := j) h t => by
    rw [List.map_cons, List.map_cons]
    by_cases e : j = k
    · simp only [e, if_true]; exact .cons r (DKs.repl r t)
    · simp only [e, if_false]; exact .cons h (DKs.repl r t)
theorem DTs.repl {k : List Key} {x : V} {y : D} (r : DR K F x y) : ∀ {vs : List (List Key × V)} {ds : List (List Key × D)}, DTs K F vs ds → DTs K F (vs.map fun kv => if kv.1 = k then (kv.1, x) else kv) (ds.map fun kv => if kv.1 = k then (kv.1, y) else kv)
  | _, _, .nil => .nil
  | _, _, .cons (k := j) h t => by
    rw [List.map_cons, List.map_cons]
    by_cases e : j = k
    · simp only [e, if_true]; exact .cons r (DTs.repl r t)
    · simp only [e, if_false]; exact .cons h (DTs.repl r t)
theorem DKs.put {k : Key} {x : V} {y : D} (r : DR K F x y) {vs : List (Key × V)} {ds : List (Key × D)} (h : DKs K F vs ds) : DKs K F (putK vs k x) (putD ds k y) := by
  unfold putK putD
  rw [h.any]
  split
  · exact h.repl r
  · exact h.app (.cons r .nil)
theorem DTs.put {k : List Key} {x : V} {y : D} (r : DR K F x y) {vs : List (List Key × V)} {ds : List (List Key × D)} (h : DTs K F vs ds) : DTs K F (putK vs k x) (putD ds k y) := by
  unfold putK putD
  rw [h.any]
  split
  · exact h.repl r
  · exact h.app (.cons r .nil)
theorem DKs.drop {k : Key} : ∀ {vs : List (Key × V)} {ds : List (Key × D)}, DKs K F vs ds → DKs K F (dropK vs k) (dropD ds k)
  | _, _, .nil => .nil
  | _, _, .cons (k := j) h t => by
    have ih := DKs.drop (k := k) t
    unfold dropK dropD at ih ⊢
    by_cases e : j = k
    · simpa [List.filter_cons, e] using ih
    · simpa [List.filter_cons, e] using DKs.cons h ih
theorem DR.key {v : V} {k : Key} (h : DR K F v (kD k)) : v = kV k := by
  cases k with
  | inl i => cases h; rfl
  | inr x => cases h; rfl
theorem DRs.keys : ∀ {ks : List Key} {vs : List V}, DRs K F vs (ks.map kD) → vs = ks.map kV
  | [], _, h => by cases h; rfl
  | k :: ks, _, h => by
    cases h with
    | cons h hs => rw [List.map_cons, h.key, DRs.keys hs]
theorem DRs.ofKeys : ∀ (ks : List Key), DRs K F (ks.map kV) (ks.map kD)
  | [] => .nil
  | .inl i :: ks => .cons (.int i) (DRs.ofKeys ks)
  | .inr x :: ks => .cons (.str x) (DRs.ofKeys ks)
end

/-! ### == over data -/
mutual
def D.py : D → PyData
  | .non => .none | .bl b => .bool b | .int i => .int i | .str x => .str x
  | .lst ds => .list (pyAll ds) | .tup ds => .tuple (pyAll ds)
  | .ref _ => .none | .ty _ => .none | .dK _ => .none | .dT _ => .none | .fK _ => .none | .fT _ => .none | .exc _ _ => .none | .cls _ => .none | .scr ns => .list (ns.map .int)
def pyAll : List D → List PyData
  | [] => []
  | d :: ds => d.py :: pyAll ds
end
mutual
/-- none of the things that == is not told of here -/
def D.pl : D → Bool
  | .non => true | .bl _ => true | .int _ => true | .str _ => true
  | .lst ds => plAll ds | .tup ds => plAll ds
  | .ref _ => false | .ty _ => false | .dK _ => false | .dT _ => false | .fK _ => false | .fT _ => false | .exc _ _ => false | .cls _ => false | .scr _ => true
def plAll : List D → Bool
  | [] => true
  | d :: ds => d.pl && plAll ds
end
section
variable {K : PySem.W.Frag} {F : Hp}
theorem dpInts (H : Hp) : ∀ ns : List Int, DpAll K H (ns.map V.int) (ns.map PyData.int)
  | [] => .nil
  | n :: ns => .cons (.int n) (dpInts H ns)
mutual
theorem DR.dp (F : Hp) : ∀ {v : V} {d : D}, DR K F v d → d.pl = true → Dp K F v d.py
  | _, _, .non, _ => by rw [D.py]; exact .non
  | _, _, .bl b, _ => by rw [D.py]; exact .bl b
  | _, _, .int i, _ => by rw [D.py]; exact .int i
  | _, _, .str x, _ => by rw [D.py]; exact .str x
  | _, _, .ref a, h => by simp [D.pl] at h
  | _, _, .ty n, h => by simp [D.pl] at h
  | _, _, .lst e hs, h => by rw [D.py]; exact .lst (.of e) (DRs.dp F hs (by simpa [D.pl] using h))
  | _, _, .tup e hs, h => by rw [D.py]; exact .tup (.of e) (DRs.dp F hs (by simpa [D.pl] using h))
  | _, _, .dK _ _, h => by simp [D.pl] at h
  | _, _, .dT _ _, h => by simp [D.pl] at h
  | _, _, .scr e, h => by rw [D.py]; exact .lst e (dpInts F _)
  | _, _, .exc0 _ _, h => by simp [D.pl] at h
  | _, _, .exc1 _ _ _ _, h => by simp [D.pl] at h
  | _, _, .cls _, h => by simp [D.pl] at h
theorem DRs.dp (F : Hp) : ∀ {vs : List V} {ds : List D}, DRs K F vs ds → plAll ds = true → DpAll K F vs (pyAll ds)
  | _, _, .nil, _ => by rw [pyAll]; exact .nil
  | _, _, .cons (d := d) (ds := ds) h hs, p => by
    have p' : d.pl = true ∧ plAll ds = true := by simpa [plAll] using p
    rw [pyAll]
    exact .cons (DR.dp F h p'.1) (DRs.dp F hs p'.2)
end
theorem DT.dp {He H : Hp} {v : V} {d : D} (h : DT K F He H v d) (s : Same F H) (p : d.pl = true) : Dp K H v d.py := by
  rcases h with h | ⟨a, o, rfl, ho, q⟩
  · exact DR.dp H (h.mono s) p
  · cases q with
    | fK _ => simp [D.pl] at p
    | fT _ => simp [D.pl] at p
    | own q =>
    cases q with
    | lst hs => rw [D.py]; exact .lst (.of ho) (DRs.dp H (hs.mono s) (by simpa [D.pl] using p))
    | dK _ => simp [D.pl] at p
    | dT _ => simp [D.pl] at p
end
mutual
theorem plain_py : ∀ d : D, d.py.plain = true
  | .non => by simp [D.py, PyData.plain]
  | .bl _ => by simp [D.py, PyData.plain]
  | .int _ => by simp [D.py, PyData.plain]
  | .str _ => by simp [D.py, PyData.plain]
  | .lst ds => by simp [D.py, PyData.plain, plain_pyAll ds]
  | .tup ds => by simp [D.py, PyData.plain, plain_pyAll ds]
  | .ref _ => by simp [D.py, PyData.plain]
  | .ty _ => by simp [D.py, PyData.plain]
  | .dK _ => by simp [D.py, PyData.plain]
  | .dT _ => by simp [D.py, PyData.plain]
  | .fK _ => by simp [D.py, PyData.plain]
  | .fT _ => by simp [D.py, PyData.plain]
  | .exc _ _ => by simp [D.py, PyData.plain]
  | .cls _ => by simp [D.py, PyData.plain]
  | .scr ns => by
    simp only [D.py, PyData.plain]
    induction ns with
    | nil => rfl
    | cons n ns ih => simp [PyData.plainAll, PyData.plain, ih]
theorem plain_pyAll : ∀ ds : List D, PyData.plainAll (pyAll ds) = true
  | [] => rfl
  | d :: ds => by simp [pyAll, PyData.plainAll, plain_py d, plain_pyAll ds]
end
/-- d == e -/
def D.eqv (d e : D) : Bool := PyData.eqv d.py e.py
def sEq (d e : D) (P : Bool → D → Prop) : Prop := (d.pl = true ∧ e.pl = true) ∧ (d.py.depth ≤ 64 ∨ e.py.depth ≤ 64) ∧ P false (.bl (d.eqv e))
def sNe (d e : D) (P : Bool → D → Prop) : Prop := (d.pl = true ∧ e.pl = true) ∧ (d.py.depth ≤ 64 ∨ e.py.depth ≤ 64) ∧ P false (.bl (!d.eqv e))
def rEqP (K : PySem.W.Frag) : R2 := fun x y H Q => ∃ d e, Dp K H x d ∧ Dp K H y e ∧ d.plain = true ∧ e.plain = true ∧ (d.depth ≤ 64 ∨ e.depth ≤ 64) ∧ Q (.bl (PyData.eqv d e)) H
def rNeP (K : PySem.W.Frag) : R2 := fun x y H Q => ∃ d e, Dp K H x d ∧ Dp K H y e ∧ d.plain = true ∧ e.plain = true ∧ (d.depth ≤ 64 ∨ e.depth ≤ 64) ∧ Q (.bl (!PyData.eqv d e)) H
theorem wp_eqPlain {prog : Program} {w : World} {A : Around} {E : Value → Shared → Prop} {s : Shared} {a b : Value} {da db : PyData} {as bs : List Addr} {Q : Value → Shared → Prop} (ra : Reads s.heap a da as) (rb : Reads s.heap b db bs) (ha : da.plain = true) (hb : db.plain = true)
    (hu : A.units + 64 < cLine) (hd : da.depth ≤ 64 ∨ db.depth ≤ 64) (h : Q (.bool (PyData.eqv da db)) s) : wpAny (model prog w) A (compareOp .Eq a b) Q E s := by
  have hm : A.units + min da.depth db.depth < cLine := by
    have h1 : min da.depth db.depth ≤ da.depth := Nat.min_le_left _ _
    have h2 : min da.depth db.depth ≤ db.depth := Nat.min_le_right _ _
    rcases hd with h | h <;> omega
  exact SeqAt.eq_plain ra rb ha hb hm h
theorem wp_nePlain {prog : Program} {w : World} {A : Around} {E : Value → Shared → Prop} {s : Shared} {a b : Value} {da db : PyData} {as bs : List Addr} {Q : Value → Shared → Prop} (ra : Reads s.heap a da as) (rb : Reads s.heap b db bs) (ha : da.plain = true) (hb : db.plain = true)
    (hu : A.units + 64 < cLine) (hd : da.depth ≤ 64 ∨ db.depth ≤ 64) (h : Q (.bool (!PyData.eqv da db)) s) : wpAny (model prog w) A (compareOp .NotEq a b) Q E s := by
  have hm : A.units + min da.depth db.depth < cLine := by
    have h1 : min da.depth db.depth ≤ da.depth := Nat.min_le_left _ _
    have h2 : min da.depth db.depth ≤ db.depth := Nat.min_le_right _ _
    rcases hd with h | h <;> omega
  exact SeqAt.ne_plain ra rb ha hb hm h
section
variable {X : Cx} {z : Ent} {pos : Pos}
theorem op_eqP (hu : X.A.units + 64 < cLine) : OpR X (compareOp .Eq) (rEqP X.K) := by
  intro pins s σ H x y v u Q I rx ry h
  obtain ⟨d, e, hd, he, sd, se, hh, q⟩ := h
  obtain ⟨as, r1⟩ := Dp.reads I d x v hd rx
  obtain ⟨bs, r2⟩ := Dp.reads I e y u he ry
  exact wp_eqPlain r1 r2 sd se hu hh ⟨.bl _, H, I, rfl, q⟩
theorem op_neP (hu : X.A.units + 64 < cLine) : OpR X (compareOp .NotEq) (rNeP X.K) := by
  intro pins s σ H x y v u Q I rx ry h
  obtain ⟨d, e, hd, he, sd, se, hh, q⟩ := h
  obtain ⟨as, r1⟩ := Dp.reads I d x v hd rx
  obtain ⟨bs, r2⟩ := Dp.reads I e y u he ry
  exact wp_nePlain r1 r2 sd se hu hh ⟨.bl _, H, I, rfl, q⟩
theorem sem_eq : Sem2 z (rEqP z.K) sEq := fun w F He H x y d e P Q wd dx dy ⟨⟨p1, p2⟩, p3, q⟩ k => ⟨d.py, e.py, dx.dp wd.sf p1, dy.dp wd.sf p2, plain_py d, plain_py e, p3, k false _ q _ H F He wd .refl (.bl _)⟩
theorem sem_ne : Sem2 z (rNeP z.K) sNe := fun w F He H x y d e P Q wd dx dy ⟨⟨p1, p2⟩, p3, q⟩ k => ⟨d.py, e.py, dx.dp wd.sf p1, dy.dp wd.sf p2, plain_py d, plain_py e, p3, k false _ q _ H F He wd .refl (.bl _)⟩
end
end Lv

namespace Lv
open PySem PySem.Spec L2
section
variable {X : Cx} {z : Ent} {pos : Pos}

/-! ### arithmetic -/
theorem dt_int {K : PySem.W.Frag} {F He H : Hp} {v : V} {i : Int} (r : DT K F He H v (.int i)) : v = .int i := r.int
theorem sem_add : Sem2 z (rAddD z.K) sAdd := fun w F He H x y d e P Q wd dx dy q k => by
  unfold sAdd at q
  split at q
  · exact .inl ⟨_, _, dx.int, dy.int, k _ _ q _ H F He wd .refl (.int _)⟩
  · exact .inr (.inl ⟨_, _, dx.str, dy.str, q.1, k _ _ q.2 _ H F He wd .refl (.str _)⟩)
  · obtain ⟨a, vs, rfl, ha, ra⟩ := dx.lst wd.sf
    obtain ⟨b, us, rfl, hb, rb⟩ := dy.lst wd.sf
    refine .inr (.inr (.inl ⟨a, b, vs, us, rfl, rfl, ha, hb, by rw [ra.length, rb.length]; exact q.1, fun p hp => res_new wd hp (.lst (ra.append rb)) q.2 k⟩))
  · obtain ⟨a, vs, rfl, ha, ra⟩ := dx.tup wd.sf
    obtain ⟨b, us, rfl, hb, rb⟩ := dy.tup wd.sf
    refine .inr (.inr (.inr ⟨a, b, vs, us, rfl, rfl, .of ha, .of hb, by rw [ra.length, rb.length]; exact q.1, fun e => ?_, fun _ e => ?_, fun _ _ p hp => res_tup wd hp (ra.append rb) q.2 k⟩))
    · subst e
      cases ra
      have q2 := q.2
      rw [List.nil_append] at q2
      exact res_at wd dy.dr_tup q2 k
    · subst e
      cases rb
      have q2 := q.2
      rw [List.append_nil] at q2
      exact res_at wd dx.dr_tup q2 k
  · exact q.elim
def sI2 (C : Int → Int → Prop) (g : Int → Int → D) (d e : D) (P : Bool → D → Prop) : Prop := match d, e with
  | .int i, .int j => C i j ∧ P false (g i j)
  | _, _ => False
theorem sem_I {C C' : Int → Int → Prop} {g : Int → Int → V} {g' : Int → Int → D} (h : ∀ i j, C' i j → C i j) (hg : ∀ F i j, DR z.K F (g i j) (g' i j)) : Sem2 z (rI C g) (sI2 C' g') := fun w F He H x y d e P Q wd dx dy q k => by
  unfold sI2 at q
  split at q
  · exact ⟨_, _, dx.int, dy.int, h _ _ q.1, k _ _ q.2 _ H F He wd .refl (hg _ _ _)⟩
  · exact q.elim
def sJ2 (g : Int → Int → D) (d e : D) (P : Bool → D → Prop) : Prop := match d, e with
  | .int i, .int j => P false (g i j)
  | _, _ => False
theorem sem_J {g : Int → Int → V} {g' : Int → Int → D} (hg : ∀ F i j, DR z.K F (g i j) (g' i j)) : Sem2 z (rI0 g) (sJ2 g') := fun w F He H x y d e P Q wd dx dy q k => by
  unfold sJ2 at q
  split at q
  · exact ⟨_, _, dx.int, dy.int, k _ _ q _ H F He wd .refl (hg _ _ _)⟩
  · exact q.elim
abbrev sSub := sJ2 fun i j => .int (i - j)
theorem sem_sub : Sem2 z (rI0 fun i j => .int (i - j)) sSub := sem_J fun _ _ _ => .int _
abbrev sFdiv := sI2 CDivW fun i j => .int (i / j)
theorem sem_fdiv : Sem2 z (rI CDivW fun i j => .int (i / j)) sFdiv := sem_I (fun _ _ h => h) fun _ _ _ => .int _
abbrev sMod := sI2 (fun _ j => 0 < j) fun i j => .int (i % j)
theorem sem_mod : Sem2 z (rI (fun _ j => 0 < j) fun i j => .int (i % j)) sMod := sem_I (fun _ _ h => h) fun _ _ _ => .int _
abbrev sPow := sI2 CPow fun i j => .int (i ^ j.toNat)
theorem sem_pow : Sem2 z (rI CPow fun i j => .int (i ^ j.toNat)) sPow := sem_I (fun _ _ h => h) fun _ _ _ => .int _
abbrev sLt0 := sJ2 fun i j => .bl (decide (i < j))
abbrev sLe := sJ2 fun i j => .bl (decide (i ≤ j))
abbrev sGt := sJ2 fun i j => .bl (decide (j < i))
abbrev sGe := sJ2 fun i j => .bl (decide (j ≤ i))
theorem sem_le : Sem2 z (rI0 fun i j => .bl (decide (i ≤ j))) sLe := sem_J fun _ _ _ => .bl _
theorem sem_gt : Sem2 z (rI0 fun i j => .bl (decide (j < i))) sGt := sem_J fun _ _ _ => .bl _
theorem sem_ge : Sem2 z (rI0 fun i j => .bl (decide (j ≤ i))) sGe := sem_J fun _ _ _ => .bl _
/-- < of numbers, of tuples of numbers -/
def toInts : List D → Option (List Int)
  | [] => some []
  | .int i :: ds => (toInts ds).map (i :: ·)
  | _ :: _ => none
theorem toInts_eq : ∀ {ds : List D} {ns : List Int}, toInts ds = some ns → ds = ns.map D.int
  | [], ns, h => by simp [toInts] at h; subst h; rfl
  | .int i :: ds, ns, h => by
    simp only [toInts, Option.map_eq_some_iff] at h
    obtain ⟨ms, h1, rfl⟩ := h
    rw [toInts_eq h1]; rfl
  | .non :: _, _, h => by simp [toInts] at h
  | .bl _ :: _, _, h => by simp [toInts] at h
  | .str _ :: _, _, h => by simp [toInts] at h
  | .ref _ :: _, _, h => by simp [toInts] at h
  | .ty _ :: _, _, h => by simp [toInts] at h
  | .lst _ :: _, _, h => by simp [toInts] at h
  | .tup _ :: _, _, h => by simp [toInts] at h
  | .dK _ :: _, _, h => by simp [toInts] at h
  | .dT _ :: _, _, h => by simp [toInts] at h
  | .scr _ :: _, _, h => by simp [toInts] at h
  | .fK _ :: _, _, h => by simp [toInts] at h
  | .fT _ :: _, _, h => by simp [toInts] at h
  | .exc _ _ :: _, _, h => by simp [toInts] at h
  | .cls _ :: _, _, h => by simp [toInts] at h
theorem toInts_map : ∀ (ns : List Int), toInts (ns.map D.int) = some ns
  | [] => rfl
  | n :: ns => by simp [toInts, toInts_map ns]
def sLt (d e : D) (P : Bool → D → Prop) : Prop := match d, e with
  | .int i, .int j => P false (.bl (decide (i < j)))
  | .tup xs, .tup ys => ∃ ns ms, toInts xs = some ns ∧ toInts ys = some ms ∧ P false (.bl (HT.lexLt ns ms))
  | _, _ => False
def rLtD (K : PySem.W.Frag) : R2 := fun x y H Q => (∃ i j, x = .int i ∧ y = .int j ∧ Q (.bl (decide (i < j))) H) ∨ rLtT K x y H Q
theorem op_ltD (hu : X.A.units < cLine) : OpR X (compareOp .Lt) (rLtD X.K) := op_lt.or (op_ltT hu)
theorem sem_lt : Sem2 z (rLtD z.K) sLt := fun w F He H x y d e P Q wd dx dy q k => by
  unfold sLt at q
  split at q
  · exact .inl ⟨_, _, dx.int, dy.int, k _ _ q _ H F He wd .refl (.bl _)⟩
  · obtain ⟨ns, ms, h1, h2, q⟩ := q
    have e1 := toInts_eq h1
    have e2 := toInts_eq h2
    subst e1 e2
    obtain ⟨a, vs, rfl, ha, ra⟩ := dx.tup wd.sf
    obtain ⟨b, us, rfl, hb, rb⟩ := dy.tup wd.sf
    have := ra.ints
    have := rb.ints
    subst vs us
    exact .inr ⟨a, b, ns, ms, rfl, rfl, .of ha, .of hb, k _ _ q _ H F He wd .refl (.bl _)⟩
  · exact q.elim
/-- a * b: numbers; a list so many times -/
def MulC (i j : Int) : Prop := CMul i j ∨ CMulW i j
theorem op_mulD : OpR X (binaryOp .Mult) (rI MulC fun i j => .int (i * j)) := opI fun _ _ _ _ _ _ _ hc q => PyProof.Rows.mul_int q (hc.elim CMul.ok CMulW.ok)
def sMul (d e : D) (P : Bool → D → Prop) : Prop := match d, e with
  | .int i, .int j => MulC i j ∧ P false (.int (i * j))
  | .lst xs, .int k => (-(2 ^ 63) ≤ k ∧ k < 2 ^ 63) ∧ xs.length * k.toNat ≤ sizeLine ∧ P true (.lst (List.replicate k.toNat xs).flatten)
  | _, _ => False
def rMulD : R2 := fun x y H Q => rI MulC (fun i j => .int (i * j)) x y H Q ∨ rRep x y H Q
theorem op_mulA : OpR X (binaryOp .Mult) rMulD := op_mulD.or op_rep
theorem sem_mul : Sem2 z rMulD sMul := fun w F He H x y d e P Q wd dx dy q k => by
  unfold sMul at q
  split at q
  · exact .inl ⟨_, _, dx.int, dy.int, q.1, k _ _ q.2 _ H F He wd .refl (.int _)⟩
  · obtain ⟨a, vs, rfl, ha, ra⟩ := dx.lst wd.sf
    exact .inr ⟨a, _, vs, rfl, dy.int, ha, q.1.1, q.1.2, by rw [ra.length]; exact q.2.1, fun p hp => res_new wd hp (.lst (ra.rep _)) q.2.2 k⟩
  · exact q.elim
end
section
variable {X : Cx} {z : Ent} {pos : Pos}
/-! ### operations of one operand -/
def Sem1 (z : Ent) (r : V → Hp → VK → Prop) (sem : D → (Bool → D → Prop) → Prop) : Prop := ∀ (w : Om) (F He H : Hp) (x : V) (d : D) (P : Bool → D → Prop) (Q : VK), Wd z.K w F He H → DT z.K F He H x d → sem d P →
  (∀ b d', P b d' → ∀ v H' F' He', Wd z.K w F' He' H' → Step F He H F' He' H' → Res z.K F' He' H H' b v d' → Q v H') → r x H Q
def dUn  (sem : D → (Bool → D → Prop) → Prop) (ta : DO) : DX := fun δ w Q => ta δ w fun d w1 => sem (res w1 d) fun b d' => Q b d' w1
theorem un1 {r : V → Hp → VK → Prop} {sem : D → (Bool → D → Prop) → Prop} (hs : Sem1 z r sem) {ta : DO} {σ : St} {H : Hp} {Q : VK} (h : liftX z (dUn sem ta) σ H Q) : liftO z ta σ H (fun x H1 => r x H1 Q) := by
  obtain ⟨δ, w, F, He, P, R, q, k⟩ := h
  refine ⟨δ, w, F, He, _, R, q, fun d w1 q1 x H1 F1 He1 wd1 st1 r1 => ?_⟩
  exact hs w1 F1 He1 H1 x _ _ Q wd1 (res_ok wd1.ex wd1.sh r1) q1 fun b d' p v H' F' He' wd st rr => k b d' w1 p v H' F' He' wd (st1.trans st) (rr.base st1)
theorem jx_un {op : UnaryOp} {r : V → Hp → VK → Prop} {sem : D → (Bool → D → Prop) → Prop} {a : Expr} {ta : DO} (ho : UnR X (unaryOp op) r) (hs : Sem1 z r sem) (ha : JO X z a ta) : JX X z (.UnaryOp op a pos) (dUn sem ta) :=
  PE.imp (pe_un ho ha) fun _ _ _ h => un1 hs h
def sNeg (d : D) (P : Bool → D → Prop) : Prop := match d with
  | .int i => P false (.int (-i))
  | _ => False
theorem sem_neg : Sem1 z (rU fun i => .int (-i)) sNeg := fun w F He H x d P Q wd dx q k => by
  unfold sNeg at q
  split at q
  · exact ⟨_, dx.int, k _ _ q _ H F He wd .refl (.int _)⟩
  · exact q.elim
/-- f(e) of a built-in -/
theorem jx_b1 {id : String} {r : List V → Hp → VK → Prop} {sem : D → (Bool → D → Prop) → Prop} {a : Expr} {ta : DO} {x : Str} {p : Pos} (hc : CallR X (.builtin id) r) (hs : Sem1 z (fun x H Q => r [x] H Q) sem) (hg : Gl X x) (hm : X.mg x = none) (hv : bootBuiltins x = some (.builtin id)) (ha : JO X z a ta)
    (hn : x ≠ "__name__" := by decide) (hdb : (x == ("__debug__" : Str)) = false := by decide)
    (he : starEach [a] X.env = (false, eval a X.env) :: starEach [] X.env := by rfl) (hpl : (backTo pos (starEach [] X.env)).any (·.1) = false := by rfl) : JX X z (.Call (.Name x p) [a] [] pos) (dUn sem ta) :=
  PE.imp (pe_callB hc hg hm hv (pa_cons ha pa_nil he) hn hdb he hpl) fun _ _ _ h => un1 hs h
/-- T(e) of a built-in class -/
theorem jx_t1 {id : String} {r : List V → Hp → VK → Prop} {sem : D → (Bool → D → Prop) → Prop} {a : Expr} {ta : DO} {x : Str} {p : Pos} (hc : CallR X (.type id) r) (hs : Sem1 z (fun x H Q => r [x] H Q) sem) (hg : Gl X x) (hm : X.mg x = none) (hv : bootBuiltins x = some (.type id)) (ha : JO X z a ta)
    (hn : x ≠ "__name__" := by decide) (hdb : (x == ("__debug__" : Str)) = false := by decide)
    (he : starEach [a] X.env = (false, eval a X.env) :: starEach [] X.env := by rfl) (hpl : (backTo pos (starEach [] X.env)).any (·.1) = false := by rfl) : JX X z (.Call (.Name x p) [a] [] pos) (dUn sem ta) :=
  PE.imp (pe_callTy hc hg hm hv (pa_cons ha pa_nil he) hn hdb he hpl) fun _ _ _ h => un1 hs h
/-- f(e, g) of a built-in -/
theorem jx_b2 {id : String} {r : List V → Hp → VK → Prop} {sem : D → D → (Bool → D → Prop) → Prop} {a b : Expr} {ta tb : DO} {x : Str} {p : Pos} (hc : CallR X (.builtin id) r) (hs : Sem2 z (fun x y H Q => r [x, y] H Q) sem) (hg : Gl X x) (hm : X.mg x = none) (hv : bootBuiltins x = some (.builtin id)) (ha : JO X z a ta) (hb : JO X z b tb)
    (hn : x ≠ "__name__" := by decide) (hdb : (x == ("__debug__" : Str)) = false := by decide)
    (he : starEach [a, b] X.env = (false, eval a X.env) :: starEach [b] X.env := by rfl) (he2 : starEach [b] X.env = (false, eval b X.env) :: starEach [] X.env := by rfl) (hpl : (backTo pos (starEach [b] X.env)).any (·.1) = false := by rfl) : JX X z (.Call (.Name x p) [a, b] [] pos) (dBin sem ta tb) :=
  PE.imp (pe_callB hc hg hm hv (pa_cons ha (pa_cons hb pa_nil he2) he) hn hdb he hpl) fun _ _ _ h => bin2 hs h
def sLen (d : D) (P : Bool → D → Prop) : Prop := match d with
  | .lst ds => P false (.int ds.length)
  | .tup ds => P false (.int ds.length)
  | .scr ds => P false (.int ds.length)
  | .str x => x.length ≤ sizeLine ∧ P false (.int x.length)
  | .dK ds => P false (.int ds.length)
  | _ => False
def rLenD (K : PySem.W.Frag) : List V → Hp → VK → Prop := fun xs H Q => (∃ x n, xs = [x] ∧ LenV K x H n ∧ Q (.int n) H) ∨ ∃ a kvs, xs = [V.ref a] ∧ H a = some (.dK kvs) ∧ Q (.int kvs.length) H
theorem call_lenA : CallR X (.builtin "len") (rLenD X.K) := call_len.or call_lenD
theorem sem_len : Sem1 z (fun x H Q => rLenD z.K [x] H Q) sLen := fun w F He H x d P Q wd dx q k => by
  unfold sLen at q
  split at q
  · obtain ⟨a, vs, rfl, ha, ra⟩ := dx.lst wd.sf
    exact .inl ⟨_, _, rfl, .inl ⟨_, .of ha, rfl⟩, by rw [ra.length]; exact res_at wd (.int _) q k⟩
  · obtain ⟨a, vs, rfl, ha, ra⟩ := dx.tup wd.sf
    exact .inl ⟨_, _, rfl, .inr ⟨_, .of ha, rfl⟩, by rw [ra.length]; exact res_at wd (.int _) q k⟩
  · obtain ⟨a, rfl, ha⟩ := dx.scr wd.sf
    exact .inl ⟨_, _, rfl, .inl ⟨_, ha, rfl⟩, by rw [List.length_map]; exact res_at wd (.int _) q k⟩
  · have := dx.str
    subst x
    exact .inl ⟨_, _, rfl, ⟨q.1, rfl⟩, k _ _ q.2 _ H F He wd .refl (.int _)⟩
  · obtain ⟨a, vs, rfl, ha, ra⟩ := dx.dK wd.sf
    exact .inr ⟨a, vs, rfl, ha, by rw [ra.length]; exact res_at wd (.int _) q k⟩
  · exact q.elim
def sAbs (d : D) (P : Bool → D → Prop) : Prop := match d with
  | .int i => P false (.int (if i < 0 then -i else i))
  | _ => False
theorem sem_abs : Sem1 z (fun x H Q => ∃ i, [x] = [V.int i] ∧ Q (.int (if i < 0 then -i else i)) H) sAbs := fun w F He H x d P Q wd dx q k => by
  unfold sAbs at q
  split at q
  · have := dx.int
    subst x
    exact ⟨_, rfl, k _ _ q _ H F He wd .refl (.int _)⟩
  · exact q.elim
abbrev sMax := sJ2 fun i j => .int (if j > i then j else i)
abbrev sMin := sJ2 fun i j => .int (if j < i then j else i)
theorem sem_max : Sem2 z (fun x y H Q => ∃ i j, [x, y] = [V.int i, V.int j] ∧ Q (.int (if j > i then j else i)) H) sMax := fun w F He H x y d e P Q wd dx dy q k => by
  unfold sMax sJ2 at q
  split at q
  · have := dx.int
    have := dy.int
    subst x y
    exact ⟨_, _, rfl, k _ _ q _ H F He wd .refl (.int _)⟩
  · exact q.elim
theorem sem_min : Sem2 z (fun x y H Q => ∃ i j, [x, y] = [V.int i, V.int j] ∧ Q (.int (if j < i then j else i)) H) sMin := fun w F He H x y d e P Q wd dx dy q k => by
  unfold sMin sJ2 at q
  split at q
  · have := dx.int
    have := dy.int
    subst x y
    exact ⟨_, _, rfl, k _ _ q _ H F He wd .refl (.int _)⟩
  · exact q.elim
/-- int(n), int(flag) -/
def sInt (d : D) (P : Bool → D → Prop) : Prop := match d with
  | .int i => P false (.int i)
  | .bl k => P false (.int (if k then 1 else 0))
  | .str x => ∃ n, PySem.intText? x = some n ∧ x.length ≤ 640 ∧ P false (.int n)
  | _ => False
def rIntD : List V → Hp → VK → Prop := fun xs H Q => ((∃ i, xs = [.int i] ∧ Q (.int i) H) ∨ ∃ k, xs = [.bl k] ∧ Q (.int (if k then 1 else 0)) H) ∨ ∃ a n, xs = [.str a] ∧ PySem.intText? a = some n ∧ a.length ≤ 640 ∧ Q (.int n) H
theorem call_intD : CallR X (.type "int") rIntD := call_int1.or call_int_str
theorem sem_int : Sem1 z (fun x H Q => rIntD [x] H Q) sInt := fun w F He H x d P Q wd dx q k => by
  unfold sInt at q
  split at q
  · have := dx.int; subst x
    exact .inl (.inl ⟨_, rfl, k _ _ q _ H F He wd .refl (.int _)⟩)
  · have := dx.bl; subst x
    exact .inl (.inr ⟨_, rfl, k _ _ q _ H F He wd .refl (.int _)⟩)
  · have := dx.str; subst x
    obtain ⟨n, h1, h2, q⟩ := q
    exact .inr ⟨_, n, rfl, h1, h2, k _ _ q _ H F He wd .refl (.int _)⟩
  · exact q.elim
/-- str(n) -/
def sStr (d : D) (P : Bool → D → Prop) : Prop := match d with
  | .int i => i.natAbs.log2 < 1920 ∧ P false (.str (toString i))
  | _ => False
theorem sem_str : Sem1 z (fun x H Q => ∃ i, [x] = [V.int i] ∧ i.natAbs.log2 < 1920 ∧ Q (.str (toString i)) H) sStr := fun w F He H x d P Q wd dx q k => by
  unfold sStr at q
  split at q
  · have := dx.int; subst x
    exact ⟨_, rfl, q.1, k _ _ q.2 _ H F He wd .refl (.str _)⟩
  · exact q.elim
/-- list(x), tuple(x) -/
def sList (d : D) (P : Bool → D → Prop) : Prop := match d with
  | .lst ds => P true (.lst ds)
  | .tup ds => P true (.lst ds)
  | .scr ns => P true (.lst (ns.map .int))
  | _ => False
theorem sem_list : Sem1 z (fun x H Q => ∃ p ys, [x] = [V.ref p] ∧ (SqL z.K H p ys ∨ SqT z.K H p ys) ∧ ∀ l, H l = none → Q (.ref l) (upd H l (.lst ys))) sList := fun w F He H x d P Q wd dx q k => by
  unfold sList at q
  split at q
  · obtain ⟨a, vs, rfl, ha, ra⟩ := dx.lst wd.sf
    exact ⟨a, vs, rfl, .inl (.of ha), fun p hp => res_new wd hp (.lst ra) q k⟩
  · obtain ⟨a, vs, rfl, ha, ra⟩ := dx.tup wd.sf
    exact ⟨a, vs, rfl, .inr (.of ha), fun p hp => res_new wd hp (.lst ra) q k⟩
  · obtain ⟨a, rfl, ha⟩ := dx.scr wd.sf
    exact ⟨a, _, rfl, .inl ha, fun p hp => res_new wd hp (.lst (DRs.ofInts _)) q k⟩
  · exact q.elim
def sTuple (d : D) (P : Bool → D → Prop) : Prop := match d with
  | .lst ds => P false (.tup ds)
  | .tup ds => P false (.tup ds)
  | .scr ns => P false (.tup (ns.map .int))
  | _ => False
theorem sem_tuple : Sem1 z (fun x H Q => ∃ p ys, [x] = [V.ref p] ∧ ((SqL z.K H p ys ∧ ∀ l, H l = none → Q (.ref l) (upd H l (.tup ys))) ∨ (SqT z.K H p ys ∧ Q (.ref p) H))) sTuple := fun w F He H x d P Q wd dx q k => by
  unfold sTuple at q
  split at q
  · obtain ⟨a, vs, rfl, ha, ra⟩ := dx.lst wd.sf
    exact ⟨a, vs, rfl, .inl ⟨.of ha, fun p hp => res_tup wd hp ra q k⟩⟩
  · obtain ⟨a, vs, e, ha, ra⟩ := dx.tup wd.sf
    refine ⟨a, vs, by rw [e], .inr ⟨.of ha, ?_⟩⟩
    rw [← e]; exact res_at wd dx.dr_tup q k
  · obtain ⟨a, rfl, ha⟩ := dx.scr wd.sf
    exact ⟨a, _, rfl, .inl ⟨ha, fun p hp => res_tup wd hp (DRs.ofInts _) q k⟩⟩
  · exact q.elim
/-- isinstance(x, T) for a built-in T -/
def tyD : D → Option String
  | .non => some "NoneType" | .bl _ => some "bool" | .int _ => some "int" | .str _ => some "str" | .lst _ => some "list" | .tup _ => some "tuple" | .dK _ => some "dict" | .dT _ => some "dict"
  | _ => none
def sIsi (d e : D) (P : Bool → D → Prop) : Prop := match e with
  | .ty n => ∃ t b, tyD d = some t ∧ kitB t n = some b ∧ P false (.bl b)
  | _ => False
theorem DT.ty {K : PySem.W.Frag} {F He H : Hp} {v : V} {n : String} (r : DT K F He H v (.ty n)) : v = .ty n := by
  cases r.plain fun o q => by cases q with | own q => cases q
  rfl
theorem tyx_of {K : PySem.W.Frag} {F He H : Hp} {v : V} {d : D} {t : String} (r : DT K F He H v d) (s : Same F H) (e : tyD d = some t) : TyX K H v (.type t) := by
  cases d with
  | non => cases r.non; cases e; exact .base .non
  | bl b => cases r.bl; cases e; exact .base (.bl b)
  | int i => cases r.int; cases e; exact .base (.int i)
  | str x => cases r.str; cases e; exact .base (.str x)
  | lst ds => obtain ⟨a, vs, rfl, ha, _⟩ := r.lst s; cases e; exact .base (.lst ha)
  | tup ds => obtain ⟨a, vs, rfl, ha, _⟩ := r.tup s; cases e; exact .base (.tup ha)
  | dK ds => obtain ⟨a, vs, rfl, ha, _⟩ := r.dK s; cases e; exact .base (.dK ha)
  | dT ds => obtain ⟨a, vs, rfl, ha, _⟩ := r.dT s; cases e; exact .base (.dT ha)
  | ref a => cases e
  | ty n => cases e
  | scr ns => cases e
  | fK ds => cases e
  | fT ds => cases e
  | exc cn fs => cases e
  | cls cn => cases e
theorem sem_isi : Sem2 z (fun x y H Q => rIsi z.K [x, y] H Q) sIsi := fun w F He H x y d e P Q wd dx dy q k => by
  unfold sIsi at q
  split at q
  · obtain ⟨t, b, h1, h2, q⟩ := q
    have := dy.ty; subst y
    exact ⟨x, _, _, _, b, rfl, .ty _, tyx_of dx wd.sf h1, kit_ty h2, k _ _ q _ H F He wd .refl (.bl _)⟩
  · exact q.elim
theorem jx_ty {x : Str} {n : String} (hg : Gl X x) (hm : X.mg x = none) (hv : bootBuiltins x = some (.type n)) (hn : x ≠ "__name__" := by decide) (hd : (x == ("__debug__" : Str)) = false := by decide) : JX X z (.Name x pos) (dC (.ty n)) :=
  jx_c (pe_bltn hg hm hv (show RelV (.ty n) (.type n) from rfl) hn hd) fun _ => .ty n
/-- a constant of the module -/
theorem jx_glob {x : Str} {v : V} {d : D} {u : Value} (hg : Gl X x) (hm : X.mg x = some u) (r : RelV v u) (rd : ∀ F, DR z.K F v d) (hd : (x == ("__debug__" : Str)) = false := by decide) : JX X z (.Name x pos) (dC d) := jx_c (pe_glob hg hm r hd) rd

/-! ### is None -/
def D.isNon : D → Bool
  | .non => true
  | _ => false
theorem isNon_of {K : PySem.W.Frag} {F He H : Hp} {v : V} {d : D} (r : DT K F He H v d) : decide (v = .non) = d.isNon := by
  cases d with
  | non => cases r.non; rfl
  | _ => rcases r with r | ⟨a, o, rfl, ho, q⟩ <;> (first | (cases r; done) | (cases r <;> rfl) | rfl)
def sIsN (d e : D) (P : Bool → D → Prop) : Prop := match e with
  | .non => P false (.bl d.isNon)
  | _ => False
def sNotN (d e : D) (P : Bool → D → Prop) : Prop := match e with
  | .non => P false (.bl (!d.isNon))
  | _ => False
theorem sem_isN : Sem2 z (fun x y H Q => y = .non ∧ Q (.bl (decide (x = .non))) H) sIsN := fun w F He H x y d e P Q wd dx dy q k => by
  unfold sIsN at q
  split at q
  · exact ⟨dy.non, by rw [isNon_of dx]; exact k _ _ q _ H F He wd .refl (.bl _)⟩
  · exact q.elim
theorem sem_notN : Sem2 z (fun x y H Q => y = .non ∧ Q (.bl (!decide (x = .non))) H) sNotN := fun w F He H x y d e P Q wd dx dy q k => by
  unfold sNotN at q
  split at q
  · exact ⟨dy.non, by rw [isNon_of dx]; exact k _ _ q _ H F He wd .refl (.bl _)⟩
  · exact q.elim

/-! ### subscripts -/
theorem ix_dct (hu : X.A.units + 1 < cLine) : IxR X (fun x y H Q => ∃ a v, x = .ref a ∧ DGet H a y (some v) ∧ Q v H) := by
  intro value slice pins s σ H x y v u Q I rx ry h hs
  obtain ⟨a, z, rfl, g, q⟩ := h
  cases rx
  exact PyProof.Rows.tail_any (dict_typeIs I g) PySem.F.slot_dict_getitem.lookup (d_getItem hu I g ry fun w' s3 I3 rw' => ⟨z, H, I3, rw', q⟩) hs
def rIxA (K : PySem.W.Frag) : R2 := fun x y H Q => rIx K x y H Q ∨ ∃ a v, x = .ref a ∧ DGet H a y (some v) ∧ Q v H
theorem ix_all (hu : X.A.units + 1 < cLine) : IxR X (rIxA X.K) := ix_seq.or (ix_dct hu)
def sIx (d e : D) (P : Bool → D → Prop) : Prop := match d, e with
  | .lst ds, .int i => ∃ x, atI ds i = some x ∧ P false x
  | .tup ds, .int i => ∃ x, atI ds i = some x ∧ P false x
  | .scr ns, .int i => ∃ x, atI ns i = some x ∧ P false (.int x)
  | .str x, .int i => x.length ≤ sizeLine ∧ ∃ c, atI x.cps.toList i = some c ∧ P false (.str ⟨#[c]⟩)
  | .dK kvs, .int i => ∃ x, valD kvs (.inl i) = some x ∧ P false x
  | .dK kvs, .str i => ∃ x, valD kvs (.inr i) = some x ∧ P false x
  | .dT kvs, .tup ds => ∃ ks x, ds = ks.map kD ∧ valD kvs ks = some x ∧ P false x
  | .fK kvs, .int i => ∃ x, valD kvs (.inl i) = some x ∧ P false x
  | .fT kvs, .tup ds => ∃ ks x, ds = ks.map kD ∧ valD kvs ks = some x ∧ P false x
  | _, _ => False
theorem atI_rel {K : PySem.W.Frag} {F : Hp} {vs : List V} {ds : List D} {i : Int} {x : D} (r : DRs K F vs ds) (e : atI ds i = some x) : ∃ v, atI vs i = some v ∧ DR K F v x := by
  unfold atI at e ⊢
  rw [r.length]
  cases h : ixN ds.length i with
  | none => rw [h] at e; cases e
  | some j =>
    rw [h] at e
    exact r.get e
theorem atI_map {α β : Type} (f : α → β) (xs : List α) (i : Int) : atI (xs.map f) i = (atI xs i).map f := by
  unfold atI
  rw [List.length_map]
  cases ixN xs.length i with
  | none => rfl
  | some j => simp
theorem sem_ix : Sem2 z (rIxA z.K) sIx := fun w F He H x y d e P Q wd dx dy q k => by
  unfold sIx at q
  split at q
  · obtain ⟨c, h, q⟩ := q
    obtain ⟨a, vs, rfl, ha, ra⟩ := dx.lst wd.sf
    obtain ⟨v, hv, rv⟩ := atI_rel ra h
    exact .inl (.inl ⟨a, vs, _, v, rfl, dy.int, .of ha, hv, res_at wd rv q k⟩)
  · obtain ⟨c, h, q⟩ := q
    obtain ⟨a, vs, rfl, ha, ra⟩ := dx.tup wd.sf
    obtain ⟨v, hv, rv⟩ := atI_rel ra h
    exact .inl (.inr (.inl ⟨a, vs, _, v, rfl, dy.int, .of ha, hv, res_at wd rv q k⟩))
  · obtain ⟨c, h, q⟩ := q
    obtain ⟨a, rfl, ha⟩ := dx.scr wd.sf
    exact .inl (.inl ⟨a, _, _, .int c, rfl, dy.int, ha, by rw [atI_map, h]; rfl, res_at wd (.int c) q k⟩)
  · obtain ⟨h1, c, h, q⟩ := q
    exact .inl (.inr (.inr ⟨_, _, c, dx.str, dy.int, h1, h, res_at wd (.str _) q k⟩))
  · obtain ⟨c, h, q⟩ := q
    obtain ⟨a, vs, rfl, ha, ra⟩ := dx.dK wd.sf
    have := dy.int; subst y
    rcases ra.val (k := .inl _) with ⟨_, h2⟩ | ⟨v, c', h1, h2, rv⟩
    · rw [h] at h2; cases h2
    · rw [h] at h2; cases h2
      exact .inr ⟨a, v, rfl, by rw [← h1]; exact DGet.k (k := .inl _) ha, res_at wd rv q k⟩
  · obtain ⟨c, h, q⟩ := q
    obtain ⟨a, vs, rfl, ha, ra⟩ := dx.dK wd.sf
    have := dy.str; subst y
    rcases ra.val (k := .inr _) with ⟨_, h2⟩ | ⟨v, c', h1, h2, rv⟩
    · rw [h] at h2; cases h2
    · rw [h] at h2; cases h2
      exact .inr ⟨a, v, rfl, by rw [← h1]; exact DGet.k (k := .inr _) ha, res_at wd rv q k⟩
  · obtain ⟨ks, c, rfl, h, q⟩ := q
    obtain ⟨a, vs, rfl, ha, ra⟩ := dx.dT wd.sf
    obtain ⟨b, us, rfl, hb, rb⟩ := dy.tup wd.sf
    have := rb.keys; subst us
    rcases ra.val (k := ks) with ⟨_, h2⟩ | ⟨v, c', h1, h2, rv⟩
    · rw [h] at h2; cases h2
    · rw [h] at h2; cases h2
      exact .inr ⟨a, v, rfl, by rw [← h1]; exact DGet.t ha hb, res_at wd rv q k⟩
  · obtain ⟨c, h, q⟩ := q
    obtain ⟨a, ob, vs, rfl, ha, ra⟩ := dx.fK
    have := dy.int; subst y
    rcases ra.val (k := .inl _) with ⟨_, h2⟩ | ⟨v, c', h1, h2, rv⟩
    · rw [h] at h2; cases h2
    · rw [h] at h2; cases h2
      exact .inr ⟨a, v, rfl, by rw [← h1]; exact .inl ⟨_, .inl _, .inr ⟨_, ha⟩, rfl, rfl⟩, res_at wd rv q k⟩
  · obtain ⟨ks, c, rfl, h, q⟩ := q
    obtain ⟨a, ob, vs, rfl, ha, ra⟩ := dx.fT
    obtain ⟨b, us, rfl, hb, rb⟩ := dy.tup wd.sf
    have := rb.keys; subst us
    rcases ra.val (k := ks) with ⟨_, h2⟩ | ⟨v, c', h1, h2, rv⟩
    · rw [h] at h2; cases h2
    · rw [h] at h2; cases h2
      exact .inr ⟨a, v, rfl, by rw [← h1]; exact .inr ⟨_, ks, b, .inr ⟨_, ha⟩, rfl, hb, rfl⟩, res_at wd rv q k⟩
  · exact q.elim
theorem jx_ix {a b : Expr} {ta tb : DO} (hK : z.K = X.K) (hu : X.A.units + 1 < cLine) (ha : JO X z a ta) (hb : JO X z b tb) (hs : PlainIx b := by exact fun _ _ => rfl) : JX X z (.Subscript a b pos) (dBin sIx ta tb) :=
  PE.imp (pe_ix (ix_all hu) ha hb hs) fun _ _ _ h => bin2 (by rw [← hK]; exact sem_ix) h
end
end Lv

/-! ### t[::-1] of a tuple -/
namespace HT
open PySem PySem.Spec PyProof.Rows PySem.Calls
section
variable {prog : Program} {w : World} {A : Around} {E : Value → Shared → Prop} {s : Shared}
theorem pick_back (xs : Array Value) : ((List.range xs.size).filterMap fun (m : Nat) => xs[(((xs.size : Int) - 1) + (m : Int) * (-1)).toNat]?).toArray = xs.toList.reverse.toArray := by
  have e : (List.range xs.size).filterMap (fun (m : Nat) => xs[(((xs.size : Int) - 1) + (m : Int) * (-1)).toNat]?) = ((List.range xs.size).map fun k => xs.size - 1 - k).filterMap (xs[·]?) := by
    rw [List.filterMap_map]
    have e : ∀ m : Nat, (((xs.size : Int) - 1) + (m : Int) * (-1)).toNat = xs.size - 1 - m := fun m => by omega
    have e2 : (fun (m : Nat) => xs[(((xs.size : Int) - 1) + (m : Int) * (-1)).toNat]?) = ((xs[·]?) ∘ fun k => xs.size - 1 - k) := by
      funext m
      rw [e m]
      rfl
    rw [e2]
  rw [e, PySem.W.krv_range, List.filterMap_reverse, PySem.W.krv_all]
theorem places_back (n : Nat) : Builtin.Slice.slicePlaces ((n : Int) - 1) (-1) (-1) = n := by
  unfold Builtin.Slice.slicePlaces
  have h1 : ¬ ((-1 : Int) > 0) := by omega
  simp only [h1, if_false, show (- -1 : Int) = 1 by decide, Int.ediv_one]
  split <;> omega
theorem sliceApplied_back {sl : Addr} {vl vu vs : Value} {n : Nat} {Q : Int × Int × Nat → Shared → Prop} (hs : s.heap.IsSliceOf sl vl vu vs) (pl : IsPart vl none) (pu : IsPart vu none) (ps : IsPart vs (some (-1)))
    (h : Q ((n : Int) - 1, -1, n) s) : wpAny (model prog w) A (Builtin.Slice.sliceApplied (.ref sl) (pure (n : Int))) Q E s := by
  obtain ⟨os, hos, hcs, hds⟩ := id hs
  unfold Builtin.Slice.sliceApplied Builtin.Slice.sliceFields
  refine wpAny_bind (wpAny_bind (wpAny_field hos hds (x := vl) rfl (wpAny_bind (wpAny_field hos hds (x := vu) rfl (wpAny_bind (wpAny_field hos hds (x := vs) rfl (wpAny_pure ?_)))))))
  refine wpAny_bind (slicePart_ ps ?_)
  show wpAny _ _ (if ((-1 : Int) == 0) = true then _ else _) _ _ s
  rw [if_neg (by decide)]
  refine wpAny_bind (slicePart_ pl (wpAny_bind (slicePart_ pu (wpAny_bind (wpAny_pure ?_)))))
  show wpAny _ _ (pure ((n : Int) - 1, (-1 : Int), Builtin.Slice.slicePlaces ((n : Int) - 1) (-1) (-1))) _ _ s
  rw [places_back]
  exact wpAny_pure h
theorem getItem_tuple_back {t sl : Addr} {items : Array Value} {vl vu vs : Value} {Q : Value → Shared → Prop} (ht : IsTup s.heap t items) (hs : s.heap.IsSliceOf sl vl vu vs) (pl : IsPart vl none) (pu : IsPart vu none) (ps : IsPart vs (some (-1)))
    (h : Q (.ref s.heap.objs.size) { s with heap := s.heap.push { cls := .type "tuple", data := .seq items.toList.reverse.toArray } })
    (hsz : items.size ≤ sizeLine) : wpAny (model prog w) A (getItem (.ref t) (.ref sl)) Q E s := by
  have htake : sizeOk (.seq items.toList.reverse.toArray) := by
    show items.toList.reverse.toArray.size ≤ sizeLine
    rw [List.size_toArray, List.length_reverse, Array.length_toList]
    exact hsz
  obtain ⟨os, hos, hcs, hds⟩ := id hs
  have hTs : s.TypeIs (.ref sl) "slice" := ⟨os, hos, hcs⟩
  unfold getItem
  try with_reducible refine wpAny_holding ?_
  first | refine wpAny_bind (wpAny_pure ?_) | skip
  refine wpAny_bind (wpAny_sequenceKey ht.typeIs (by decide) ?_)
  refine wpAny_bind (wpAny_callSpecial?_slot (name := Str.ofString "__getitem__") ht.typeIs PyProof.Rows.slot_tuple_getitem
    (wpAny_call_entry PyProof.Rows.slot_tuple_getitem ht.typeIs entry_tuple_getitem ?_ (args_tuple_getitem _ _)))
  show wpAny _ _ (Builtin.Tuple.tupleItemsOf (.ref t) >>= _) _ _ s
  refine wpAny_bind (tupleItemsOf_ ht ?_)
  refine wpAny_bind (wpAny_typeOf hTs ?_)
  rw [if_pos (by decide)]
  refine wpAny_bind (sliceApplied_back hs pl pu ps ?_)
  have hno : ¬ ((((items.size : Int) - 1) == 0 && (-1 : Int) == 1 && items.size == items.size) = true) := by
    intro q
    rw [Bool.and_eq_true, Bool.and_eq_true] at q
    exact absurd q.1.2 (by decide)
  show wpAny _ _ (if (((items.size : Int) - 1) == 0 && (-1 : Int) == 1 && items.size == items.size) = true then _ else _) _ _ s
  rw [if_neg hno, pick_back]
  first
    | exact wpAny_bind (m := Builtin.Tuple.tupleExact _) (wpAny_newObj_type (wpAny_pure ⟨_, rfl, wpAny_pure h⟩) htake)
    | exact wpAny_bind (m := Builtin.Tuple.tupleExact _) (wpAny_newObj_type (wpAny_bind (wpAny_pure (wpAny_pure ⟨_, rfl, wpAny_pure h⟩))) htake)
    | exact wpAny_bind (wpAny_bind (m := Builtin.Tuple.tupleExact _) (wpAny_newObj_type (wpAny_pure (wpAny_pure ⟨_, rfl, wpAny_pure h⟩)) htake))
    | exact wpAny_bind (wpAny_bind (m := Builtin.Tuple.tupleExact _) (wpAny_newObj_type (wpAny_pure ⟨_, rfl, wpAny_pure h⟩) htake))
end
end HT
namespace Lv
open PySem PySem.Spec L2
section
variable {X : Cx} {z : Ent} {pos : Pos}
open PyProof.Rows in
/-- x[::-1] of a list or a tuple -/
def tRev (K : PySem.W.Frag) (te : TE) : TE := fun σ H Q => te σ H fun x H1 => ∃ a xs, x = .ref a ∧ ((SqL K H1 a xs ∧ ∀ p, H1 p = none → Q (.ref p) (upd H1 p (.lst xs.reverse))) ∨ (SqT K H1 a xs ∧ ∀ p, H1 p = none → Q (.ref p) (upd H1 p (.tup xs.reverse))))
open PyProof.Rows in
theorem pe_rev {e : Expr} {te : TE} {k : Nat} {p1 p2 p3 pos : Pos} (he : PE X e te) : PE X (.Subscript e (.Slice none none (some (.UnaryOp .USub (.Constant (.int 1) k p1) p2)) p3) pos) (tRev X.K te) := by
  refine ⟨fun pins s σ H Q I h => ?_⟩
  refine PyProof.Rows.Subscript_ (thn (he.run pins s σ H _ I h) fun v s1 ⟨x, H1, I1, r1, q1⟩ => ?_)
  obtain ⟨a, xs, ex, hx⟩ := q1
  subst ex
  cases r1
  have hst : PO X (some (.UnaryOp .USub (.Constant (.int 1) k p1) p2)) (tPart (tUn (rU fun i => .int (-i)) (tC (.int 1)))) := po_some (pe_un un_neg pe_int)
  refine wpAny_Slice (thn (po_none.run pins s1 σ H1 (fun o H2 => o = none ∧ H2 = H1) I1 ⟨rfl, rfl⟩) fun vl s2 ⟨l, H2, I2, pl, el, e2⟩ => ?_)
  subst el e2
  refine thn (po_none.run pins s2 σ H2 (fun o H3 => o = none ∧ H3 = H2) I2 ⟨rfl, rfl⟩) fun vu s3 ⟨u, H3, I3, pu, eu, e3⟩ => ?_
  subst eu e3
  refine thn (hst.run pins s3 σ H3 (fun o H4 => o = some (-1) ∧ H4 = H3) I3 ⟨1, rfl, -1, rfl, rfl, rfl⟩) fun vs s4 ⟨o, H4, I4, ps, eo, e4⟩ => ?_
  subst eo e4
  have I5 : Inv X pins σ H4 { s4 with heap := s4.heap.push { cls := .type "slice", data := .fields #[vl, vu, vs] } } := I4.kept (t' := s4.toks) fun b ob q => Heap.get?_push_of_some _ q
  show wpAny (model X.prog X.w) X.A (subscriptTail e (.Slice none none (some (.UnaryOp .USub (.Constant (.int 1) k p1) p2)) p3) (.ref a) (.ref s4.heap.objs.size)) (EP X pins σ Q) X.xe { s4 with heap := s4.heap.push { cls := .type "slice", data := .fields #[vl, vu, vs] } }
  rcases hx with ⟨hx, q⟩ | ⟨hx, q⟩
  · obtain ⟨its, r, ht, hz⟩ := I5.list hx
    have hlen := r.length
    refine tail_any (ops := [.ref a, .ref s4.heap.objs.size]) ht.isList.typeIs (PySem.slot_list_getitem.lookup) ?_ (by with_unfolding_all rfl)
    refine wpAny_getItem_list_slice ht.isList (Heap.IsSliceOf.new _ vl vu vs) pl pu ps (by decide) ?_ (by rw [List.size_toArray]; omega)
    rw [PySem.W.krv_pick]
    refine ⟨.ref _, _, I5.laid (t' := s4.toks) (o := .lst xs.reverse) (fun b ob q => Heap.get?_push_of_some _ q) (Nat.le_refl _) ?_, rfl, q _ (I5.hok.fresh (Nat.le_refl _))⟩
    exact ⟨by rw [List.length_reverse]; exact hz, _, 0, r.reverse, Heap.get?_push_size _ rfl⟩
  · obtain ⟨its, r, ht, hz⟩ := I5.tuple hx
    have hlen := r.length
    refine tail_any (ops := [.ref a, .ref s4.heap.objs.size]) ht.typeIs (PyProof.Rows.slot_tuple_getitem.lookup) ?_ (by with_unfolding_all rfl)
    refine HT.getItem_tuple_back ht (Heap.IsSliceOf.new _ vl vu vs) pl pu ps ?_ (by rw [List.size_toArray]; omega)
    refine ⟨.ref _, _, I5.laid (t' := s4.toks) (o := .tup xs.reverse) (fun b ob q => Heap.get?_push_of_some _ q) (Nat.le_refl _) ?_, rfl, q _ (I5.hok.fresh (Nat.le_refl _))⟩
    exact ⟨by rw [List.length_reverse]; exact hz, _, r.reverse, ⟨_, Heap.get?_push_size _ rfl, rfl, _, rfl⟩⟩
def sRev (d : D) (P : Bool → D → Prop) : Prop := match d with
  | .lst ds => P true (.lst ds.reverse)
  | .tup ds => P false (.tup ds.reverse)
  | .scr ns => P true (.lst (ns.map .int).reverse)
  | _ => False
theorem sem_rev : Sem1 z (fun x H Q => ∃ a xs, x = .ref a ∧ ((SqL z.K H a xs ∧ ∀ p, H p = none → Q (.ref p) (upd H p (.lst xs.reverse))) ∨ (SqT z.K H a xs ∧ ∀ p, H p = none → Q (.ref p) (upd H p (.tup xs.reverse))))) sRev := fun w F He H x d P Q wd dx q k => by
  unfold sRev at q
  split at q
  · obtain ⟨a, vs, rfl, ha, ra⟩ := dx.lst wd.sf
    exact ⟨a, vs, rfl, .inl ⟨.of ha, fun p hp => res_new wd hp (.lst ra.reverse) q k⟩⟩
  · obtain ⟨a, vs, rfl, ha, ra⟩ := dx.tup wd.sf
    exact ⟨a, vs, rfl, .inr ⟨.of ha, fun p hp => res_tup wd hp ra.reverse q k⟩⟩
  · obtain ⟨a, rfl, ha⟩ := dx.scr wd.sf
    exact ⟨a, _, rfl, .inl ⟨ha, fun p hp => res_new wd hp (.lst (DRs.ofInts _).reverse) q k⟩⟩
  · exact q.elim
theorem jx_rev {e : Expr} {te : DO} {k : Nat} {p1 p2 p3 : Pos} (hK : z.K = X.K) (he : JO X z e te) : JX X z (.Subscript e (.Slice none none (some (.UnaryOp .USub (.Constant (.int 1) k p1) p2)) p3) pos) (dUn sRev te) :=
  PE.imp (pe_rev he) fun _ _ _ h => by rw [← hK]; exact un1 sem_rev h
end
end Lv

namespace Lv
open PySem PySem.Spec L2
section
variable {X : Cx} {z : Ent} {pos : Pos}

/-! ### in, not in -/
def inD (d : D) (ds : List D) : Bool := ds.any fun y => y.eqv d
def sIn (neg : Bool) (d e : D) (P : Bool → D → Prop) : Prop := match e, d with
  | .lst ds, d => d.pl = true ∧ plAll ds = true ∧ d.py.depth ≤ 64 ∧ P false (.bl (if neg then !inD d ds else inD d ds))
  | .tup ds, d => d.pl = true ∧ plAll ds = true ∧ d.py.depth ≤ 64 ∧ P false (.bl (if neg then !inD d ds else inD d ds))
  | .str y, .str x => P false (.bl (if neg then !(!(Builtin.Str.occurrences y x 0 y.length 1).isEmpty) else !(Builtin.Str.occurrences y x 0 y.length 1).isEmpty))
  | .dK kvs, .int i => P false (.bl (if neg then !(valD kvs (.inl i)).isSome else (valD kvs (.inl i)).isSome))
  | .dK kvs, .str i => P false (.bl (if neg then !(valD kvs (.inr i)).isSome else (valD kvs (.inr i)).isSome))
  | .dT kvs, .tup ds => ∃ ks, ds = ks.map kD ∧ P false (.bl (if neg then !(valD kvs ks).isSome else (valD kvs ks).isSome))
  | .fK kvs, .int i => P false (.bl (if neg then !(valD kvs (.inl i)).isSome else (valD kvs (.inl i)).isSome))
  | .fT kvs, .tup ds => ∃ ks, ds = ks.map kD ∧ P false (.bl (if neg then !(valD kvs ks).isSome else (valD kvs ks).isSome))
  | _, _ => False
def rInA (K : PySem.W.Frag) (neg : Bool) : R2 := fun x y H Q =>
  (∃ d ds, Dp K H x d ∧ (Dp K H y (.list ds) ∨ Dp K H y (.tuple ds)) ∧ d.plain = true ∧ PyData.plainAll ds = true ∧ d.depth ≤ 64 ∧ Q (.bl (if neg then !(ds.any fun w => PyData.eqv w d) else ds.any fun w => PyData.eqv w d)) H) ∨
  (∃ i j, x = .str i ∧ y = .str j ∧ Q (.bl (if neg then !(!(Builtin.Str.occurrences j i 0 j.length 1).isEmpty) else !(Builtin.Str.occurrences j i 0 j.length 1).isEmpty)) H) ∨
  ∃ a o, y = .ref a ∧ DGet H a x o ∧ Q (.bl (if neg then !o.isSome else o.isSome)) H
theorem op_inA (hu : X.A.units + 65 < cLine) : OpR X (compareOp .In) (rInA X.K false) := by
  intro pins s σ H x y v u Q I rx ry h
  rcases h with ⟨d, ds, hd, hl, pd, pl, dd, q⟩ | ⟨i, j, rfl, rfl, q⟩ | ⟨a, o, rfl, g, q⟩
  · obtain ⟨as, r1⟩ := Dp.reads I d x v hd rx
    have hm : X.A.units + 1 + min (PyData.depthAll ds) d.depth < cLine := by
      have := Nat.min_le_right (PyData.depthAll ds) d.depth
      omega
    rcases hl with hl | hl
    · obtain ⟨bs, r2⟩ := Dp.reads I (.list ds) y u hl ry
      exact SeqAt.in_list_data r2 r1 pl pd hm ⟨.bl _, H, I, rfl, q⟩
    · obtain ⟨bs, r2⟩ := Dp.reads I (.tuple ds) y u hl ry
      exact SeqAt.in_tuple_data r2 r1 pl pd hm ⟨.bl _, H, I, rfl, q⟩
  · exact op_in_str pins s σ H _ _ v u Q I rx ry ⟨i, j, rfl, rfl, q⟩
  · cases ry
    exact d_in (by omega) I g rx fun s' I' => ⟨.bl _, H, I', rfl, q⟩
theorem op_notInA (hu : X.A.units + 65 < cLine) : OpR X (compareOp .NotIn) (rInA X.K true) := by
  intro pins s σ H x y v u Q I rx ry h
  rcases h with ⟨d, ds, hd, hl, pd, pl, dd, q⟩ | ⟨i, j, rfl, rfl, q⟩ | ⟨a, o, rfl, g, q⟩
  · obtain ⟨as, r1⟩ := Dp.reads I d x v hd rx
    have hm : X.A.units + 1 + min (PyData.depthAll ds) d.depth < cLine := by
      have := Nat.min_le_right (PyData.depthAll ds) d.depth
      omega
    rcases hl with hl | hl
    · obtain ⟨bs, r2⟩ := Dp.reads I (.list ds) y u hl ry
      exact SeqAt.notIn_list_data r2 r1 pl pd hm ⟨.bl _, H, I, rfl, q⟩
    · obtain ⟨bs, r2⟩ := Dp.reads I (.tuple ds) y u hl ry
      exact SeqAt.notIn_tuple_data r2 r1 pl pd hm ⟨.bl _, H, I, rfl, q⟩
  · exact op_notin_str pins s σ H _ _ v u Q I rx ry ⟨i, j, rfl, rfl, q⟩
  · cases ry
    exact d_notIn (by omega) I g rx fun s' I' => ⟨.bl _, H, I', rfl, q⟩
theorem any_py (d : D) : ∀ ds : List D, ((pyAll ds).any fun w => PyData.eqv w d.py) = inD d ds
  | [] => rfl
  | e :: ds => by
    have := any_py d ds
    simp only [pyAll, List.any_cons, inD] at this ⊢
    rw [this]
    rfl
theorem sem_in (neg : Bool) : Sem2 z (rInA z.K neg) (sIn neg) := fun w F He H x y d e P Q wd dx dy q k => by
  unfold sIn at q
  split at q
  · next ds =>
    obtain ⟨p1, p2, p3, q⟩ := q
    have hl := dy.dp wd.sf (by simpa [D.pl] using p2)
    rw [D.py] at hl
    exact .inl ⟨d.py, pyAll ds, dx.dp wd.sf p1, .inl hl, plain_py d, plain_pyAll ds, p3, by rw [any_py]; exact res_at wd (.bl _) q k⟩
  · next ds =>
    obtain ⟨p1, p2, p3, q⟩ := q
    have hl := dy.dp wd.sf (by simpa [D.pl] using p2)
    rw [D.py] at hl
    exact .inl ⟨d.py, pyAll ds, dx.dp wd.sf p1, .inr hl, plain_py d, plain_pyAll ds, p3, by rw [any_py]; exact res_at wd (.bl _) q k⟩
  · exact .inr (.inl ⟨_, _, dx.str, dy.str, res_at wd (.bl _) q k⟩)
  · obtain ⟨a, vs, rfl, ha, ra⟩ := dy.dK wd.sf
    have := dx.int; subst x
    refine .inr (.inr ⟨a, _, rfl, DGet.k (k := .inl _) ha, ?_⟩)
    rcases ra.val (k := .inl _) with ⟨h1, h2⟩ | ⟨v, c', h1, h2, rv⟩
    · rw [h1]; rw [h2] at q; exact res_at wd (.bl _) q k
    · rw [h1]; rw [h2] at q; exact res_at wd (.bl _) q k
  · obtain ⟨a, vs, rfl, ha, ra⟩ := dy.dK wd.sf
    have := dx.str; subst x
    refine .inr (.inr ⟨a, _, rfl, DGet.k (k := .inr _) ha, ?_⟩)
    rcases ra.val (k := .inr _) with ⟨h1, h2⟩ | ⟨v, c', h1, h2, rv⟩
    · rw [h1]; rw [h2] at q; exact res_at wd (.bl _) q k
    · rw [h1]; rw [h2] at q; exact res_at wd (.bl _) q k
  · obtain ⟨ks, rfl, q⟩ := q
    obtain ⟨a, vs, rfl, ha, ra⟩ := dy.dT wd.sf
    obtain ⟨b, us, rfl, hb, rb⟩ := dx.tup wd.sf
    have := rb.keys; subst us
    refine .inr (.inr ⟨a, _, rfl, DGet.t ha hb, ?_⟩)
    rcases ra.val (k := ks) with ⟨h1, h2⟩ | ⟨v, c', h1, h2, rv⟩
    · rw [h1]; rw [h2] at q; exact res_at wd (.bl _) q k
    · rw [h1]; rw [h2] at q; exact res_at wd (.bl _) q k
  · obtain ⟨a, ob, vs, rfl, ha, ra⟩ := dy.fK
    have := dx.int; subst x
    refine .inr (.inr ⟨a, _, rfl, .inl ⟨_, .inl _, .inr ⟨_, ha⟩, rfl, rfl⟩, ?_⟩)
    rcases ra.val (k := .inl _) with ⟨h1, h2⟩ | ⟨v, c', h1, h2, rv⟩
    · rw [h1]; rw [h2] at q; exact res_at wd (.bl _) q k
    · rw [h1]; rw [h2] at q; exact res_at wd (.bl _) q k
  · obtain ⟨ks, rfl, q⟩ := q
    obtain ⟨a, ob, vs, rfl, ha, ra⟩ := dy.fT
    obtain ⟨b, us, rfl, hb, rb⟩ := dx.tup wd.sf
    have := rb.keys; subst us
    refine .inr (.inr ⟨a, _, rfl, .inr ⟨_, ks, b, .inr ⟨_, ha⟩, rfl, hb, rfl⟩, ?_⟩)
    rcases ra.val (k := ks) with ⟨h1, h2⟩ | ⟨v, c', h1, h2, rv⟩
    · rw [h1]; rw [h2] at q; exact res_at wd (.bl _) q k
    · rw [h1]; rw [h2] at q; exact res_at wd (.bl _) q k
  · exact q.elim

/-! ### argument lists, displays -/
def dNil  : DA := fun _ w Q => Q [] w
def dCons  (t : DX) (ts : DA) : DA := fun δ w Q => t δ w fun _ d w1 => ts δ w1 fun ds w2 => Q (d :: ds) w2
theorem ja_nil : JA X z [] dNil := PA.imp pa_nil fun σ H Q ⟨δ, w, F, He, P, R, q, k⟩ => k _ _ q [] H F He R.wd .refl .nil
theorem ja_cons {e : Expr} {es : List Expr} {t : DX} {ts : DA} (ha : JX X z e t) (hr : JA X z es ts) (hs : starEach (e :: es) X.env = (false, eval e X.env) :: starEach es X.env := by rfl) : JA X z (e :: es) (dCons t ts) :=
  PA.imp (pa_cons ha hr hs) fun σ H Q ⟨δ, w, F, He, P, R, q, k⟩ => by
    refine ⟨δ, w, F, He, _, R, q, fun b d w1 q1 x H1 F1 He1 wd1 st1 r1 => ?_⟩
    obtain ⟨F2, st2, wd2, r2, s2⟩ := r1.thaw st1 wd1
    refine ⟨δ, w1, F2, He1, _, R.step wd2 st2, q1, fun ds w2 q2 vs H3 F3 He3 wd3 st3 r3 => ?_⟩
    exact k _ _ q2 _ H3 F3 He3 wd3 (st2.trans st3) (.cons (r2.mono st3.fz) r3)
def dTup  (t : DA) : DX := fun δ w Q => t δ w fun ds w1 => ds.length ≤ sizeLine ∧ Q false (.tup ds) w1
def dLst  (t : DA) : DX := fun δ w Q => t δ w fun ds w1 => ds.length ≤ sizeLine ∧ Q true (.lst ds) w1
theorem jx_tup {es : List Expr} {t : DA} {x1 : Nat} (h : JA X z es t) : JX X z (.Tuple es x1 pos) (dTup t) := PE.imp (pe_tup h) fun σ H Q ⟨δ, w, F, He, P, R, q, k⟩ => by
  refine ⟨δ, w, F, He, _, R, q, fun ds w1 q1 vs H1 F1 He1 wd1 st1 r1 => ⟨by rw [r1.length]; exact q1.1, fun p hp => ?_⟩⟩
  exact res_tup (z := z) (P := fun b d => P b d w1) wd1 hp r1 q1.2 fun b d' p v H' F' He' wd st rr => k b d' w1 p v H' F' He' wd (st1.trans st) (rr.base st1)
theorem jx_lst {es : List Expr} {t : DA} (h : JA X z es t) : JX X z (.List es pos) (dLst t) := PE.imp (pe_lst h) fun σ H Q ⟨δ, w, F, He, P, R, q, k⟩ => by
  refine ⟨δ, w, F, He, _, R, q, fun ds w1 q1 vs H1 F1 He1 wd1 st1 r1 => ⟨by rw [r1.length]; exact q1.1, fun p hp => ?_⟩⟩
  exact res_new (z := z) (P := fun b d => P b d w1) wd1 hp (.lst r1) q1.2 fun b d' p v H' F' He' wd st rr => k b d' w1 p v H' F' He' wd (st1.trans st) (rr.base st1)
def dDicK  : DX := fun _ w Q => Q true (.dK []) w
def dDicT  : DX := fun _ w Q => Q true (.dT []) w
theorem jx_dicK : JX X z (.Dict [] [] pos) dDicK := PE.imp pe_dnewK fun σ H Q ⟨δ, w, F, He, P, R, q, k⟩ p hp => res_new (z := z) (P := fun b d => P b d w) R.wd hp (.dK .nil) q fun b d' p => k b d' w p
theorem jx_dicT : JX X z (.Dict [] [] pos) dDicT := PE.imp pe_dnewT fun σ H Q ⟨δ, w, F, He, P, R, q, k⟩ p hp => res_new (z := z) (P := fun b d => P b d w) R.wd hp (.dT .nil) q fun b d' p => k b d' w p

/-! ### slices -/
abbrev DP  := DSt → Om → (Option Int → Om → Prop) → Prop
def liftP (z : Ent) (t : DP) : TO := fun σ H Q => ∃ δ w F He P, Rel z δ w F He σ H ∧ t δ w P ∧ ∀ o w', P o w' → ∀ H' F' He', Wd z.K w' F' He' H' → Step F He H F' He' H' → Q o H'
theorem PO.imp {X : Cx} {e : Option Expr} {t t' : TO} (h : PO X e t) (f : ∀ σ H Q, t' σ H Q → t σ H Q) : PO X e t' := ⟨fun pins s σ H Q I q => h.run pins s σ H Q I (f σ H Q q)⟩
def dNoP  : DP := fun _ w Q => Q none w
def dP  (t : DO) : DP := fun δ w Q => t δ w fun d w1 => match d with
  | .int i => Q (some i) w1
  | _ => False
theorem jp_none : PO X none (liftP z dNoP) := PO.imp po_none fun σ H Q ⟨δ, w, F, He, P, R, q, k⟩ => k _ _ q H F He R.wd .refl
theorem jp_some {e : Expr} {t : DO} (h : JO X z e t) : PO X (some e) (liftP z (dP t)) := PO.imp (po_some h) fun σ H Q ⟨δ, w, F, He, P, R, q, k⟩ => by
  refine ⟨δ, w, F, He, _, R, q, fun d w1 q1 v H1 F1 He1 wd1 st1 r1 => ?_⟩
  cases d with
  | int i => exact ⟨i, r1.dt.int, k _ _ q1 H1 F1 He1 wd1 st1⟩
  | _ => exact q1.elim
def cutD {α : Type} (xs : List α) (lo hi : Option Int) : List α := (xs.drop (HT.sIx xs.length 0 lo)).take (HT.sIx xs.length xs.length hi - HT.sIx xs.length 0 lo)
def sSl (d : D) (lo hi : Option Int) (P : Bool → D → Prop) : Prop := match d with
  | .lst ds => P true (.lst (cutD ds lo hi))
  | .tup ds => P false (.tup (cutD ds lo hi))
  | .str x => x.length ≤ sizeLine ∧ P false (.str (cutS x lo hi))
  | .scr ns => P true (.lst ((cutD ns lo hi).map .int))
  | _ => False
def rSlD (K : PySem.W.Frag) : V → Option Int → Option Int → Hp → VK → Prop := fun x lo hi H Q => rSlL K x lo hi H Q ∨ rSlA K x lo hi H Q ∨ rSlS x lo hi H Q
theorem sl_all : SlR X (rSlD X.K) := sl_list.or (sl_tupA.or sl_str)
theorem cut_rel {K : PySem.W.Frag} {F : Hp} {vs : List V} {ds : List D} (r : DRs K F vs ds) (lo hi : Option Int) : DRs K F (cutV vs lo hi) (cutD ds lo hi) := by
  unfold cutV cutD
  rw [r.length]
  exact (r.drop _).take _
theorem cut_whole {α : Type} {xs : List α} {lo hi : Option Int} (h : HT.sIx xs.length 0 lo = 0 ∧ HT.sIx xs.length xs.length hi = xs.length) : cutD xs lo hi = xs := by
  unfold cutD
  rw [h.1, h.2]
  simp
theorem sem_sl {w : Om} {F He H : Hp} {x : V} {d : D} {lo hi : Option Int} {P : Bool → D → Prop} {Q : VK} (wd : Wd z.K w F He H) (dx : DT z.K F He H x d) (q : sSl d lo hi P)
    (k : ∀ b d', P b d' → ∀ v H' F' He', Wd z.K w F' He' H' → Step F He H F' He' H' → Res z.K F' He' H H' b v d' → Q v H') : rSlD z.K x lo hi H Q := by
  unfold sSl at q
  split at q
  · obtain ⟨a, vs, rfl, ha, ra⟩ := dx.lst wd.sf
    exact .inl ⟨a, vs, rfl, .of ha, fun p hp => res_new wd hp (.lst (cut_rel ra lo hi)) q k⟩
  · obtain ⟨a, vs, e, ha, ra⟩ := dx.tup wd.sf
    refine .inr (.inl ⟨a, vs, e, .of ha, fun hw => ?_, fun _ p hp => res_tup wd hp (cut_rel ra lo hi) q k⟩)
    rw [ra.length] at hw
    rw [cut_whole hw] at q
    rw [← e]; exact res_at wd dx.dr_tup q k
  · exact .inr (.inr ⟨_, dx.str, q.1, res_at wd (.str _) q.2 k⟩)
  · next ns =>
    obtain ⟨a, rfl, ha⟩ := dx.scr wd.sf
    refine .inl ⟨a, _, rfl, ha, fun p hp => res_new wd hp (.lst ?_) q k⟩
    have e : cutV (List.map V.int ns) lo hi = (cutD ns lo hi).map V.int := by
      unfold cutV cutD
      rw [List.length_map, List.map_take, List.map_drop]
    rw [e]
    exact DRs.ofInts _
  · exact q.elim
def dSl  (t : DO) (l h : DP) : DX := fun δ w Q => t δ w fun d w1 => l δ w1 fun lo w2 => h δ w2 fun hi w3 => sSl (res w3 d) lo hi fun b d' => Q b d' w3
theorem jx_sl {e : Expr} {lo hi : Option Expr} {t : DO} {tl th : DP} {p2 : Pos} (hK : z.K = X.K) (he : JO X z e t) (hl : PO X lo (liftP z tl)) (hh : PO X hi (liftP z th)) : JX X z (.Subscript e (.Slice lo hi none p2) pos) (dSl t tl th) :=
  PE.imp (pe_slice sl_all he hl hh) fun σ H Q ⟨δ, w, F, He, P, R, q, k⟩ => by
    refine ⟨δ, w, F, He, _, R, q, fun d w1 q1 v H1 F1 He1 wd1 st1 r1 => ?_⟩
    refine ⟨δ, w1, F1, He1, _, R.step wd1 st1, q1, fun o w2 q2 H2 F2 He2 wd2 st2 => ?_⟩
    refine ⟨δ, w2, F2, He2, _, (R.step wd1 st1).step wd2 st2, q2, fun o' w3 q3 H3 F3 He3 wd3 st3 => ?_⟩
    have st := st1.trans (st2.trans st3)
    show rSlD X.K v o o' H3 Q
    rw [← hK]
    exact sem_sl wd3 (res_ok wd3.ex wd3.sh (r1.step (st2.trans st3))) q3 fun b d' p v H' F' He' wd s' rr => k b d' w3 p v H' F' He' wd (st.trans s') (rr.base st)

/-! ### truth, and, or, not, if -/
def dTru  (t : DO) : DTs_ := fun δ w Q => t δ w fun d w1 => match res w1 d with
  | .non => Q false w1
  | .bl k => Q k w1
  | .int i => Q (i != 0) w1
  | .str x => x.length ≤ sizeLine ∧ Q ((x.length : Int) != 0) w1
  | .lst ds => Q (!ds.isEmpty) w1
  | .tup ds => Q (!ds.isEmpty) w1
  | .scr ds => Q (!ds.isEmpty) w1
  | .dK ds => Q (!ds.isEmpty) w1
  | _ => False
theorem isEmpty_len {α β : Type} {xs : List α} {ys : List β} (h : xs.length = ys.length) : xs.isEmpty = ys.isEmpty := by
  cases xs <;> cases ys <;> simp at h <;> rfl
theorem jt_tru {e : Expr} {t : DO} (hK : z.K = X.K) (h : JO X z e t) (he : ∀ whole, isTrue e X.env whole = (do let v ← whole; standAt e.pos; holding [v] (truthy v)) := by exact fun _ => rfl) : JT X z e (dTru t) :=
  PT.imp (pt_truth h he) fun σ H Q ⟨δ, w, F, He, P, R, q, k⟩ => by
    refine ⟨δ, w, F, He, _, R, q, fun d w1 q1 v H1 F1 He1 wd1 st1 r1 => ?_⟩
    have fin : ∀ b, P b w1 → Q b H1 := fun b p => k b w1 p H1 F1 He1 wd1 st1
    show ∃ k, TruV X.K v H1 k ∧ Q k H1
    rw [← hK]
    have r1 := res_ok wd1.ex wd1.sh r1
    generalize res w1 d = d at q1 r1
    cases d with
    | non => cases r1.non; exact ⟨_, rfl, fin _ q1⟩
    | bl c => cases r1.bl; exact ⟨_, rfl, fin _ q1⟩
    | int i => cases r1.int; exact ⟨_, rfl, fin _ q1⟩
    | str x => cases r1.str; exact ⟨_, ⟨q1.1, rfl⟩, fin _ q1.2⟩
    | lst ds => obtain ⟨a, vs, rfl, ha, ra⟩ := r1.lst wd1.sf; exact ⟨_, .inl ⟨vs, .of ha, rfl⟩, fin _ (by rw [isEmpty_len ra.length]; exact q1)⟩
    | tup ds => obtain ⟨a, vs, rfl, ha, ra⟩ := r1.tup wd1.sf; exact ⟨_, .inr (.inl ⟨vs, .of ha, rfl⟩), fin _ (by rw [isEmpty_len ra.length]; exact q1)⟩
    | scr ds => obtain ⟨a, rfl, ha⟩ := r1.scr wd1.sf; exact ⟨_, .inl ⟨_, ha, rfl⟩, fin _ (by rw [isEmpty_len (List.length_map (as := ds) V.int)]; exact q1)⟩
    | dK ds => obtain ⟨a, vs, rfl, ha, ra⟩ := r1.dK wd1.sf; exact ⟨_, .inr (.inr ⟨vs, ha, rfl⟩), fin _ (by rw [isEmpty_len ra.length]; exact q1)⟩
    | _ => exact q1.elim
def dTNot  (t : DTs_) : DTs_ := fun δ w Q => t δ w fun k w1 => Q (!k) w1
def dTAnd  (t u : DTs_) : DTs_ := fun δ w Q => t δ w fun k w1 => if k = true then u δ w1 Q else Q false w1
def dTOr  (t u : DTs_) : DTs_ := fun δ w Q => t δ w fun k w1 => if k = true then Q true w1 else u δ w1 Q
theorem jt_not {a : Expr} {t : DTs_} (h : JT X z a t) : JT X z (.UnaryOp .Not a pos) (dTNot t) := PT.imp (pt_not h) fun σ H Q ⟨δ, w, F, He, P, R, q, k⟩ =>
  ⟨δ, w, F, He, _, R, q, fun b w1 q1 => k _ w1 q1⟩
abbrev JW (X : Cx) (z : Ent) (e : Expr) (t : DTs_) : Prop := PW X e (liftT z t)
theorem jw_and1 {a : Expr} {t : DTs_} (h : JT X z a t) : JW X z (.BoolOp .And [a] pos) t := pw_and1 h
theorem jw_or1 {a : Expr} {t : DTs_} (h : JT X z a t) : JW X z (.BoolOp .Or [a] pos) t := pw_or1 h
theorem jw_and {a b : Expr} {rest : List Expr} {t u : DTs_} (ha : JT X z a t) (hb : JW X z (.BoolOp .And (b :: rest) pos) u) : JW X z (.BoolOp .And (a :: b :: rest) pos) (dTAnd t u) := PW.imp (pw_and ha hb) fun σ H Q ⟨δ, w, F, He, P, R, q, k⟩ => by
  refine ⟨δ, w, F, He, _, R, q, fun b w1 q1 H1 F1 He1 wd1 st1 => ?_⟩
  cases b with
  | true => exact ⟨δ, w1, F1, He1, _, R.step wd1 st1, q1, fun c w2 q2 H2 F2 He2 wd2 st2 => k c w2 q2 H2 F2 He2 wd2 (st1.trans st2)⟩
  | false => exact k _ w1 q1 H1 F1 He1 wd1 st1
theorem jw_or {a b : Expr} {rest : List Expr} {t u : DTs_} (ha : JT X z a t) (hb : JW X z (.BoolOp .Or (b :: rest) pos) u) : JW X z (.BoolOp .Or (a :: b :: rest) pos) (dTOr t u) := PW.imp (pw_or ha hb) fun σ H Q ⟨δ, w, F, He, P, R, q, k⟩ => by
  refine ⟨δ, w, F, He, _, R, q, fun b w1 q1 H1 F1 He1 wd1 st1 => ?_⟩
  cases b with
  | false => exact ⟨δ, w1, F1, He1, _, R.step wd1 st1, q1, fun c w2 q2 H2 F2 He2 wd2 st2 => k c w2 q2 H2 F2 He2 wd2 (st1.trans st2)⟩
  | true => exact k _ w1 q1 H1 F1 He1 wd1 st1
theorem jt_w {e : Expr} {t : DTs_} (h : JW X z e t) : JT X z e t := PW.pt h
/-- as values, all but the last True or False -/
def dAndV  (t u : DX) : DX := fun δ w Q => t δ w fun _ d w1 => match d with
  | .bl k => if k = true then u δ w1 Q else Q false (.bl false) w1
  | _ => False
def dOrV  (t u : DX) : DX := fun δ w Q => t δ w fun _ d w1 => match d with
  | .bl k => if k = true then Q false (.bl true) w1 else u δ w1 Q
  | _ => False
def dNotV  (t : DX) : DX := fun δ w Q => t δ w fun _ d w1 => match d with
  | .bl k => Q false (.bl (!k)) w1
  | _ => False
theorem jx_one {op : BoolOp} {a : Expr} {t : DX} (h : JX X z a t) : JX X z (.BoolOp op [a] pos) t := pe_one h
theorem jx_and {a b : Expr} {rest : List Expr} {t u : DX} (ha : JX X z a t) (hb : JX X z (.BoolOp .And (b :: rest) pos) u) : JX X z (.BoolOp .And (a :: b :: rest) pos) (dAndV t u) := PE.imp (pe_and ha hb) fun σ H Q ⟨δ, w, F, He, P, R, q, k⟩ => by
  refine ⟨δ, w, F, He, _, R, q, fun b d w1 q1 v H1 F1 He1 wd1 st1 r1 => ?_⟩
  cases d with
  | bl c =>
    have := r1.dt.bl; subst v
    refine ⟨c, rfl, ?_⟩
    cases c with
    | true => exact ⟨δ, w1, F1, He1, _, R.step wd1 st1, q1, fun b d w2 q2 v H2 F2 He2 wd2 st2 rr => k b d w2 q2 v H2 F2 He2 wd2 (st1.trans st2) (rr.base st1)⟩
    | false => exact k _ _ w1 q1 _ H1 F1 He1 wd1 st1 (.bl _)
  | _ => exact q1.elim
theorem jx_or {a b : Expr} {rest : List Expr} {t u : DX} (ha : JX X z a t) (hb : JX X z (.BoolOp .Or (b :: rest) pos) u) : JX X z (.BoolOp .Or (a :: b :: rest) pos) (dOrV t u) := PE.imp (pe_or ha hb) fun σ H Q ⟨δ, w, F, He, P, R, q, k⟩ => by
  refine ⟨δ, w, F, He, _, R, q, fun b d w1 q1 v H1 F1 He1 wd1 st1 r1 => ?_⟩
  cases d with
  | bl c =>
    have := r1.dt.bl; subst v
    refine ⟨c, rfl, ?_⟩
    cases c with
    | false => exact ⟨δ, w1, F1, He1, _, R.step wd1 st1, q1, fun b d w2 q2 v H2 F2 He2 wd2 st2 rr => k b d w2 q2 v H2 F2 He2 wd2 (st1.trans st2) (rr.base st1)⟩
    | true => exact k _ _ w1 q1 _ H1 F1 He1 wd1 st1 (.bl _)
  | _ => exact q1.elim
theorem jx_not {a : Expr} {t : DX} (h : JX X z a t) : JX X z (.UnaryOp .Not a pos) (dNotV t) := PE.imp (pe_not h) fun σ H Q ⟨δ, w, F, He, P, R, q, k⟩ => by
  refine ⟨δ, w, F, He, _, R, q, fun b d w1 q1 v H1 F1 He1 wd1 st1 r1 => ?_⟩
  cases d with
  | bl c =>
    have := r1.dt.bl; subst v
    exact ⟨c, rfl, k _ _ w1 q1 _ H1 F1 He1 wd1 st1 (.bl _)⟩
  | _ => exact q1.elim
def dIfX  (c : DTs_) (t u : DX) : DX := fun δ w Q => c δ w fun k w1 => if k = true then t δ w1 Q else u δ w1 Q
theorem jx_if {c a b : Expr} {tc : DTs_} {t u : DX} (hc : JT X z c tc) (ha : JX X z a t) (hb : JX X z b u) : JX X z (.IfExp c a b pos) (dIfX tc t u) := PE.imp (pe_ifExp hc ha hb) fun σ H Q ⟨δ, w, F, He, P, R, q, k⟩ => by
  refine ⟨δ, w, F, He, _, R, q, fun c w1 q1 H1 F1 He1 wd1 st1 => ?_⟩
  cases c <;> exact ⟨δ, w1, F1, He1, _, R.step wd1 st1, q1, fun b d w2 q2 v H2 F2 He2 wd2 st2 rr => k b d w2 q2 v H2 F2 He2 wd2 (st1.trans st2) (rr.base st1)⟩
/-- a op b op' c -/
def dChain  (s1 s2 : D → D → (Bool → D → Prop) → Prop) (ta tb tc : DO) : DX := fun δ w Q => ta δ w fun d w1 => tb δ w1 fun e w2 => s1 (res w2 d) (res w2 e) fun _ r => match r with
  | .bl k => if k = true then tc δ w2 fun f w3 => s2 (res w3 e) (res w3 f) fun b d' => Q b d' w3 else Q false (.bl false) w2
  | _ => False
theorem chain2 {r r' : R2} {s1 s2 : D → D → (Bool → D → Prop) → Prop} (hs : Sem2 z r s1) (hs' : Sem2 z r' s2) {ta tb tc : DO} {σ : St} {H : Hp} {Q : VK} (h : liftX z (dChain s1 s2 ta tb tc) σ H Q) : tChain r r' (liftO z ta) (liftO z tb) (liftO z tc) σ H Q := by
  obtain ⟨δ, w, F, He, P, R, q, k⟩ := h
  refine ⟨δ, w, F, He, _, R, q, fun d w1 q1 x H1 F1 He1 wd1 st1 r1 => ?_⟩
  refine ⟨δ, w1, F1, He1, _, R.step wd1 st1, q1, fun e w2 q2 y H2 F2 He2 wd2 st2 r2 => ?_⟩
  refine hs w2 F2 He2 H2 x y _ _ _ _ wd2 (res_ok wd2.ex wd2.sh (r1.step st2)) (res_ok wd2.ex wd2.sh r2) q2 fun b d' p v H3 F3 He3 wd3 st3 rr => ?_
  have st := st1.trans (st2.trans st3)
  cases d' with
  | bl c =>
    have := rr.dt.bl; subst v
    refine ⟨c, rfl, ?_⟩
    cases c with
    | false => exact k _ _ w2 p _ H3 F3 He3 wd3 st (.bl _)
    | true =>
      refine ⟨δ, w2, F3, He3, _, R.step wd3 st, p, fun f w4 q4 u H4 F4 He4 wd4 st4 r4 => ?_⟩
      exact hs' w4 F4 He4 H4 y u _ _ _ Q wd4 (res_ok wd4.ex wd4.sh ((r2.step st3).step st4)) (res_ok wd4.ex wd4.sh r4) q4 fun b d' p v H' F' He' wd s' rr => k b d' w4 p v H' F' He' wd ((st.trans st4).trans s') (rr.base (st.trans st4))
  | _ => exact p.elim
theorem jx_chain {op op' : CmpOp} {r r' : R2} {s1 s2 : D → D → (Bool → D → Prop) → Prop} {a b c : Expr} {ta tb tc : DO} (ho : OpR X (compareOp op) r) (ho' : OpR X (compareOp op') r') (hs : Sem2 z r s1) (hs' : Sem2 z r' s2) (ha : JO X z a ta) (hb : JO X z b tb) (hc : JO X z c tc)
    (hm : lastMarks [op, op'] [b, c] = false := by with_unfolding_all rfl) : JX X z (.Compare a [op, op'] [b, c] pos) (dChain s1 s2 ta tb tc) := PE.imp (pe_chain ho ho' ha hb hc hm) fun _ _ _ h => chain2 hs hs' h
theorem jt_chain {op op' : CmpOp} {r r' : R2} {s1 s2 : D → D → (Bool → D → Prop) → Prop} {a b c : Expr} {ta tb tc : DO} (ho : OpR X (compareOp op) r) (ho' : OpR X (compareOp op') r') (hs : Sem2 z r s1) (hs' : Sem2 z r' s2) (ha : JO X z a ta) (hb : JO X z b tb) (hc : JO X z c tc)
    (hm : lastMarks [op, op'] [b, c] = false := by with_unfolding_all rfl) : JT X z (.Compare a [op, op'] [b, c] pos) (dB (dChain s1 s2 ta tb tc)) := PT.imp (pt_chain ho ho' ha hb hc hm) fun σ H Q ⟨δ, w, F, He, P, R, q, k⟩ => by
  refine chain2 hs hs' ⟨δ, w, F, He, _, R, q, fun b d w' p v H' F' He' wd st r => ?_⟩
  cases d with
  | bl c =>
    have e := r.dt.bl
    subst e
    exact ⟨c, rfl, k c w' p H' F' He' wd st⟩
  | _ => exact p.elim
end
end Lv

/-! ### xs.extend(a tuple) -/
namespace HT
open PySem PySem.AutoSeq1 PySem.Spec
theorem list_extend_tuple_any (l : Addr) (items : Array Value) (n : Nat) (b : Addr) (items2 : Array Value) (n2 : Nat) (dd : Option Addr) (sl : Array (Option Value)) (hs0 : ¬(!items.isEmpty && Builtin.List.listTooLong (items.size + items2.size)) = true) (hs1 : items.size ≤ sizeLine) (hs2 : items.size + items2.size ≤ sizeLine + 1) :
    Meets (Builtin.«list.extend» ⟨[.ref l, .ref b], []⟩) (fun _ R s => s.heap.get? l = some { cls := .type "list", dict := none, data := .seq items n, slots := #[] } ∧ s.heap.get? b = some { cls := .type "tuple", dict := dd, data := .seq items2 n2, slots := sl } ∧ R (.ok (.ret Value.none)) { s with heap := s.heap.update l (Obj.mapSeq fun x => x ++ items2), toks := s.toks }) :=
  .of_wp fun prog w A R s h => by
    obtain ⟨hp, g, d, tk, os⟩ := s; obtain ⟨hl, hb, h⟩ := h; have f1 := idx_int; have f2 := sub_tuple_tuple; have f3 := sub_list_list; have f4 := sub_tuple_list; have f5 := sub_list_tuple;
    have hz' : (items ++ items2).size ≤ sizeLine + 1 := by rw [Array.size_append]; exact hs2
    wp_walk using (wpAny_updateSeq hl rfl (hz := hs1) (_hz' := hz')), wpAny_loadPart' hl, wpAny_loadPart' hb; exact ⟨_, rfl, h⟩
end HT
namespace Lv
open PySem PySem.Spec L2
section
variable {X : Cx}
def rExtendT (K : PySem.W.Frag) : V → List V → Hp → VK → Prop := fun x vs H Q => ∃ l b xs zs, x = .ref l ∧ vs = [.ref b] ∧ H l = some (.lst xs) ∧ SqT K H b zs ∧ xs.length + zs.length ≤ sizeLine ∧ Q .non (upd H l (.lst (xs ++ zs)))
theorem mt_extendT : MtM X "list.extend" (rExtendT X.K) := by
  intro pins s σ H x vs v us Q I rx rv h
  obtain ⟨l, b, xs, zs, rfl, rfl, hH, hB, hz, q⟩ := h
  cases rx
  obtain ⟨u, rfl, ru⟩ := rv.one
  cases ru
  obtain ⟨z, its, n, r, hl, e⟩ := I.lstM hH
  obtain ⟨its2, r2, ⟨⟨cls, dd, data, sl⟩, e2, hc, n2, hd⟩, z2⟩ := I.tuple hB
  simp only at hc hd
  subst hc hd
  have hl2 := r2.length
  have hsz : its.toArray.size + its2.toArray.size ≤ sizeLine := by rw [List.size_toArray, List.size_toArray]; omega
  have hlong : ¬ (!its.toArray.isEmpty && Builtin.List.listTooLong (its.toArray.size + its2.toArray.size)) = true := by
    rw [notLongL hsz, Bool.and_false]
    exact Bool.false_ne_true
  refine call_meets F.slot_list_extend ⟨_, e, rfl⟩ F.entry_list_extend (F.args_list_extend_2 _ _)
    (HT.list_extend_tuple_any l its.toArray n b its2.toArray n2 dd sl hlong (by rw [List.size_toArray]; omega) (by omega)) ⟨e, e2, ?_⟩
  refine ⟨.non, _, I.lset (its' := its ++ its2) hH e (by simp) (r.append r2) ?_, rfl, q⟩
  rw [List.length_append]
  omega
end
section
variable {z : Ent} {δ : DSt} {w : Om} {F He H F' He' H' : Hp} {σ : St} {i : Nat} {v : V} {d : D}
theorem get_set {α : Type} {l : List α} {i j : Nat} {x y : α} (h : (l.set i x)[j]? = some y) : (i = j ∧ y = x) ∨ (i ≠ j ∧ l[j]? = some y) := by
  by_cases e : i = j
  · subst e
    by_cases hl : i < l.length
    · rw [List.getElem?_set_self hl] at h
      exact .inl ⟨rfl, (Option.some.inj h).symm⟩
    · rw [List.getElem?_eq_none (by simpa using hl)] at h; cases h
  · rw [List.getElem?_set_ne e] at h; exact .inr ⟨e, h⟩
/-- a name is given a value -/
theorem Rel.assign {b : Bool} {w' : Om} (R : Rel z δ w F He σ H) (wd : Wd z.K w' F' He' H') (st : Step F He H F' He' H') (r : Res z.K F' He' H H' b v d) : Rel z (δ.set i (some (b, d))) w' F' He' (σ.set i (some v)) H' := by
  have R' := R.step wd st
  refine ⟨wd, R'.st, by rw [List.length_set, List.length_set]; exact R.len, fun j s e => ?_, fun j k d1 d2 a e1 e2 a1 a2 => ?_⟩
  · rcases get_set e with ⟨rfl, rfl⟩ | ⟨hj, e'⟩
    · have hi : i < δ.length := by
        have := (List.getElem?_eq_some_iff.mp e).1
        simpa using this
      refine ⟨some v, List.getElem?_set_self (by rw [R.len]; exact hi), ?_⟩
      cases b with
      | false => exact ⟨v, rfl, r⟩
      | true =>
        obtain ⟨a, o, e, ho, n, m, f, q⟩ := r
        exact ⟨a, o, by rw [e], ho, n, m, Classical.byContradiction fun q => R.st.dom a q f, q⟩
    · obtain ⟨u, hu, q⟩ := R'.sl j s e'
      exact ⟨u, by rw [List.getElem?_set_ne hj]; exact hu, q⟩
  · have key : ∀ (j : Nat) (d1 : D) (a : Addr), i ≠ j → δ[j]? = some (some (true, d1)) → σ[j]? = some (some (.ref a)) → H a ≠ none := by
      intro j d1 a _ e1 a1
      obtain ⟨u, hu, a', o, e, ho, _⟩ := R.sl j _ e1
      rw [a1] at hu
      cases hu
      cases e
      rw [ho]; exact fun q => nomatch q
    rcases get_set e1 with ⟨hj, x1⟩ | ⟨hj, e1'⟩ <;> rcases get_set e2 with ⟨hk, x2⟩ | ⟨hk, e2'⟩
    · exact hj.symm.trans hk
    · subst hj
      cases x1
      obtain ⟨a0, o, e, ho, n, m, f, q⟩ := r
      rcases get_set a1 with ⟨_, y⟩ | ⟨hh, _⟩
      · cases y
        cases e
        rw [List.getElem?_set_ne hk] at a2
        exact absurd f (key k d2 a hk e2' a2)
      · exact absurd rfl hh
    · subst hk
      cases x2
      obtain ⟨a0, o, e, ho, n, m, f, q⟩ := r
      rcases get_set a2 with ⟨_, y⟩ | ⟨hh, _⟩
      · cases y
        cases e
        rw [List.getElem?_set_ne hj] at a1
        exact absurd f (key j d1 a hj e1' a1)
      · exact absurd rfl hh
    · rw [List.getElem?_set_ne hj] at a1
      rw [List.getElem?_set_ne hk] at a2
      exact R.inj j k d1 d2 a e1' e2' a1 a2
theorem Rel.put (R : Rel z δ w F He σ H) (r : DR z.K F v d) : Rel z (δ.set i (some (false, d))) w F He (σ.set i (some v)) H := R.assign (b := false) R.wd .refl r
/-- an own container is written -/
theorem Rel.write {a : Addr} {o' : HO} {d' : D} (R : Rel z δ w F He σ H) (e : δ[i]? = some (some (true, d))) (hs : σ[i]? = some (some (.ref a))) (r : OR z.K F o' d') : Rel z (δ.set i (some (true, d'))) w F He σ (upd H a o') := by
  obtain ⟨u, hu, a', o, ea, ho, n, m, f, q⟩ := R.sl i _ e
  rw [hs] at hu
  cases hu
  cases ea
  have hne : ∀ (b : Addr) (u : HO), F b = some u → b ≠ a := fun b u h z => by subst z; rw [n] at h; cases h
  have hne2 : ∀ (b : Addr) (u : HO), He b = some u → b ≠ a := fun b u h z => by subst z; rw [m] at h; cases h
  refine ⟨⟨fun b u h => by rw [upd_ne (hne b u h)]; exact R.wd.sf b u h, fun b u h => by rw [upd_ne (hne2 b u h)]; exact R.wd.sh b u h, R.wd.dj, R.wd.ex⟩,
    ⟨R.st.fz, R.st.fzN, R.st.heN, fun b u h x => by
      rw [upd_ne (fun z => by subst z; rw [f] at h; cases h)]; exact R.st.keep b u h x, fun b h => by
      by_cases hb : b = a
      · subst hb; exact absurd f h
      · rw [upd_ne hb]; exact R.st.dom b h, fun b xs e => by
      by_cases hb : b = a
      · subst hb; exact .inl f
      · rw [upd_ne hb] at e; exact R.st.tp b xs e⟩, by rw [List.length_set]; exact R.len, fun j s es => ?_, fun j k d1 d2 c e1 e2 a1 a2 => ?_⟩
  · rcases get_set es with ⟨rfl, rfl⟩ | ⟨hj, e'⟩
    · exact ⟨_, hs, a, o', rfl, upd_same, n, m, f, r⟩
    · obtain ⟨u, hu, q'⟩ := R.sl j s e'
      refine ⟨u, hu, ?_⟩
      match s, q' with
      | none, _ => exact True.intro
      | some (false, d1), q' => exact q'
      | some (true, d1), ⟨c, oc, ec, hc, nc, mc, fc, qc⟩ =>
        refine ⟨c, oc, ec, ?_, nc, mc, fc, qc⟩
        have hca : c ≠ a := fun z => by
          subst z
          rw [ec] at hu
          exact hj (R.inj i j d d1 c e e' hs hu)
        rw [upd_ne hca]; exact hc
  · have h1 : ∃ x, δ[j]? = some (some (true, x)) := by
      rcases get_set e1 with ⟨rfl, _⟩ | ⟨_, e'⟩
      · exact ⟨_, e⟩
      · exact ⟨_, e'⟩
    have h2 : ∃ x, δ[k]? = some (some (true, x)) := by
      rcases get_set e2 with ⟨rfl, _⟩ | ⟨_, e'⟩
      · exact ⟨_, e⟩
      · exact ⟨_, e'⟩
    obtain ⟨x1, h1⟩ := h1
    obtain ⟨x2, h2⟩ := h2
    exact R.inj j k x1 x2 c h1 h2 a1 a2
/-- an own container is frozen -/
def frzD (δ : DSt) (i : Nat) : DSt := match δ[i]? with
  | some (some (_, d)) => δ.set i (some (false, d))
  | _ => δ
theorem Rel.frz (R : Rel z δ w F He σ H) (i : Nat) : ∃ F', Rel z (frzD δ i) w F' He σ H ∧ Same F F' := by
  unfold frzD
  split
  · next b d e =>
    obtain ⟨u, hu, q⟩ := R.sl i _ e
    cases b with
    | false =>
      refine ⟨F, ?_⟩
      have e2 : δ.set i (some (false, d)) = δ := by
        apply List.ext_getElem?
        intro j
        by_cases hj : i = j
        · subst hj
          rw [List.getElem?_set_self (List.getElem?_eq_some_iff.mp e).1, e]
        · rw [List.getElem?_set_ne hj]
      rw [e2]; exact ⟨R, Same.refl _⟩
    | true =>
      obtain ⟨a, o, rfl, ho, n, m, f, q⟩ := q
      refine ⟨upd F a o, ⟨R.wd.freeze ho n m, R.st.freeze n f, by rw [List.length_set]; exact R.len, fun j s es => ?_, fun j k d1 d2 c e1 e2 a1 a2 => ?_⟩, same_upd n⟩
      · rcases get_set es with ⟨rfl, rfl⟩ | ⟨hj, e'⟩
        · exact ⟨_, hu, .ref a, rfl, (q.mono (same_upd n)).frozen upd_same⟩
        · obtain ⟨u, hu', q'⟩ := R.sl j s e'
          refine ⟨u, hu', ?_⟩
          match s, q' with
          | none, _ => exact True.intro
          | some (false, d1), ⟨x, ex, qx⟩ => exact ⟨x, ex, qx.mono (same_upd n)⟩
          | some (true, d1), ⟨c, oc, ec, hc, nc, mc, fc, qc⟩ =>
            have hca : c ≠ a := fun z => by
              subst z
              rw [ec] at hu'
              exact hj (R.inj i j d d1 c e e' hu hu')
            exact ⟨c, oc, ec, hc, by rw [upd_ne hca]; exact nc, mc, fc, qc.mono (same_upd n)⟩
      · rcases get_set e1 with ⟨_, x⟩ | ⟨_, e1'⟩
        · cases x
        · rcases get_set e2 with ⟨_, x⟩ | ⟨_, e2'⟩
          · cases x
          · exact R.inj j k d1 d2 c e1' e2' a1 a2
  · exact ⟨F, R, Same.refl _⟩
end

/-! ### statements -/
section
variable {X : Cx} {z : Ent} {pos : Pos}
def dNext  : DS := fun E δ w => E.nx δ w
def dSeq  (t u : DS) : DS := fun E δ w => t { E with nx := u E } δ w
theorem jss_nil : JSs X z [] dNext := PSs.imp pss_nil fun D σ H ⟨δ, w, F, He, E, R, q, c⟩ => c.nx _ _ _ _ _ _ q R (Same.refl _)
theorem jss_cons {st : Stmt} {rest : List Stmt} {t u : DS} (h1 : JS X z st t) (h2 : JSs X z rest u) : JSs X z (st :: rest) (dSeq t u) := PSs.imp (pss_cons h1 h2) fun D σ H ⟨δ, w, F, He, E, R, q, c⟩ =>
  ⟨δ, w, F, He, _, R, q, ⟨fun δ' w' F' He' σ' H' n R' s' => ⟨δ', w', F', He', E, R', n, c.mono s'⟩, c.rt, c.bk, c.ct⟩⟩
theorem jss_one {st : Stmt} {t : DS} (h : JS X z st t) : JSs X z [st] t := pss_one h
def dFrz  (i : Nat) (t : DS) : DS := fun E δ w => t E (frzD δ i) w
theorem js_frz {st : Stmt} {t : DS} (i : Nat) (h : JS X z st t) : JS X z st (dFrz i t) := PS.imp h fun D σ H ⟨δ, w, F, He, E, R, q, c⟩ => let ⟨F', R', s'⟩ := R.frz i; ⟨_, w, F', He, E, R', q, c.mono s'⟩
/-- x = e; the container is one's own from then on, or it isn't -/
def dSet  (own : Bool) (i : Nat) (t : DX) : DS := fun E δ w => t δ w fun b d w1 => E.nx (δ.set i (some (b && own, d))) w1
theorem asg_set {own : Bool} {i : Nat} {t : DX} {D : Ends} {σ : St} {H : Hp} (h : liftS z (dSet own i t) D σ H) : tAsg (liftX z t) (gName i) D σ H := by
  obtain ⟨δ, w, F, He, E, R, q, c⟩ := h
  refine ⟨δ, w, F, He, _, R, q, fun b d w1 q1 v H1 F1 He1 wd1 st1 r1 => ?_⟩
  cases own with
  | true => rw [Bool.and_true] at q1; exact c.nx _ _ _ _ _ _ q1 (R.assign wd1 st1 r1) st1.fz
  | false =>
    rw [Bool.and_false] at q1
    obtain ⟨F2, st2, wd2, r2, _⟩ := r1.thaw st1 wd1
    exact c.nx _ _ _ _ _ _ q1 (R.assign (b := false) wd2 st2 r2) st2.fz
theorem js_set {i : Nat} {x : Str} {e : Expr} {t : DX} {pos' : Pos} (own : Bool) (hN : X.N.Nodup) (he : JX X z e t) (hi : X.N[i]? = some x := by rfl) (hx : Loc X.env.scope x := by first | exact Or.inl rfl | exact Or.inr rfl)
    (hs : swapsWith e (some (.Name x pos')) pos.line X.env = pure false := by rfl) (hf : X.fn x = true ∨ X.env.scope.names.lookup x = some .local := by first | exact .inl rfl | exact .inr rfl) : JS X z (.Assign [.Name x pos'] e pos) (dSet own i t) :=
  PS.imp (ps_set hN hi hx he hs hf) fun _ _ _ h => asg_set h
/-- x op= e, numbers or texts -/
def dAug  (i : Nat) (sem : D → D → (Bool → D → Prop) → Prop) (t : DO) : DS := fun E δ w => match δ[i]? with
  | some (some (false, d)) => t δ w fun e w1 => sem d (res w1 e) fun b r => E.nx (δ.set i (some (b, r))) w1
  | _ => False
theorem js_aug {i : Nat} {x : Str} {e : Expr} {t : DO} {op : Operator} {r : R2} {sem : D → D → (Bool → D → Prop) → Prop} {pos' : Pos} (ho : OpR X (inplaceOp op) r) (hs : Sem2 z r sem) (hN : X.N.Nodup) (he : JO X z e t) (hi : X.N[i]? = some x := by rfl) (hx : Loc X.env.scope x := by first | exact Or.inl rfl | exact Or.inr rfl)
    (hf : X.fn x = true ∨ X.env.scope.names.lookup x = some .local := by first | exact .inl rfl | exact .inr rfl) : JS X z (.AugAssign (.Name x pos') op e pos) (dAug i sem t) :=
  PS.imp (ps_aug (ti := r) hN hi hx he (fun pins s σ H x y v u Q I rx ry h => augR ho I rx ry h) hf) fun D σ H ⟨δ, w, F, He, E, R, q, c⟩ => by
    unfold dAug at q
    split at q
    · next d e =>
      obtain ⟨u, hu, v, rfl, rv⟩ := R.sl i _ e
      refine ⟨v, hu, δ, w, F, He, _, R, q, fun d2 w1 q1 y H1 F1 He1 wd1 st1 r1 => ?_⟩
      refine hs w1 F1 He1 H1 v y d _ _ _ wd1 (.inl (rv.mono st1.fz)) (res_ok wd1.ex wd1.sh r1) q1 fun b d' p v' H2 F2 He2 wd2 st2 rr => ?_
      exact c.nx _ _ _ _ _ _ p (R.assign wd2 (st1.trans st2) (rr.base st1)) (st1.trans st2).fz
    · exact q.elim
def rAddI : R2 := fun x y H Q => (∃ i j, x = .int i ∧ y = .int j ∧ Q (.int (i + j)) H) ∨ ∃ i j, x = .str i ∧ y = .str j ∧ i.length + j.length ≤ sizeLine ∧ Q (.str (i ++ j)) H
theorem iop_addI : OpR X (inplaceOp .Add) rAddI := iop_add.or iop_add_str
def sAddI (d e : D) (P : Bool → D → Prop) : Prop := match d, e with
  | .int i, .int j => P false (.int (i + j))
  | .str x, .str y => x.length + y.length ≤ sizeLine ∧ P false (.str (x ++ y))
  | _, _ => False
theorem sem_addI : Sem2 z rAddI sAddI := fun w F He H x y d e P Q wd dx dy q k => by
  unfold sAddI at q
  split at q
  · exact .inl ⟨_, _, dx.int, dy.int, k _ _ q _ H F He wd .refl (.int _)⟩
  · exact .inr ⟨_, _, dx.str, dy.str, q.1, k _ _ q.2 _ H F He wd .refl (.str _)⟩
  · exact q.elim
/-- a call as a statement -/
def dDrop  (t : DX) : DS := fun E δ w => t δ w fun _ _ w1 => E.nx δ w1
theorem js_expr {e : Expr} {t : DX} (he : JX X z e t) (hs : swapsWith e none pos.line X.env = pure false := by rfl) : JS X z (.Expr e pos) (dDrop t) := PS.imp (ps_expr he hs) fun D σ H ⟨δ, w, F, He, E, R, q, c⟩ =>
  ⟨δ, w, F, He, _, R, q, fun b d w1 q1 v H1 F1 He1 wd1 st1 r1 => c.nx _ _ _ _ _ _ q1 (R.step wd1 st1) st1.fz⟩
def dRet  (t : DX) : DS := fun E δ w => t δ w E.rt
theorem js_ret {e : Expr} {t : DX} (he : JX X z e t) : JS X z (.Return (some e) pos) (dRet t) := PS.imp (ps_ret he) fun D σ H ⟨δ, w, F, He, E, R, q, c⟩ =>
  ⟨δ, w, F, He, _, R, q, fun b d w1 q1 v H1 F1 He1 wd1 st1 r1 => c.rt _ _ _ q1 v H1 F1 He1 wd1 (R.st.trans st1) (r1.base R.st)⟩
def dRetV  (i : Nat) : DS := fun E δ w => match δ[i]? with
  | some (some (b, d)) => E.rt b d w
  | _ => False
theorem js_retV {i : Nat} {e : Expr} (he : PE X e (tVar i)) : JS X z (.Return (some e) pos) (dRetV i) := PS.imp (ps_ret he) fun D σ H ⟨δ, w, F, He, E, R, q, c⟩ => by
  unfold dRetV at q
  split at q
  · next b d e =>
    obtain ⟨u, hu, r⟩ := R.sl i _ e
    cases b with
    | false => obtain ⟨v, rfl, r⟩ := r; exact ⟨v, hu, c.rt _ _ _ q v H F He R.wd R.st r⟩
    | true => obtain ⟨a, o, rfl, ho, n, m, f, r⟩ := r; exact ⟨.ref a, hu, c.rt _ _ _ q _ H F He R.wd R.st ⟨a, o, rfl, ho, n, m, f, r⟩⟩
  · exact q.elim
def dRetN  : DS := fun E _ w => E.rt false .non w
theorem js_retN : JS X z (.Return none pos) dRetN := PS.imp ps_retN fun D σ H ⟨δ, w, F, He, E, R, q, c⟩ => c.rt _ _ _ q _ H F He R.wd R.st .non
def dBreak  : DS := fun E δ w => E.bk δ w
def dCont  : DS := fun E δ w => E.ct δ w
theorem js_break : JS X z (.Break pos) dBreak := PS.imp ps_break fun D σ H ⟨δ, w, F, He, E, R, q, c⟩ => c.bk _ _ _ _ _ _ q R (Same.refl _)
theorem js_cont : JS X z (.Continue pos) dCont := PS.imp ps_continue fun D σ H ⟨δ, w, F, He, E, R, q, c⟩ => c.ct _ _ _ _ _ _ q R (Same.refl _)
theorem js_pass : JS X z (.Pass pos) dNext := PS.imp ps_pass fun D σ H ⟨δ, w, F, He, E, R, q, c⟩ => c.nx _ _ _ _ _ _ q R (Same.refl _)
def dIf  (c : DTs_) (t u : DS) : DS := fun E δ w => c δ w fun k w1 => if k = true then t E δ w1 else u E δ w1
theorem js_if {c : Expr} {a b : List Stmt} {tc : DTs_} {t u : DS} (hc : JT X z c tc) (ha : JSs X z a t) (hb : JSs X z b u) : JS X z (.If c a b pos) (dIf tc t u) := PS.imp (ps_if hc ha hb) fun D σ H ⟨δ, w, F, He, E, R, q, cn⟩ => by
  refine ⟨δ, w, F, He, _, R, q, fun k w1 q1 H1 F1 He1 wd1 st1 => ?_⟩
  cases k <;> exact ⟨δ, w1, F1, He1, E, R.step wd1 st1, q1, cn.mono st1.fz⟩
/-- while: n turns at most -/
def wN  (c : DTs_) (t : DS) (E : DEnds) : Nat → DSt → Om → Prop
  | 0, _, _ => False
  | n + 1, δ, w => c δ w fun k w1 => if k = true then t { E with nx := wN c t E n, ct := wN c t E n, bk := E.nx } δ w1 else E.nx δ w1
def dWhile  (c : DTs_) (t : DS) : DS := fun E δ w => ∃ n, wN c t E n δ w
theorem js_while {c : Expr} {body : List Stmt} {tc : DTs_} {t : DS} (hp : PassesOwn (model X.prog X.w) X.A X.env X.xe) (hc : JT X z c tc) (hb : JSs X z body t) : JS X z (.While c body [] pos) (dWhile tc t) :=
  PS.imp (ps_while hp hc hb) fun D σ H ⟨δ, w, F, He, E, R, q, cn⟩ => by
    obtain ⟨n, q⟩ := q
    refine ⟨fun m σ H => ∃ δ w F' He, Rel z δ w F' He σ H ∧ Same F F' ∧ wN tc t E m δ w, ⟨n, δ, w, F, He, R, Same.refl _, q⟩, ?_⟩
    rintro m σ H ⟨δ, w, F', He, R, s', q⟩
    cases m with
    | zero => exact q.elim
    | succ m =>
      refine ⟨δ, w, F', He, _, R, q, fun k w1 q1 H1 F1 He1 wd1 st1 => ?_⟩
      cases k with
      | false => exact cn.nx _ _ _ _ _ _ q1 (R.step wd1 st1) (s'.trans st1.fz)
      | true =>
        have s1 := s'.trans st1.fz
        refine ⟨fun σ' H' => ∃ δ w F' He, Rel z δ w F' He σ' H' ∧ Same F F' ∧ wN tc t E m δ w, fun σ' H' h => ⟨m, Nat.lt_succ_self m, h⟩, ?_⟩
        exact ⟨δ, w1, F1, He1, _, R.step wd1 st1, q1, ⟨fun δ' w' F' He' σ' H' p r s => ⟨δ', w', F', He', r, s1.trans s, p⟩, cn.rt, fun δ' w' F' He' σ' H' p r s => cn.nx _ _ _ _ _ _ p r (s1.trans s), fun δ' w' F' He' σ' H' p r s => ⟨δ', w', F', He', r, s1.trans s, p⟩⟩⟩
end
end Lv

namespace Lv
open PySem PySem.Spec L2
section
variable {X : Cx} {z : Ent} {pos : Pos}

/-! ### containers changed in place: x.m(e), x[i] = e -/
/-- what a name's own container is, at a state -/
theorem own_at {δ : DSt} {w : Om} {F He H : Hp} {σ : St} {i : Nat} {d : D} (R : Rel z δ w F He σ H) (e : δ[i]? = some (some (true, d))) : ∃ a o, σ[i]? = some (some (.ref a)) ∧ H a = some o ∧ He a = none ∧ OR z.K F o d := by
  obtain ⟨u, hu, a, o, rfl, ho, n, m, f, q⟩ := R.sl i _ e
  exact ⟨a, o, hu, ho, m, q⟩
/-- x.append(e) -/
def dApp  (i : Nat) (t : DX) : DS := fun E δ w => match δ[i]? with
  | some (some (true, .lst ds)) => t δ w fun _ d w1 => ds.length < sizeLine ∧ E.nx (δ.set i (some (true, .lst (ds ++ [d])))) w1
  | _ => False
theorem js_app {i : Nat} {o e : Expr} {t : DX} {apos cpos : Pos} (hK : z.K = X.K) (ho : PE X o (tVar i)) (he : JX X z e t)
    (hbase : attributeBase o "append" X.env (eval o X.env) = eval o X.env := by rfl)
    (hfew : ((backTo cpos (starEach [e] X.env)).all (fun x => !x.1) && (backToKw cpos (keywordEach [] X.env)).all (fun x => x.1.isSome)
      && decide (([e] : List Expr).length + ([] : List Keyword).length + (if ([] : List Keyword).isEmpty then 0 else 1) < 30)) = true := by rfl)
    (hline : (apos.endLine == cpos.line) = true := by rfl) (hs : starEach [e] X.env = (false, eval e X.env) :: starEach [] X.env := by rfl) (hplain : (backTo cpos (starEach [] X.env)).any (·.1) = false := by rfl)
    (hsw : swapsWith (.Call (.Attribute o "append" apos) [e] [] cpos) none pos.line X.env = pure false := by rfl) : JS X z (.Expr (.Call (.Attribute o "append" apos) [e] [] cpos) pos) (dApp i t) :=
  PS.imp (ps_expr (pe_bm PySem.F.plainAttrs_list PySem.F.slot_list_append PySem.F.type_list_append mt_append ho (pa_cons he pa_nil hs) hbase hfew hline hs hplain) hsw) fun D σ H ⟨δ, w, F, He, E, R, q, c⟩ => by
    unfold dApp at q
    split at q
    · next ds e =>
      obtain ⟨a, ob, hs, ha, m, r⟩ := own_at R e
      cases r with
      | lst r =>
        refine ⟨.ref a, hs, .inl ⟨rfl, _, .of ha⟩, δ, w, F, He, _, R, q, fun b d w1 q1 v H1 F1 He1 wd1 st1 r1 => ?_⟩
        obtain ⟨F2, st2, wd2, r2, s2⟩ := r1.thaw st1 wd1
        have R2 := R.step wd2 st2
        refine ⟨a, _, v, rfl, rfl, st2.keep a _ ha m, by rw [r.length]; exact q1.1, ?_⟩
        exact c.nx _ _ _ _ _ _ q1.2 (R2.write e hs (.lst ((r.mono st2.fz).append (.cons r2 .nil)))) st2.fz
    · exact q.elim
/-- x.extend(e), e a list or a tuple -/
def dExt  (i : Nat) (t : DO) : DS := fun E δ w => match δ[i]? with
  | some (some (true, .lst ds)) => t δ w fun d w1 => match res w1 d with
    | .lst es => ds.length + es.length ≤ sizeLine ∧ E.nx (δ.set i (some (true, .lst (ds ++ es)))) w1
    | .tup es => ds.length + es.length ≤ sizeLine ∧ E.nx (δ.set i (some (true, .lst (ds ++ es)))) w1
    | _ => False
  | _ => False
theorem js_ext {i : Nat} {o e : Expr} {t : DO} {apos cpos : Pos} (hK : z.K = X.K) (ho : PE X o (tVar i)) (he : JO X z e t)
    (hbase : attributeBase o "extend" X.env (eval o X.env) = eval o X.env := by rfl)
    (hfew : ((backTo cpos (starEach [e] X.env)).all (fun x => !x.1) && (backToKw cpos (keywordEach [] X.env)).all (fun x => x.1.isSome)
      && decide (([e] : List Expr).length + ([] : List Keyword).length + (if ([] : List Keyword).isEmpty then 0 else 1) < 30)) = true := by rfl)
    (hline : (apos.endLine == cpos.line) = true := by rfl) (hs : starEach [e] X.env = (false, eval e X.env) :: starEach [] X.env := by rfl) (hplain : (backTo cpos (starEach [] X.env)).any (·.1) = false := by rfl)
    (hsw : swapsWith (.Call (.Attribute o "extend" apos) [e] [] cpos) none pos.line X.env = pure false := by rfl) : JS X z (.Expr (.Call (.Attribute o "extend" apos) [e] [] cpos) pos) (dExt i t) :=
  PS.imp (ps_expr (pe_bm PySem.F.plainAttrs_list PySem.F.slot_list_extend PySem.F.type_list_extend (MtR.or mt_extend mt_extendT) ho (pa_cons he pa_nil hs) hbase hfew hline hs hplain) hsw) fun D σ H ⟨δ, w, F, He, E, R, q, c⟩ => by
    unfold dExt at q
    split at q
    · next ds e =>
      obtain ⟨a, ob, hs, ha, m, r⟩ := own_at R e
      cases r with
      | lst r =>
        refine ⟨.ref a, hs, .inl ⟨rfl, _, .of ha⟩, δ, w, F, He, _, R, q, fun d w1 q1 v H1 F1 He1 wd1 st1 r1 => ?_⟩
        have R2 := R.step wd1 st1
        have r1 := res_ok wd1.ex wd1.sh r1
        generalize res w1 d = d at q1 r1
        split at q1
        · obtain ⟨b, vs, rfl, hb, rb⟩ := r1.lst wd1.sf
          refine .inl ⟨a, b, _, vs, rfl, rfl, st1.keep a _ ha m, hb, by rw [r.length, rb.length]; exact q1.1, ?_⟩
          exact c.nx _ _ _ _ _ _ q1.2 (R2.write e hs (.lst ((r.mono st1.fz).append rb))) st1.fz
        · obtain ⟨b, vs, rfl, hb, rb⟩ := r1.tup wd1.sf
          refine .inr ⟨a, b, _, vs, rfl, rfl, st1.keep a _ ha m, .of hb, by rw [r.length, rb.length]; exact q1.1, ?_⟩
          exact c.nx _ _ _ _ _ _ q1.2 (R2.write e hs (.lst ((r.mono st1.fz).append rb))) st1.fz
        · exact q1.elim
    · exact q.elim
/-- x.pop(), x.clear(), x.reverse() as statements -/
def dUpd0  (i : Nat) (f : List D → Option (List D)) : DS := fun E δ w => match δ[i]? with
  | some (some (true, .lst ds)) => match f ds with
    | some es => E.nx (δ.set i (some (true, .lst es))) w
    | none => False
  | _ => False
def fPop (ds : List D) : Option (List D) := if ds.isEmpty then none else some ds.dropLast
theorem js_pop {i : Nat} {o : Expr} {apos cpos : Pos} (hK : z.K = X.K) (ho : PE X o (tVar i))
    (hbase : attributeBase o "pop" X.env (eval o X.env) = eval o X.env := by rfl) (hline : (apos.endLine == cpos.line) = true := by rfl)
    (hsw : swapsWith (.Call (.Attribute o "pop" apos) [] [] cpos) none pos.line X.env = pure false := by rfl) : JS X z (.Expr (.Call (.Attribute o "pop" apos) [] [] cpos) pos) (dUpd0 i fPop) :=
  PS.imp (ps_expr (pe_bm0 PySem.F.plainAttrs_list PySem.F.slot_list_pop PySem.F.type_list_pop mt_pop ho hbase hline) hsw) fun D σ H ⟨δ, w, F, He, E, R, q, c⟩ => by
    unfold dUpd0 fPop at q
    split at q
    · next ds e =>
      obtain ⟨a, ob, hs, ha, m, r⟩ := own_at R e
      cases r with
      | @lst vs _ r =>
        by_cases h0 : ds.isEmpty = true
        · rw [if_pos h0] at q; exact q.elim
        · rw [if_neg h0] at q
          have hl := r.length
          have h1 : vs.length - 1 < vs.length := by
            have : ds.length ≠ 0 := fun z => h0 (by simp at z; simp [z])
            omega
          refine ⟨.ref a, hs, .inl ⟨rfl, _, .of ha⟩, a, _, vs[vs.length - 1], rfl, rfl, ha, by simp [h1], ?_⟩
          exact c.nx _ _ _ _ _ _ q (R.write e hs (.lst r.dropLast)) (Same.refl _)
    · exact q.elim
theorem js_clear {i : Nat} {o : Expr} {apos cpos : Pos} (hK : z.K = X.K) (ho : PE X o (tVar i))
    (hbase : attributeBase o "clear" X.env (eval o X.env) = eval o X.env := by rfl) (hline : (apos.endLine == cpos.line) = true := by rfl)
    (hsw : swapsWith (.Call (.Attribute o "clear" apos) [] [] cpos) none pos.line X.env = pure false := by rfl) : JS X z (.Expr (.Call (.Attribute o "clear" apos) [] [] cpos) pos) (dUpd0 i fun _ => some []) :=
  PS.imp (ps_expr (pe_bm0 PySem.F.plainAttrs_list PySem.F.slot_list_clear PySem.F.type_list_clear mt_clear ho hbase hline) hsw) fun D σ H ⟨δ, w, F, He, E, R, q, c⟩ => by
    unfold dUpd0 at q
    split at q
    · next ds e =>
      obtain ⟨a, ob, hs, ha, m, r⟩ := own_at R e
      cases r with
      | @lst vs _ r => exact ⟨.ref a, hs, .inl ⟨rfl, _, .of ha⟩, a, _, rfl, rfl, ha, c.nx _ _ _ _ _ _ q (R.write e hs (.lst .nil)) (Same.refl _)⟩
    · exact q.elim
theorem js_reverse {i : Nat} {o : Expr} {apos cpos : Pos} (hK : z.K = X.K) (ho : PE X o (tVar i))
    (hbase : attributeBase o "reverse" X.env (eval o X.env) = eval o X.env := by rfl) (hline : (apos.endLine == cpos.line) = true := by rfl)
    (hsw : swapsWith (.Call (.Attribute o "reverse" apos) [] [] cpos) none pos.line X.env = pure false := by rfl) : JS X z (.Expr (.Call (.Attribute o "reverse" apos) [] [] cpos) pos) (dUpd0 i fun ds => some ds.reverse) :=
  PS.imp (ps_expr (pe_bm0 PySem.F.plainAttrs_list PySem.F.slot_list_reverse PySem.F.type_list_reverse mt_reverse ho hbase hline) hsw) fun D σ H ⟨δ, w, F, He, E, R, q, c⟩ => by
    unfold dUpd0 at q
    split at q
    · next ds e =>
      obtain ⟨a, ob, hs, ha, m, r⟩ := own_at R e
      cases r with
      | @lst vs _ r => exact ⟨.ref a, hs, .inl ⟨rfl, _, .of ha⟩, a, _, rfl, rfl, ha, c.nx _ _ _ _ _ _ q (R.write e hs (.lst r.reverse)) (Same.refl _)⟩
    · exact q.elim
/-- x[k] = e -/
def sPut (c k d : D) (P : D → Prop) : Prop := match c, k with
  | .lst ds, .int j => ∃ n, ixN ds.length j = some n ∧ P (.lst (ds.set n d))
  | .dK kvs, .int j => kvs.length < sizeLine ∧ P (.dK (putD kvs (.inl j) d))
  | .dK kvs, .str j => kvs.length < sizeLine ∧ P (.dK (putD kvs (.inr j) d))
  | .dT kvs, .tup ks => ∃ js, ks = js.map kD ∧ kvs.length < sizeLine ∧ P (.dT (putD kvs js d))
  | _, _ => False
def dPut  (i : Nat) (tk : DO) (t : DX) : DS := fun E δ w => match δ[i]? with
  | some (some (true, c)) => t δ w fun _ d w1 => tk δ w1 fun k w2 => sPut c k d fun c' => E.nx (δ.set i (some (true, c'))) w2
  | _ => False
theorem PSet.or {t t' : TSet} (h : PSet X t) (h' : PSet X t') : PSet X (fun o i v H Q => t o i v H Q ∨ t' o i v H Q) := fun pins s σ H o i v ov iv u Q I r1 r2 r3 q => by
  rcases q with q | q
  · exact h pins s σ H o i v ov iv u Q I r1 r2 r3 q
  · exact h' pins s σ H o i v ov iv u Q I r1 r2 r3 q
theorem js_put {i : Nat} {o k e : Expr} {tk : DO} {t : DX} {spos : Pos} (hK : z.K = X.K) (hu : X.A.units + 1 < cLine) (ho : PE X o (tVar i)) (hk : JO X z k tk) (he : JX X z e t)
    (hs : swapsWithSole [.Subscript o k spos] e pos.line X.env = pure false := by rfl) (hw : swappedStores [.Subscript o k spos] e X.env = pure none := by rfl)
    (h1 : (assignEach [.Subscript o k spos] X.env).map (·.2) = [assign (.Subscript o k spos) X.env] := by rfl)
    (ha : ∀ v, assign (.Subscript o k spos) X.env v = (do
      let ov ← holding [v] (eval o X.env)
      let iv ← holding [v, ov] (eval k X.env)
      standAt spos
      holding [v, ov, iv] (setItem ov iv v)
      release [v, ov, iv] []) := by intro _; rfl) : JS X z (.Assign [.Subscript o k spos] e pos) (dPut i tk t) :=
  PS.imp (ps_asg he (pg_sub ho hk (PSet.or set_list (set_dict hu)) ha) hs hw h1) fun D σ H ⟨δ, w, F, He, E, R, q, c⟩ => by
    unfold dPut at q
    split at q
    · next c0 e0 =>
      refine ⟨δ, w, F, He, _, R, q, fun b d w1 q1 v H1 F1 He1 wd1 st1 r1 => ?_⟩
      obtain ⟨F2, st2, wd2, r2, s2⟩ := r1.thaw st1 wd1
      have R2 := R.step wd2 st2
      obtain ⟨a, ob, hs, ha, m, r⟩ := own_at R2 e0
      refine ⟨.ref a, hs, δ, w1, F2, He1, _, R2, q1, fun kd w2 q2 kv H3 F3 He3 wd3 st3 r3 => ?_⟩
      have R3 := R2.step wd3 st3
      have r3 := r3.dt
      have r2' := r2.mono st3.fz
      have ha3 := st3.keep a _ ha m
      have rr := r.mono st3.fz
      unfold sPut at q2
      split at q2
      · obtain ⟨n, hn, q2⟩ := q2
        cases rr with
        | lst rr =>
          exact .inl ⟨a, _, _, n, rfl, r3.int, ha3, by rw [rr.length]; exact hn, c.nx _ _ _ _ _ _ q2 (R3.write e0 hs (.lst (rr.set r2' n))) (st2.trans st3).fz⟩
      · cases rr with
        | dK rr =>
          have := r3.int; subst kv
          exact .inr ⟨a, _, rfl, DPut.k (k := .inl _) ha3 (by rw [rr.length]; exact q2.1), c.nx _ _ _ _ _ _ q2.2 (R3.write e0 hs (.dK (rr.put r2'))) (st2.trans st3).fz⟩
      · cases rr with
        | dK rr =>
          have := r3.str; subst kv
          exact .inr ⟨a, _, rfl, DPut.k (k := .inr _) ha3 (by rw [rr.length]; exact q2.1), c.nx _ _ _ _ _ _ q2.2 (R3.write e0 hs (.dK (rr.put r2'))) (st2.trans st3).fz⟩
      · obtain ⟨js, rfl, hl, q2⟩ := q2
        cases rr with
        | dT rr =>
          obtain ⟨b, us, rfl, hb, rb⟩ := r3.tup wd3.sf
          have := rb.keys; subst us
          exact .inr ⟨a, _, rfl, DPut.t ha3 hb (by rw [rr.length]; exact hl), c.nx _ _ _ _ _ _ q2 (R3.write e0 hs (.dT (rr.put r2'))) (st2.trans st3).fz⟩
      · exact q2.elim
    · exact q.elim
end
end Lv

namespace Lv
open PySem PySem.Spec L2

/-! ### targets -/
/-- what a target does with data -/
abbrev DG := D → DSt → (DSt → Prop) → Prop
def GOk (z : Ent) (G : TG) (g : DG) : Prop := ∀ (δ : DSt) (w : Om) (F He H : Hp) (σ : St) (x : V) (d : D) (P : DSt → Prop) (Q : St → Hp → Prop), Rel z δ w F He σ H → DR z.K F x d → g d δ P → (∀ δ' σ', P δ' → Rel z δ' w F He σ' H → Q σ' H) → G x σ H Q
def gN (i : Nat) : DG := fun d δ P => P (δ.set i (some (false, d)))
theorem gok_name {z : Ent} (i : Nat) : GOk z (gName i) (gN i) := fun δ w F He H σ x d P Q R r q k => k _ _ q (R.put r)
abbrev DGs := List D → DSt → (DSt → Prop) → Prop
def GsOk (z : Ent) (G : TGs) (g : DGs) : Prop := ∀ (δ : DSt) (w : Om) (F He H : Hp) (σ : St) (xs : List V) (ds : List D) (P : DSt → Prop) (Q : St → Hp → Prop), Rel z δ w F He σ H → DRs z.K F xs ds → g ds δ P → (∀ δ' σ', P δ' → Rel z δ' w F He σ' H → Q σ' H) → G xs σ H Q
def gsN : DGs := fun ds δ P => match ds with
  | [] => P δ
  | _ => False
def gsC (g : DG) (gs : DGs) : DGs := fun ds δ P => match ds with
  | d :: ds => g d δ fun δ1 => gs ds δ1 P
  | [] => False
theorem gsok_nil {z : Ent} : GsOk z gNil gsN := fun δ w F He H σ xs ds P Q R r q k => by
  cases ds with
  | nil => cases r; exact ⟨rfl, k _ _ q R⟩
  | cons d ds => exact q.elim
theorem gsok_cons {z : Ent} {G : TG} {Gs : TGs} {g : DG} {gs : DGs} (h : GOk z G g) (hs : GsOk z Gs gs) : GsOk z (gCons G Gs) (gsC g gs) := fun δ w F He H σ xs ds P Q R r q k => by
  cases ds with
  | nil => exact q.elim
  | cons d ds =>
    cases r with
    | cons r rs => exact ⟨_, _, rfl, h δ w F He H σ _ d _ _ R r q fun δ1 σ1 q1 R1 => hs δ1 w F He H σ1 _ ds P Q R1 rs q1 k⟩
/-- a, b, .. = a tuple of n -/
def gT (n : Nat) (gs : DGs) : DG := fun d δ P => match d with
  | .tup ds => ds.length = n ∧ gs ds δ P
  | _ => False
theorem gok_tup {z : Ent} {Gs : TGs} {gs : DGs} {K : PySem.W.Frag} {n : Nat} (h : GsOk z Gs gs) : GOk z (gTup K n Gs) (gT n gs) := fun δ w F He H σ x d P Q R r q k => by
  unfold gT at q
  split at q
  · cases r with
    | tup e rs => exact ⟨_, _, rfl, .of (R.wd.sf _ _ e), by rw [rs.length]; exact q.1, h δ w F He H σ _ _ P Q R rs q.2 k⟩
  · exact q.elim
section
variable {X : Cx} {z : Ent} {pos : Pos}
/-- target = e -/
def dAsg  (t : DX) (g : DG) : DS := fun E δ w => t δ w fun _ d w1 => g d δ fun δ' => E.nx δ' w1
theorem js_asg {tg e : Expr} {t : DX} {G : TG} {g : DG} (he : JX X z e t) (hg : PG X tg G) (ok : GOk z G g) (hs : swapsWithSole [tg] e pos.line X.env = pure false := by rfl) (hw : swappedStores [tg] e X.env = pure none := by rfl)
    (h1 : (assignEach [tg] X.env).map (·.2) = [assign tg X.env] := by rfl) : JS X z (.Assign [tg] e pos) (dAsg t g) :=
  PS.imp (ps_asg he hg hs hw h1) fun D σ H ⟨δ, w, F, He, E, R, q, c⟩ => by
    refine ⟨δ, w, F, He, _, R, q, fun b d w1 q1 v H1 F1 He1 wd1 st1 r1 => ?_⟩
    obtain ⟨F2, st2, wd2, r2, s2⟩ := r1.thaw st1 wd1
    exact ok δ w1 F2 He1 H1 σ v d _ _ (R.step wd2 st2) r2 q1 fun δ' σ' q' R' => c.nx _ _ _ _ _ _ q' R' st2.fz
end

/-! ### what is walked -/
abbrev DI  := DSt → Om → (List D → Om → Prop) → Prop
structure ItOk (K : PySem.W.Frag) (J : It) (F : Hp) (ds : List D) : Prop where
  go : ∀ i H, Same F H → i < ds.length → J.go i H
  stop : ∀ H, Same F H → J.stop ds.length H
  yld : ∀ i H x H', Same F H → i < ds.length → J.yld i H x H' → (H' = H ∧ ∃ d, ds[i]? = some d ∧ DR K F x d) ∨ ∃ T vs es, x = .ref T ∧ H T = none ∧ H' = upd H T (.tup vs) ∧ ds[i]? = some (.tup es) ∧ DRs K F vs es
def liftI (z : Ent) (t : DI) : TI := fun σ H R => ∃ δ w F He P, Rel z δ w F He σ H ∧ t δ w P ∧ ∀ ds w', P ds w' → ∀ J H' F' He', Wd z.K w' F' He' H' → Step F He H F' He' H' → ItOk z.K J F' ds → R J H'
theorem PI.imp {X : Cx} {tg e : Expr} {t t' : TI} (h : PI X tg e t) (f : ∀ σ H R, t' σ H R → t σ H R) : PI X tg e t' := ⟨fun pins s σ H R I q => h.run pins s σ H R I (f σ H R q)⟩
theorem itok_list {K : PySem.W.Frag} {F : Hp} {a : Addr} {vs : List V} {ds : List D} (e : F a = some (.lst vs)) (r : DRs K F vs ds) : ItOk K (Itl K a) F ds where
  go := fun i H s h => let ⟨v, hv, _⟩ := r.get (List.getElem?_eq_getElem h); ⟨vs, v, .of (s _ _ e), hv⟩
  stop := fun H s => ⟨vs, .of (s _ _ e), by rw [r.length]; exact Nat.le_refl _⟩
  yld := fun i H x H' s h ⟨e1, y⟩ => .inl ⟨e1, by
    obtain ⟨d, hd, rd⟩ := r.getV (y vs (.of (s _ _ e)))
    exact ⟨d, hd, rd⟩⟩
theorem itok_tup {K : PySem.W.Frag} {F : Hp} {a : Addr} {vs : List V} {ds : List D} (e : F a = some (.tup vs)) (r : DRs K F vs ds) : ItOk K (Itt K a) F ds where
  go := fun i H s h => let ⟨v, hv, _⟩ := r.get (List.getElem?_eq_getElem h); ⟨vs, v, .of (s _ _ e), hv⟩
  stop := fun H s => ⟨vs, .of (s _ _ e), by rw [r.length]; exact Nat.le_refl _⟩
  yld := fun i H x H' s h ⟨e1, y⟩ => .inl ⟨e1, by
    obtain ⟨d, hd, rd⟩ := r.getV (y vs (.of (s _ _ e)))
    exact ⟨d, hd, rd⟩⟩
theorem itok_scr {K : PySem.W.Frag} {F : Hp} {a : Addr} {ns : List Int} (e : SqL K F a (ns.map V.int)) : ItOk K (Itl K a) F (ns.map .int) where
  go := fun i H s h => ⟨_, .int (ns[i]'(by simpa using h)), s.seq e, by rw [List.getElem?_map, List.getElem?_eq_getElem (by simpa using h)]; rfl⟩
  stop := fun H s => ⟨_, s.seq e, by simp⟩
  yld := fun i H x H' s h ⟨e1, y⟩ => .inl ⟨e1, by
    have h' : i < ns.length := by simpa using h
    have := y _ (s.seq e)
    rw [List.getElem?_map, List.getElem?_eq_getElem h'] at this
    cases this
    exact ⟨.int ns[i], by rw [List.getElem?_map, List.getElem?_eq_getElem h']; rfl, .int _⟩⟩
def strD (x : Str) : List D := x.cps.toList.map fun c => .str ⟨#[c]⟩
theorem itok_str {K : PySem.W.Frag} {F : Hp} {x : Str} : ItOk K (Its x) F (strD x) where
  go := fun i H s h => by
    have h' : i < x.cps.size := by simpa [strD] using h
    exact h'
  stop := fun H s => by simp [strD, Its]
  yld := fun i H v H' s h ⟨e1, c, hc, hv⟩ => .inl ⟨e1, .str ⟨#[c]⟩, by
    simp only [strD, List.getElem?_map, Array.getElem?_toList, hc]; rfl, by rw [hv]; exact .str _⟩
def rngD (lo : Int) (n : Nat) : List D := (List.range n).map fun k => .int (lo + (k : Nat))
theorem rngD_length (lo : Int) (n : Nat) : (rngD lo n).length = n := by simp [rngD]
theorem itok_rng {K : PySem.W.Frag} {F : Hp} {lo : Int} {n : Nat} : ItOk K (Itr lo n) F (rngD lo n) where
  go := fun i H s h => by
    have h' : i < n := by simpa [rngD] using h
    exact h'
  stop := fun H s => by simp [rngD, Itr]
  yld := fun i H v H' s h ⟨e1, hv⟩ => .inl ⟨e1, .int (lo + (i : Nat)), by
    have h' : i < n := by simpa [rngD] using h
    simp [rngD, h'], by rw [hv]; exact .int _⟩
section
variable {X : Cx} {z : Ent} {pos : Pos} {tg : Expr}
/-- for .. in a list, a tuple, a text, the script -/
def iAny (K : PySem.W.Frag) (te : TE) : TI := fun σ H R => te σ H fun x H1 => (∃ a, x = .ref a ∧ (∃ xs, SqL K H1 a xs) ∧ R (Itl K a) H1) ∨ (∃ a, x = .ref a ∧ (∃ xs, SqT K H1 a xs) ∧ R (Itt K a) H1) ∨ ∃ y, x = .str y ∧ R (Its y) H1
theorem pi_any {l : Expr} {te : TE} (hl : PE X l te) : PI X tg l (iAny X.K te) := by
  refine ⟨fun pins s σ H R I h => ?_⟩
  refine thn (hl.run pins s σ H _ I h) fun v s1 ⟨x, H1, I1, r1, q1⟩ => ?_
  rcases q1 with ⟨a, e, ⟨xs, hq⟩, q⟩ | ⟨a, e, ⟨xs, hq⟩, q⟩ | ⟨y, e, q⟩
  · subst e
    cases r1
    obtain ⟨its, rv, p, hz⟩ := I1.list hq
    refine wpAny_pyIter_list p.isList ?_
    refine ⟨s1.heap.objs.size, [s1.heap.objs.size], _, _, H1, rfl, I1.kept (t' := s1.toks) fun b o e => Heap.get?_push_of_some _ e, turn_list a _, ⟨_, Heap.get?_push_size _ rfl, rfl, rfl⟩, fun b hb => ?_, q⟩
    have e : b = s1.heap.objs.size := by simpa using hb
    subst e
    exact I1.fpOk (Nat.le_refl _) (I1.hok.fresh (Nat.le_refl _))
  · subst e
    cases r1
    obtain ⟨its, rv, p, hz⟩ := I1.tuple hq
    refine wpAny_pyIter_tuple (show s1.heap.IsTuple a its.toArray from p) ?_
    refine ⟨s1.heap.objs.size, [s1.heap.objs.size], _, _, H1, rfl, I1.kept (t' := s1.toks) fun b o e => Heap.get?_push_of_some _ e, turn_tuple a _, ⟨_, Heap.get?_push_size _ rfl, rfl, rfl⟩, fun b hb => ?_, q⟩
    have e : b = s1.heap.objs.size := by simpa using hb
    subst e
    exact I1.fpOk (Nat.le_refl _) (I1.hok.fresh (Nat.le_refl _))
  · subst e
    obtain ⟨t, rfl⟩ := r1
    cases ha : y.cps.all (· < 128)
    · exact PySem.wpAny_pyIter_wide ha (pi_one (tk := s1.toks) I1 _ (turn_str _ y t "str_iterator" (.inr rfl)) ⟨_, Heap.get?_push_size _ rfl, rfl, rfl⟩ q)
    · exact PySem.wpAny_pyIter_ascii ha (pi_one (tk := s1.toks) I1 _ (turn_str _ y t "str_ascii_iterator" (.inl rfl)) ⟨_, Heap.get?_push_size _ rfl, rfl, rfl⟩ q)
def dIt  (t : DX) : DI := fun δ w Q => t δ w fun _ d w1 => match d with
  | .lst ds => Q ds w1
  | .tup ds => Q ds w1
  | .scr ns => Q (ns.map .int) w1
  | .str x => Q (strD x) w1
  | _ => False
theorem ji_any {l : Expr} {t : DX} (hK : z.K = X.K) (hl : JX X z l t) : PI X tg l (liftI z (dIt t)) := PI.imp (pi_any hl) fun σ H R ⟨δ, w, F, He, P, Re, q, k⟩ => by
  refine ⟨δ, w, F, He, _, Re, q, fun b d w1 q1 v H1 F1 He1 wd1 st1 r1 => ?_⟩
  obtain ⟨F2, st2, wd2, r2, s2⟩ := r1.thaw st1 wd1
  rw [← hK]
  cases r2 with
  | lst e r => exact .inl ⟨_, rfl, ⟨_, .of (wd2.sf _ _ e)⟩, k _ _ q1 _ H1 F2 He1 wd2 st2 (itok_list e r)⟩
  | tup e r => exact .inr (.inl ⟨_, rfl, ⟨_, .of (wd2.sf _ _ e)⟩, k _ _ q1 _ H1 F2 He1 wd2 st2 (itok_tup e r)⟩)
  | scr e => exact .inl ⟨_, rfl, ⟨_, wd2.sf.seq e⟩, k _ _ q1 _ H1 F2 He1 wd2 st2 (itok_scr e)⟩
  | str x => exact .inr (.inr ⟨x, rfl, k _ _ q1 _ H1 F2 He1 wd2 st2 itok_str⟩)
  | _ => exact q1.elim
/-- range(b), range(a, b) -/
def dRng1  (t : DO) : DI := fun δ w Q => t δ w fun d w1 => match d with
  | .int j => (-(2 ^ 62) ≤ j ∧ j < 2 ^ 62) ∧ Q (rngD 0 j.toNat) w1
  | _ => False
def dRng2  (t u : DO) : DI := fun δ w Q => t δ w fun d w1 => u δ w1 fun e w2 => match d, e with
  | .int i, .int j => (-(2 ^ 62) ≤ i ∧ i < 2 ^ 62 ∧ -(2 ^ 62) ≤ j ∧ j < 2 ^ 62) ∧ Q (rngD i (j - i).toNat) w2
  | _, _ => False
theorem ji_rng1 {a : Expr} {t : DO} {p pos : Pos} (hm : X.mg "range" = none) (ha : JO X z a t) (hg : Gl X "range" := by rfl) (hs : starEach [a] X.env = [(false, eval a X.env)] := by rfl) : PI X tg (.Call (.Name "range" p) [a] [] pos) (liftI z (dRng1 t)) :=
  PI.imp (pi_range1 hg hm (pa_cons ha pa_nil hs) hs) fun σ H R ⟨δ, w, F, He, P, Re, q, k⟩ => by
    refine ⟨δ, w, F, He, _, Re, q, fun d w1 q1 v H1 F1 He1 wd1 st1 r1 => ?_⟩
    cases d with
    | int j => have := r1.dt.int; subst v; exact ⟨j, rfl, q1.1.1, q1.1.2, k _ _ q1.2 _ H1 F1 He1 wd1 st1 itok_rng⟩
    | _ => exact q1.elim
theorem ji_rng2 {a b : Expr} {t u : DO} {p pos : Pos} (hm : X.mg "range" = none) (ha : JO X z a t) (hb : JO X z b u) (hg : Gl X "range" := by rfl) (hs : starEach [a, b] X.env = [(false, eval a X.env), (false, eval b X.env)] := by rfl) (hs2 : starEach [b] X.env = [(false, eval b X.env)] := by rfl) :
    PI X tg (.Call (.Name "range" p) [a, b] [] pos) (liftI z (dRng2 t u)) :=
  PI.imp (pi_range2 hg hm (pa_cons ha (pa_cons hb pa_nil hs2) (by rw [hs, hs2])) hs hs2) fun σ H R ⟨δ, w, F, He, P, Re, q, k⟩ => by
    refine ⟨δ, w, F, He, _, Re, q, fun d w1 q1 v H1 F1 He1 wd1 st1 r1 => ?_⟩
    refine ⟨δ, w1, F1, He1, _, Re.step wd1 st1, q1, fun e w2 q2 u H2 F2 He2 wd2 st2 r2 => ?_⟩
    cases d with
    | int i =>
      cases e with
      | int j =>
        have := r1.dt.int; subst v
        have := r2.dt.int; subst u
        exact ⟨i, j, rfl, q2.1, k _ _ q2.2 _ H2 F2 He2 wd2 (st1.trans st2) itok_rng⟩
      | _ => exact q2.elim
    | _ => exact q2.elim

/-! ### for -/
def dForGo  (g : DG) (t : DS) (E : DEnds) : List D → DSt → Om → Prop
  | [], δ, w => E.nx δ w
  | d :: ds, δ, w => g d δ fun δ1 => t { E with nx := dForGo g t E ds, ct := dForGo g t E ds, bk := E.nx } δ1 w
def dFor  (it : DI) (g : DG) (t : DS) : DS := fun E δ w => it δ w fun ds w1 => dForGo g t E ds δ w1
theorem Rel.two {δ : DSt} {w : Om} {F He H H' : Hp} {σ : St} {T : Addr} {o : HO} (R : Rel z δ w F He σ H) (hT : H T = none) : Rel z δ w F He σ (upd H T o) := R.step (R.wd.alloc hT) (.alloc hT)
theorem js_for {iter : Expr} {body : List Stmt} {it : DI} {G : TG} {g : DG} {t : DS} (hp : PassesOwn (model X.prog X.w) X.A X.env X.xe) (hc : X.calm = true) (hi : PI X tg iter (liftI z it)) (hg : PG X tg G) (ok : GOk z G g) (hb : JSs X z body t)
    (hs : ∀ x, foldedSetIterable iter X.env x = pure x := by intro _; rfl) : JS X z (.For tg iter body [] pos) (dFor it g t) :=
  PS.imp (ps_for hp hc hi hg hb hs) fun D σ H ⟨δ, w, F, He, E, R, q, cn⟩ => by
    refine ⟨δ, w, F, He, _, R, q, fun ds w1 q1 J H1 F1 He1 wd1 st1 io => ?_⟩
    have R1 := R.step wd1 st1
    refine ⟨fun i m σ H => m = ds.length - i ∧ i ≤ ds.length ∧ ∃ δ w F He, Same F1 F ∧ Rel z δ w F He σ H ∧ dForGo g t E (ds.drop i) δ w, ⟨ds.length, by simp, Nat.zero_le _, δ, w1, F1, He1, Same.refl _, R1, q1⟩, ?_⟩
    rintro i m σ H ⟨rfl, hle, δ, w, F, He, sF, R, q⟩
    have sH : Same F1 H := sF.trans R.wd.sf
    by_cases hlt : i < ds.length
    · refine .inr ⟨io.go i H sH hlt, fun σ' H' => ∃ δ w F He, Same F1 F ∧ Rel z δ w F He σ' H' ∧ dForGo g t E (ds.drop (i + 1)) δ w, fun σ' H' h => ⟨ds.length - (i + 1), by omega, rfl, hlt, h⟩, fun x H' y => ?_⟩
      rw [List.drop_eq_getElem_cons hlt] at q
      have fin : ∀ {F' : Hp}, Same F1 F' → Rel z δ w F' He σ H' → DR z.K F' x ds[i] → G x σ H' fun σ2 H2 => liftS z t { D with nx := fun σ' H' => ∃ δ w F He, Same F1 F ∧ Rel z δ w F He σ' H' ∧ dForGo g t E (ds.drop (i + 1)) δ w, ct := fun σ' H' => ∃ δ w F He, Same F1 F ∧ Rel z δ w F He σ' H' ∧ dForGo g t E (ds.drop (i + 1)) δ w, bk := D.nx } σ2 H2 := by
        intro F' sF' R' rx
        refine ok δ w F' He H' σ x _ _ _ R' rx q fun δ2 σ2 q2 R2 => ?_
        have s1 := st1.fz.trans sF'
        exact ⟨δ2, w, F', He, _, R2, q2, ⟨fun δ3 w3 F3 He3 σ3 H3 p r s3 => ⟨δ3, w3, F3, He3, sF'.trans s3, r, p⟩, cn.rt, fun δ3 w3 F3 He3 σ3 H3 p r s3 => cn.nx _ _ _ _ _ _ p r (s1.trans s3), fun δ3 w3 F3 He3 σ3 H3 p r s3 => ⟨δ3, w3, F3, He3, sF'.trans s3, r, p⟩⟩⟩
      rcases io.yld i H x H' sH hlt y with ⟨rfl, d, hd, rd⟩ | ⟨T, vs, es, rfl, hT, rfl, hd, rd⟩
      · rw [List.getElem?_eq_getElem hlt] at hd
        cases hd
        exact fin sF R (rd.mono sF)
      · rw [List.getElem?_eq_getElem hlt] at hd
        have hd' := Option.some.inj hd
        have R' := R.step (R.wd.alloc (o := .tup vs) hT) (.alloc hT)
        have hF : F T = none := R.wd.fnone hT
        have hHe : He T = none := R.wd.henone hT
        refine fin (F' := upd F T (.tup vs)) (sF.trans (same_upd hF)) (R.step ((R.wd.alloc hT).freeze upd_same hF hHe) ((Step.alloc hT).freeze hF hT)) ?_
        rw [hd']
        exact .tup upd_same ((rd.mono sF).mono (same_upd hF))
    · have e : i = ds.length := by omega
      subst e
      rw [List.drop_length] at q
      exact .inl ⟨io.stop H sH, cn.nx _ _ _ _ _ _ q R (st1.fz.trans sF)⟩
end
end Lv

namespace Lv
open PySem PySem.Spec L2

/-! ### list comprehensions -/
def wipeD (δ : DSt) : List Nat → DSt
  | [] => δ
  | v :: vs => (wipeD δ vs).set v none
section
variable {z : Ent} {δ : DSt} {w : Om} {F He H F' He' H' : Hp} {σ : St}
theorem Rel.forget (R : Rel z δ w F He σ H) (i : Nat) : Rel z (δ.set i none) w F He (σ.set i none) H := by
  refine ⟨R.wd, R.st, by rw [List.length_set, List.length_set]; exact R.len, fun j s e => ?_, fun j k d1 d2 a e1 e2 a1 a2 => ?_⟩
  · rcases get_set e with ⟨rfl, rfl⟩ | ⟨hj, e'⟩
    · have hi : i < δ.length := by
        have := (List.getElem?_eq_some_iff.mp e).1
        simpa using this
      exact ⟨none, List.getElem?_set_self (by rw [R.len]; exact hi), True.intro⟩
    · obtain ⟨u, hu, q⟩ := R.sl j s e'
      exact ⟨u, by rw [List.getElem?_set_ne hj]; exact hu, q⟩
  · rcases get_set e1 with ⟨_, x⟩ | ⟨hj, e1'⟩
    · cases x
    · rcases get_set e2 with ⟨_, x⟩ | ⟨hk, e2'⟩
      · cases x
      · rw [List.getElem?_set_ne hj] at a1
        rw [List.getElem?_set_ne hk] at a2
        exact R.inj j k d1 d2 a e1' e2' a1 a2
theorem Rel.wipe (R : Rel z δ w F He σ H) : ∀ vs : List Nat, Rel z (wipeD δ vs) w F He (L2.wipe σ vs) H
  | [] => R
  | v :: vs => (Rel.wipe R vs).forget v
end
theorem wipe_comm {σ : St} {i : Nat} {v : Option V} (h : ∀ (j : Nat), j = i → True) : ∀ vs : List Nat, i ∉ vs → L2.wipe (σ.set i v) vs = (L2.wipe σ vs).set i v
  | [], _ => rfl
  | u :: vs, hn => by
    simp only [List.mem_cons, not_or] at hn
    rw [L2.wipe, L2.wipe, wipe_comm h vs hn.2, List.set_comm _ _ hn.1]
theorem wipe_set {σ : St} {i : Nat} {v : Option V} : ∀ {vs : List Nat}, i ∈ vs → L2.wipe (σ.set i v) vs = L2.wipe σ vs
  | u :: vs, hm => by
    rw [L2.wipe, L2.wipe]
    by_cases hu : i ∈ vs
    · rw [wipe_set hu]
    · have e : i = u := by
        rcases List.mem_cons.mp hm with e | e
        · exact e
        · exact absurd e hu
      subst e
      rw [wipe_comm (fun _ _ => True.intro) vs hu, List.set_set]
theorem wipe_wipe {σ : St} : ∀ (us vs : List Nat), (∀ i ∈ us, i ∈ vs) → L2.wipe (L2.wipe σ us) vs = L2.wipe σ vs
  | [], _, _ => rfl
  | u :: us, vs, h => by
    rw [L2.wipe, wipe_set (h u List.mem_cons_self), wipe_wipe us vs fun i hi => h i (List.mem_cons_of_mem _ hi)]
/-- a target that keeps to the slots vs -/
def GOkV (z : Ent) (vs : List Nat) (G : TG) (g : DG) : Prop := ∀ (δ : DSt) (w : Om) (F He H : Hp) (σ : St) (x : V) (d : D) (P : DSt → Prop) (Q : St → Hp → Prop), Rel z δ w F He σ H → DR z.K F x d → g d δ P → (∀ δ' σ', P δ' → Rel z δ' w F He σ' H → L2.wipe σ' vs = L2.wipe σ vs → Q σ' H) → G x σ H Q
theorem gokv_name {z : Ent} {vs : List Nat} (i : Nat) (h : i ∈ vs) : GOkV z vs (gName i) (gN i) := fun δ w F He H σ x d P Q R r q k => k _ _ q (R.put r) (wipe_set h)
def GsOkV (z : Ent) (vs : List Nat) (G : TGs) (g : DGs) : Prop := ∀ (δ : DSt) (w : Om) (F He H : Hp) (σ : St) (xs : List V) (ds : List D) (P : DSt → Prop) (Q : St → Hp → Prop), Rel z δ w F He σ H → DRs z.K F xs ds → g ds δ P → (∀ δ' σ', P δ' → Rel z δ' w F He σ' H → L2.wipe σ' vs = L2.wipe σ vs → Q σ' H) → G xs σ H Q
theorem gsokv_nil {z : Ent} {vs : List Nat} : GsOkV z vs gNil gsN := fun δ w F He H σ xs ds P Q R r q k => by
  cases ds with
  | nil => cases r; exact ⟨rfl, k _ _ q R rfl⟩
  | cons d ds => exact q.elim
theorem gsokv_cons {z : Ent} {vs : List Nat} {G : TG} {Gs : TGs} {g : DG} {gs : DGs} (h : GOkV z vs G g) (hs : GsOkV z vs Gs gs) : GsOkV z vs (gCons G Gs) (gsC g gs) := fun δ w F He H σ xs ds P Q R r q k => by
  cases ds with
  | nil => exact q.elim
  | cons d ds =>
    cases r with
    | cons r rs => exact ⟨_, _, rfl, h δ w F He H σ _ d _ _ R r q fun δ1 σ1 q1 R1 e1 => hs δ1 w F He H σ1 _ ds P Q R1 rs q1 fun δ' σ' q' R' e' => k δ' σ' q' R' (e'.trans e1)⟩
theorem gokv_tup {z : Ent} {vs : List Nat} {Gs : TGs} {gs : DGs} {K : PySem.W.Frag} {n : Nat} (h : GsOkV z vs Gs gs) : GOkV z vs (gTup K n Gs) (gT n gs) := fun δ w F He H σ x d P Q R r q k => by
  unfold gT at q
  split at q
  · cases r with
    | tup e rs => exact ⟨_, _, rfl, .of (R.wd.sf _ _ e), by rw [rs.length]; exact q.1, h δ w F He H σ _ _ P Q R rs q.2 k⟩
  · exact q.elim
def dLcGo  (g : DG) (tt : DTs_) (te : DX) (δ : DSt) : List D → List D → Om → (Bool → D → Om → Prop) → Prop
  | [], acc, w, Q => Q true (.lst acc) w
  | d :: ds, acc, w, Q => g d δ fun δ1 => tt δ1 w fun k w1 => if k = true then te δ1 w1 fun _ e w2 => acc.length < sizeLine ∧ dLcGo g tt te δ ds (acc ++ [e]) w2 Q else dLcGo g tt te δ ds acc w1 Q
def dLc  (it : DI) (g : DG) (tt : DTs_) (te : DX) (vs : List Nat) : DX := fun δ w Q => it δ w fun ds w1 => dLcGo g tt te (wipeD δ vs) ds [] w1 Q
theorem Step.write {F He H F' He' H' : Hp} {p : Addr} {o : HO} (s : Step F He H F' He' H') (h : H p = none) : Step F He H F' He' (upd H' p o) where
  fz := s.fz
  fzN := s.fzN
  heN := s.heN
  keep := fun b u e n => by rw [upd_ne (ne_of_none e h)]; exact s.keep b u e n
  dom := fun b e => by
    by_cases hb : b = p
    · subst hb; exact absurd h e
    · rw [upd_ne hb]; exact s.dom b e
  tp := fun b xs e => by
    by_cases hb : b = p
    · subst hb; exact .inl h
    · rw [upd_ne hb] at e; exact s.tp b xs e
theorem Wd.write  {K : PySem.W.Frag} {w : Om} {F He H : Hp} {p : Addr} {o : HO} (x : Wd K w F He H) (n : F p = none) (m : He p = none) : Wd K w F He (upd H p o) where
  sf := fun b u e => by rw [upd_ne (ne_of_none e n)]; exact x.sf b u e
  sh := fun b u e => by rw [upd_ne (ne_of_none e m)]; exact x.sh b u e
  dj := x.dj
  ex := x.ex
theorem Step.fresh {F He H F' He' H' : Hp} {p : Addr} {o : HO} (s : Step F He H F' He' H') (h : H p = some o) (n : F p = none) (ht : ∀ xs, o ≠ .tup xs := by intro xs e; cases e) : F' p = none := by
  refine Classical.byContradiction fun q => ?_
  rcases s.fzN p q with q | q | ⟨xs, q⟩
  · exact q n
  · rw [h] at q; cases q
  · rw [h] at q; cases q; exact ht xs rfl
theorem Step.freshE {F He H F' He' H' : Hp} {p : Addr} (s : Step F He H F' He' H') (h : H p ≠ none) (n : He p = none) : He' p = none :=
  Classical.byContradiction fun q => (s.heN p q).elim (fun q => q n) fun q => h q
section
variable {X : Cx} {z : Ent} {pos : Pos}
theorem PTs.imp {X : Cx} {es : List Expr} {t t' : TT} (h : PTs X es t) (f : ∀ σ H Q, t' σ H Q → t σ H Q) : PTs X es t' := ⟨fun pins s σ H Q I q => h.run pins s σ H Q I (f σ H Q q)⟩
def dYes  : DTs_ := fun _ w Q => Q true w
theorem jts_nil : PTs X [] (liftT z dYes) := PTs.imp pts_nil fun σ H Q ⟨δ, w, F, He, P, R, q, k⟩ => k _ _ q H F He R.wd .refl
theorem jts_one {c : Expr} {t : DTs_} (h : JT X z c t) : PTs X [c] (liftT z t) := pts_one h
theorem lc_lift {it : DI} {G : TG} {g : DG} {tt : DTs_} {te : DX} {vs : List Nat} (ok : GOkV z vs G g) {σ : St} {H : Hp} {Q : VK} (h : liftX z (dLc it g tt te vs) σ H Q) : tLc (liftI z it) G (liftT z tt) (liftX z te) vs σ H Q := by
  obtain ⟨δ, w, F, He, P, R, q, k⟩ := h
  refine ⟨δ, w, F, He, _, R, q, fun ds w1 q1 J H1 F1 He1 wd1 st1 io D hD => ?_⟩
  have R1 := (R.step wd1 st1).wipe vs
  have hF1 : F1 D = none := wd1.fnone hD
  have hE1 : He1 D = none := wd1.henone hD
  refine ⟨fun i m H => m = ds.length - i ∧ i ≤ ds.length ∧ ∃ w F He accV accD, Wd z.K w F He H ∧ Step F1 He1 H1 F He H ∧ H D = some (.lst accV) ∧ F D = none ∧ He D = none ∧ DRs z.K F accV accD ∧ dLcGo g tt te (wipeD δ vs) (ds.drop i) accD w P,
    ⟨ds.length, by simp, Nat.zero_le _, w1, F1, He1, [], [], wd1.alloc hD, .alloc hD, upd_same, hF1, hE1, .nil, q1⟩, ?_⟩
  rintro i m H2 ⟨rfl, hle, w2, F2, He2, accV, accD, wd2, st2, hD2, hF2, hE2, ra, q2⟩
  have sH : Same F1 H2 := st2.fz.trans wd2.sf
  by_cases hlt : i < ds.length
  · refine .inr ⟨io.go i H2 sH hlt, fun H' => ∃ w F He accV accD, Wd z.K w F He H' ∧ Step F1 He1 H1 F He H' ∧ H' D = some (.lst accV) ∧ F D = none ∧ He D = none ∧ DRs z.K F accV accD ∧ dLcGo g tt te (wipeD δ vs) (ds.drop (i + 1)) accD w P,
      fun H' h => ⟨ds.length - (i + 1), by omega, rfl, hlt, h⟩, fun x H3 y => ?_⟩
    rw [List.drop_eq_getElem_cons hlt] at q2
    -- the item is there: the heap is as it was, or one tuple more
    have go : ∀ F3, Wd z.K w2 F3 He2 H3 → Step F2 He2 H2 F3 He2 H3 → DR z.K F3 x ds[i] → G x (L2.wipe σ vs) H3 fun σ2 H2 => L2.wipe σ2 vs = L2.wipe σ vs ∧ liftT z tt σ2 H2 fun b H3 => if b = true then liftX z te σ2 H3 fun y H4 => ∃ acc, H4 D = some (.lst acc) ∧ acc.length < sizeLine ∧
        (∃ w F He accV accD, Wd z.K w F He (upd H4 D (.lst (acc ++ [y]))) ∧ Step F1 He1 H1 F He (upd H4 D (.lst (acc ++ [y]))) ∧ (upd H4 D (.lst (acc ++ [y]))) D = some (.lst accV) ∧ F D = none ∧ He D = none ∧ DRs z.K F accV accD ∧ dLcGo g tt te (wipeD δ vs) (ds.drop (i + 1)) accD w P)
        else ∃ w F He accV accD, Wd z.K w F He H3 ∧ Step F1 He1 H1 F He H3 ∧ H3 D = some (.lst accV) ∧ F D = none ∧ He D = none ∧ DRs z.K F accV accD ∧ dLcGo g tt te (wipeD δ vs) (ds.drop (i + 1)) accD w P := by
      intro F3 wd3 st3 rx
      have nD2 : H2 D ≠ none := by rw [hD2]; exact fun z => nomatch z
      have hF3 := st3.fresh hD2 hF2
      have hD3 := st3.keep D _ hD2 hE2
      have nD3 : H3 D ≠ none := by rw [hD3]; exact fun z => nomatch z
      have st3' := st2.trans st3
      refine ok (wipeD δ vs) w2 F3 He2 H3 (L2.wipe σ vs) x ds[i] _ _ (R1.step wd3 st3') rx q2 fun δ4 σ4 q4 R4 e4 => ⟨e4.trans (wipe_wipe vs vs fun _ h => h), ?_⟩
      refine ⟨δ4, w2, F3, He2, _, R4, q4, fun b w5 q5 H5 F5 He5 wd5 st5 => ?_⟩
      have hF5 := st5.fresh hD3 hF3
      have hE5 := st5.freshE nD3 hE2
      have hD5 := st5.keep D _ hD3 hE2
      have nD5 : H5 D ≠ none := by rw [hD5]; exact fun z => nomatch z
      have st5' := st3'.trans st5
      have ra5 := (ra.mono st3.fz).mono st5.fz
      cases b with
      | false => exact ⟨w5, F5, He5, accV, accD, wd5, st5', hD5, hF5, hE5, ra5, q5⟩
      | true =>
        refine ⟨δ4, w5, F5, He5, _, R4.step wd5 st5, q5, fun bb e w6 q6 v H6 F6 He6 wd6 st6 r6 => ?_⟩
        obtain ⟨F7, st7, wd7, r7, s7⟩ := r6.thaw st6 wd6
        have hF7 := st7.fresh hD5 hF5
        have hE7 := st7.freshE nD5 hE5
        refine ⟨accV, st7.keep D _ hD5 hE5, by rw [ra.length]; exact q6.1, w6, F7, He6, accV ++ [v], accD ++ [e], wd7.write hF7 hE7, (st5'.trans st7).write hD, upd_same, hF7, hE7, (ra5.mono st7.fz).append (.cons r7 .nil), q6.2⟩
    rcases io.yld i H2 x H3 sH hlt y with ⟨rfl, d, hd, rd⟩ | ⟨T, us, es, rfl, hT, rfl, hd, rd⟩
    · rw [List.getElem?_eq_getElem hlt] at hd
      cases hd
      exact go F2 wd2 .refl (rd.mono st2.fz)
    · rw [List.getElem?_eq_getElem hlt] at hd
      have hd' := Option.some.inj hd
      have hF : F2 T = none := wd2.fnone hT
      have hE : He2 T = none := wd2.henone hT
      refine go (upd F2 T (.tup us)) ((wd2.alloc hT).freeze upd_same hF hE) ((Step.alloc hT).freeze hF hT) ?_
      rw [hd']
      exact .tup upd_same ((rd.mono st2.fz).mono (same_upd hF))
  · have e : i = ds.length := by omega
    subst e
    rw [List.drop_length] at q2
    refine .inl ⟨io.stop H2 sH, k _ _ _ q2 _ H2 F2 He2 wd2 (st1.trans st2) ⟨D, _, rfl, hD2, hF2, hE2, Classical.byContradiction fun q => st1.dom D q hD, .lst ra⟩⟩
theorem jx_lc {elt tg iter : Expr} {ifs : List Expr} {scope : Scope} {own : List (Str × Nat)} {it : DI} {G : TG} {g : DG} {tt : DTs_} {te : DX} (hc : X.calm = true) (hN : X.N.Nodup) (hi : PI X tg iter (liftI z it)) (ok : BlkOk X.N X.env.scope scope own) (gok : GOkV z (own.map (·.2)) G g)
    (hg : ∀ (s : Shared) (H : Hp) (C : Addr) (cl : List (Str × Addr)) (fp : List Addr), PG (X.blk s H scope (compEnvC scope cl C X.env) fp) tg G) (ht : ∀ (s : Shared) (H : Hp) (C : Addr) (cl : List (Str × Addr)) (fp : List Addr), PTs (X.blk s H scope (compEnvC scope cl C X.env) fp) ifs (liftT z tt))
    (he : ∀ (s : Shared) (H : Hp) (C : Addr) (cl : List (Str × Addr)) (fp : List Addr), JX (X.blk s H scope (compEnvC scope cl C X.env) fp) z elt te) (hs : ∀ x, foldedSetIterable iter X.env x = pure x := by intro _; rfl) :
    JX X z (.ListComp elt [⟨tg, iter, ifs, 0⟩] scope pos) (dLc it g tt te (own.map (·.2))) := PE.imp (pe_lc hc hN hi ok hg ht he hs) fun _ _ _ h => lc_lift gok h
theorem js_setLc {i : Nat} {y : Str} {py : Pos} {elt tg iter : Expr} {ifs : List Expr} {scope : Scope} {own : List (Str × Nat)} {it : DI} {G : TG} {g : DG} {tt : DTs_} {te : DX} {spos : Pos} (own' : Bool) (hc : X.calm = true) (hN : X.N.Nodup) (hy : X.N[i]? = some y) (hyl : X.env.scope.names.lookup y = some .local)
    (hsw : swapsWith (.ListComp elt [⟨tg, iter, ifs, 0⟩] scope pos) (some (.Name y py)) spos.line X.env = pure true) (hi : PI X tg iter (liftI z it)) (ok : BlkOk X.N X.env.scope scope own) (gok : GOkV z (own.map (·.2)) G g)
    (hg : ∀ (s : Shared) (H : Hp) (C : Addr) (cl : List (Str × Addr)) (fp : List Addr), PG (X.blk s H scope (compEnvC scope cl C X.env) fp) tg G) (ht : ∀ (s : Shared) (H : Hp) (C : Addr) (cl : List (Str × Addr)) (fp : List Addr), PTs (X.blk s H scope (compEnvC scope cl C X.env) fp) ifs (liftT z tt))
    (he : ∀ (s : Shared) (H : Hp) (C : Addr) (cl : List (Str × Addr)) (fp : List Addr), JX (X.blk s H scope (compEnvC scope cl C X.env) fp) z elt te) (hs : ∀ x, foldedSetIterable iter X.env x = pure x := by intro _; rfl) :
    JS X z (.Assign [.Name y py] (.ListComp elt [⟨tg, iter, ifs, 0⟩] scope pos) spos) (dSet own' i (dLc it g tt te (own.map (·.2)))) := PS.imp (ps_setLc hc hN hy hyl hsw hi ok hg ht he hs) fun D σ H h => by
  obtain ⟨δ, w, F, He, E, R, q, c⟩ := h
  refine lc_lift gok ⟨δ, w, F, He, _, R, q, fun b d w1 q1 v H1 F1 He1 wd1 st1 r1 => ?_⟩
  cases own' with
  | true => rw [Bool.and_true] at q1; exact c.nx _ _ _ _ _ _ q1 (R.assign wd1 st1 r1) st1.fz
  | false =>
    rw [Bool.and_false] at q1
    obtain ⟨F2, st2, wd2, r2, _⟩ := r1.thaw st1 wd1
    exact c.nx _ _ _ _ _ _ q1 (R.assign (b := false) wd2 st2 r2) st2.fz
end

/-! ### defs -/
/-- what a def is worth over data: arguments, the world, what is wanted of its result -/
abbrev DSp  := List D → Om → (Bool → D → Om → Prop) → Prop
def toSp (K : PySem.W.Frag) (T : DSp) : Sp := fun vs H Q _ => ∃ ds w F He P, Wd K w F He H ∧ DRs K F vs ds ∧ T ds w P ∧ ∀ b d w', P b d w' → ∀ v H' F' He', Wd K w' F' He' H' → Step F He H F' He' H' → Res K F' He' H H' b v d → Q v H'
/-- the def of this name keeps T -/
structure Fn (P : Program) (w : World) (K : PySem.W.Frag) (mg : Str → Option Value) (base : Heap)  (k : Nat) (x : Str) (T : DSp) : Prop where
  ex : ∃ (f : Addr) (fd : FuncData) (ps : List Str), FnOk P w K mg base CX0 k f fd ps (toSp K T) ∧ mg x = some (.ref f) ∧ PySem.W.keepIn K (.ref f) = true ∧ Binds K fd ps []
theorem Fn.mono {P : Program} {w : World} {K : PySem.W.Frag} {mg : Str → Option Value} {base : Heap}  {j k : Nat} {x : Str} {T : DSp} (F : Fn P w K mg base j x T) (h : j ≤ k) : Fn P w K mg base k x T :=
  let ⟨f, fd, ps, a, b, c, d⟩ := F.ex; ⟨f, fd, ps, a.mono h, b, c, d⟩
def dCall  (T : DSp) (t : DA) : DX := fun δ w Q => t δ w fun ds w1 => T ds w1 Q
section
variable {X : Cx} {z : Ent} {pos : Pos}
theorem call_lift {T : DSp} {t : DA} {σ : St} {H : Hp} {Q : VK} {K : PySem.W.Frag} (hK : z.K = K) (h : liftX z (dCall T t) σ H Q) : tCall (toSp K T) [] E0 (liftA z t) σ H Q := by
  subst hK
  obtain ⟨δ, w, F, He, P, R, q, k⟩ := h
  refine ⟨δ, w, F, He, _, R, q, fun ds w1 q1 vs H1 F1 He1 wd1 st1 r1 => ?_⟩
  show toSp z.K T (vs ++ []) H1 Q E0
  rw [List.append_nil]
  exact ⟨ds, w1, F1, He1, P, wd1, r1, q1, fun b d w' p v H' F' He' wd st r => k b d w' p v H' F' He' wd (st1.trans st) (r.base st1)⟩
theorem jx_call {k : Nat} {T : DSp} {t : DA} {x : Str} {p : Pos} {e : Expr} {es : List Expr} (f : Fn X.prog X.w X.K X.mg X.base k x T) (hK : z.K = X.K) (hr : Room k X.A) (ha : JA X z (e :: es) t) (hg : Gl X x := by rfl)
    (hdb : (x == ("__debug__" : Str)) = false := by decide) (he : starEach (e :: es) X.env = (false, eval e X.env) :: starEach es X.env := by rfl) (hpl : (backTo pos (starEach es X.env)).any (·.1) = false := by rfl) : JX X z (.Call (.Name x p) (e :: es) [] pos) (dCall T t) := by
  obtain ⟨fa, fd, ps, a, b, c, d⟩ := f.ex
  exact PE.imp (pe_call a hr hg b c d .nil pass0 ha hdb he hpl) fun _ _ _ h => call_lift hK h
theorem jx_call0 {k : Nat} {T : DSp} {x : Str} {p : Pos} (f : Fn X.prog X.w X.K X.mg X.base k x T) (hK : z.K = X.K) (hr : Room k X.A) (hg : Gl X x := by rfl) (hdb : (x == ("__debug__" : Str)) = false := by decide) : JX X z (.Call (.Name x p) [] [] pos) (dCall T dNil) := by
  obtain ⟨fa, fd, ps, a, b, c, d⟩ := f.ex
  refine PE.imp (pe_call0 a hr hg b c d .nil pass0 hdb) fun σ H Q h => ?_
  obtain ⟨δ, w, F, He, P, R, q, k⟩ := h
  show toSp X.K T [] H Q E0
  rw [← hK]
  exact ⟨[], w, F, He, P, R.wd, .nil, q, fun b d w' p v H' F' He' wd st r => k b d w' p v H' F' He' wd st r⟩
end
def startD (N : List Str) (ds : List D) : DSt := ds.map (fun d => some (false, d)) ++ List.replicate (N.length - ds.length) none
theorem DRs.getAt {K : PySem.W.Frag} {F : Hp} {vs : List V} {ds : List D} (r : DRs K F vs ds) {i : Nat} {d : D} (h : ds[i]? = some d) : ∃ v, vs[i]? = some v ∧ DR K F v d := r.get h
theorem rel_start  {K : PySem.W.Frag} {w : Om} {F He H : Hp} {N : List Str} {vs : List V} {ds : List D} (wd : Wd K w F He H) (r : DRs K F vs ds) : Rel ⟨K, F, He, H, w, wd.ex⟩ (startD N ds) w F He (start N vs) H := by
  have hl := r.length
  refine ⟨wd, .refl, ?_, fun i s e => ?_, fun i j d1 d2 a e1 e2 a1 a2 => ?_⟩
  · unfold L2.start startD
    rw [List.length_append, List.length_append, List.length_map, List.length_map, List.length_replicate, List.length_replicate, hl]
  · unfold startD at e
    unfold L2.start
    by_cases hi : i < ds.length
    · rw [List.getElem?_append_left (by simpa using hi), List.getElem?_map, List.getElem?_eq_getElem hi] at e
      cases e
      obtain ⟨v, hv, rv⟩ := r.get (List.getElem?_eq_getElem hi)
      refine ⟨some v, ?_, v, rfl, rv⟩
      rw [List.getElem?_append_left (by simpa [hl] using hi), List.getElem?_map, hv]
      rfl
    · rw [List.getElem?_append_right (by simpa using hi), List.length_map, List.getElem?_replicate] at e
      split at e
      · next hlt =>
        cases e
        refine ⟨none, ?_, True.intro⟩
        rw [List.getElem?_append_right (by rw [List.length_map]; omega), List.length_map, List.getElem?_replicate, if_pos (by omega)]
      · cases e
  · unfold startD at e1
    by_cases hi : i < ds.length
    · rw [List.getElem?_append_left (by simpa using hi), List.getElem?_map, List.getElem?_eq_getElem hi] at e1
      cases e1
    · rw [List.getElem?_append_right (by simpa using hi), List.length_map, List.getElem?_replicate] at e1
      split at e1 <;> cases e1
section
variable {P : Program} {w : World} {K : PySem.W.Frag} {mg : Str → Option Value} {base : Heap}
/-- a def by its body's reading over data -/
theorem fn_ok  {T : DSp} {x qual : Str} {st : Stmt} {f : Addr} {fd : FuncData} {N ps : List Str} {k : Nat} (F : L2.Fun K x qual st f fd) (S : FnScope N ps (defScope st)) (hm : mg x = some (.ref f))
    (hbd : ∀ (kV doc pm : Value) (an : Option Addr) (cdv ct : Value) (us : List Value), us.length = ps.length → bindArgs (PySem.W.fnOf x qual (defArgs st) (defBody st) (defScope st) .none kV doc pm an cdv ct) ⟨us, []⟩ = pure (ps.zip us))
    (len : ∀ ds w P, T ds w P → ds.length = ps.length)
    (h : ∃ tb : Om → DS, (∀ (cdv : Value) (A : Around) (outer : List Env) (s : Shared) (H F0 He0 : Hp) (w0 : Om) (rep0 : rep K w0 F0 He0) (E : XK), Room k (A.deeper (PyProof.Rows.envOfC qual (defScope st) s.heap.objs.size f cdv)) → JSs (cxOf CX0 P w K mg base N qual (defScope st) f cdv A outer s H E).nox ⟨K, F0, He0, H, w0, rep0⟩ (defBody st) (tb w0)) ∧
      ∀ ds w P, T ds w P → tb w { nx := fun _ w => P false .non w, rt := P } (startD N ds) w) : Fn P w K mg base (k + 1) x T := by
  obtain ⟨tb, hb, hT⟩ := h
  refine ⟨f, fd, ps, F.ok S (fun vs H Q E h => ?_) (fun cdv A outer s H vs Q E hr h => ?_), hm, F.kp, F.binds hbd⟩
  · obtain ⟨ds, w, F, He, P, _, r, q, _⟩ := h
    rw [r.length]
    exact len _ _ _ q
  · obtain ⟨ds, w, F, He, P, wd, r, q, k⟩ := h
    refine ⟨_, hb cdv A outer s H F He w wd.ex E hr, startD N ds, w, F, He, _, rel_start wd r, hT ds w P q, ?_⟩
    exact ⟨fun δ w' F' He' σ H' p R _ => k _ _ _ p .non H' F' He' R.wd R.st .non, fun b d w' p v H' F' He' wd' st' rr => k b d w' p v H' F' He' wd' st' rr, fun _ _ _ _ _ _ p => p.elim, fun _ _ _ _ _ _ p => p.elim⟩
end
end Lv

namespace Lv
open PySem PySem.Spec L2

/-! ### a call that gives a plain thing back: its arguments stay one's own -/
def D.scal : D → Bool
  | .non => true | .bl _ => true | .int _ => true | .str _ => true | _ => false

/-! ### builtins of the top that nobody has bound -/
theorem bt_int : bootBuiltins "int" = some (.type "int") := by decide +kernel
theorem bt_bool : bootBuiltins "bool" = some (.type "bool") := by decide +kernel
theorem bt_list : bootBuiltins "list" = some (.type "list") := by decide +kernel
theorem bt_tuple : bootBuiltins "tuple" = some (.type "tuple") := by decide +kernel
theorem bt_str : bootBuiltins "str" = some (.type "str") := by decide +kernel
theorem bt_dict : bootBuiltins "dict" = some (.type "dict") := by decide +kernel
theorem bb_len : bootBuiltins "len" = some (.builtin "len") := by decide +kernel
theorem bb_abs : bootBuiltins "abs" = some (.builtin "abs") := by decide +kernel
theorem bb_max : bootBuiltins "max" = some (.builtin "max") := by decide +kernel
theorem bb_min : bootBuiltins "min" = some (.builtin "min") := by decide +kernel
theorem bb_sum : bootBuiltins "sum" = some (.builtin "sum") := by decide +kernel
theorem bb_sorted : bootBuiltins "sorted" = some (.builtin "sorted") := by decide +kernel
theorem bb_isinstance : bootBuiltins "isinstance" = some (.builtin "isinstance") := by decide +kernel
theorem hu0 {k : Nat} {A : Around} (r : Room k A) : A.units < cLine := by have := r.un; omega
theorem hu1 {k : Nat} {A : Around} (r : Room k A) : A.units + 1 < cLine := by have := r.un; omega
theorem hu64 {k : Nat} {A : Around} (r : Room k A) : A.units + 64 < cLine := by have := r.un; omega
theorem hu65 {k : Nat} {A : Around} (r : Room k A) : A.units + 65 < cLine := by have := r.un; omega
/-- a def as the top has left it -/
structure TopFn (K : PySem.W.Frag) (mg : Str → Option Value) (x qual : Str) (st : Stmt) (f : Addr) (fd : FuncData) : Prop where
  fn : L2.Fun K x qual st f fd
  at_ : mg x = some (.ref f)

theorem if_t {p : Prop} [Decidable p] {a b : Prop} (h : p) (q : a) : if p then a else b := by rw [if_pos h]; exact q
theorem if_f {p : Prop} [Decidable p] {a b : Prop} (h : ¬p) (q : b) : if p then a else b := by rw [if_neg h]; exact q
/-! ### loops over data -/
section
theorem seq_i {t u : DS} {E : DEnds} {δ : DSt} {w : Om} (h : t ⟨u E, E.rt, E.bk, E.ct⟩ δ w) : dSeq t u E δ w := h
/-- a block cut behind its first statement -/
theorem seq_cut {t u : DS} {E : DEnds} {δ : DSt} {w : Om} (S : DSt → Om → Prop) (h1 : ∀ N : DSt → Om → Prop, (∀ δ w, S δ w → N δ w) → t ⟨N, E.rt, E.bk, E.ct⟩ δ w) (h2 : ∀ δ w, S δ w → u E δ w) : dSeq t u E δ w := h1 _ h2
theorem for_inv {α : Type} {g : DG} {t : DS} {E : DEnds} (f : α → D) (I : List α → DSt → Om → Prop) (xs : List α)
    (hs : ∀ pre x post δ w (N C : DSt → Om → Prop), xs = pre ++ x :: post → I pre δ w → (∀ δ' w', I (pre ++ [x]) δ' w' → N δ' w') → (∀ δ' w', I (pre ++ [x]) δ' w' → C δ' w') → g (f x) δ fun δ1 => t ⟨N, E.rt, E.nx, C⟩ δ1 w)
    (hd : ∀ δ w, I xs δ w → E.nx δ w) : ∀ (post pre : List α), xs = pre ++ post → ∀ δ w, I pre δ w → dForGo g t E (post.map f) δ w
  | [], pre, e, δ, w, h => by
    rw [List.append_nil] at e
    subst e
    exact hd δ w h
  | x :: post, pre, e, δ, w, h => by
    have e2 : xs = (pre ++ [x]) ++ post := by rw [e]; simp
    have ih := for_inv f I xs hs hd post (pre ++ [x]) e2
    exact hs pre x post δ w _ _ e h ih ih
/-- a for over data that are told by f of some list -/
theorem for_go {α : Type} {g : DG} {t : DS} {E : DEnds} (f : α → D) (I : List α → DSt → Om → Prop) (xs : List α) {δ : DSt} {w : Om} (h0 : I [] δ w)
    (hs : ∀ pre x post δ w (N C : DSt → Om → Prop), xs = pre ++ x :: post → I pre δ w → (∀ δ' w', I (pre ++ [x]) δ' w' → N δ' w') → (∀ δ' w', I (pre ++ [x]) δ' w' → C δ' w') → g (f x) δ fun δ1 => t ⟨N, E.rt, E.nx, C⟩ δ1 w)
    (hd : ∀ δ w, I xs δ w → E.nx δ w) : dForGo g t E (xs.map f) δ w := for_inv f I xs hs hd xs [] rfl δ w h0
/-- a for over a range -/
theorem for_rng {g : DG} {t : DS} {E : DEnds} (lo : Int) (n : Nat) (I : Nat → DSt → Om → Prop) {δ : DSt} {w : Om} (h0 : I 0 δ w)
    (hs : ∀ k δ w (N C : DSt → Om → Prop), k < n → I k δ w → (∀ δ' w', I (k + 1) δ' w' → N δ' w') → (∀ δ' w', I (k + 1) δ' w' → C δ' w') → g (.int (lo + (k : Nat))) δ fun δ1 => t ⟨N, E.rt, E.nx, C⟩ δ1 w)
    (hd : ∀ δ w, I n δ w → E.nx δ w) : dForGo g t E (rngD lo n) δ w := by
  refine for_go (fun k : Nat => D.int (lo + (k : Nat))) (fun pre δ w => I pre.length δ w) (List.range n) h0 (fun pre x post δ w N C e h hN hC => ?_) (fun δ w h => hd δ w (by simpa using h))
  have hx : x = pre.length ∧ pre.length < n := by
    have h1 : (List.range n)[pre.length]? = some x := by rw [e]; simp
    have h2 : pre.length < n := by
      have := (List.getElem?_eq_some_iff.mp h1).1
      simpa using this
    rw [List.getElem?_range h2] at h1
    exact ⟨(Option.some.inj h1).symm, h2⟩
  obtain ⟨rfl, hlt⟩ := hx
  exact hs _ δ w N C hlt h (fun δ' w' h => hN δ' w' (by simpa using h)) (fun δ' w' h => hC δ' w' (by simpa using h))
/-- a while, by a word I over states a of one's own with a measure -/
theorem while_go {α : Type} {c : DTs_} {t : DS} {E : DEnds} (I : α → DSt → Om → Prop) (μ : α → Nat)
    (hs : ∀ a δ w, I a δ w → ∀ N : DSt → Om → Prop, (∀ a' δ' w', I a' δ' w' → μ a' < μ a → N δ' w') → c δ w fun k w1 => if k = true then t ⟨N, E.rt, E.nx, N⟩ δ w1 else E.nx δ w1)
    (a : α) {δ : DSt} {w : Om} (h : I a δ w) : dWhile c t E δ w := by
  have key : ∀ n a δ w, I a δ w → μ a < n → wN c t E n δ w := by
    intro n
    induction n with
    | zero => intro a δ w _ h; omega
    | succ n ih => exact fun a δ w hI hm => hs a δ w hI _ fun a' δ' w' hI' hlt => ih a' δ' w' hI' (by omega)
  exact ⟨μ a + 1, key _ a δ w h (Nat.lt_succ_self _)⟩
/-- a comprehension: f the item, h what comes of it -/
theorem lc_map {α : Type} {i : Nat} {te : DX} {δ : DSt} {w : Om} {Q : Bool → D → Om → Prop} (f : α → D) (h : α → D) (xs : List α)
    (hs : ∀ x ∈ xs, ∀ P : Bool → D → Om → Prop, (∀ b, P b (h x) w) → te (δ.set i (some (false, f x))) w P) :
    ∀ acc : List D, acc.length + xs.length ≤ sizeLine → Q true (.lst (acc ++ xs.map h)) w → dLcGo (gN i) dYes te δ (xs.map f) acc w Q := by
  induction xs with
  | nil => intro acc _ q; rw [List.map_nil, List.append_nil] at q; exact q
  | cons x xs ih =>
    intro acc hz q
    simp only [List.map_cons, dLcGo, gN, dYes, if_true]
    refine hs x List.mem_cons_self _ fun b => ⟨by simp at hz; omega, ?_⟩
    exact ih (fun y hy => hs y (List.mem_cons_of_mem _ hy)) _ (by simp at hz ⊢; omega) (by simpa using q)
/-- a comprehension with a test -/
theorem lc_filter {α : Type} {i : Nat} {tt : DTs_} {te : DX} {δ : DSt} {w : Om} {Q : Bool → D → Om → Prop} (f : α → D) (h : α → D) (p : α → Bool) (xs : List α)
    (ht : ∀ x ∈ xs, ∀ P : Bool → Om → Prop, P (p x) w → tt (δ.set i (some (false, f x))) w P)
    (hs : ∀ x ∈ xs, p x = true → ∀ P : Bool → D → Om → Prop, (∀ b, P b (h x) w) → te (δ.set i (some (false, f x))) w P) :
    ∀ acc : List D, acc.length + xs.length ≤ sizeLine → Q true (.lst (acc ++ (xs.filter p).map h)) w → dLcGo (gN i) tt te δ (xs.map f) acc w Q := by
  induction xs with
  | nil => intro acc _ q; rw [List.filter_nil, List.map_nil, List.append_nil] at q; exact q
  | cons x xs ih =>
    intro acc hz q
    simp only [List.map_cons, dLcGo, gN]
    refine ht x List.mem_cons_self _ ?_
    have ih' := ih (fun y hy => ht y (List.mem_cons_of_mem _ hy)) (fun y hy => hs y (List.mem_cons_of_mem _ hy))
    by_cases hp : p x = true
    · rw [if_pos hp]
      refine hs x List.mem_cons_self hp _ fun b => ⟨by simp at hz; omega, ?_⟩
      exact ih' _ (by simp at hz ⊢; omega) (by simpa [List.filter_cons, hp] using q)
    · rw [if_neg hp]
      exact ih' _ (by simp at hz ⊢; omega) (by simpa [List.filter_cons, hp] using q)
end
/-- words -/
def wD (ws : List Int) : D := .tup (ws.map .int)
def iD (ws : List Int) : D := .lst (ws.map .int)
theorem pyAll_ints : ∀ ns : List Int, pyAll (ns.map .int) = ns.map .int
  | [] => rfl
  | n :: ns => by simp [pyAll, D.py, pyAll_ints ns]
theorem plAll_ints : ∀ ns : List Int, plAll (ns.map .int) = true
  | [] => rfl
  | n :: ns => by simp [plAll, D.pl, plAll_ints ns]
theorem eqvAll_ints : ∀ ns ms : List Int, PyData.eqvAll (ns.map .int) (ms.map .int) = decide (ns = ms)
  | [], [] => rfl
  | [], _ :: _ => rfl
  | _ :: _, [] => rfl
  | n :: ns, m :: ms => by
    simp only [List.map_cons, PyData.eqvAll, PyData.eqv, eqvAll_ints ns ms]
    by_cases h : n = m <;> by_cases h2 : ns = ms <;> simp [h, h2]
theorem depthAll_ints : ∀ ns : List Int, PyData.depthAll (ns.map .int) = 0
  | [] => rfl
  | n :: ns => by simp [PyData.depthAll, PyData.depth, depthAll_ints ns]
theorem eqv_ww (ns ms : List Int) : D.eqv (.tup (ns.map .int)) (.tup (ms.map .int)) = decide (ns = ms) := by simp only [D.eqv, D.py, PyData.eqv, pyAll_ints, eqvAll_ints]
theorem eqv_ll (ns ms : List Int) : D.eqv (.lst (ns.map .int)) (.lst (ms.map .int)) = decide (ns = ms) := by simp only [D.eqv, D.py, PyData.eqv, pyAll_ints, eqvAll_ints]
theorem eqv_ii (n m : Int) : D.eqv (.int n) (.int m) = decide (n = m) := by
  show (n == m) = decide (n = m)
  exact Bool.beq_eq_decide_eq n m
theorem sEq_ii (n m : Int) (P : Bool → D → Prop) : sEq (.int n) (.int m) P = P false (.bl (decide (n = m))) := by
  unfold sEq
  rw [eqv_ii]
  simp [D.pl, D.py, PyData.depth]
theorem sNe_ii (n m : Int) (P : Bool → D → Prop) : sNe (.int n) (.int m) P = P false (.bl (!decide (n = m))) := by
  unfold sNe
  rw [eqv_ii]
  simp [D.pl, D.py, PyData.depth]
theorem sEq_ww (n m : List Int) (P : Bool → D → Prop) : sEq (.tup (n.map .int)) (.tup (m.map .int)) P = P false (.bl (decide (n = m))) := by
  unfold sEq
  rw [eqv_ww]
  simp [D.pl, D.py, PyData.depth, pyAll_ints, depthAll_ints, plAll_ints]
theorem sNe_ww (n m : List Int) (P : Bool → D → Prop) : sNe (.tup (n.map .int)) (.tup (m.map .int)) P = P false (.bl (!decide (n = m))) := by
  unfold sNe
  rw [eqv_ww]
  simp [D.pl, D.py, PyData.depth, pyAll_ints, depthAll_ints, plAll_ints]
theorem sEq_ll (n m : List Int) (P : Bool → D → Prop) : sEq (.lst (n.map .int)) (.lst (m.map .int)) P = P false (.bl (decide (n = m))) := by
  unfold sEq
  rw [eqv_ll]
  simp [D.pl, D.py, PyData.depth, pyAll_ints, depthAll_ints, plAll_ints]
theorem sNe_ll (n m : List Int) (P : Bool → D → Prop) : sNe (.lst (n.map .int)) (.lst (m.map .int)) P = P false (.bl (!decide (n = m))) := by
  unfold sNe
  rw [eqv_ll]
  simp [D.pl, D.py, PyData.depth, pyAll_ints, depthAll_ints, plAll_ints]
theorem kitB_ii : kitB "int" "int" = some true := by decide +kernel
theorem kitB_ib : kitB "int" "bool" = some false := by decide +kernel
theorem kitB_ll : kitB "list" "list" = some true := by decide +kernel
theorem kitB_tt : kitB "tuple" "tuple" = some true := by decide +kernel
theorem kitB_ss : kitB "str" "str" = some true := by decide +kernel
theorem sIsi_ii (i : Int) (P : Bool → D → Prop) : sIsi (.int i) (.ty "int") P = P false (.bl true) := by
  unfold sIsi; simp [tyD, kitB_ii]
theorem sIsi_ib (i : Int) (P : Bool → D → Prop) : sIsi (.int i) (.ty "bool") P = P false (.bl false) := by
  unfold sIsi; simp [tyD, kitB_ib]
theorem sIsi_ll (ds : List D) (P : Bool → D → Prop) : sIsi (.lst ds) (.ty "list") P = P false (.bl true) := by
  unfold sIsi; simp [tyD, kitB_ll]
theorem sIsi_tt (ds : List D) (P : Bool → D → Prop) : sIsi (.tup ds) (.ty "tuple") P = P false (.bl true) := by
  unfold sIsi; simp [tyD, kitB_tt]
theorem sIsi_ss (x : Str) (P : Bool → D → Prop) : sIsi (.str x) (.ty "str") P = P false (.bl true) := by
  unfold sIsi; simp [tyD, kitB_ss]
theorem atI_nn {α : Type} {xs : List α} {i : Int} (h : 0 ≤ i) (h2 : i < xs.length) : atI xs i = xs[i.toNat]? := by
  unfold atI ixN
  rw [if_pos h, if_pos h2]
  rfl
theorem divC {i j : Int} (h : 0 < j) (h2 : j < 2 ^ 64) : CDivW i j := by
  refine wide_div h (b := 64) ?_ (by decide) (by decide)
  omega
theorem mulC {i j : Int} (h : -(2 ^ 64) < i) (h2 : i < 2 ^ 64) : MulC i j := .inl (.inl ⟨h, h2⟩)
theorem mulC' {i j : Int} (h : -(2 ^ 64) < j) (h2 : j < 2 ^ 64) : MulC i j := .inl (.inr ⟨h, h2⟩)
end Lv
namespace Lv
open PySem PySem.Spec L2
section
variable {P : Program} {w : World} {K : PySem.W.Frag} {mg : Str → Option Value} {base : Heap}
theorem fn_okF  {T : DSp} {x qual : Str} {st : Stmt} {f : Addr} {fd : FuncData} {N ps : List Str} {k : Nat} (F : L2.Fun K x qual st f fd) (S : FnScope N ps (defScope st))
    (len : ∀ ds w P, T ds w P → ds.length = ps.length)
    (h : ∃ tb : Om → DS, (∀ (cdv : Value) (A : Around) (outer : List Env) (s : Shared) (H F0 He0 : Hp) (w0 : Om) (rep0 : rep K w0 F0 He0) (E : XK), Room k (A.deeper (PyProof.Rows.envOfC qual (defScope st) s.heap.objs.size f cdv)) → JSs (cxOf CX0 P w K mg base N qual (defScope st) f cdv A outer s H E).nox ⟨K, F0, He0, H, w0, rep0⟩ (defBody st) (tb w0)) ∧
      ∀ ds w P, T ds w P → tb w { nx := fun _ w => P false .non w, rt := P } (startD N ds) w) : FnOk P w K mg base CX0 (k + 1) f fd ps (toSp K T) := by
  obtain ⟨tb, hb, hT⟩ := h
  refine F.ok S (fun vs H Q E h => ?_) (fun cdv A outer s H vs Q E hr h => ?_)
  · obtain ⟨ds, w, F, He, P, _, r, q, _⟩ := h
    rw [r.length]
    exact len _ _ _ q
  · obtain ⟨ds, w, F, He, P, wd, r, q, k⟩ := h
    refine ⟨_, hb cdv A outer s H F He w wd.ex E hr, startD N ds, w, F, He, _, rel_start wd r, hT ds w P q, ?_⟩
    exact ⟨fun δ w' F' He' σ H' p R _ => k _ _ _ p .non H' F' He' R.wd R.st .non, fun b d w' p v H' F' He' wd' st' rr => k b d w' p v H' F' He' wd' st' rr, fun _ _ _ _ _ _ p => p.elim, fun _ _ _ _ _ _ p => p.elim⟩
end
/-- a law's promise: the script in, True out -/
def noMem : Om := fun _ => none
theorem rep_none {K : PySem.W.Frag} {F : Hp} : rep K noMem F (fun _ => none) := ⟨(fun _ _ e => nomatch e), fun _ _ => .inl rfl⟩
def lawT : DSp := fun ds w P => ∃ ns : List Int, ds = [.scr ns] ∧ ns.length ≤ 63 ∧ w = noMem ∧ ∀ w', P false (.bl true) w'
theorem law_sp {K : PySem.W.Frag} {a : Addr} {ns : List Int} {H : Hp} {Q : VK} {E : XK} (hl : ns.length ≤ 63) (hS : SqL K H a (ns.map V.int)) (hQ : ∀ H', Q (.bl true) H') : toSp K lawT [.ref a] H Q E := by
  refine ⟨[.scr ns], noMem, H, fun _ => none, fun b d _ => b = false ∧ d = .bl true, ⟨Same.refl _, (fun b o e => nomatch e), (fun b o e => nomatch e), rep_none⟩, .cons (.scr hS) .nil, ⟨ns, rfl, hl, rfl, fun _ => ⟨rfl, rfl⟩⟩, fun b d w' p v H' F' He' _ _ r => ?_⟩
  obtain ⟨rfl, rfl⟩ := p
  cases r
  exact hQ H'
end Lv

namespace Lv
open PySem PySem.Spec L2

/-! ### the results' readers, stuck where the result isn't known -/
section
variable {α : Type}
def kB (Q : Bool → α → Prop) (w : α) : D → Prop
  | .bl k => Q k w
  | _ => False
def kT (Q : Bool → α → Prop) (w : α) : D → Prop
  | .non => Q false w
  | .bl k => Q k w
  | .int i => Q (i != 0) w
  | .str x => x.length ≤ sizeLine ∧ Q ((x.length : Int) != 0) w
  | .lst ds => Q (!ds.isEmpty) w
  | .tup ds => Q (!ds.isEmpty) w
  | .scr ds => Q (!ds.isEmpty) w
  | .dK ds => Q (!ds.isEmpty) w
  | _ => False
def kAnd (u : α → Prop) (Q : Bool → D → α → Prop) (w : α) : D → Prop
  | .bl k => if k = true then u w else Q false (.bl false) w
  | _ => False
def kOr (u : α → Prop) (Q : Bool → D → α → Prop) (w : α) : D → Prop
  | .bl k => if k = true then Q false (.bl true) w else u w
  | _ => False
def kNot (Q : Bool → D → α → Prop) (w : α) : D → Prop
  | .bl k => Q false (.bl (!k)) w
  | _ => False
def kIt (Q : List D → α → Prop) (w : α) : D → Prop
  | .lst ds => Q ds w
  | .tup ds => Q ds w
  | .scr ns => Q (ns.map .int) w
  | .str x => Q (strD x) w
  | _ => False
def kP (Q : Option Int → α → Prop) (w : α) : D → Prop
  | .int i => Q (some i) w
  | _ => False
def kR1 (Q : List D → α → Prop) (w : α) : D → Prop
  | .int j => (-(2 ^ 62) ≤ j ∧ j < 2 ^ 62) ∧ Q (rngD 0 j.toNat) w
  | _ => False
def kR2 (Q : List D → α → Prop) (w : α) : D → D → Prop
  | .int i, .int j => (-(2 ^ 62) ≤ i ∧ i < 2 ^ 62 ∧ -(2 ^ 62) ≤ j ∧ j < 2 ^ 62) ∧ Q (rngD i (j - i).toNat) w
  | _, _ => False
end
section

theorem dB_u (t : DX) (δ : DSt) (w : Om) (Q : Bool → Om → Prop) : dB t δ w Q = t δ w fun _ d w' => kB Q w' d := rfl
theorem dTru_u (t : DO) (δ : DSt) (w : Om) (Q : Bool → Om → Prop) : dTru t δ w Q = t δ w fun d w' => kT Q w' (res w' d) := rfl
theorem dAndV_u (t u : DX) (δ : DSt) (w : Om) (Q : Bool → D → Om → Prop) : dAndV t u δ w Q = t δ w fun _ d w' => kAnd (fun w => u δ w Q) Q w' d := rfl
theorem dOrV_u (t u : DX) (δ : DSt) (w : Om) (Q : Bool → D → Om → Prop) : dOrV t u δ w Q = t δ w fun _ d w' => kOr (fun w => u δ w Q) Q w' d := rfl
theorem dNotV_u (t : DX) (δ : DSt) (w : Om) (Q : Bool → D → Om → Prop) : dNotV t δ w Q = t δ w fun _ d w' => kNot Q w' d := rfl
theorem dIt_u (t : DX) (δ : DSt) (w : Om) (Q : List D → Om → Prop) : dIt t δ w Q = t δ w fun _ d w' => kIt Q w' d := rfl
theorem dP_u (t : DO) (δ : DSt) (w : Om) (Q : Option Int → Om → Prop) : dP t δ w Q = t δ w fun d w' => kP Q w' d := rfl
theorem dRng1_u (t : DO) (δ : DSt) (w : Om) (Q : List D → Om → Prop) : dRng1 t δ w Q = t δ w fun d w' => kR1 Q w' d := rfl
theorem dRng2_u (t u : DO) (δ : DSt) (w : Om) (Q : List D → Om → Prop) : dRng2 t u δ w Q = t δ w fun d w1 => u δ w1 fun e w2 => kR2 Q w2 d e := rfl
theorem dChain_u (s1 s2 : D → D → (Bool → D → Prop) → Prop) (ta tb tc : DO) (δ : DSt) (w : Om) (Q : Bool → D → Om → Prop) : dChain s1 s2 ta tb tc δ w Q = ta δ w fun d w1 => tb δ w1 fun e w2 => s1 (res w2 d) (res w2 e) fun _ r => kAnd (fun w2 => tc δ w2 fun f w3 => s2 (res w3 e) (res w3 f) fun b d' => Q b d' w3) Q w2 r := rfl
end
theorem atI_ints {ns : List Int} {k : Int} {x : Int} (h0 : 0 ≤ k) (h : ns[k.toNat]? = some x) : atI (ns.map D.int) k = some (.int x) := by
  have hl := (List.getElem?_eq_some_iff.mp h).1
  rw [atI_nn h0 (by rw [List.length_map]; omega), List.getElem?_map, h]
  rfl
theorem atI_k {ns : List Int} {k : Nat} (h : k < ns.length) : atI (ns.map D.int) (0 + (k : Int)) = some (.int ns[k]) := atI_ints (by omega) (by rw [show (0 + (k : Int)).toNat = k by omega]; simp)
theorem atI_scr {ns : List Int} {k : Int} (h0 : 0 ≤ k) (h : k < ns.length) : ∃ x, atI ns k = some x := ⟨ns[k.toNat], by rw [atI_nn h0 h]; simp⟩
theorem atI_lastD (p : List D) (x : D) : atI (p ++ [x]) (-1) = some x := by
  unfold atI ixN
  have e : (-1 + ((p.length : Int) + 1)).toNat = p.length := by omega
  have e2 : (1 : Int) ≤ p.length + 1 := by omega
  simp [e, e2]
theorem atI_last (p : List Int) (x : Int) : atI ((p ++ [x]).map D.int) (-1) = some (.int x) := by
  rw [List.map_append]
  exact atI_lastD _ _
theorem fPop_snoc (p : List D) (x : D) : fPop (p ++ [x]) = some p := by simp [fPop]
theorem fPop_snoc' (p : List Int) (x : Int) : fPop ((p ++ [x]).map D.int) = some (p.map D.int) := by simp [fPop]
theorem mod_bd (i : Int) {j : Int} (h : 0 < j) : 0 ≤ i % j ∧ i % j < j := ⟨Int.emod_nonneg i (by omega), Int.emod_lt_of_pos i h⟩
theorem kR1_c {α : Type} {Q : List D → α → Prop} {w : α} {j : Int} (h : -(2 ^ 62) ≤ j) (h2 : j < 2 ^ 62) (q : Q (rngD 0 j.toNat) w) : kR1 Q w (.int j) := ⟨⟨h, h2⟩, q⟩
theorem rep1 {α : Type} (d : α) : ∀ n, (List.replicate n [d]).flatten = List.replicate n d
  | 0 => rfl
  | n + 1 => by rw [List.replicate_succ, List.flatten_cons, rep1 d n]; rfl
theorem cutD_le {α : Type} (ns : List α) (lo hi : Option Int) : (cutD ns lo hi).length ≤ ns.length := by unfold cutD; simp; omega
theorem cutD_map {α β : Type} (f : α → β) (ns : List α) (lo hi : Option Int) : cutD (ns.map f) lo hi = (cutD ns lo hi).map f := by unfold cutD; simp [List.map_take, List.map_drop]
theorem cutD_at {α : Type} (ns : List α) {k : Int} (h : 0 ≤ k) (h2 : k ≤ ns.length) : cutD ns none (some k) = ns.take k.toNat ∧ cutD ns (some k) none = ns.drop k.toNat := by
  have e1 : HT.sIx ns.length 0 (some k) = k.toNat := by
    unfold HT.sIx
    simp only []
    rw [if_neg (by omega)]
    omega
  have e2 : HT.sIx ns.length ns.length (some k) = k.toNat := by
    unfold HT.sIx
    simp only []
    rw [if_neg (by omega)]
    omega
  have e3 : HT.sIx ns.length 0 none = 0 := rfl
  have e4 : HT.sIx ns.length ns.length none = ns.length := rfl
  unfold cutD
  rw [e1, e2, e3, e4]
  constructor
  · simp
  · rw [List.take_of_length_le (by simp)]
end Lv

namespace Lv
open PySem PySem.Spec L2

/-! ### xs[a:b:n] of a list -/
def pickD {α : Type} (xs : List α) (lo hi st : Option Int) : List α :=
  (sliceRange (PySem.sliceBounds lo hi st xs.length).1 (PySem.sliceBounds lo hi st xs.length).2.1 (PySem.sliceBounds lo hi st xs.length).2.2).filterMap (xs[·]?)
theorem pick_vals {R : V → D → Prop} : ∀ (ks : List Nat) (vs : List V) (ds : List D), (∀ k : Nat, (vs[k]? = none ∧ ds[k]? = none) ∨ ∃ v d, vs[k]? = some v ∧ ds[k]? = some d ∧ R v d) → True := fun _ _ _ _ => trivial
section
variable {X : Cx} {z : Ent} {pos : Pos}
theorem vals_pick {xs : List V} {us : List Value} (r : Vals xs us) : ∀ ks : List Nat, Vals (ks.filterMap (xs[·]?)) (ks.filterMap (us[·]?)) := by
  intro ks
  induction ks with
  | nil => exact .nil
  | cons k ks ih =>
    rw [List.filterMap_cons, List.filterMap_cons]
    cases e : xs[k]? with
    | none =>
      have : us[k]? = none := by
        rw [List.getElem?_eq_none_iff] at e ⊢
        rw [← r.length]; exact e
      rw [this]
      exact ih
    | some x =>
      obtain ⟨u, hu, ru⟩ := r.get e
      rw [hu]
      exact .cons ru ih
theorem drs_pick {K : PySem.W.Frag} {F : Hp} {vs : List V} {ds : List D} (r : DRs K F vs ds) : ∀ ks : List Nat, DRs K F (ks.filterMap (vs[·]?)) (ks.filterMap (ds[·]?)) := by
  intro ks
  induction ks with
  | nil => exact .nil
  | cons k ks ih =>
    rw [List.filterMap_cons, List.filterMap_cons]
    cases e : ds[k]? with
    | none =>
      have : vs[k]? = none := by
        rw [List.getElem?_eq_none_iff] at e ⊢
        rw [r.length]; exact e
      rw [this]
      exact ih
    | some x =>
      obtain ⟨u, hu, ru⟩ := r.get e
      rw [hu]
      exact .cons ru ih
theorem pickD_le {α : Type} (xs : List α) (lo hi st : Option Int) : (pickD xs lo hi st).length ≤ xs.length := by
  have := PySem.slicePick_size_le (items := (xs.map fun _ => Value.none).toArray) lo hi st
  unfold PySem.slicePick at this
  rw [List.size_toArray, List.size_toArray, List.length_map] at this
  refine Nat.le_trans ?_ this
  unfold pickD
  generalize sliceRange _ _ _ = ks
  induction ks with
  | nil => simp
  | cons k ks ih =>
    rw [List.filterMap_cons, List.filterMap_cons]
    have e : ((xs.map fun _ => Value.none).toArray)[k]? = (xs[k]?).map fun _ => Value.none := by simp
    rw [e]
    cases xs[k]? with
    | none => exact ih
    | some x => simp only [Option.map, List.length_cons]; omega
def tSl3 (K : PySem.W.Frag) (te : TE) (tl th ts : TO) : TE := fun σ H Q => te σ H fun x H1 => tl σ H1 fun l H2 => th σ H2 fun u H3 => ts σ H3 fun st H4 => ∃ a xs, x = .ref a ∧ SqL K H4 a xs ∧ st ≠ some 0 ∧ ∀ p, H4 p = none → Q (.ref p) (upd H4 p (.lst (pickD xs l u st)))
open PyProof.Rows in
theorem pe_sl3 {e : Expr} {lo hi : Option Expr} {sx : Expr} {te : TE} {tl th ts : TO} {p3 pos : Pos} (he : PE X e te) (hl : PO X lo tl) (hh : PO X hi th) (hs : PO X (some sx) ts) : PE X (.Subscript e (.Slice lo hi (some sx) p3) pos) (tSl3 X.K te tl th ts) := by
  refine ⟨fun pins s σ H Q I h => ?_⟩
  refine PyProof.Rows.Subscript_ (thn (he.run pins s σ H _ I h) fun v s1 ⟨x, H1, I1, r1, q1⟩ => ?_)
  refine wpAny_Slice (thn (hl.run pins s1 σ H1 _ I1 q1) fun vl s2 ⟨l, H2, I2, pl, q2⟩ => ?_)
  refine thn (hh.run pins s2 σ H2 _ I2 q2) fun vu s3 ⟨u, H3, I3, pu, q3⟩ => ?_
  refine thn (hs.run pins s3 σ H3 _ I3 q3) fun vs s4 ⟨o, H4, I4, ps, q4⟩ => ?_
  obtain ⟨a, xs, ex, hx, h0, q⟩ := q4
  subst ex
  cases r1
  have I5 : Inv X pins σ H4 { s4 with heap := s4.heap.push { cls := .type "slice", data := .fields #[vl, vu, vs] } } := I4.kept (t' := s4.toks) fun b ob q => Heap.get?_push_of_some _ q
  show wpAny (model X.prog X.w) X.A (subscriptTail e (.Slice lo hi (some sx) p3) (.ref a) (.ref s4.heap.objs.size)) (EP X pins σ Q) X.xe { s4 with heap := s4.heap.push { cls := .type "slice", data := .fields #[vl, vu, vs] } }
  obtain ⟨its, r, ht, hz⟩ := I5.list hx
  have hlen := r.length
  refine tail_any (ops := [.ref a, .ref s4.heap.objs.size]) ht.isList.typeIs (PySem.slot_list_getitem.lookup) ?_ (by with_unfolding_all rfl)
  refine wpAny_getItem_list_slice ht.isList (Heap.IsSliceOf.new _ vl vu vs) pl pu ps h0 ?_ (by rw [List.size_toArray]; omega)
  have e : slicePick its.toArray l u o = (pickD its l u o).toArray := by
    unfold slicePick pickD
    rw [List.size_toArray]
    simp
  have e2 : Vals (pickD xs l u o) (pickD its l u o) := by
    unfold pickD
    rw [hlen]
    exact vals_pick r _
  rw [e]
  refine ⟨.ref _, _, I5.laid (t' := s4.toks) (o := .lst (pickD xs l u o)) (fun b ob q => Heap.get?_push_of_some _ q) (Nat.le_refl _) ?_, rfl, q _ (I5.hok.fresh (Nat.le_refl _))⟩
  exact ⟨Nat.le_trans (pickD_le xs l u o) hz, _, 0, e2, Heap.get?_push_size _ rfl⟩
def sSl3 (d : D) (lo hi st : Option Int) (P : Bool → D → Prop) : Prop := match d with
  | .lst ds => st ≠ some 0 ∧ P true (.lst (pickD ds lo hi st))
  | .scr ns => st ≠ some 0 ∧ P true (.lst ((pickD ns lo hi st).map .int))
  | _ => False
theorem pickD_map {α β : Type} (f : α → β) (xs : List α) (lo hi st : Option Int) : pickD (xs.map f) lo hi st = (pickD xs lo hi st).map f := by
  unfold pickD
  rw [List.length_map]
  generalize sliceRange _ _ _ = ks
  induction ks with
  | nil => rfl
  | cons k ks ih =>
    rw [List.filterMap_cons, List.filterMap_cons, ih, List.getElem?_map]
    cases xs[k]? <;> rfl
theorem sem_sl3 {w : Om} {F He H : Hp} {x : V} {d : D} {lo hi st : Option Int} {P : Bool → D → Prop} {Q : VK} (wd : Wd z.K w F He H) (dx : DT z.K F He H x d) (q : sSl3 d lo hi st P)
    (k : ∀ b d', P b d' → ∀ v H' F' He', Wd z.K w F' He' H' → Step F He H F' He' H' → Res z.K F' He' H H' b v d' → Q v H') : ∃ a xs, x = .ref a ∧ SqL z.K H a xs ∧ st ≠ some 0 ∧ ∀ p, H p = none → Q (.ref p) (upd H p (.lst (pickD xs lo hi st))) := by
  unfold sSl3 at q
  split at q
  · obtain ⟨a, vs, rfl, ha, ra⟩ := dx.lst wd.sf
    refine ⟨a, vs, rfl, .of ha, q.1, fun p hp => res_new wd hp (.lst ?_) q.2 k⟩
    unfold pickD
    rw [ra.length]
    exact drs_pick ra _
  · next ns =>
    obtain ⟨a, rfl, ha⟩ := dx.scr wd.sf
    refine ⟨a, _, rfl, ha, q.1, fun p hp => res_new wd hp (.lst ?_) q.2 k⟩
    rw [pickD_map]
    exact DRs.ofInts _
  · exact q.elim
def dSl3  (t : DO) (l h s : DP) : DX := fun δ w Q => t δ w fun d w1 => l δ w1 fun lo w2 => h δ w2 fun hi w3 => s δ w3 fun st w4 => sSl3 (res w4 d) lo hi st fun b d' => Q b d' w4
theorem jx_sl3 {e : Expr} {lo hi : Option Expr} {sx : Expr} {t : DO} {tl th ts : DP} {p2 : Pos} (hK : z.K = X.K) (he : JO X z e t) (hl : PO X lo (liftP z tl)) (hh : PO X hi (liftP z th)) (hs : PO X (some sx) (liftP z ts)) : JX X z (.Subscript e (.Slice lo hi (some sx) p2) pos) (dSl3 t tl th ts) :=
  PE.imp (pe_sl3 he hl hh hs) fun σ H Q ⟨δ, w, F, He, P, R, q, k⟩ => by
    refine ⟨δ, w, F, He, _, R, q, fun d w1 q1 v H1 F1 He1 wd1 st1 r1 => ?_⟩
    refine ⟨δ, w1, F1, He1, _, R.step wd1 st1, q1, fun o w2 q2 H2 F2 He2 wd2 st2 => ?_⟩
    refine ⟨δ, w2, F2, He2, _, (R.step wd1 st1).step wd2 st2, q2, fun o' w3 q3 H3 F3 He3 wd3 st3 => ?_⟩
    refine ⟨δ, w3, F3, He3, _, ((R.step wd1 st1).step wd2 st2).step wd3 st3, q3, fun o'' w4 q4 H4 F4 He4 wd4 st4 => ?_⟩
    have st := st1.trans (st2.trans (st3.trans st4))
    rw [← hK]
    exact sem_sl3 wd4 (res_ok wd4.ex wd4.sh (r1.step (st2.trans (st3.trans st4)))) q4 fun b d' p v H' F' He' wd s' rr => k b d' w4 p v H' F' He' wd (st.trans s') (rr.base st)
end
end Lv

namespace Lv
open PySem PySem.Spec L2

/-! ### told data: f writes an α as data, == is its own equality -/
structure Codec {α : Type} (f : α → D) (n : Nat) : Prop where
  pl : ∀ a, (f a).pl = true
  dep : ∀ a, (f a).py.depth ≤ n
  eq : ∀ a b, PyData.eqv (f a).py (f b).py = true ↔ a = b
theorem Codec.int : Codec D.int 0 := ⟨fun _ => rfl, fun _ => Nat.le_refl _, fun a b => by simp [D.py, PyData.eqv]⟩
theorem Codec.str : Codec D.str 0 := ⟨fun _ => rfl, fun _ => Nat.le_refl _, fun a b => by simp [D.py, PyData.eqv]⟩
theorem Codec.bl : Codec D.bl 0 := ⟨fun _ => rfl, fun _ => Nat.le_refl _, fun a b => by simp [D.py, PyData.eqv]⟩
section
variable {α β : Type} {f : α → D} {n : Nat}
theorem Codec.plAll (c : Codec f n) : ∀ as : List α, Lv.plAll (as.map f) = true
  | [] => rfl
  | a :: as => by rw [List.map_cons, Lv.plAll, c.pl, c.plAll as]; rfl
theorem Codec.depAll (c : Codec f n) : ∀ as : List α, PyData.depthAll (pyAll (as.map f)) ≤ n
  | [] => Nat.zero_le _
  | a :: as => by rw [List.map_cons, pyAll, PyData.depthAll]; exact Nat.max_le.mpr ⟨c.dep a, c.depAll as⟩
theorem Codec.eqAll (c : Codec f n) : ∀ as bs : List α, PyData.eqvAll (pyAll (as.map f)) (pyAll (bs.map f)) = true ↔ as = bs
  | [], [] => by simp [pyAll, PyData.eqvAll]
  | [], _ :: _ => by simp [pyAll, PyData.eqvAll]
  | _ :: _, [] => by simp [pyAll, PyData.eqvAll]
  | a :: as, b :: bs => by simp [pyAll, PyData.eqvAll, c.eq a b, c.eqAll as bs]
theorem Codec.lst (c : Codec f n) : Codec (fun as : List α => .lst (as.map f)) (n + 1) := ⟨fun as => c.plAll as, fun as => Nat.succ_le_succ (c.depAll as), fun as bs => by simpa [D.py, PyData.eqv] using c.eqAll as bs⟩
theorem Codec.tup (c : Codec f n) : Codec (fun as : List α => .tup (as.map f)) (n + 1) := ⟨fun as => c.plAll as, fun as => Nat.succ_le_succ (c.depAll as), fun as bs => by simpa [D.py, PyData.eqv] using c.eqAll as bs⟩
theorem Codec.up (c : Codec f n) {m : Nat} (h : n ≤ m) : Codec f m := ⟨c.pl, fun a => Nat.le_trans (c.dep a) h, c.eq⟩
theorem Codec.pair (c : Codec f n) {g : β → D} (d : Codec g n) : Codec (fun p : α × β => .tup [f p.1, g p.2]) (n + 1) :=
  ⟨fun p => by simp [D.pl, Lv.plAll, c.pl, d.pl], fun p => Nat.succ_le_succ (by simp only [pyAll, PyData.depthAll]; have := c.dep p.1; have := d.dep p.2; omega), fun p q => by simp [D.py, pyAll, PyData.eqv, PyData.eqvAll, c.eq, d.eq, Prod.ext_iff]⟩
theorem Codec.sEq [DecidableEq α] (c : Codec f n) (h : n ≤ 64) (a b : α) (P : Bool → D → Prop) : Lv.sEq (f a) (f b) P = P false (.bl (decide (a = b))) := by
  have e : (f a).eqv (f b) = decide (a = b) := by
    rw [Bool.eq_iff_iff, decide_eq_true_iff]
    exact c.eq a b
  unfold Lv.sEq
  rw [e]
  have := c.dep a
  simp [c.pl]
  intro _
  omega
theorem Codec.sNe [DecidableEq α] (c : Codec f n) (h : n ≤ 64) (a b : α) (P : Bool → D → Prop) : Lv.sNe (f a) (f b) P = P false (.bl (!decide (a = b))) := by
  have e : (f a).eqv (f b) = decide (a = b) := by
    rw [Bool.eq_iff_iff, decide_eq_true_iff]
    exact c.eq a b
  unfold Lv.sNe
  rw [e]
  have := c.dep a
  simp [c.pl]
  intro _
  omega
end
section
variable {α : Type} {f : α → D} {n : Nat}
theorem Codec.inD [DecidableEq α] (c : Codec f n) (a : α) : ∀ as : List α, Lv.inD (f a) (as.map f) = decide (a ∈ as)
  | [] => rfl
  | b :: as => by
    have ih := c.inD a as
    unfold Lv.inD at ih ⊢
    rw [List.map_cons, List.any_cons, ih]
    have e : (f b).eqv (f a) = decide (b = a) := by
      rw [Bool.eq_iff_iff, decide_eq_true_iff]
      exact c.eq b a
    rw [e]
    by_cases h : a = b
    · subst h; simp
    · have h' : ¬ b = a := fun e => h e.symm
      simp [h, h']
theorem Codec.sInL [DecidableEq α] (c : Codec f n) (h : n ≤ 64) (neg : Bool) (a : α) (as : List α) (P : Bool → D → Prop) : sIn neg (f a) (.lst (as.map f)) P = P false (.bl (if neg then !decide (a ∈ as) else decide (a ∈ as))) := by
  unfold sIn
  have := c.dep a
  simp only [c.inD, c.pl, c.plAll, true_and]
  simp
  intro _
  omega
theorem Codec.sInT [DecidableEq α] (c : Codec f n) (h : n ≤ 64) (neg : Bool) (a : α) (as : List α) (P : Bool → D → Prop) : sIn neg (f a) (.tup (as.map f)) P = P false (.bl (if neg then !decide (a ∈ as) else decide (a ∈ as))) := by
  unfold sIn
  have := c.dep a
  simp only [c.inD, c.pl, c.plAll, true_and]
  simp
  intro _
  omega
end
/-- lists of words, words of words -/
def lwD (ws : List (List Int)) : D := .lst (ws.map wD)
def llD (ws : List (List Int)) : D := .lst (ws.map iD)
theorem Codec.w : Codec wD 1 := Codec.int.tup
theorem Codec.i : Codec iD 1 := Codec.int.lst
theorem Codec.lw : Codec lwD 2 := Codec.w.lst
theorem Codec.ll : Codec llD 2 := Codec.i.lst
theorem sEq_w (a b : List Int) (P : Bool → D → Prop) : sEq (wD a) (wD b) P = P false (.bl (decide (a = b))) := Codec.w.sEq (by decide) a b P
theorem sEq_i (a b : List Int) (P : Bool → D → Prop) : sEq (iD a) (iD b) P = P false (.bl (decide (a = b))) := Codec.i.sEq (by decide) a b P
theorem sEq_lw (a b : List (List Int)) (P : Bool → D → Prop) : sEq (lwD a) (lwD b) P = P false (.bl (decide (a = b))) := Codec.lw.sEq (by decide) a b P
theorem sEq_lw' (a b : List (List Int)) (P : Bool → D → Prop) : sEq (.lst (a.map wD)) (.lst (b.map wD)) P = P false (.bl (decide (a = b))) := Codec.lw.sEq (by decide) a b P
theorem sEq_lle (a b : List (List Int)) (P : Bool → D → Prop) : sEq (llD a) (llD b) P = P false (.bl (decide (a = b))) := Codec.ll.sEq (by decide) a b P
theorem sEq_lle' (a b : List (List Int)) (P : Bool → D → Prop) : sEq (.lst (a.map iD)) (.lst (b.map iD)) P = P false (.bl (decide (a = b))) := Codec.ll.sEq (by decide) a b P
theorem sNe_w (a b : List Int) (P : Bool → D → Prop) : sNe (wD a) (wD b) P = P false (.bl (!decide (a = b))) := Codec.w.sNe (by decide) a b P
theorem sNe_i (a b : List Int) (P : Bool → D → Prop) : sNe (iD a) (iD b) P = P false (.bl (!decide (a = b))) := Codec.i.sNe (by decide) a b P
theorem sNe_lle' (a b : List (List Int)) (P : Bool → D → Prop) : sNe (.lst (a.map iD)) (.lst (b.map iD)) P = P false (.bl (!decide (a = b))) := Codec.ll.sNe (by decide) a b P
theorem sNe_lw' (a b : List (List Int)) (P : Bool → D → Prop) : sNe (.lst (a.map wD)) (.lst (b.map wD)) P = P false (.bl (!decide (a = b))) := Codec.lw.sNe (by decide) a b P
theorem sEq_ss (a b : Str) (P : Bool → D → Prop) : sEq (.str a) (.str b) P = P false (.bl (decide (a = b))) := Codec.str.sEq (by decide) a b P
theorem sNe_ss (a b : Str) (P : Bool → D → Prop) : sNe (.str a) (.str b) P = P false (.bl (!decide (a = b))) := Codec.str.sNe (by decide) a b P
theorem sEq_bb (a b : Bool) (P : Bool → D → Prop) : sEq (.bl a) (.bl b) P = P false (.bl (decide (a = b))) := Codec.bl.sEq (by decide) a b P
theorem sNe_bb (a b : Bool) (P : Bool → D → Prop) : sNe (.bl a) (.bl b) P = P false (.bl (!decide (a = b))) := Codec.bl.sNe (by decide) a b P
theorem sIn_iw (neg : Bool) (a : Int) (as : List Int) (P : Bool → D → Prop) : sIn neg (.int a) (.tup (as.map D.int)) P = P false (.bl (if neg then !decide (a ∈ as) else decide (a ∈ as))) := Codec.int.sInT (by decide) neg a as P
theorem sIn_ii (neg : Bool) (a : Int) (as : List Int) (P : Bool → D → Prop) : sIn neg (.int a) (.lst (as.map D.int)) P = P false (.bl (if neg then !decide (a ∈ as) else decide (a ∈ as))) := Codec.int.sInL (by decide) neg a as P
theorem sIn_wl (neg : Bool) (a : List Int) (as : List (List Int)) (P : Bool → D → Prop) : sIn neg (wD a) (.lst (as.map wD)) P = P false (.bl (if neg then !decide (a ∈ as) else decide (a ∈ as))) := (Codec.w.sInL (by decide) neg a as P).trans (by congr)
theorem sIn_wl' (neg : Bool) (a : List Int) (as : List (List Int)) (P : Bool → D → Prop) : sIn neg (.tup (a.map D.int)) (.lst (as.map wD)) P = P false (.bl (if neg then !decide (a ∈ as) else decide (a ∈ as))) := (Codec.w.sInL (by decide) neg a as P).trans (by congr)
theorem atI_f {α : Type} (f : α → D) {ns : List α} {k : Int} {x : α} (h0 : 0 ≤ k) (h : ns[k.toNat]? = some x) : atI (ns.map f) k = some (f x) := by
  have hl := (List.getElem?_eq_some_iff.mp h).1
  rw [atI_nn h0 (by rw [List.length_map]; omega), List.getElem?_map, h]
  rfl
theorem atI_fk {α : Type} (f : α → D) {ns : List α} {k : Nat} (h : k < ns.length) : atI (ns.map f) (0 + (k : Int)) = some (f ns[k]) := atI_f f (by omega) (by rw [show (0 + (k : Int)).toNat = k by omega]; simp)
/-- a comprehension whose items are only known by a word R -/
theorem lc_any  {α β : Type} {i : Nat} {te : DX} {δ : DSt} {w : Om} {Q : Bool → D → Om → Prop} (f : α → D) (g : β → D) (R : α → β → Prop) (xs : List α)
    (hs : ∀ x ∈ xs, ∀ P : Bool → D → Om → Prop, (∀ b y, R x y → P b (g y) w) → te (δ.set i (some (false, f x))) w P) :
    ∀ acc : List D, acc.length + xs.length ≤ sizeLine → (∀ ys : List β, ys.length = xs.length → (∀ y ∈ ys, ∃ x ∈ xs, R x y) → Q true (.lst (acc ++ ys.map g)) w) → dLcGo (gN i) dYes te δ (xs.map f) acc w Q := by
  induction xs with
  | nil =>
    intro acc _ q
    have := q [] rfl (fun _ h => nomatch h)
    rw [List.map_nil, List.append_nil] at this
    exact this
  | cons x xs ih =>
    intro acc hz q
    simp only [List.map_cons, dLcGo, gN, dYes, if_true]
    refine hs x List.mem_cons_self _ fun b y hy => ⟨by simp at hz; omega, ?_⟩
    refine ih (fun y hy => hs y (List.mem_cons_of_mem _ hy)) _ (by simp at hz ⊢; omega) fun ys hl hr => ?_
    have := q (y :: ys) (by simp [hl]) (fun y' h' => by
      rcases List.mem_cons.mp h' with e | e
      · subst e; exact ⟨x, List.mem_cons_self, hy⟩
      · obtain ⟨x', hx', r⟩ := hr y' e
        exact ⟨x', List.mem_cons_of_mem _ hx', r⟩)
    simpa using this
theorem if_join {p : Prop} [Decidable p] {a b : Prop} (h : p → a) (g : ¬p → b) : if p then a else b := by
  by_cases x : p
  · rw [if_pos x]; exact h x
  · rw [if_neg x]; exact g x
theorem cutD_nn {α : Type} (ns : List α) {i j : Int} (h : 0 ≤ i) (h2 : i ≤ j) (h3 : j ≤ ns.length) : cutD ns (some i) (some j) = (ns.drop i.toNat).take (j - i).toNat := by
  have e1 : HT.sIx ns.length 0 (some i) = i.toNat := by
    unfold HT.sIx
    simp only []
    rw [if_neg (by omega)]
    omega
  have e2 : HT.sIx ns.length ns.length (some j) = j.toNat := by
    unfold HT.sIx
    simp only []
    rw [if_neg (by omega)]
    omega
  unfold cutD
  rw [e1, e2]
  congr 1
  omega
theorem cutD_mid {α : Type} (a b c : List α) : cutD (a ++ b ++ c) (some (a.length : Int)) (some ((a.length : Int) + b.length)) = b := by
  rw [cutD_nn _ (by omega) (by omega) (by simp; omega), List.append_assoc]
  have e : ((a.length : Int) + b.length - a.length).toNat = b.length := by omega
  rw [e]
  simp
theorem cutD_upto {α : Type} (ns : List α) {j : Int} (h : 0 ≤ j) : cutD ns none (some j) = ns.take j.toNat := by
  have e2 : HT.sIx ns.length ns.length (some j) = min j.toNat ns.length := by
    unfold HT.sIx
    simp only []
    rw [if_neg (by omega)]
  have e3 : HT.sIx ns.length 0 none = 0 := rfl
  unfold cutD
  rw [e2, e3, List.drop_zero, Nat.sub_zero]
  by_cases x : j.toNat ≤ ns.length
  · rw [Nat.min_eq_left x]
  · rw [Nat.min_eq_right (by omega), List.take_of_length_le (Nat.le_refl _), List.take_of_length_le (by omega)]
end Lv

namespace Lv
open PySem PySem.Spec L2

/-! ### methods of texts and lists that give a value -/
def isS : D → Prop
  | .str _ => True
  | _ => False
def isL : D → Prop
  | .lst _ => True
  | .scr _ => True
  | _ => False
def isA : D → Prop
  | .tup _ => True
  | _ => False
def dM0  (ty : D → Prop) (sem : D → (Bool → D → Prop) → Prop) (ta : DO) : DX := fun δ w Q => ta δ w fun d w1 => ty (res w1 d) ∧ sem (res w1 d) fun b d' => Q b d' w1
def dM1  (ty : D → Prop) (sem : D → D → (Bool → D → Prop) → Prop) (ta tb : DO) : DX := fun δ w Q => ta δ w fun d w1 => ty (res w1 d) ∧ tb δ w1 fun e w2 => sem (res w2 d) (res w2 e) fun b d' => Q b d' w2
def TyOk (z : Ent) (T : String) (ty : D → Prop) : Prop := ∀ (F He H : Hp) (x : V) (d : D), Same F H → DT z.K F He H x d → ty d → tyV z.K T x H
theorem ty_str {z : Ent} : TyOk z "str" isS := fun F He H x d s r h => by
  cases d with
  | str y => cases r.str; exact rfl
  | _ => exact h.elim
theorem ty_list {z : Ent} : TyOk z "list" isL := fun F He H x d s r h => by
  cases d with
  | lst ds => obtain ⟨a, vs, rfl, ha, _⟩ := r.lst s; exact .inl ⟨rfl, vs, .of ha⟩
  | scr ns => obtain ⟨a, rfl, ha⟩ := r.scr s; exact .inl ⟨rfl, _, ha⟩
  | _ => exact h.elim
def SemM0 (z : Ent) (r : V → List V → Hp → VK → Prop) (sem : D → (Bool → D → Prop) → Prop) : Prop := Sem1 z (fun x H Q => r x [] H Q) sem
def SemM1 (z : Ent) (r : V → List V → Hp → VK → Prop) (sem : D → D → (Bool → D → Prop) → Prop) : Prop := Sem2 z (fun x y H Q => r x [y] H Q) sem
section
variable {X : Cx} {z : Ent} {pos : Pos}
theorem jx_m0 {T id : String} {name : Str} {r : V → List V → Hp → VK → Prop} {ty : D → Prop} {sem : D → (Bool → D → Prop) → Prop} {o : Expr} {to : DO} {apos cpos : Pos} (pa : PlainAttrs T) (slot : Slot T name id) (hty : typeOf (.builtin id) = pure (.type "method_descriptor")) (hm : MtR X id r) (ht : TyOk z T ty) (hs : SemM0 z r sem) (hK : z.K = X.K) (ho : JO X z o to)
    (hbase : attributeBase o name X.env (eval o X.env) = eval o X.env := by rfl) (hline : (apos.endLine == cpos.line) = true := by rfl) : JX X z (.Call (.Attribute o name apos) [] [] cpos) (dM0 ty sem to) :=
  PE.imp (pe_bm0 pa slot hty hm ho hbase hline) fun σ H Q ⟨δ, w, F, He, P, R, q, k⟩ => by
    refine ⟨δ, w, F, He, _, R, q, fun d w1 q1 x H1 F1 He1 wd1 st1 r1 => ⟨?_, ?_⟩⟩
    · rw [← hK]; exact ht F1 He1 H1 x _ wd1.sf (res_ok wd1.ex wd1.sh r1) q1.1
    · exact hs w1 F1 He1 H1 x _ _ Q wd1 (res_ok wd1.ex wd1.sh r1) q1.2 fun b d' p v H' F' He' wd st rr => k b d' w1 p v H' F' He' wd (st1.trans st) (rr.base st1)
theorem jx_m1 {T id : String} {name : Str} {r : V → List V → Hp → VK → Prop} {ty : D → Prop} {sem : D → D → (Bool → D → Prop) → Prop} {o e : Expr} {to te : DO} {apos cpos : Pos} (pa : PlainAttrs T) (slot : Slot T name id) (hty : typeOf (.builtin id) = pure (.type "method_descriptor")) (hm : MtR X id r) (ht : TyOk z T ty) (hs : SemM1 z r sem) (hK : z.K = X.K) (ho : JO X z o to) (he : JO X z e te)
    (hbase : attributeBase o name X.env (eval o X.env) = eval o X.env := by rfl)
    (hfew : ((backTo cpos (starEach [e] X.env)).all (fun x => !x.1) && (backToKw cpos (keywordEach [] X.env)).all (fun x => x.1.isSome)
      && decide ([e].length + ([] : List Keyword).length + (if ([] : List Keyword).isEmpty then 0 else 1) < 30)) = true := by rfl)
    (hline : (apos.endLine == cpos.line) = true := by rfl) (hs1 : starEach [e] X.env = [(false, eval e X.env)] := by rfl) (hplain : (backTo cpos (starEach ([] : List Expr) X.env)).any (·.1) = false := by rfl) : JX X z (.Call (.Attribute o name apos) [e] [] cpos) (dM1 ty sem to te) :=
  PE.imp (pe_bm pa slot hty hm ho (pa_cons he pa_nil hs1) hbase hfew hline hs1 hplain) fun σ H Q ⟨δ, w, F, He, P, R, q, k⟩ => by
    refine ⟨δ, w, F, He, _, R, q, fun d w1 q1 x H1 F1 He1 wd1 st1 r1 => ⟨?_, ?_⟩⟩
    · rw [← hK]; exact ht F1 He1 H1 x _ wd1.sf (res_ok wd1.ex wd1.sh r1) q1.1
    · refine ⟨δ, w1, F1, He1, _, R.step wd1 st1, q1.2, fun e w2 q2 y H2 F2 He2 wd2 st2 r2 => ?_⟩
      exact hs w2 F2 He2 H2 x y _ _ _ Q wd2 (res_ok wd2.ex wd2.sh (r1.step st2)) (res_ok wd2.ex wd2.sh r2) q2 fun b d' p v H' F' He' wd st rr => k b d' w2 p v H' F' He' wd ((st1.trans st2).trans st) (rr.base (st1.trans st2))
def sUpper (d : D) (P : Bool → D → Prop) : Prop := match d with
  | .str x => x.length ≤ 5592405 ∧ P false (.str (Txt.upper x))
  | _ => False
def sLower (d : D) (P : Bool → D → Prop) : Prop := match d with
  | .str x => x.length ≤ 5592405 ∧ P false (.str (Txt.lower x))
  | _ => False
theorem sem_upper : SemM0 z (fun x xs H Q => ∃ a, x = .str a ∧ xs = [] ∧ a.length ≤ 5592405 ∧ Q (.str (Txt.upper a)) H) sUpper := fun w F He H x d P Q wd dx q k => by
  unfold sUpper at q
  split at q
  · exact ⟨_, dx.str, rfl, q.1, res_at wd (.str _) q.2 k⟩
  · exact q.elim
theorem sem_lower : SemM0 z (fun x xs H Q => ∃ a, x = .str a ∧ xs = [] ∧ a.length ≤ 5592405 ∧ Q (.str (Txt.lower a)) H) sLower := fun w F He H x d P Q wd dx q k => by
  unfold sLower at q
  split at q
  · exact ⟨_, dx.str, rfl, q.1, res_at wd (.str _) q.2 k⟩
  · exact q.elim
def sStrip1 (d e : D) (P : Bool → D → Prop) : Prop := match d, e with
  | .str a, .str b => a.length ≤ sizeLine ∧ P false (.str (Txt.stripChars a b))
  | _, _ => False
theorem sem_sstrip : SemM1 z (fun x xs H Q => ∃ a b, x = .str a ∧ xs = [.str b] ∧ a.length ≤ sizeLine ∧ Q (.str (Txt.stripChars a b)) H) sStrip1 := fun w F He H x y d e P Q wd dx dy q k => by
  unfold sStrip1 at q
  split at q
  · exact ⟨_, _, dx.str, by rw [dy.str], q.1, res_at wd (.str _) q.2 k⟩
  · exact q.elim
def sSfind (d e : D) (P : Bool → D → Prop) : Prop := match d, e with
  | .str a, .str b => P false (.int (Txt.find a b))
  | _, _ => False
theorem sem_sfind : SemM1 z (fun x xs H Q => ∃ a b, x = .str a ∧ xs = [.str b] ∧ Q (.int (Txt.find a b)) H) sSfind := fun w F He H x y d e P Q wd dx dy q k => by
  unfold sSfind at q
  split at q
  · exact ⟨_, _, dx.str, by rw [dy.str], res_at wd (.int _) q k⟩
  · exact q.elim
def sScount (d e : D) (P : Bool → D → Prop) : Prop := match d, e with
  | .str a, .str b => P false (.int (Txt.count a b))
  | _, _ => False
theorem sem_scount : SemM1 z (fun x xs H Q => ∃ a b, x = .str a ∧ xs = [.str b] ∧ Q (.int (Txt.count a b)) H) sScount := fun w F He H x y d e P Q wd dx dy q k => by
  unfold sScount at q
  split at q
  · exact ⟨_, _, dx.str, by rw [dy.str], res_at wd (.int _) q k⟩
  · exact q.elim
def sSindex (d e : D) (P : Bool → D → Prop) : Prop := match d, e with
  | .str a, .str b => ∃ i rest, Builtin.Str.occurrences a b 0 a.length 1 = i :: rest ∧ P false (.int (i : Nat))
  | _, _ => False
theorem sem_sindex : SemM1 z (fun x xs H Q => ∃ a b i rest, x = .str a ∧ xs = [.str b] ∧ Builtin.Str.occurrences a b 0 a.length 1 = i :: rest ∧ Q (.int (i : Nat)) H) sSindex := fun w F He H x y d e P Q wd dx dy q k => by
  unfold sSindex at q
  split at q
  · obtain ⟨i, rest, e1, q⟩ := q
    exact ⟨_, _, i, rest, dx.str, by rw [dy.str], e1, res_at wd (.int _) q k⟩
  · exact q.elim
theorem drs_strs {K : PySem.W.Frag} {F : Hp} : ∀ ys : List Str, DRs K F (ys.map V.str) (ys.map D.str)
  | [] => .nil
  | y :: ys => .cons (.str y) (drs_strs ys)
theorem of_strs {K : PySem.W.Frag} {F : Hp} : ∀ {ys : List Str} {vs : List V}, DRs K F vs (ys.map D.str) → vs = ys.map V.str
  | [], _, .nil => rfl
  | y :: ys, _, .cons h hs => by
    cases h
    rw [of_strs hs]
    rfl
def sSsplit (d e : D) (P : Bool → D → Prop) : Prop := match d, e with
  | .str a, .str b => (b.length == 0) = false ∧ a.length + 2 ≤ sizeLine ∧ P true (.lst ((Txt.split a b).map .str))
  | _, _ => False
theorem sem_ssplit : SemM1 z (fun x xs H Q => ∃ a b, x = .str a ∧ xs = [.str b] ∧ (b.length == 0) = false ∧ a.length + 2 ≤ sizeLine ∧ rNewStrs (Txt.split a b) H Q) sSsplit := fun w F He H x y d e P Q wd dx dy q k => by
  unfold sSsplit at q
  split at q
  · exact ⟨_, _, dx.str, by rw [dy.str], q.1, q.2.1, fun p hp => res_new wd hp (.lst (drs_strs _)) q.2.2 k⟩
  · exact q.elim
def sSjoin (d e : D) (P : Bool → D → Prop) : Prop := match d, e with
  | .str a, .lst ds => ∃ ys : List Str, ds = ys.map .str ∧ (ys.map (·.length)).sum + ys.length * a.length ≤ 16777216 ∧ P false (.str (Txt.join a ys))
  | .str a, .tup ds => ∃ ys : List Str, ds = ys.map .str ∧ (ys.map (·.length)).sum + ys.length * a.length ≤ 16777216 ∧ P false (.str (Txt.join a ys))
  | _, _ => False
theorem sem_sjoin : SemM1 z (fun x xs H Q => ∃ a p, ∃ ys : List Str, x = .str a ∧ xs = [.ref p] ∧ (SqL z.K H p (ys.map V.str) ∨ SqT z.K H p (ys.map V.str)) ∧
    (ys.map (·.length)).sum + ys.length * a.length ≤ 16777216 ∧ Q (.str (Txt.join a ys)) H) sSjoin := fun w F He H x y d e P Q wd dx dy q k => by
  unfold sSjoin at q
  split at q
  · obtain ⟨ys, rfl, h, q⟩ := q
    obtain ⟨a, vs, rfl, ha, r⟩ := dy.lst wd.sf
    cases of_strs r
    exact ⟨_, a, ys, dx.str, rfl, .inl (.of ha), h, res_at wd (.str _) q k⟩
  · obtain ⟨ys, rfl, h, q⟩ := q
    obtain ⟨a, vs, rfl, ha, r⟩ := dy.tup wd.sf
    cases of_strs r
    exact ⟨_, a, ys, dx.str, rfl, .inr (.of ha), h, res_at wd (.str _) q k⟩
  · exact q.elim
end
end Lv

namespace Lv
open PySem PySem.Spec L2 SX

/-! ### texts by their code points -/
theorem cps_S (a : List Nat) : (S a).cps.toList = a := rfl
theorem len_S (a : List Nat) : (S a).length = a.length := S_len a
theorem cutS_to (a : List Nat) {i : Int} (h : 0 ≤ i) : cutS (S a) none (some i) = S (a.take i.toNat) := by rw [C8.cutS_slice, slice_to h]
theorem cutS_from (a : List Nat) {i : Int} (h : 0 ≤ i) : cutS (S a) (some i) none = S (a.drop i.toNat) := by rw [C8.cutS_slice, slice_from h]
theorem one_S (c : Nat) : (⟨#[c]⟩ : Str) = S [c] := rfl
theorem lit_small : Str.ofString "abcdefghijklmnopqrstuvwxyz" = S [97, 98, 99, 100, 101, 102, 103, 104, 105, 106, 107, 108, 109, 110, 111, 112, 113, 114, 115, 116, 117, 118, 119, 120, 121, 122] := by decide +kernel
theorem lit_large : Str.ofString "ABCDEFGHIJKLMNOPQRSTUVWXYZ" = S [65, 66, 67, 68, 69, 70, 71, 72, 73, 74, 75, 76, 77, 78, 79, 80, 81, 82, 83, 84, 85, 86, 87, 88, 89, 90] := by decide +kernel
theorem lit_hat : Str.ofString "^" = S [94] := by decide +kernel
theorem lit_one : Str.ofString "1" = S [49] := by decide +kernel
theorem lit_nil : Str.ofString "" = S [] := by decide +kernel
theorem occ_small {c : Nat} (h : 97 ≤ c) (h2 : c ≤ 122) : ∃ rest, Builtin.Str.occurrences (Str.ofString "abcdefghijklmnopqrstuvwxyz") (S [c]) 0 (Str.ofString "abcdefghijklmnopqrstuvwxyz").length 1 = (c - 97) :: rest := by
  have key : ∀ k : Fin 26, (Builtin.Str.occurrences (Str.ofString "abcdefghijklmnopqrstuvwxyz") (S [97 + k.1]) 0 (Str.ofString "abcdefghijklmnopqrstuvwxyz").length 1).head? = some k.1 := by decide +kernel
  have := key ⟨c - 97, by omega⟩
  rw [show 97 + (c - 97) = c by omega] at this
  cases e : Builtin.Str.occurrences (Str.ofString "abcdefghijklmnopqrstuvwxyz") (S [c]) 0 (Str.ofString "abcdefghijklmnopqrstuvwxyz").length 1 with
  | nil => rw [e] at this; cases this
  | cons i r => rw [e] at this; cases this; exact ⟨r, rfl⟩
theorem ix_large {c : Nat} (h : 97 ≤ c) (h2 : c ≤ 122) : atI (Str.ofString "ABCDEFGHIJKLMNOPQRSTUVWXYZ").cps.toList ((c - 97 : Nat) : Int) = some (c - 32) := by
  have key : ∀ k : Fin 26, atI (Str.ofString "ABCDEFGHIJKLMNOPQRSTUVWXYZ").cps.toList ((k.1 : Nat) : Int) = some (65 + k.1) := by decide +kernel
  have := key ⟨c - 97, by omega⟩
  rw [this]
  congr 1
  show 65 + (c - 97) = c - 32
  omega
theorem upper_one {c : Nat} (h : 97 ≤ c) (h2 : c ≤ 122) : Txt.upper (S [c]) = S [c - 32] := by
  rw [upper_S (by simp; omega)]
  have : PyProof.Rows.up1 c = c - 32 := by unfold PyProof.Rows.up1; rw [if_pos ⟨h, h2⟩]
  simp [this]
theorem str_num (n : Nat) : Str.ofString (toString ((n : Nat) : Int)) = S (TL.numL n) := num_S n
theorem join_nil : ∀ ys : List (List Nat), Txt.join (S []) (ys.map S) = S ys.flatten := fun ys => by
  rw [join_S]
  congr 2
  induction ys with
  | nil => rfl
  | cons y ys ih =>
    cases ys with
    | nil => simp [TL.joinL]
    | cons z zs =>
      show y ++ ([] ++ TL.joinL [] (z :: zs)) = _
      rw [ih]
      rfl
theorem sum_S : ∀ ys : List (List Nat), ((ys.map S).map (·.length)).sum = ys.flatten.length
  | [] => rfl
  | y :: ys => by
    have ih := sum_S ys
    rw [List.map_cons, List.map_cons, List.sum_cons, ih, S_len, List.flatten_cons, List.length_append]
theorem log2_sm {n : Nat} (h : n ≤ 1000000) : n.log2 < 1920 := by
  by_cases h0 : n = 0
  · subst h0; decide
  · have : n.log2 < 20 + 1 := (Nat.log2_lt h0).mpr (by omega)
    omega
end Lv

namespace Lv
open PySem PySem.Spec L2

/-! ### what is never come to; constants of the module -/
def dNever  : DS := fun _ _ _ => False
section
variable {X : Cx} {z : Ent} {pos : Pos}
theorem js_no {st : Stmt} : JS X z st dNever := ⟨fun pins s σ H D I ⟨_, _, _, _, _, _, q, _⟩ => q.elim⟩
theorem jss_no {st : List Stmt} : JSs X z st dNever := ⟨fun pins s σ H D I ⟨_, _, _, _, _, _, q, _⟩ => q.elim⟩
theorem jx_gcI {x : Str} {i : Int} (h : ∃ u, X.mg x = some u ∧ RelV (.int i) u) (hg : Gl X x := by rfl) (hd : (x == ("__debug__" : Str)) = false := by decide) : JX X z (.Name x pos) (dC (.int i)) := jx_c (C8.pe_gc hg h hd) fun _ => .int i
theorem jx_gcS {x : Str} {i : Str} (h : ∃ u, X.mg x = some u ∧ RelV (.str i) u) (hg : Gl X x := by rfl) (hd : (x == ("__debug__" : Str)) = false := by decide) : JX X z (.Name x pos) (dC (.str i)) := jx_c (C8.pe_gc hg h hd) fun _ => .str i
end
/-! ### more of texts -/
open SX
theorem cutS_cut (a : List Nat) (lo hi : Option Int) : cutS (S a) lo hi = S (cutD a lo hi) := by
  unfold cutS cutD
  rw [S_len]
theorem in_oneS (neg : Bool) (a : List Nat) (c : Nat) (P : Bool → D → Prop) : sIn neg (.str (S [c])) (.str (S a)) P = P false (.bl (if neg then !decide (c ∈ a) else decide (c ∈ a))) := by
  unfold sIn
  simp only [in_one]
open Builtin Builtin.Str StrLaws in
theorem occ_full (s sub : Str) (hi : Nat) : ∀ (l : List Nat) (st : Array Nat × Nat), 1 ≤ st.fst.size → (forIn l st (occBody s sub hi 1)).run.fst = st.fst
  | [], st, _ => rfl
  | a :: l, st, h => by
    rw [List.forIn_cons]
    unfold occBody
    rw [if_neg (by omega)]
    exact occ_full s sub hi l (st.fst, st.snd) h
open Builtin Builtin.Str StrLaws in
theorem occ_skip (s sub : Str) (hi i : Nat) (post : List Nat) : ∀ (pre : List Nat) (free : Nat), free ≤ i → (∀ a ∈ pre, ¬ (a + sub.length ≤ hi ∧ subAt s sub a = true)) → (i + sub.length ≤ hi ∧ subAt s sub i = true) →
    (forIn (pre ++ i :: post) ((#[] : Array Nat), free) (occBody s sub hi 1)).run.fst = #[i]
  | [], free, hf, _, hi' => by
    rw [List.nil_append, List.forIn_cons]
    unfold occBody
    rw [if_pos ⟨⟨⟨by simp, hf⟩, hi'.1⟩, hi'.2⟩]
    exact occ_full s sub hi post _ (by simp)
  | a :: pre, free, hf, hp, hi' => by
    rw [List.cons_append, List.forIn_cons]
    unfold occBody
    have ha := hp a List.mem_cons_self
    rw [if_neg (fun h => ha ⟨h.1.2, h.2⟩)]
    exact occ_skip s sub hi i post pre free hf (fun b hb => hp b (List.mem_cons_of_mem _ hb)) hi'
open StrLaws in
theorem occ_first {a : List Nat} {c i : Nat} (h : a[i]? = some c) (hn : ∀ j, j < i → a[j]? ≠ some c) : Builtin.Str.occurrences (S a) (S [c]) 0 (S a).length 1 = [i] := by
  have hl := (List.getElem?_eq_some_iff.mp h).1
  rw [occ_eq]
  have e : List.range' 0 ((S a).length + 1 - 0) = List.range' 0 i ++ i :: List.range' (i + 1) (a.length - i) := by
    rw [S_len, show a.length + 1 - 0 = i + ((a.length - i) + 1) by omega, ← List.range'_append_1, Nat.zero_add, List.range'_succ]
  rw [e]
  have := occ_skip (S a) (S [c]) (S a).length i (List.range' (i + 1) (a.length - i)) (List.range' 0 i) 0 (by omega) (fun j hj hc => hn j (by simp [List.mem_range'] at hj; omega) ((subAt_one (S a) c j).mp hc)) ((subAt_one (S a) c i).mpr h)
  rw [this]
theorem nodup_first {a : List Nat} (hd : a.Nodup) {c i : Nat} (h : a[i]? = some c) : ∀ j, j < i → a[j]? ≠ some c := by
  intro j hj h2
  have hl := (List.getElem?_eq_some_iff.mp h).1
  obtain ⟨h1a, h1b⟩ := List.getElem?_eq_some_iff.mp h
  obtain ⟨h3a, h3b⟩ := List.getElem?_eq_some_iff.mp h2
  exact List.pairwise_iff_getElem.mp hd j i h3a h1a hj (h3b.trans h1b.symm)
theorem lower_one {c : Nat} (h : 97 ≤ c) (h2 : c ≤ 122) : Txt.lower (S [c - 32]) = S [c] := by
  rw [lower_S (by simp; omega)]
  have : PyProof.Rows.lo1 (c - 32) = c := by unfold PyProof.Rows.lo1; rw [if_pos (by omega)]; omega
  simp [this]
theorem lower_sm {c : Nat} (h : 97 ≤ c) (h2 : c ≤ 122) : Txt.lower (S [c]) = S [c] := by
  rw [lower_S (by simp; omega)]
  have : PyProof.Rows.lo1 c = c := by unfold PyProof.Rows.lo1; rw [if_neg (by omega)]
  simp [this]
theorem lit_open : Str.ofString "(" = S [40] := by decide +kernel
theorem lit_close : Str.ofString ")" = S [41] := by decide +kernel
theorem lit_minus : Str.ofString "-" = S [45] := by decide +kernel
theorem lit_zero : Str.ofString "0" = S [48] := by decide +kernel
theorem lit_digits : Str.ofString "0123456789" = S [48, 49, 50, 51, 52, 53, 54, 55, 56, 57] := by decide +kernel
theorem num_lead : ∀ k : Nat, k ≤ 999 → (TL.numL k)[0]? = some 48 → (TL.numL k).length = 1 := by
  have key : ∀ k : Fin 1000, (TL.numL k.1)[0]? = some 48 → (TL.numL k.1).length = 1 := by decide +kernel
  exact fun k h => key ⟨k, by omega⟩
theorem num_len3 {k : Nat} (h : k ≤ 999) : (TL.numL k).length ≤ 3 := TL.numL_len (by omega) (by omega)
theorem num_dig {k c : Nat} (h : c ∈ TL.numL k) : 48 ≤ c ∧ c ≤ 57 := by
  refine Classical.byContradiction fun hn => ?_
  exact TL.numL_free (n := k) (s := c) (by omega) h
theorem num_int {k : Nat} (h : k ≤ 999) : intText? (S (TL.numL k)) = some (k : Int) := by
  rw [← str_num]
  exact TL.int_num (by have := num_len3 h; omega)
theorem cutD_nat {α : Type} (ns : List α) (i j : Nat) : cutD ns (some (i : Int)) (some (j : Int)) = (ns.drop i).take (j - i) := by
  have e1 : HT.sIx ns.length 0 (some (i : Int)) = min i ns.length := by
    unfold HT.sIx
    simp only []
    rw [if_neg (by omega), Int.toNat_natCast]
  have e2 : HT.sIx ns.length ns.length (some (j : Int)) = min j ns.length := by
    unfold HT.sIx
    simp only []
    rw [if_neg (by omega), Int.toNat_natCast]
  unfold cutD
  rw [e1, e2]
  by_cases hi : i ≤ ns.length
  · rw [Nat.min_eq_left hi]
    by_cases hj : j ≤ ns.length
    · rw [Nat.min_eq_left hj]
    · rw [Nat.min_eq_right (by omega), List.take_of_length_le (by simp), List.take_of_length_le (by simp; omega)]
  · rw [List.drop_eq_nil_of_le (by omega), List.drop_eq_nil_of_le (by omega)]
    simp
theorem cutD_nat1 {α : Type} (ns : List α) (i : Nat) : cutD ns (some (i : Int)) (some ((i : Int) + 1)) = (ns.drop i).take 1 := by
  have := cutD_nat ns i (i + 1)
  rw [show ((i + 1 : Nat) : Int) = (i : Int) + 1 by omega] at this
  rw [this, show i + 1 - i = 1 by omega]
theorem sEq_nil {ds : List D} (h : plAll ds = true) (hne : ds ≠ []) (P : Bool → D → Prop) : sEq (.lst ds) (.lst []) P = P false (.bl false) := by
  unfold sEq
  have e : (D.lst ds).eqv (.lst []) = false := by
    cases ds with
    | nil => exact absurd rfl hne
    | cons d ds => simp [D.eqv, D.py, pyAll, PyData.eqv, PyData.eqvAll]
  rw [e]
  simp [D.pl, h, plAll, D.py, pyAll, PyData.depth, PyData.depthAll]
theorem sEq_nil' (P : Bool → D → Prop) : sEq (.lst []) (.lst []) P = P false (.bl true) := by
  unfold sEq
  simp [D.pl, plAll, D.py, pyAll, PyData.depth, PyData.depthAll, D.eqv, PyData.eqv, PyData.eqvAll]
theorem kitB_tl : kitB "tuple" "list" = some false := by decide +kernel
theorem kitB_lt : kitB "list" "tuple" = some false := by decide +kernel
theorem sIsi_tl (ds : List D) (P : Bool → D → Prop) : sIsi (.tup ds) (.ty "list") P = P false (.bl false) := by
  unfold sIsi; simp [tyD, kitB_tl]
theorem sIsi_lt (ds : List D) (P : Bool → D → Prop) : sIsi (.lst ds) (.ty "tuple") P = P false (.bl false) := by
  unfold sIsi; simp [tyD, kitB_lt]
end Lv

set_option maxHeartbeats 4000000
namespace Lv
open PySem PySem.Spec PyProof.Rows L2

/-! ### tuple * int, any -/
theorem tuple_mulS (l : Addr) (items : Array Value) (n : Nat) (dd : Option Addr) (sl : Array (Option Value)) (x : Int) (u : Tok) (c0 : (decide (x < -(2 ^ 63)) || decide (x ≥ 2 ^ 63)) = false) (c1 : (items.isEmpty || x == 1) = true) :
    Meets (Builtin.«tuple.__mul__» ⟨[.ref l, .int x u], []⟩) (fun _ R s => s.heap.get? l = some { cls := .type "tuple", dict := dd, data := .seq items n, slots := sl } ∧ R (.ok (.ret (Value.ref l))) s) :=
  .of_wp fun prog w A R s h => by
    obtain ⟨hp, g, d, tk, os⟩ := s
    obtain ⟨hl, h⟩ := h
    have f1 := AutoSeq1.idx_int
    wp_walk using wpAny_loadPart' hl
    repeat (first
      | (refine wpAny_ite_false (decide_eq_false (by rw [c0]; exact Bool.false_ne_true)) ?_; wp_walk using wpAny_loadPart' hl)
      | (refine wpAny_ite_true (decide_eq_true (by rw [c1])) ?_; wp_walk using wpAny_loadPart' hl))
    exact ⟨_, rfl, h⟩
theorem tuple_mul0 (l : Addr) (items : Array Value) (n : Nat) (dd : Option Addr) (sl : Array (Option Value)) (x : Int) (u : Tok) (c0 : (decide (x < -(2 ^ 63)) || decide (x ≥ 2 ^ 63)) = false) (c1 : (items.isEmpty || x == 1) = false) (c2 : (decide (x ≤ 0) || items.isEmpty) = true) :
    Meets (Builtin.«tuple.__mul__» ⟨[.ref l, .int x u], []⟩) (fun _ R s => s.heap.get? l = some { cls := .type "tuple", dict := dd, data := .seq items n, slots := sl } ∧
      R (.ok (.ret (Value.ref s.heap.objs.size))) { s with heap := s.heap.push { cls := Value.type "tuple", data := Data.seq #[] }, toks := s.toks }) :=
  .of_wp fun prog w A R s h => by
    obtain ⟨hp, g, d, tk, os⟩ := s
    obtain ⟨hl, h⟩ := h
    have f1 := AutoSeq1.idx_int
    wp_walk using wpAny_loadPart' hl
    repeat (first
      | (refine wpAny_ite_false (decide_eq_false (by rw [c0]; exact Bool.false_ne_true)) ?_; wp_walk using wpAny_loadPart' hl)
      | (refine wpAny_ite_false (decide_eq_false (by rw [c1]; exact Bool.false_ne_true)) ?_; wp_walk using wpAny_loadPart' hl)
      | (refine wpAny_ite_true (decide_eq_true (by rw [c2])) ?_; wp_walk using wpAny_loadPart' hl))
    exact ⟨_, rfl, h⟩
def rRepA (K : PySem.W.Frag) : R2 := fun x y H Q => ∃ l k xs, x = .ref l ∧ y = .int k ∧ SqT K H l xs ∧ -(2 ^ 63) ≤ k ∧ k < 2 ^ 63 ∧ xs.length * k.toNat ≤ 1000000 ∧ ((xs = [] ∨ k = 1) → Q (.ref l) H) ∧ (¬ (xs = [] ∨ k = 1) → ∀ p, H p = none → Q (.ref p) (upd H p (.tup (List.replicate k.toNat xs).flatten)))
theorem op_repA {X : Cx} : OpR X (binaryOp .Mult) (rRepA X.K) := by
  intro pins s σ H x y v u Q I rx ry h
  obtain ⟨l, k, xs, rfl, rfl, hT, h1, h2, hz, q1, q2⟩ := h
  cases rx
  obtain ⟨t, rfl⟩ := ry
  obtain ⟨its, r, ⟨⟨cls, dd, data, sl⟩, ho, hc, n, hd⟩, hs⟩ := I.tuple hT
  simp only at hc hd
  subst hc hd
  have hle : its.length = xs.length := r.length.symm
  have hsz0 : its.toArray.size = xs.length := by rw [List.size_toArray, hle]
  have hi : its.toArray.isEmpty = decide (xs = []) := by
    cases its with
    | nil =>
      have : xs = [] := List.eq_nil_of_length_eq_zero hle.symm
      simp [this]
    | cons a b =>
      have : xs ≠ [] := fun e => by rw [e] at hle; simp at hle
      simp [this]
  have c0 : (decide (k < -(2 ^ 63)) || decide (k ≥ 2 ^ 63)) = false := by
    rw [decide_eq_false (by omega), decide_eq_false (by omega)] <;> rfl
  by_cases hc : xs = [] ∨ k = 1
  · have c1 : (its.toArray.isEmpty || k == 1) = true := by
      rw [hi]
      rcases hc with h | h <;> simp [h]
    refine wpAny_binaryOp_repeat_ref (T := "tuple") (U := "int") (by decide) ⟨_, ho, rfl⟩ (fun s' => typeIs_int s' k t) noFill_tuple_mul F.fills_int_mul F.slot_int_rmul repeat_tuple F.slot_int_index.lookup
      (call_meets F.slot_int_rmul (typeIs_int s k t) F.entry_int_rmul (F.args_int_rmul_2 _ _) (int_rmul_tuple k t l its.toArray n dd sl)
        ⟨ho, rfl, ⟨_, ho, rfl⟩, call_meets F.slot_tuple_mul ⟨_, ho, rfl⟩ F.entry_tuple_mul (F.args_tuple_mul_2 _ _) (tuple_mulS l its.toArray n dd sl k t c0 c1) ⟨ho, ?_⟩⟩)
    exact ⟨.ref l, H, I, rfl, q1 hc⟩
  · have c1 : (its.toArray.isEmpty || k == 1) = false := by
      rw [hi]
      simp only [not_or] at hc
      simp [hc.1, hc.2]
    have hne : xs ≠ [] := fun e => hc (.inl e)
    have hpos : 0 < xs.length := List.length_pos_iff.mpr hne
    by_cases h0 : k ≤ 0
    · have c2 : (decide (k ≤ 0) || its.toArray.isEmpty) = true := by simp [h0]
      refine wpAny_binaryOp_repeat_ref (T := "tuple") (U := "int") (by decide) ⟨_, ho, rfl⟩ (fun s' => typeIs_int s' k t) noFill_tuple_mul F.fills_int_mul F.slot_int_rmul repeat_tuple F.slot_int_index.lookup
        (call_meets F.slot_int_rmul (typeIs_int s k t) F.entry_int_rmul (F.args_int_rmul_2 _ _) (int_rmul_tuple k t l its.toArray n dd sl)
          ⟨ho, rfl, ⟨_, ho, rfl⟩, call_meets F.slot_tuple_mul ⟨_, ho, rfl⟩ F.entry_tuple_mul (F.args_tuple_mul_2 _ _) (tuple_mul0 l its.toArray n dd sl k t c0 c1 c2) ⟨ho, ?_⟩⟩)
      have q := q2 hc
      rw [show k.toNat = 0 by omega] at q
      refine ⟨.ref s.heap.objs.size, _, I.laid (t' := s.toks) (o := .tup []) (fun b ob q => Heap.get?_push_of_some _ q) (Nat.le_refl _) ?_, rfl, q _ (I.hok.fresh (Nat.le_refl _))⟩
      exact ⟨Nat.zero_le _, [], .nil, IsTup.new _ _⟩
    · have hk : k.toNat ≤ 1000000 := by
        have : 1 * k.toNat ≤ xs.length * k.toNat := Nat.mul_le_mul_right _ hpos
        omega
      have hm : ((its.toArray.size : Nat) : Int) * k ≤ 1000000 := by
        rw [hsz0]
        have : ((xs.length * k.toNat : Nat) : Int) = (xs.length : Int) * k := by rw [Int.natCast_mul, Int.toNat_of_nonneg (by omega)]
        omega
      have flen : (List.replicate k.toNat its).flatten.length ≤ sizeLine := by
        rw [PyProof.Rows.lm_len_rep_flat, hle, sizeLine_eq, Nat.mul_comm]
        omega
      have c2 : (decide (k ≤ 0) || its.toArray.isEmpty) = false := by
        rw [hi]; simp [hne]; omega
      have c4 : Builtin.Tuple.tupleTooMany (((its.toArray.size : Nat) : Int) * k) = false := by
        unfold Builtin.Tuple.tupleTooMany
        rw [sizeLine_eq]
        exact decide_eq_false (by omega)
      refine wpAny_binaryOp_repeat_ref (T := "tuple") (U := "int") (by decide) ⟨_, ho, rfl⟩ (fun s' => typeIs_int s' k t) noFill_tuple_mul F.fills_int_mul F.slot_int_rmul repeat_tuple F.slot_int_index.lookup
        (call_meets F.slot_int_rmul (typeIs_int s k t) F.entry_int_rmul (F.args_int_rmul_2 _ _) (int_rmul_tuple k t l its.toArray n dd sl)
          ⟨ho, rfl, ⟨_, ho, rfl⟩, call_meets F.slot_tuple_mul ⟨_, ho, rfl⟩ F.entry_tuple_mul (F.args_tuple_mul_2 _ _) (tuple_mulW l its.toArray n dd sl k t c0 c1 c2 (by omega) c4 (by rw [size_rep, List.size_toArray]; exact flen)) ⟨ho, ?_⟩⟩)
      rw [size_rep]
      refine ⟨.ref s.heap.objs.size, _, I.laid (t' := s.toks) (o := .tup (List.replicate k.toNat xs).flatten) (fun b ob q => Heap.get?_push_of_some _ q) (Nat.le_refl _) ?_, rfl, q2 hc _ (I.hok.fresh (Nat.le_refl _))⟩
      exact ⟨by rw [PyProof.Rows.lm_len_rep_flat, Nat.mul_comm, sizeLine_eq]; omega, _, r.rep k.toNat, IsTup.new _ _⟩
section
variable {X : Cx} {z : Ent} {pos : Pos}
def sMulB (d e : D) (P : Bool → D → Prop) : Prop := match d, e with
  | .int i, .int j => MulC i j ∧ P false (.int (i * j))
  | .lst xs, .int k => (-(2 ^ 63) ≤ k ∧ k < 2 ^ 63) ∧ xs.length * k.toNat ≤ sizeLine ∧ P true (.lst (List.replicate k.toNat xs).flatten)
  | .tup xs, .int k => (-(2 ^ 63) ≤ k ∧ k < 2 ^ 63) ∧ xs.length * k.toNat ≤ 1000000 ∧ P false (.tup (List.replicate k.toNat xs).flatten)
  | _, _ => False
def rMulB (K : PySem.W.Frag) : R2 := fun x y H Q => rMulD x y H Q ∨ rRepA K x y H Q
theorem op_mulB : OpR X (binaryOp .Mult) (rMulB X.K) := op_mulA.or op_repA
theorem sem_mulB : Sem2 z (rMulB z.K) sMulB := fun w F He H x y d e P Q wd dx dy q k => by
  unfold sMulB at q
  split at q
  · exact .inl (.inl ⟨_, _, dx.int, dy.int, q.1, k _ _ q.2 _ H F He wd .refl (.int _)⟩)
  · obtain ⟨a, vs, rfl, ha, ra⟩ := dx.lst wd.sf
    exact .inl (.inr ⟨a, _, vs, rfl, dy.int, ha, q.1.1, q.1.2, by rw [ra.length]; exact q.2.1, fun p hp => res_new wd hp (.lst (ra.rep _)) q.2.2 k⟩)
  · next xs j =>
    obtain ⟨a, vs, e, ha, ra⟩ := dx.tup wd.sf
    refine .inr ⟨a, _, vs, e, dy.int, .of ha, q.1.1, q.1.2, by rw [ra.length]; exact q.2.1, fun hc => ?_, fun _ p hp => res_tup wd hp (ra.rep _) q.2.2 k⟩
    have e2 : (List.replicate j.toNat xs).flatten = xs := by
      rcases hc with h | h
      · subst h
        have : xs = [] := List.eq_nil_of_length_eq_zero ra.length.symm
        subst this
        simp
      · subst h
        simp
    have q' := q.2.2
    rw [e2] at q'
    rw [← e]; exact res_at wd dx.dr_tup q' k
  · exact q.elim
/-! ### list(range), tuple(range) -/
theorem rgV_D {K : PySem.W.Frag} {F : Hp} (a b : Int) : DRs K F (rgV a b) (rngD a (b - a).toNat) := by
  unfold rgV rngD
  generalize (List.range (b - a).toNat) = ks
  induction ks with
  | nil => exact .nil
  | cons k ks ih => exact .cons (.int _) ih
def sLR1 (d : D) (P : Bool → D → Prop) : Prop := match d with
  | .int j => RgOk 0 j ∧ P true (.lst (rngD 0 (j - 0).toNat))
  | _ => False
def sLR2 (d e : D) (P : Bool → D → Prop) : Prop := match d, e with
  | .int i, .int j => RgOk i j ∧ P true (.lst (rngD i (j - i).toNat))
  | _, _ => False
def sTR1 (d : D) (P : Bool → D → Prop) : Prop := match d with
  | .int j => RgOk 0 j ∧ P false (.tup (rngD 0 (j - 0).toNat))
  | _ => False
def sTR2 (d e : D) (P : Bool → D → Prop) : Prop := match d, e with
  | .int i, .int j => RgOk i j ∧ P false (.tup (rngD i (j - i).toNat))
  | _, _ => False
theorem jx_listRng1 {a : Expr} {ta : DO} {p p2 pos2 : Pos} (hm : X.mg "list" = none) (hr : X.mg "range" = none) (ha : JO X z a ta) (hc : X.calm = true := by rfl) (hg : Gl X "list" := by rfl) (hg2 : Gl X "range" := by rfl) (na : starEach [a] X.env = (false, eval a X.env) :: starEach [] X.env := by rfl)
    (nb : starEach [Expr.Call (.Name "range" p2) [a] [] pos2] X.env = (false, eval (Expr.Call (.Name "range" p2) [a] [] pos2) X.env) :: starEach [] X.env := by rfl) : JX X z (.Call (.Name "list" p) [.Call (.Name "range" p2) [a] [] pos2] [] pos) (dUn sLR1 ta) :=
  PE.imp (pe_listRg hc hg hm (prg_1 hg2 hr ha na) nb) fun σ H Q ⟨δ, w, F, He, P, R, q, k⟩ => by
    refine ⟨δ, w, F, He, _, R, q, fun d w1 q1 x H1 F1 He1 wd1 st1 r1 => ?_⟩
    have r1 := res_ok wd1.ex wd1.sh r1
    generalize res w1 d = d at q1 r1
    unfold sLR1 at q1
    split at q1
    · exact ⟨_, r1.int, q1.1, fun p hp => res_new wd1 hp (.lst (rgV_D _ _)) q1.2 fun b d' p v H' F' He' wd st rr => k b d' w1 p v H' F' He' wd (st1.trans st) (rr.base st1)⟩
    · exact q1.elim
theorem jx_tupleRng1 {a : Expr} {ta : DO} {p p2 pos2 : Pos} (hm : X.mg "tuple" = none) (hr : X.mg "range" = none) (ha : JO X z a ta) (hc : X.calm = true := by rfl) (hg : Gl X "tuple" := by rfl) (hg2 : Gl X "range" := by rfl) (na : starEach [a] X.env = (false, eval a X.env) :: starEach [] X.env := by rfl)
    (nb : starEach [Expr.Call (.Name "range" p2) [a] [] pos2] X.env = (false, eval (Expr.Call (.Name "range" p2) [a] [] pos2) X.env) :: starEach [] X.env := by rfl) : JX X z (.Call (.Name "tuple" p) [.Call (.Name "range" p2) [a] [] pos2] [] pos) (dUn sTR1 ta) :=
  PE.imp (pe_tupRg hc hg hm (prg_1 hg2 hr ha na) nb) fun σ H Q ⟨δ, w, F, He, P, R, q, k⟩ => by
    refine ⟨δ, w, F, He, _, R, q, fun d w1 q1 x H1 F1 He1 wd1 st1 r1 => ?_⟩
    have r1 := res_ok wd1.ex wd1.sh r1
    generalize res w1 d = d at q1 r1
    unfold sTR1 at q1
    split at q1
    · exact ⟨_, r1.int, q1.1, fun p hp => res_tup wd1 hp (rgV_D _ _) q1.2 fun b d' p v H' F' He' wd st rr => k b d' w1 p v H' F' He' wd (st1.trans st) (rr.base st1)⟩
    · exact q1.elim
theorem jx_listRng2 {a b : Expr} {ta tb : DO} {p p2 pos2 : Pos} (hm : X.mg "list" = none) (hr : X.mg "range" = none) (ha : JO X z a ta) (hb : JO X z b tb) (hc : X.calm = true := by rfl) (hg : Gl X "list" := by rfl) (hg2 : Gl X "range" := by rfl) (na : starEach [a, b] X.env = (false, eval a X.env) :: starEach [b] X.env := by rfl)
    (nb1 : starEach [b] X.env = (false, eval b X.env) :: starEach [] X.env := by rfl) (hp : (backTo pos2 (starEach [b] X.env)).any (·.1) = false := by rfl)
    (nb : starEach [Expr.Call (.Name "range" p2) [a, b] [] pos2] X.env = (false, eval (Expr.Call (.Name "range" p2) [a, b] [] pos2) X.env) :: starEach [] X.env := by rfl) : JX X z (.Call (.Name "list" p) [.Call (.Name "range" p2) [a, b] [] pos2] [] pos) (dBin sLR2 ta tb) :=
  PE.imp (pe_listRg hc hg hm (prg_2 hg2 hr ha hb na nb1 hp) nb) fun σ H Q ⟨δ, w, F, He, P, R, q, k⟩ => by
    refine ⟨δ, w, F, He, _, R, q, fun d w1 q1 x H1 F1 He1 wd1 st1 r1 => ?_⟩
    refine ⟨δ, w1, F1, He1, _, R.step wd1 st1, q1, fun e w2 q2 y H2 F2 He2 wd2 st2 r2 => ?_⟩
    have r1' := res_ok wd2.ex wd2.sh (r1.step st2)
    have r2 := res_ok wd2.ex wd2.sh r2
    generalize res w2 d = d at q2 r1'
    generalize res w2 e = e at q2 r2
    unfold sLR2 at q2
    split at q2
    · exact ⟨_, _, r1'.int, r2.int, q2.1, fun p hp => res_new wd2 hp (.lst (rgV_D _ _)) q2.2 fun b d' p v H' F' He' wd st rr => k b d' w2 p v H' F' He' wd ((st1.trans st2).trans st) (rr.base (st1.trans st2))⟩
    · exact q2.elim
/-! ### is True -/
def sIsBl (d e : D) (P : Bool → D → Prop) : Prop := match d, e with
  | .bl a, .bl b => P false (.bl (decide (a = b)))
  | _, _ => False
theorem sem_isBl : Sem2 z rIsB sIsBl := fun w F He H x y d e P Q wd dx dy q k => by
  unfold sIsBl at q
  split at q
  · exact ⟨_, _, dx.bl, dy.bl, res_at wd (.bl _) q k⟩
  · exact q.elim
/-! ### xs.index(x) of a list -/
theorem pyAll_get (ds : List D) (j : Nat) : (pyAll ds)[j]? = (ds[j]?).map D.py := by
  induction ds generalizing j with
  | nil => rfl
  | cons d ds ih =>
    cases j with
    | zero => rfl
    | succ j => rw [pyAll, List.getElem?_cons_succ, List.getElem?_cons_succ, ih]
def sLindex (d e : D) (P : Bool → D → Prop) : Prop := match d with
  | .lst ds => (plAll ds = true ∧ e.pl = true ∧ SeqAt.shaped (.list (pyAll ds)) = true ∧ SeqAt.shaped e.py = true) ∧ ∃ (j : Nat) (u : D), ds[j]? = some u ∧ u.eqv e = true ∧ (∀ (m : Nat) (u' : D), m < j → ds[m]? = some u' → u'.eqv e = false) ∧ P false (.int (j : Nat))
  | _ => False
theorem sem_lindex : SemM1 z (rIndexD z.K) sLindex := fun w F He H x y d e P Q wd dx dy q k => by
  unfold sLindex at q
  split at q
  · next ds =>
    obtain ⟨⟨p1, p2, p3, p4⟩, j, u, h1, h2, h3, q⟩ := q
    have hl := dx.dp wd.sf (by simpa [D.pl] using p1)
    rw [D.py] at hl
    obtain ⟨a, vs, rfl, ha, ra⟩ := dx.lst wd.sf
    refine ⟨a, y, e.py, pyAll ds, j, u.py, rfl, rfl, hl, dy.dp wd.sf p2, p3, p4, by rw [pyAll_get, h1]; rfl, h2, fun m z' hm hz => ?_, res_at wd (.int _) q k⟩
    rw [pyAll_get] at hz
    cases e' : ds[m]? with
    | none => rw [e'] at hz; cases hz
    | some u' =>
      rw [e'] at hz
      cases hz
      exact h3 m u' hm e'
  · exact q.elim
end
/-- told data that list.index takes -/
structure CodecI {α : Type} (f : α → D) (n : Nat) : Prop extends Codec f n where
  can : ∀ a, (f a).py.canLay0 = true
theorem CodecI.int : CodecI D.int 0 := ⟨Codec.int, fun _ => rfl⟩
theorem CodecI.canAll {α : Type} {f : α → D} {n : Nat} (c : CodecI f n) : ∀ as : List α, PyData.canLayAll0 (pyAll (as.map f)) = true
  | [] => rfl
  | a :: as => by rw [List.map_cons, pyAll, PyData.canLayAll0, c.can, c.canAll as]; rfl
theorem CodecI.tup {α : Type} {f : α → D} {n : Nat} (c : CodecI f n) : CodecI (fun as : List α => .tup (as.map f)) (n + 1) := ⟨c.toCodec.tup, fun as => c.canAll as⟩
theorem CodecI.lst {α : Type} {f : α → D} {n : Nat} (c : CodecI f n) : CodecI (fun as : List α => .lst (as.map f)) (n + 1) := ⟨c.toCodec.lst, fun as => c.canAll as⟩
theorem CodecI.w : CodecI wD 1 := CodecI.int.tup
theorem CodecI.index {α : Type} {f : α → D} {n : Nat} (c : CodecI f n) (hn : n ≤ 60) {as : List α} {a : α} {j : Nat} (h : as[j]? = some a) (h2 : ∀ m, m < j → as[m]? ≠ some a) {P : Bool → D → Prop} (q : P false (.int (j : Nat))) : sLindex (.lst (as.map f)) (f a) P := by
  have d1 := c.toCodec.depAll as
  have d2 := c.toCodec.dep a
  refine ⟨⟨c.toCodec.plAll as, c.toCodec.pl a, ?_, ?_⟩, j, f a, by rw [List.getElem?_map, h]; rfl, (c.toCodec.eq a a).mpr rfl, fun m u' hm hu => ?_, q⟩
  · unfold SeqAt.shaped
    rw [Bool.and_eq_true]
    exact ⟨c.canAll as, decide_eq_true (show PyData.depthAll (pyAll (as.map f)) + 1 ≤ 64 by omega)⟩
  · unfold SeqAt.shaped
    rw [Bool.and_eq_true]
    exact ⟨c.can a, decide_eq_true (by omega)⟩
  · rw [List.getElem?_map] at hu
    cases e : as[m]? with
    | none => rw [e] at hu; cases hu
    | some b =>
      rw [e] at hu
      cases hu
      have hb : b ≠ a := fun z => h2 m hm (by rw [e, z])
      have : ¬ ((f b).eqv (f a) = true) := fun z => hb ((c.toCodec.eq b a).mp z)
      simpa using this
end Lv

namespace Lv
open PySem PySem.Spec L2

/-! ### zip of two lists, of two tuples -/
def zipD (xs ys : List D) : List D := List.zipWith (fun x y => .tup [x, y]) xs ys
theorem zipD_at (xs ys : List D) (i : Nat) {x y : D} (h : xs[i]? = some x) (h2 : ys[i]? = some y) : (zipD xs ys)[i]? = some (.tup [x, y]) := by
  unfold zipD
  rw [List.getElem?_zipWith, h, h2]
theorem itok_zip {K : PySem.W.Frag} {F : Hp} {a b : Addr} {us vs : List V} {xs ys : List D} (ha : F a = some (.lst us)) (ra : DRs K F us xs) (hb : F b = some (.lst vs)) (rb : DRs K F vs ys) : ItOk K (Itz K a b) F (zipD xs ys) where
  go := fun i H s h => by
    have h' : i < xs.length ∧ i < ys.length := by simp [zipD] at h; omega
    obtain ⟨u, hu, _⟩ := ra.get (List.getElem?_eq_getElem h'.1)
    obtain ⟨v, hv, _⟩ := rb.get (List.getElem?_eq_getElem h'.2)
    exact ⟨us, vs, u, v, .of (s _ _ ha), .of (s _ _ hb), hu, hv⟩
  stop := fun H s => ⟨us, vs, .of (s _ _ ha), .of (s _ _ hb), by have := ra.length; have := rb.length; simp [zipD]; omega⟩
  yld := fun i H x H' s h hy => by
    have h' : i < xs.length ∧ i < ys.length := by simp [zipD] at h; omega
    obtain ⟨T, u, v, rfl, hT, rfl, h1, h2⟩ := hy
    obtain ⟨d, hd, rd⟩ := ra.getV (h1 us (.of (s _ _ ha)))
    obtain ⟨e, he, re⟩ := rb.getV (h2 vs (.of (s _ _ hb)))
    exact .inr ⟨T, _, [d, e], rfl, hT, rfl, zipD_at xs ys i hd he, .cons rd (.cons re .nil)⟩
theorem itok_zipT {K : PySem.W.Frag} {F : Hp} {a b : Addr} {us vs : List V} {xs ys : List D} (ha : F a = some (.tup us)) (ra : DRs K F us xs) (hb : F b = some (.lst vs)) (rb : DRs K F vs ys) : True := trivial
def kZip {α : Type} (Q : List D → α → Prop) (w : α) : List D → Prop
  | [.lst xs, .lst ys] => Q (zipD xs ys) w
  | _ => False
def dZip  (ts : DA) : DI := fun δ w Q => ts δ w fun ds w1 => kZip Q w1 ds
section
variable {X : Cx} {z : Ent} {pos : Pos}
theorem ji_zip {e e2 : Expr} {ts : DA} {p tpos : Pos} {elts : List Expr} {kk : Nat} (hK : z.K = X.K) (hm : X.mg "zip" = none) (ha : JA X z [e, e2] ts) (hg : Gl X "zip" := by rfl)
    (hs : starEach [e, e2] X.env = (false, eval e X.env) :: starEach [e2] X.env := by rfl) (hpl : (backTo pos (starEach [e2] X.env)).any (·.1) = false := by rfl) : PI X (.Tuple elts kk tpos) (.Call (.Name "zip" p) [e, e2] [] pos) (liftI z (dZip ts)) :=
  PI.imp (RZ.pi_zipA hg hm ha hs hpl) fun σ H R ⟨δ, w, F, He, P, Re, q, k⟩ => by
    refine ⟨δ, w, F, He, _, Re, q, fun ds w1 q1 vs H1 F1 He1 wd1 st1 r1 => ?_⟩
    rw [← hK]
    unfold kZip at q1
    split at q1
    · next xs ys =>
      cases r1 with
      | cons ra rb =>
        cases rb with
        | cons rb rc =>
          cases rc
          cases ra with
          | lst ea ra =>
            cases rb with
            | lst eb rb => exact ⟨_, _, _, _, rfl, .inl ⟨.of (wd1.sf _ _ ea), .of (wd1.sf _ _ eb), k _ _ q1 _ H1 F1 He1 wd1 st1 (itok_zip ea ra eb rb)⟩⟩
    · exact q1.elim
/-! ### {k: e} -/
def keyOf : D → Option Key
  | .int i => some (.inl i)
  | .str x => some (.inr x)
  | _ => none
theorem keyOf_rel {F He H : Hp} {v : V} {d : D} {k : Key} {K : PySem.W.Frag} (r : DT K F He H v d) (h : keyOf d = some k) : v = kV k := by
  cases d with
  | int i => cases h; exact r.int
  | str x => cases h; exact r.str
  | _ => cases h
def dDisp1  (tk : DO) (tv : DX) : DX := fun δ w Q => tk δ w fun kd w1 => tv δ w1 fun _ d w2 => ∃ k, keyOf kd = some k ∧ Q true (.dK [(k, d)]) w2
theorem jx_disp1 {ke ve : Expr} {tk : DO} {tv : DX} (hk : JO X z ke tk) (hv : JX X z ve tv) : JX X z (.Dict [some ke] [ve] pos) (dDisp1 tk tv) :=
  PE.imp (pe_disp (pps_cons hk hv pps_nil) rfl rfl (List.cons_ne_nil _ _) (by simp)) fun σ H Q ⟨δ, w, F, He, P, R, q, k⟩ => by
    intro p hp
    have hF := R.wd.fnone hp
    have hE := R.wd.henone hp
    have R1 := R.step (R.wd.alloc (o := .dK []) hp) (.alloc hp)
    refine ⟨δ, w, F, He, _, R1, q, fun kd w1 q1 x H1 F1 He1 wd1 st1 r1 => ?_⟩
    refine ⟨δ, w1, F1, He1, _, R1.step wd1 st1, q1, fun b d w2 q2 y H2 F2 He2 wd2 st2 r2 => ?_⟩
    obtain ⟨key, hkey, q2⟩ := q2
    obtain ⟨F3, st3, wd3, r3, s3⟩ := r2.thaw st2 wd2
    have n0 : (upd H p (.dK [])) p ≠ none := by rw [upd_same]; exact fun z => nomatch z
    have hF1 := st1.fresh (o := .dK []) upd_same hF
    have hE1 := st1.freshE n0 hE
    have h1 := st1.keep p _ upd_same hE
    have n1 : H1 p ≠ none := by rw [h1]; exact fun z => nomatch z
    have hF3 := st3.fresh h1 hF1
    have hE3 := st3.freshE n1 hE1
    have h3 := st3.keep p _ h1 hE1
    have hx := keyOf_rel r1.dt hkey
    refine ⟨h3, [(key, y)], by rw [hx]; rfl, by simp, ?_⟩
    have st := ((Step.alloc (F := F) (He := He) (o := .dK []) hp).trans (st1.trans st3)).write (o := .dK (mergeK [] [(key, y)])) hp
    exact k true _ w2 q2 _ _ F3 He2 (wd3.write hF3 hE3) st ⟨p, _, rfl, upd_same, hF3, hE3, hp, .dK (.cons r3 .nil)⟩
end
end Lv

namespace Lv
open PySem PySem.Spec L2

/-! ### cells: named things that change -/
def updW (w : Om) (a : Addr) (c : Cell) : Om := fun b => if b = a then some c else w b
theorem updW_same {w : Om} {a : Addr} {c : Cell} : updW w a c a = some c := by simp [updW]
theorem updW_ne {w : Om} {a b : Addr} {c : Cell} (h : b ≠ a) : updW w a c b = w b := by simp [updW, h]
theorem updW_eq {w : Om} {a b : Addr} {c : Cell} : updW w a c b = if b = a then some c else w b := rfl
theorem updW_twice (w : Om) (a : Addr) (c c' : Cell) : updW (updW w a c) a c' = updW w a c' := by
  funext b
  unfold updW
  split <;> rfl
theorem updW_self {w : Om} {a : Addr} {c : Cell} (h : w a = some c) : updW w a c = w := by
  funext b
  unfold updW
  split
  · next e => rw [e, h]
  · rfl
section
variable {K : PySem.W.Frag} {w : Om} {F He H F' He' H' Hb : Hp}
theorem Wd.at (x : Wd K w F He H) {a : Addr} {c : Cell} (h : w a = some c) : ∃ o, H a = some o ∧ He a = some o ∧ CR K F He a o c := by
  obtain ⟨o, h1, h2⟩ := x.ex.some_ a c h
  exact ⟨o, x.sh _ _ h1, h1, h2⟩
theorem Wd.none_of (x : Wd K w F He H) {a : Addr} (h : He a = none) : w a = none := by
  cases e : w a with
  | none => rfl
  | some c =>
    obtain ⟨o, h1, _⟩ := x.ex.some_ a c e
    rw [h] at h1; cases h1
theorem CR.not_own {a p : Addr} {o : HO} {c : Cell} (h : CR K F He a o c) : o ≠ .own p := by
  intro e
  subst e
  cases h
/-- what a cell holds, at another He -/
theorem CR.other {a : Addr} {o : HO} {c : Cell} (h : CR K F He a o c) (k : ∀ dx p, He dx = some (.own p) → He' dx = some (.own p)) : CR K F He' a o c := by
  cases h with
  | lst h => exact .lst h
  | dK h => exact .dK h
  | dT h => exact .dT h
  | fK h => exact .fK h
  | fT h => exact .fT h
  | ins n h g => exact .ins n (k _ _ h) g
/-- a cell changes -/
theorem Wd.put (x : Wd K w F He H) {a : Addr} {c c' : Cell} {o o' : HO} (h : w a = some c) (ha : He a = some o) (hc : CR K F He a o c) (r : CR K F (upd He a o') a o' c') : Wd K (updW w a c') F (upd He a o') (upd H a o') := by
  have hF := x.dj _ _ ha
  have kp : ∀ dx p, He dx = some (.own p) → upd He a o' dx = some (.own p) := fun dx p e => by
    rw [upd_ne (fun z => by subst z; rw [ha] at e; cases e; exact hc.not_own rfl)]; exact e
  refine ⟨fun b u e => ?_, fun b u e => ?_, fun b u e => ?_, ⟨fun b d e => ?_, fun b e => ?_⟩⟩
  · rw [upd_ne (ne_of_none e hF)]; exact x.sf b u e
  · by_cases hb : b = a
    · subst hb; rw [upd_same] at e ⊢; exact e
    · rw [upd_ne hb] at e ⊢; exact x.sh b u e
  · by_cases hb : b = a
    · subst hb; exact hF
    · rw [upd_ne hb] at e; exact x.dj b u e
  · by_cases hb : b = a
    · subst hb
      rw [updW_same] at e
      cases e
      exact ⟨o', upd_same, r⟩
    · rw [updW_ne hb] at e
      obtain ⟨o2, h1, h2⟩ := x.ex.some_ b d e
      exact ⟨o2, by rw [upd_ne hb]; exact h1, h2.other kp⟩
  · have hb : b ≠ a := fun z => by subst z; rw [updW_same] at e; cases e
    rw [updW_ne hb] at e
    rw [upd_ne hb]
    exact x.ex.none_ b e
theorem Step.put {o o' : HO} {a : Addr} (h : He a = some o) (hH : H a = some o) (ht : ∀ xs, o' ≠ .tup xs := by intro xs e; cases e) : Step F He H F (upd He a o') (upd H a o') where
  fz := Same.refl _
  fzN := fun _ h => .inl h
  heN := fun b e => by
    by_cases hb : b = a
    · subst hb; exact .inl (by rw [h]; exact fun z => nomatch z)
    · rw [upd_ne hb] at e; exact .inl e
  keep := fun b u e n => by
    have hb : b ≠ a := fun z => by subst z; rw [h] at n; cases n
    rw [upd_ne hb]; exact e
  dom := fun b e => by
    by_cases hb : b = a
    · subst hb; rw [upd_same]; exact fun z => nomatch z
    · rw [upd_ne hb]; exact e
  tp := fun b xs e => by
    by_cases hb : b = a
    · subst hb; rw [upd_same] at e; cases e; exact absurd rfl (ht xs)
    · rw [upd_ne hb] at e; exact .inr e
/-- an own container gets a name -/
def cellOf : D → Option Cell
  | .lst ds => some (.lst ds) | .dK kvs => some (.dK kvs) | .dT kvs => some (.dT kvs) | _ => none
theorem OR.cell {a : Addr} {o : HO} {d : D} {c : Cell} (r : OR K F o d) (e : cellOf d = some c) : CR K F He a o c := by
  cases r with
  | lst r => cases e; exact .lst r
  | dK r => cases e; exact .dK r
  | dT r => cases e; exact .dT r
theorem Wd.name (x : Wd K w F He H) {a : Addr} {o : HO} {c : Cell} (h : H a = some o) (n : F a = none) (m : He a = none) (r : CR K F (upd He a o) a o c) : Wd K (updW w a c) F (upd He a o) H := by
  refine ⟨x.sf, fun b u e => ?_, fun b u e => ?_, ⟨fun b d e => ?_, fun b e => ?_⟩⟩
  · by_cases hb : b = a
    · subst hb; rw [upd_same] at e; rw [h]; exact e
    · rw [upd_ne hb] at e; exact x.sh b u e
  · by_cases hb : b = a
    · subst hb; exact n
    · rw [upd_ne hb] at e; exact x.dj b u e
  · by_cases hb : b = a
    · subst hb
      rw [updW_same] at e
      cases e
      exact ⟨o, upd_same, r⟩
    · rw [updW_ne hb] at e
      obtain ⟨o2, h1, h2⟩ := x.ex.some_ b d e
      exact ⟨o2, by rw [upd_ne hb]; exact h1, h2.other fun dx p e => by rw [upd_ne (ne_of_none e m)]; exact e⟩
  · have hb : b ≠ a := fun z => by subst z; rw [updW_same] at e; cases e
    rw [updW_ne hb] at e
    rw [upd_ne hb]
    exact x.ex.none_ b e
theorem Step.name {a : Addr} {o : HO} (s : Step F He Hb F' He' H') (h : Hb a = none) : Step F He Hb F' (upd He' a o) H' where
  fz := s.fz
  fzN := s.fzN
  heN := fun b e => by
    by_cases hb : b = a
    · subst hb; exact .inr h
    · rw [upd_ne hb] at e; exact s.heN b e
  keep := s.keep
  dom := s.dom
  tp := s.tp
/-- a value is taken in: an own new container gets a name -/
def nmK (Q : D → Om → Prop) (w : Om) : Bool → D → Prop
  | false, d => Q d w
  | true, .lst ds => ∀ c, w c = none → Q (.ref c) (updW w c (.lst ds))
  | true, .dK ds => ∀ c, w c = none → Q (.ref c) (updW w c (.dK ds))
  | true, .dT ds => ∀ c, w c = none → Q (.ref c) (updW w c (.dT ds))
  | true, _ => False
def kNm (nm : Bool) (Q : D → Om → Prop) (w : Om) (b : Bool) (d : D) : Prop := if nm = true then nmK Q w b d else Q d w
theorem kNm_use {F1 He1 H1 : Hp} {nm b : Bool} {u : V} {v : D} {Q : D → Om → Prop} (q : kNm nm Q w b v) (wd : Wd K w F1 He1 H1) (st : Step F He H F1 He1 H1) (r : Res K F1 He1 H H1 b u v) :
    ∃ x w3 F2 He2, Q x w3 ∧ Wd K w3 F2 He2 H1 ∧ Step F He H F2 He2 H1 ∧ DR K F2 u x ∧ Same F1 F2 := by
  unfold kNm at q
  cases nm with
  | false =>
    rw [if_neg Bool.false_ne_true] at q
    obtain ⟨F2, st2, wd2, r2, s2⟩ := r.thaw st wd
    exact ⟨v, w, F2, He1, q, wd2, st2, r2, s2⟩
  | true =>
    rw [if_pos rfl] at q
    unfold nmK at q
    split at q
    · exact ⟨v, w, F1, He1, q, wd, st, r, Same.refl _⟩
    all_goals first
      | exact q.elim
      | (obtain ⟨a, o, rfl, ho, n, m, f, rr⟩ := r
         exact ⟨.ref a, _, F1, _, q a (wd.none_of m), wd.name ho n m (rr.cell rfl), st.name f, .ref a, Same.refl _⟩)
end
section
variable {X : Cx} {z : Ent} {pos : Pos}
/-- x = e, e's own container gets a name -/
def dSetN (i : Nat) (t : DX) : DS := fun E δ w => t δ w fun b d w1 => nmK (fun x w2 => E.nx (δ.set i (some (false, x))) w2) w1 b d
theorem asg_setN {i : Nat} {t : DX} {D : Ends} {σ : St} {H : Hp} (h : liftS z (dSetN i t) D σ H) : tAsg (liftX z t) (gName i) D σ H := by
  obtain ⟨δ, w, F, He, E, R, q, c⟩ := h
  refine ⟨δ, w, F, He, _, R, q, fun b d w1 q1 v H1 F1 He1 wd1 st1 r1 => ?_⟩
  obtain ⟨x, w3, F2, He2, q3, wd2, st2, r2, s2⟩ := kNm_use (nm := true) q1 wd1 st1 r1
  exact c.nx _ _ _ _ _ _ q3 (R.assign (b := false) wd2 st2 r2) st2.fz
theorem js_setN {i : Nat} {x : Str} {e : Expr} {t : DX} {pos' : Pos} (hN : X.N.Nodup) (he : JX X z e t) (hi : X.N[i]? = some x := by rfl) (hx : Loc X.env.scope x := by first | exact Or.inl rfl | exact Or.inr rfl)
    (hs : swapsWith e (some (.Name x pos')) pos.line X.env = pure false := by rfl) (hf : X.fn x = true ∨ X.env.scope.names.lookup x = some .local := by first | exact .inl rfl | exact .inr rfl) : JS X z (.Assign [.Name x pos'] e pos) (dSetN i t) :=
  PS.imp (ps_set hN hi hx he hs hf) fun _ _ _ h => asg_setN h
theorem js_setLcN {i : Nat} {y : Str} {py : Pos} {elt tg iter : Expr} {ifs : List Expr} {scope : Scope} {own : List (Str × Nat)} {it : DI} {G : TG} {g : DG} {tt : DTs_} {te : DX} {spos : Pos} (hc : X.calm = true) (hN : X.N.Nodup) (hy : X.N[i]? = some y) (hyl : X.env.scope.names.lookup y = some .local)
    (hsw : swapsWith (.ListComp elt [⟨tg, iter, ifs, 0⟩] scope pos) (some (.Name y py)) spos.line X.env = pure true) (hi : PI X tg iter (liftI z it)) (ok : BlkOk X.N X.env.scope scope own) (gok : GOkV z (own.map (·.2)) G g)
    (hg : ∀ (s : Shared) (H : Hp) (C : Addr) (cl : List (Str × Addr)) (fp : List Addr), PG (X.blk s H scope (compEnvC scope cl C X.env) fp) tg G) (ht : ∀ (s : Shared) (H : Hp) (C : Addr) (cl : List (Str × Addr)) (fp : List Addr), PTs (X.blk s H scope (compEnvC scope cl C X.env) fp) ifs (liftT z tt))
    (he : ∀ (s : Shared) (H : Hp) (C : Addr) (cl : List (Str × Addr)) (fp : List Addr), JX (X.blk s H scope (compEnvC scope cl C X.env) fp) z elt te) (hs : ∀ x, foldedSetIterable iter X.env x = pure x := by intro _; rfl) :
    JS X z (.Assign [.Name y py] (.ListComp elt [⟨tg, iter, ifs, 0⟩] scope pos) spos) (dSetN i (dLc it g tt te (own.map (·.2)))) := PS.imp (ps_setLc hc hN hy hyl hsw hi ok hg ht he hs) fun D σ H h => by
  obtain ⟨δ, w, F, He, E, R, q, c⟩ := h
  refine lc_lift gok ⟨δ, w, F, He, _, R, q, fun b d w1 q1 v H1 F1 He1 wd1 st1 r1 => ?_⟩
  obtain ⟨x, w3, F2, He2, q3, wd2, st2, r2, s2⟩ := kNm_use (nm := true) q1 wd1 st1 r1
  exact c.nx _ _ _ _ _ _ q3 (R.assign (b := false) wd2 st2 r2) st2.fz
/-- an argument, an item of a display, its own container named -/
def dConsN (t : DX) (ts : DA) : DA := fun δ w Q => t δ w fun b d w1 => nmK (fun x w2 => ts δ w2 fun ds w3 => Q (x :: ds) w3) w1 b d
theorem ja_consN {e : Expr} {es : List Expr} {t : DX} {ts : DA} (ha : JX X z e t) (hr : JA X z es ts) (hs : starEach (e :: es) X.env = (false, eval e X.env) :: starEach es X.env := by rfl) : JA X z (e :: es) (dConsN t ts) :=
  PA.imp (pa_cons ha hr hs) fun σ H Q ⟨δ, w, F, He, P, R, q, k⟩ => by
    refine ⟨δ, w, F, He, _, R, q, fun b d w1 q1 x H1 F1 He1 wd1 st1 r1 => ?_⟩
    obtain ⟨y, w3, F2, He2, q3, wd2, st2, r2, s2⟩ := kNm_use (nm := true) (Q := fun x w2 => ts δ w2 fun ds w3 => P (x :: ds) w3) q1 wd1 st1 r1
    refine ⟨δ, w3, F2, He2, fun ds w4 => P (y :: ds) w4, R.step wd2 st2, q3, fun ds w4 q4 vs H3 F3 He3 wd3 st3 r3 => ?_⟩
    exact k _ _ q4 _ H3 F3 He3 wd3 (st2.trans st3) (.cons (r2.mono st3.fz) r3)
/-! ### writing to named things -/
/-- o.append(e) -/
def dAppN (nm : Bool) (tb : DO) (t : DX) : DS := fun E δ w => tb δ w fun d w1 => ∃ a ds, d = .ref a ∧ w1 a = some (.lst ds) ∧ t δ w1 fun b v w2 => kNm nm (fun x w3 => ∃ ds', w3 a = some (.lst ds') ∧ ds'.length < sizeLine ∧ E.nx δ (updW w3 a (.lst (ds' ++ [x])))) w2 b v
theorem js_appN (nm : Bool) {o e : Expr} {tb : DO} {t : DX} {apos cpos pos : Pos} (hK : z.K = X.K) (ho : JO X z o tb) (he : JX X z e t)
    (hbase : attributeBase o "append" X.env (eval o X.env) = eval o X.env := by rfl)
    (hfew : ((backTo cpos (starEach [e] X.env)).all (fun x => !x.1) && (backToKw cpos (keywordEach [] X.env)).all (fun x => x.1.isSome)
      && decide (([e] : List Expr).length + ([] : List Keyword).length + (if ([] : List Keyword).isEmpty then 0 else 1) < 30)) = true := by rfl)
    (hline : (apos.endLine == cpos.line) = true := by rfl) (hs : starEach [e] X.env = (false, eval e X.env) :: starEach [] X.env := by rfl) (hplain : (backTo cpos (starEach [] X.env)).any (·.1) = false := by rfl)
    (hsw : swapsWith (.Call (.Attribute o "append" apos) [e] [] cpos) none pos.line X.env = pure false := by rfl) : JS X z (.Expr (.Call (.Attribute o "append" apos) [e] [] cpos) pos) (dAppN nm tb t) :=
  PS.imp (ps_expr (pe_bm PySem.F.plainAttrs_list PySem.F.slot_list_append PySem.F.type_list_append mt_append ho (pa_cons he pa_nil hs) hbase hfew hline hs hplain) hsw) fun D σ H ⟨δ, w, F, He, E, R, q, c⟩ => by
    refine ⟨δ, w, F, He, _, R, q, fun d w1 q1 x H1 F1 He1 wd1 st1 r1 => ?_⟩
    obtain ⟨a, ds, rfl, hw, q1⟩ := q1
    obtain ⟨ob, h1, h2, rv⟩ := wd1.at hw
    cases rv with
    | lst rv =>
      have hx := r1.dt.refV
      subst hx
      refine ⟨.inl ⟨rfl, _, .of h1⟩, δ, w1, F1, He1, _, R.step wd1 st1, q1, fun b v w2 q2 u H2 F2 He2 wd2 st2 r2 => ?_⟩
      obtain ⟨y, w3, F3, He3, ⟨ds', hw3, hz, q3⟩, wd3, st3, r3, s3⟩ := kNm_use q2 wd2 st2 r2
      obtain ⟨ob', g1, g2, rv'⟩ := wd3.at hw3
      cases id rv' with
      | lst rl =>
        refine ⟨a, _, u, rfl, rfl, g1, by rw [rl.length]; exact hz, ?_⟩
        have R3 := (R.step wd1 st1).step wd3 st3
        exact c.nx _ _ _ _ _ _ q3 (R3.step (wd3.put hw3 g2 rv' (.lst (rl.append (.cons r3 .nil)))) (.put g2 g1)) (st1.fz.trans st3.fz)
/-- a[k] = x, of a cell -/
def putL (P : Cell → Prop) (x : D) (ds : List D) : D → Prop
  | .int j => ∃ n, ixN ds.length j = some n ∧ P (.lst (ds.set n x))
  | _ => False
def putK_ (P : Cell → Prop) (x : D) (kvs : List (Key × D)) : D → Prop
  | .int j => kvs.length < sizeLine ∧ P (.dK (putD kvs (.inl j) x))
  | .str j => kvs.length < sizeLine ∧ P (.dK (putD kvs (.inr j) x))
  | _ => False
def putT_ (P : Cell → Prop) (x : D) (kvs : List (List Key × D)) : D → Prop
  | .tup ks => ∃ js, ks = js.map kD ∧ kvs.length < sizeLine ∧ P (.dT (putD kvs js x))
  | _ => False
def sPutC (P : Cell → Prop) (k x : D) : Option Cell → Prop
  | some (.lst ds) => putL P x ds k
  | some (.dK kvs) => putK_ P x kvs k
  | some (.dT kvs) => putT_ P x kvs k
  | _ => False
def dPutN (nm : Bool) (tb tk : DO) (t : DX) : DS := fun E δ w => t δ w fun b v w1 => kNm nm (fun x w2 => tb δ w2 fun d w3 => tk δ w3 fun kd w4 => ∃ a, d = .ref a ∧ sPutC (fun c => E.nx δ (updW w4 a c)) kd x (w4 a)) w1 b v
theorem js_putN (nm : Bool) {o k e : Expr} {tb tk : DO} {t : DX} {spos pos : Pos} (hK : z.K = X.K) (hu : X.A.units + 1 < cLine) (ho : JO X z o tb) (hk : JO X z k tk) (he : JX X z e t)
    (hs : swapsWithSole [.Subscript o k spos] e pos.line X.env = pure false := by rfl) (hw : swappedStores [.Subscript o k spos] e X.env = pure none := by rfl)
    (h1 : (assignEach [.Subscript o k spos] X.env).map (·.2) = [assign (.Subscript o k spos) X.env] := by rfl)
    (ha : ∀ v, assign (.Subscript o k spos) X.env v = (do
      let ov ← holding [v] (eval o X.env)
      let iv ← holding [v, ov] (eval k X.env)
      standAt spos
      holding [v, ov, iv] (setItem ov iv v)
      release [v, ov, iv] []) := by intro _; rfl) : JS X z (.Assign [.Subscript o k spos] e pos) (dPutN nm tb tk t) :=
  PS.imp (ps_asg he (pg_sub ho hk (PSet.or set_list (set_dict hu)) ha) hs hw h1) fun D σ H ⟨δ, w, F, He, E, R, q, c⟩ => by
    refine ⟨δ, w, F, He, _, R, q, fun b d w1 q1 v H1 F1 He1 wd1 st1 r1 => ?_⟩
    obtain ⟨y, w2, F2, He2, q2, wd2, st2, r2, s2⟩ := kNm_use q1 wd1 st1 r1
    have R2 := R.step wd2 st2
    refine ⟨δ, w2, F2, He2, _, R2, q2, fun od w3 q3 ov H3 F3 He3 wd3 st3 r3 => ?_⟩
    have R3 := R2.step wd3 st3
    refine ⟨δ, w3, F3, He3, _, R3, q3, fun kd w4 q4 kv H4 F4 He4 wd4 st4 r4 => ?_⟩
    have R4 := R3.step wd4 st4
    obtain ⟨a, rfl, q4⟩ := q4
    have ho := (r3.step st4).dt.refV
    subst ho
    have ry := (r2.mono st3.fz).mono st4.fz
    have sF := st2.fz.trans (st3.fz.trans st4.fz)
    have r4 := r4.dt
    cases ew : w4 a with
    | none => rw [ew] at q4; exact q4.elim
    | some cl =>
      rw [ew] at q4
      obtain ⟨ob, g1, g2, rv⟩ := wd4.at ew
      cases id rv with
      | lst rl =>
        simp only [sPutC] at q4
        cases kd with
        | int j =>
          obtain ⟨n, hn, q4⟩ := q4
          exact .inl ⟨a, _, _, n, rfl, r4.int, g1, by rw [rl.length]; exact hn, c.nx _ _ _ _ _ _ q4 (R4.step (wd4.put ew g2 rv (.lst (rl.set ry n))) (.put g2 g1)) sF⟩
        | _ => exact (by simpa [putL, putK_, putT_] using q4)
      | dK rl =>
        simp only [sPutC] at q4
        cases kd with
        | int j =>
          have := r4.int; subst kv
          exact .inr ⟨a, _, rfl, DPut.k (k := .inl _) g1 (by rw [rl.length]; exact q4.1), c.nx _ _ _ _ _ _ q4.2 (R4.step (wd4.put ew g2 rv (.dK (rl.put ry))) (.put g2 g1)) sF⟩
        | str j =>
          have := r4.str; subst kv
          exact .inr ⟨a, _, rfl, DPut.k (k := .inr _) g1 (by rw [rl.length]; exact q4.1), c.nx _ _ _ _ _ _ q4.2 (R4.step (wd4.put ew g2 rv (.dK (rl.put ry))) (.put g2 g1)) sF⟩
        | _ => exact (by simpa [putL, putK_, putT_] using q4)
      | dT rl =>
        simp only [sPutC] at q4
        cases kd with
        | tup ks =>
          obtain ⟨js, rfl, hl, q4⟩ := q4
          obtain ⟨b, us, rfl, hb, rb⟩ := r4.tup wd4.sf
          have := rb.keys; subst us
          exact .inr ⟨a, _, rfl, DPut.t g1 hb (by rw [rl.length]; exact hl), c.nx _ _ _ _ _ _ q4 (R4.step (wd4.put ew g2 rv (.dT (rl.put ry))) (.put g2 g1)) sF⟩
        | _ => exact (by simpa [putL, putK_, putT_] using q4)
      | fK _ => exact q4.elim
      | fT _ => exact q4.elim
      | ins _ _ _ => exact q4.elim
end
end Lv

namespace Lv
open PySem PySem.Spec L2

/-! ### attributes -/
def putFD (f : Str) (x : D) : List (Str × D) → List (Str × D)
  | [] => [(f, x)]
  | (g, y) :: r => if g = f then (g, x) :: r else (g, y) :: putFD f x r
section
variable {K : PySem.W.Frag} {F He H : Hp} {w : Om}
theorem DFs.look {f : Str} : ∀ {vs : List (Str × V)} {ds : List (Str × D)}, DFs K F vs ds → (vs.lookup f = none ∧ ds.lookup f = none) ∨ ∃ v d, vs.lookup f = some v ∧ ds.lookup f = some d ∧ DR K F v d
  | _, _, .nil => .inl ⟨rfl, rfl⟩
  | _, _, .cons (k := g) (v := v) (d := d) h hs => by
    by_cases e : f = g
    · subst e
      exact .inr ⟨v, d, by simp [List.lookup], by simp [List.lookup], h⟩
    · have e2 : (f == g) = false := by simpa using e
      have := DFs.look (f := f) hs
      simpa [List.lookup, e2] using this
theorem DFs.put {f : Str} {x : V} {y : D} (r : DR K F x y) : ∀ {vs : List (Str × V)} {ds : List (Str × D)}, DFs K F vs ds → DFs K F (putF f x vs) (putFD f y ds)
  | _, _, .nil => .cons r .nil
  | _, _, .cons (k := g) h hs => by
    by_cases e : g = f
    · subst e
      show DFs K F (if g = g then _ else _) (if g = g then _ else _)
      rw [if_pos rfl, if_pos rfl]
      exact .cons r hs
    · show DFs K F (if g = f then _ else _) (if g = f then _ else _)
      rw [if_neg e, if_neg e]
      exact .cons h (DFs.put r hs)
theorem DFs.length : ∀ {vs : List (Str × V)} {ds : List (Str × D)}, DFs K F vs ds → vs.length = ds.length
  | _, _, .nil => rfl
  | _, _, .cons _ hs => by simp [DFs.length hs]
/-- an instance stands there -/
theorem Wd.ins {cn : Str} {C a : Addr} {fs : List (Str × D)} (x : Wd K w F He H) (aC : PySem.W.nsIn K mainGlobals cn = some (some (.ref C))) (h : w a = some (.ins cn fs)) : ∃ dx vs, H a = some (.ins C dx vs) ∧ He a = some (.ins C dx vs) ∧ He dx = some (.own a) ∧ DFs K F vs fs := by
  obtain ⟨o, h1, h2, r⟩ := x.at h
  cases r with
  | ins n hd hf =>
    rw [aC] at n
    cases n
    exact ⟨_, _, h1, h2, hd, hf⟩
/-- an attribute is set -/
theorem Wd.putIns {cn : Str} {C a dx : Addr} {fs fs' : List (Str × D)} {vs vs' : List (Str × V)} (x : Wd K w F He H) (aC : PySem.W.nsIn K mainGlobals cn = some (some (.ref C))) (h : w a = some (.ins cn fs)) (ha : He a = some (.ins C dx vs)) (hd : He dx = some (.own a)) (hf : DFs K F vs fs) (hf' : DFs K F vs' fs') :
    Wd K (updW w a (.ins cn fs')) F (upd He a (.ins C dx vs')) (upd H a (.ins C dx vs')) :=
  x.put h ha (.ins aC hd hf) (.ins aC (by rw [upd_ne (fun z => by subst z; rw [ha] at hd; cases hd)]; exact hd) hf')
end
section
variable {X : Cx} {z : Ent} {pos : Pos}
/-- o.f -/
def dFld (cn f : Str) (t : DO) : DX := fun δ w Q => t δ w fun d w1 => ∃ a fs x, d = .ref a ∧ w1 a = some (.ins cn fs) ∧ fs.lookup f = some x ∧ Q false x w1
theorem jx_fld {cn f : Str} {C : Addr} {e : Expr} {t : DO} (hK : z.K = X.K) (aC : PySem.W.nsIn X.K mainGlobals cn = some (some (.ref C))) (c : Cls X.K C) (n : NoAttr X.K C f) (he : JO X z e t) (hb : attributeBase e f X.env (eval e X.env) = eval e X.env := by rfl) : JX X z (.Attribute e f pos) (dFld cn f t) :=
  PE.imp (pe_fld he hb) fun σ H Q ⟨δ, w, F, He, P, R, q, k⟩ => by
    refine ⟨δ, w, F, He, _, R, q, fun d w1 q1 x H1 F1 He1 wd1 st1 r1 => ?_⟩
    obtain ⟨a, fs, y, rfl, hw, hl, q1⟩ := q1
    obtain ⟨dx, vs, g1, g2, g3, rf⟩ := wd1.ins (by rw [hK]; exact aC) hw
    rcases rf.look (f := f) with ⟨_, h2⟩ | ⟨v, d', h1, h2, rv⟩
    · rw [hl] at h2; cases h2
    · rw [hl] at h2; cases h2
      exact ⟨a, C, dx, vs, v, r1.dt.refV, g1, c, n, h1, k _ _ _ q1 v H1 F1 He1 wd1 st1 rv⟩
/-- o.f = e -/
def dFldS (nm : Bool) (cn f : Str) (to : DO) (t : DX) : DS := fun E δ w => t δ w fun b v w1 => kNm nm (fun x w2 => to δ w2 fun d w3 => ∃ a fs, d = .ref a ∧ w3 a = some (.ins cn fs) ∧ fs.length < 1000 ∧ E.nx δ (updW w3 a (.ins cn (putFD f x fs)))) w1 b v
theorem js_fld (nm : Bool) {cn f : Str} {C : Addr} {o e : Expr} {to : DO} {t : DX} {pos' : Pos} (hK : z.K = X.K) (aC : PySem.W.nsIn X.K mainGlobals cn = some (some (.ref C))) (c : Cls X.K C) (n : NoAttr X.K C f) (ho : JO X z o to) (he : JX X z e t)
    (hs : swapsWith e (some (.Attribute o f pos')) pos.line X.env = pure false := by rfl) : JS X z (.Assign [.Attribute o f pos'] e pos) (dFldS nm cn f to t) :=
  PS.imp (ps_fld ho he hs) fun D σ H ⟨δ, w, F, He, E, R, q, cn_⟩ => by
    refine ⟨δ, w, F, He, _, R, q, fun b d w1 q1 v H1 F1 He1 wd1 st1 r1 => ?_⟩
    obtain ⟨y, w2, F2, He2, q2, wd2, st2, r2, s2⟩ := kNm_use q1 wd1 st1 r1
    have R2 := R.step wd2 st2
    refine ⟨δ, w2, F2, He2, _, R2, q2, fun od w3 q3 ov H3 F3 He3 wd3 st3 r3 => ?_⟩
    obtain ⟨a, fs, rfl, hw, hl, q3⟩ := q3
    obtain ⟨dx, vs, g1, g2, g3, rf⟩ := wd3.ins (by rw [hK]; exact aC) hw
    refine ⟨a, C, dx, vs, r3.dt.refV, g1, c, n, by rw [rf.length]; exact hl, ?_⟩
    exact cn_.nx _ _ _ _ _ _ q3 ((R2.step wd3 st3).step (wd3.putIns (by rw [hK]; exact aC) hw g2 g3 rf (rf.put (r2.mono st3.fz))) (.put g2 g1)) (st2.fz.trans st3.fz)
/-- o.f += e, numbers -/
def dFldAug (cn f : Str) (to t : DO) : DS := fun E δ w => to δ w fun d w1 => ∃ a fs i, d = .ref a ∧ w1 a = some (.ins cn fs) ∧ fs.lookup f = some (.int i) ∧ t δ w1 fun e w2 => ∃ j fs', e = .int j ∧ w2 a = some (.ins cn fs') ∧ fs'.length < 1000 ∧ E.nx δ (updW w2 a (.ins cn (putFD f (.int (i + j)) fs')))
theorem js_fldAug {cn f : Str} {C : Addr} {o e : Expr} {to t : DO} {tpos : Pos} (hK : z.K = X.K) (aC : PySem.W.nsIn X.K mainGlobals cn = some (some (.ref C))) (c : Cls X.K C) (n : NoAttr X.K C f) (ho : JO X z o to) (he : JO X z e t) : JS X z (.AugAssign (.Attribute o f tpos) .Add e pos) (dFldAug cn f to t) :=
  PS.imp (ps_fldaug ho he in_add) fun D σ H ⟨δ, w, F, He, E, R, q, cn_⟩ => by
    refine ⟨δ, w, F, He, _, R, q, fun d w1 q1 x H1 F1 He1 wd1 st1 r1 => ?_⟩
    obtain ⟨a, fs, i, rfl, hw, hl, q1⟩ := q1
    obtain ⟨dx, vs, g1, g2, g3, rf⟩ := wd1.ins (by rw [hK]; exact aC) hw
    rcases rf.look (f := f) with ⟨_, h2⟩ | ⟨v, d', h1, h2, rv⟩
    · rw [hl] at h2; cases h2
    · rw [hl] at h2; cases h2
      cases rv
      refine ⟨a, C, dx, vs, .int i, r1.dt.refV, g1, c, n, h1, δ, w1, F1, He1, _, R.step wd1 st1, q1, fun e w2 q2 y H2 F2 He2 wd2 st2 r2 => ?_⟩
      obtain ⟨j, fs', rfl, hw2, hl2, q2⟩ := q2
      obtain ⟨dx', vs', k1, k2, k3, rf'⟩ := wd2.ins (by rw [hK]; exact aC) hw2
      refine ⟨i, j, rfl, r2.dt.int, dx', vs', k1, by rw [rf'.length]; exact hl2, ?_⟩
      exact cn_.nx _ _ _ _ _ _ q2 (((R.step wd1 st1).step wd2 st2).step (wd2.putIns (by rw [hK]; exact aC) hw2 k2 k3 rf' (rf'.put (.int _))) (.put k2 k1)) (st1.fz.trans st2.fz)
end
/-- the method m of the class cn keeps T -/
structure Mth (P : Program) (w : World) (K : PySem.W.Frag) (mg : Str → Option Value) (base : Heap) (k : Nat) (cn m : Str) (T : DSp) : Prop where
  ex : ∃ (C f : Addr) (fd : FuncData) (ps : List Str), PySem.W.nsIn K mainGlobals cn = some (some (.ref C)) ∧ Cls K C ∧ Meth K C m f ∧ FnOk P w K mg base CX0 k f fd ps (toSp K T) ∧ Binds K fd ps []
theorem Mth.mono {P : Program} {w : World} {K : PySem.W.Frag} {mg : Str → Option Value} {base : Heap} {j k : Nat} {cn m : Str} {T : DSp} (F : Mth P w K mg base j cn m T) (h : j ≤ k) : Mth P w K mg base k cn m T :=
  let ⟨C, f, fd, ps, a, b, c, d, e⟩ := F.ex; ⟨C, f, fd, ps, a, b, c, d.mono h, e⟩
/-- the class cn is made by an __init__ that keeps T -/
structure Mak (P : Program) (w : World) (K : PySem.W.Frag) (mg : Str → Option Value) (base : Heap) (k : Nat) (cn : Str) (T : DSp) : Prop where
  ex : ∃ (C f : Addr) (fd : FuncData) (ps : List Str), PySem.W.nsIn K mainGlobals cn = some (some (.ref C)) ∧ mg cn = some (.ref C) ∧ Mk K C f ∧ FnOk P w K mg base CX0 k f fd ps (toSp K T) ∧ Binds K fd ps []
section
variable {X : Cx} {z : Ent} {pos : Pos}
def dMeth (cn m : Str) (T : DSp) (to : DO) (t : DA) : DX := fun δ w Q => to δ w fun d w1 => ∃ a fs, d = .ref a ∧ w1 a = some (.ins cn fs) ∧ fs.lookup m = none ∧ t δ w1 fun ds w2 => T (.ref a :: ds) w2 Q
theorem meth_lift {C : Addr} {cn m : Str} {T : DSp} {to : DO} {t : DA} {σ : St} {H : Hp} {Q : VK} {K : PySem.W.Frag} (hK : z.K = K) (aC : PySem.W.nsIn K mainGlobals cn = some (some (.ref C))) (h : liftX z (dMeth cn m T to t) σ H Q) : tMeth C m (toSp K T) [] E0 (liftO z to) (liftA z t) σ H Q := by
  subst hK
  obtain ⟨δ, w, F, He, P, R, q, k⟩ := h
  refine ⟨δ, w, F, He, _, R, q, fun d w1 q1 x H1 F1 He1 wd1 st1 r1 => ?_⟩
  obtain ⟨a, fs, rfl, hw, hl, q1⟩ := q1
  obtain ⟨dx, vs, g1, g2, g3, rf⟩ := wd1.ins aC hw
  have hx := r1.dt.refV
  subst hx
  refine ⟨a, dx, vs, rfl, g1, ?_, δ, w1, F1, He1, _, R.step wd1 st1, q1, fun ds w2 q2 us H2 F2 He2 wd2 st2 r2 => ?_⟩
  · rcases rf.look (f := m) with ⟨h1, _⟩ | ⟨v, d', h1, h2, rv⟩
    · exact h1
    · rw [hl] at h2; cases h2
  show toSp z.K T (.ref a :: (us ++ [])) H2 Q E0
  rw [List.append_nil]
  exact ⟨.ref a :: ds, w2, F2, He2, P, wd2, .cons (.ref a) r2, q2, fun b d w' p v H' F' He' wd st r => k b d w' p v H' F' He' wd ((st1.trans st2).trans st) (r.base (st1.trans st2))⟩
theorem jx_meth {k : Nat} {cn m : Str} {T : DSp} {to : DO} {t : DA} {o e : Expr} {es : List Expr} {apos : Pos} (f : Mth X.prog X.w X.K X.mg X.base k cn m T) (hK : z.K = X.K) (hr : Room k X.A) (ho : JO X z o to) (ha : JA X z (e :: es) t)
    (hst : starEach (e :: es) X.env = (false, eval e X.env) :: starEach es X.env := by rfl) (hpl : (backTo pos (starEach es X.env)).any (·.1) = false := by rfl) {pl : Sem Bool}
    (ht : eval (.Call (.Attribute o m apos) (e :: es) [] pos) X.env = (do
      let ov ← eval o X.env
      standAt apos.atName
      let (f, first) ← holding [ov] (getMethod ov m pl)
      callWith pos f first (backTo pos (starEach (e :: es) X.env)) (backToKw pos (keywordEach [] X.env))) := by rfl) : JX X z (.Call (.Attribute o m apos) (e :: es) [] pos) (dMeth cn m T to t) := by
  obtain ⟨C, fa, fd, ps, aC, c, hm, a, d⟩ := f.ex
  exact PE.imp (pe_meth ho c hm a hr d .nil pass0 ha hst hpl ht) fun _ _ _ h => meth_lift hK aC h
theorem jx_meth0 {k : Nat} {cn m : Str} {T : DSp} {to : DO} {o : Expr} {apos : Pos} (f : Mth X.prog X.w X.K X.mg X.base k cn m T) (hK : z.K = X.K) (hr : Room k X.A) (ho : JO X z o to) {pl : Sem Bool}
    (ht : eval (.Call (.Attribute o m apos) [] [] pos) X.env = (do
      let ov ← eval o X.env
      standAt apos.atName
      let (f, first) ← holding [ov] (getMethod ov m pl)
      callWith pos f first (backTo pos (starEach [] X.env)) (backToKw pos (keywordEach [] X.env))) := by rfl) : JX X z (.Call (.Attribute o m apos) [] [] pos) (dMeth cn m T to dNil) := by
  obtain ⟨C, fa, fd, ps, aC, c, hm, a, d⟩ := f.ex
  refine PE.imp (pe_meth0 ho c hm a hr d .nil pass0 ht) fun σ H Q h => ?_
  have := meth_lift hK aC h
  unfold tMeth at this ⊢
  obtain ⟨δ, w, F, He, P, R, q, k⟩ := this
  refine ⟨δ, w, F, He, P, R, q, fun d w1 q1 x H1 F1 He1 wd1 st1 r1 => ?_⟩
  obtain ⟨a, dx, fs, e1, e2, e3, q2⟩ := k d w1 q1 x H1 F1 He1 wd1 st1 r1
  refine ⟨a, dx, fs, e1, e2, e3, ?_⟩
  obtain ⟨δ, w, F, He, P, R, q, k⟩ := q2
  exact k _ _ q [] H1 F He R.wd .refl .nil
/-- C(..) -/
def dMake (cn : Str) (T : DSp) (t : DA) : DX := fun δ w Q => t δ w fun ds w1 => ∀ x, w1 x = none → T (.ref x :: ds) (updW w1 x (.ins cn [])) fun _ d w2 => d = .non ∧ Q false (.ref x) w2
theorem make_lift {C : Addr} {cn : Str} {T : DSp} {t : DA} {σ : St} {H : Hp} {Q : VK} {K : PySem.W.Frag} (hK : z.K = K) (aC : PySem.W.nsIn K mainGlobals cn = some (some (.ref C))) (h : liftX z (dMake cn T t) σ H Q) : tMake C (toSp K T) [] E0 (liftA z t) σ H Q := by
  subst hK
  obtain ⟨δ, w, F, He, P, R, q, k⟩ := h
  refine ⟨δ, w, F, He, _, R, q, fun ds w1 q1 vs H1 F1 He1 wd1 st1 r1 x dx hx hdx hne => ?_⟩
  have m := wd1.henone hx
  have md := wd1.henone hdx
  have n := wd1.fnone hx
  have nd := wd1.fnone hdx
  have h1 : (upd H1 dx (.own x)) x = none := by rw [upd_ne (Ne.symm hne)]; exact hx
  have wd2 : Wd z.K (updW w1 x (.ins cn [])) F1 (upd (upd He1 dx (.own x)) x (.ins C dx [])) (upd (upd H1 dx (.own x)) x (.ins C dx [])) := by
    refine ⟨((wd1.alloc hdx).alloc h1).sf, fun b u e => ?_, fun b u e => ?_, ⟨fun b c e => ?_, fun b e => ?_⟩⟩
    · by_cases hb : b = x
      · subst hb; rw [upd_same] at e ⊢; exact e
      · rw [upd_ne hb] at e ⊢
        by_cases hb2 : b = dx
        · subst hb2; rw [upd_same] at e ⊢; exact e
        · rw [upd_ne hb2] at e ⊢; exact wd1.sh b u e
    · by_cases hb : b = x
      · subst hb; exact n
      · rw [upd_ne hb] at e
        by_cases hb2 : b = dx
        · subst hb2; exact nd
        · rw [upd_ne hb2] at e; exact wd1.dj b u e
    · by_cases hb : b = x
      · subst hb
        rw [updW_same] at e
        cases e
        exact ⟨_, upd_same, .ins aC (by rw [upd_ne hne, upd_same]) .nil⟩
      · rw [updW_ne hb] at e
        obtain ⟨o, g1, g2⟩ := wd1.ex.some_ b c e
        have hb2 : b ≠ dx := fun z => by subst z; rw [md] at g1; cases g1
        refine ⟨o, by rw [upd_ne hb, upd_ne hb2]; exact g1, g2.other fun d p e => ?_⟩
        rw [upd_ne (ne_of_none e m), upd_ne (ne_of_none e md)]
        exact e
    · have hb : b ≠ x := fun z => by subst z; rw [updW_same] at e; cases e
      rw [updW_ne hb] at e
      rw [upd_ne hb]
      by_cases hb2 : b = dx
      · subst hb2; exact .inr ⟨x, upd_same⟩
      · rw [upd_ne hb2]; exact wd1.ex.none_ b e
  have st2 : Step F1 He1 H1 F1 (upd (upd He1 dx (.own x)) x (.ins C dx [])) (upd (upd H1 dx (.own x)) x (.ins C dx [])) :=
    (Step.name (Step.name (((Step.alloc hdx).trans (Step.alloc h1))) hdx) hx)
  show toSp z.K T (.ref x :: (vs ++ [])) _ _ E0
  rw [List.append_nil]
  refine ⟨.ref x :: ds, _, F1, _, _, wd2, .cons (.ref x) r1, q1 x (wd1.none_of m), fun b d w' p v H' F' He' wd st r => ?_⟩
  obtain ⟨rfl, p⟩ := p
  exact ⟨r.dt.non, k false _ w' p _ H' F' He' wd ((st1.trans st2).trans st) (.ref x)⟩
theorem jx_make {k : Nat} {cn : Str} {T : DSp} {t : DA} {p : Pos} {e : Expr} {es : List Expr} (f : Mak X.prog X.w X.K X.mg X.base k cn T) (hK : z.K = X.K) (hr : Room (k + 1) X.A) (ha : JA X z (e :: es) t) (hg : Gl X cn := by rfl)
    (hdb : (cn == ("__debug__" : Str)) = false := by decide) (he : starEach (e :: es) X.env = (false, eval e X.env) :: starEach es X.env := by rfl) (hpl : (backTo pos (starEach es X.env)).any (·.1) = false := by rfl) : JX X z (.Call (.Name cn p) (e :: es) [] pos) (dMake cn T t) := by
  obtain ⟨C, fa, fd, ps, aC, mC, M, a, d⟩ := f.ex
  exact PE.imp (pe_make M a hr hg mC d .nil pass0 ha hdb he hpl) fun _ _ _ h => make_lift hK aC h
theorem jx_make0 {k : Nat} {cn : Str} {T : DSp} {p : Pos} (f : Mak X.prog X.w X.K X.mg X.base k cn T) (hK : z.K = X.K) (hr : Room (k + 1) X.A) (hg : Gl X cn := by rfl)
    (hdb : (cn == ("__debug__" : Str)) = false := by decide) : JX X z (.Call (.Name cn p) [] [] pos) (dMake cn T dNil) := by
  obtain ⟨C, fa, fd, ps, aC, mC, M, a, d⟩ := f.ex
  refine PE.imp (pe_make0 M a hr hg mC d .nil pass0 hdb) fun σ H Q h => ?_
  have := make_lift hK aC h
  obtain ⟨δ, w, F, He, P, R, q, k⟩ := this
  exact k _ _ q [] H F He R.wd .refl .nil
end
section
variable {P : Program} {w : World} {K : PySem.W.Frag} {mg : Str → Option Value} {base : Heap}
/-- a method by its body's reading over data -/
theorem mth_ok {T : DSp} {cn m qual : Str} {st : Stmt} {C f : Addr} {fd : FuncData} {N ps : List Str} {k : Nat} (F : L2.Fun K m qual st f fd) (S : FnScope N ps (defScope st)) (aC : PySem.W.nsIn K mainGlobals cn = some (some (.ref C))) (c : Cls K C) (hm : Meth K C m f)
    (hbd : ∀ (kV doc pm : Value) (an : Option Addr) (cdv ct : Value) (us : List Value), us.length = ps.length → bindArgs (PySem.W.fnOf m qual (defArgs st) (defBody st) (defScope st) .none kV doc pm an cdv ct) ⟨us, []⟩ = pure (ps.zip us))
    (len : ∀ ds w P, T ds w P → ds.length = ps.length)
    (h : ∃ tb : Om → DS, (∀ (cdv : Value) (A : Around) (outer : List Env) (s : Shared) (H F0 He0 : Hp) (w0 : Om) (rep0 : rep K w0 F0 He0) (E : XK), Room k (A.deeper (PyProof.Rows.envOfC qual (defScope st) s.heap.objs.size f cdv)) → JSs (cxOf CX0 P w K mg base N qual (defScope st) f cdv A outer s H E).nox ⟨K, F0, He0, H, w0, rep0⟩ (defBody st) (tb w0)) ∧
      ∀ ds w P, T ds w P → tb w { nx := fun _ w => P false .non w, rt := P } (startD N ds) w) : Mth P w K mg base (k + 1) cn m T :=
  ⟨C, f, fd, ps, aC, c, hm, fn_okF F S len h, F.binds hbd⟩
theorem mak_ok {T : DSp} {cn qual : Str} {st : Stmt} {C f : Addr} {fd : FuncData} {N ps : List Str} {k : Nat} (F : L2.Fun K "__init__" qual st f fd) (S : FnScope N ps (defScope st)) (aC : PySem.W.nsIn K mainGlobals cn = some (some (.ref C))) (mC : mg cn = some (.ref C)) (M : Mk K C f)
    (hbd : ∀ (kV doc pm : Value) (an : Option Addr) (cdv ct : Value) (us : List Value), us.length = ps.length → bindArgs (PySem.W.fnOf "__init__" qual (defArgs st) (defBody st) (defScope st) .none kV doc pm an cdv ct) ⟨us, []⟩ = pure (ps.zip us))
    (len : ∀ ds w P, T ds w P → ds.length = ps.length)
    (h : ∃ tb : Om → DS, (∀ (cdv : Value) (A : Around) (outer : List Env) (s : Shared) (H F0 He0 : Hp) (w0 : Om) (rep0 : rep K w0 F0 He0) (E : XK), Room k (A.deeper (PyProof.Rows.envOfC qual (defScope st) s.heap.objs.size f cdv)) → JSs (cxOf CX0 P w K mg base N qual (defScope st) f cdv A outer s H E).nox ⟨K, F0, He0, H, w0, rep0⟩ (defBody st) (tb w0)) ∧
      ∀ ds w P, T ds w P → tb w { nx := fun _ w => P false .non w, rt := P } (startD N ds) w) : Mak P w K mg base (k + 1) cn T :=
  ⟨C, f, fd, ps, aC, mC, M, fn_okF F S len h, F.binds hbd⟩
end
end Lv

namespace Lv
open PySem PySem.Spec L2

/-! ### d.get(k), d.get(k, x), d.pop(k) -/
def isDct : D → Prop
  | .dK _ => True | .dT _ => True | .fK _ => True | .fT _ => True | _ => False
def sGetO (d e : D) (P : Option D → Prop) : Prop := match d, e with
  | .dK kvs, .int i => P (valD kvs (.inl i))
  | .dK kvs, .str i => P (valD kvs (.inr i))
  | .dT kvs, .tup ds => ∃ ks, ds = ks.map kD ∧ P (valD kvs ks)
  | .fK kvs, .int i => P (valD kvs (.inl i))
  | .fT kvs, .tup ds => ∃ ks, ds = ks.map kD ∧ P (valD kvs ks)
  | _, _ => False
section
variable {K : PySem.W.Frag} {F He H : Hp}
theorem isD_of {v : V} {d : D} (r : DT K F He H v d) (s : Same F H) (h : isDct d) : ∃ a, v = .ref a ∧ IsD H a := by
  cases d with
  | dK ds => obtain ⟨a, vs, rfl, ha, _⟩ := r.dK s; exact ⟨a, rfl, .inl ⟨_, .inl ha⟩⟩
  | dT ds => obtain ⟨a, vs, rfl, ha, _⟩ := r.dT s; exact ⟨a, rfl, .inr ⟨_, .inl ha⟩⟩
  | fK ds => obtain ⟨a, ob, vs, rfl, ha, _⟩ := r.fK; exact ⟨a, rfl, .inl ⟨_, .inr ⟨_, ha⟩⟩⟩
  | fT ds => obtain ⟨a, ob, vs, rfl, ha, _⟩ := r.fT; exact ⟨a, rfl, .inr ⟨_, .inr ⟨_, ha⟩⟩⟩
  | _ => exact h.elim
theorem get_of {v u : V} {d e : D} {P : Option D → Prop} {a : Addr} (dx : DT K F He H v d) (dy : DT K F He H u e) (s : Same F H) (hv : v = .ref a) (q : sGetO d e P) : ∃ o o', DGet H a u o ∧ P o' ∧ ((o = none ∧ o' = none) ∨ ∃ x y, o = some x ∧ o' = some y ∧ DR K F x y) := by
  unfold sGetO at q
  split at q
  · obtain ⟨a, vs, rfl, ha, ra⟩ := dx.dK s; cases hv
    have := dy.int; subst u
    exact ⟨_, _, DGet.k (k := .inl _) ha, q, ra.val⟩
  · obtain ⟨a, vs, rfl, ha, ra⟩ := dx.dK s; cases hv
    have := dy.str; subst u
    exact ⟨_, _, DGet.k (k := .inr _) ha, q, ra.val⟩
  · obtain ⟨ks, rfl, q⟩ := q
    obtain ⟨a, vs, rfl, ha, ra⟩ := dx.dT s; cases hv
    obtain ⟨b, us, rfl, hb, rb⟩ := dy.tup s
    have := rb.keys; subst us
    exact ⟨_, _, DGet.t ha hb, q, ra.val⟩
  · obtain ⟨a, ob, vs, rfl, ha, ra⟩ := dx.fK; cases hv
    have := dy.int; subst u
    exact ⟨_, _, .inl ⟨_, .inl _, .inr ⟨_, ha⟩, rfl, rfl⟩, q, ra.val⟩
  · obtain ⟨ks, rfl, q⟩ := q
    obtain ⟨a, ob, vs, rfl, ha, ra⟩ := dx.fT; cases hv
    obtain ⟨b, us, rfl, hb, rb⟩ := dy.tup s
    have := rb.keys; subst us
    exact ⟨_, _, .inr ⟨_, ks, b, .inr ⟨_, ha⟩, rfl, hb, rfl⟩, q, ra.val⟩
  · exact q.elim
end
section
variable {X : Cx} {z : Ent} {pos : Pos}
def dGet1 (to tk : DO) : DX := fun δ w Q => to δ w fun d w1 => isDct (res w1 d) ∧ tk δ w1 fun e w2 => sGetO (res w2 d) (res w2 e) fun o => Q false (o.getD .non) w2
theorem jx_get1 {o e : Expr} {to tk : DO} {apos cpos : Pos} (hK : z.K = X.K) (hu : X.A.units + 1 < cLine) (ho : JO X z o to) (he : JO X z e tk) (m : M1 X o "get" apos e cpos := by exact ⟨rfl, rfl, rfl, rfl⟩) : JX X z (.Call (.Attribute o "get" apos) [e] [] cpos) (dGet1 to tk) :=
  PE.imp (pe_dget1 hu ho he m) fun σ H Q ⟨δ, w, F, He, P, R, q, k⟩ => by
    refine ⟨δ, w, F, He, _, R, q, fun d w1 q1 x H1 F1 He1 wd1 st1 r1 => ?_⟩
    obtain ⟨a, hx, hd⟩ := isD_of (res_ok wd1.ex wd1.sh r1) wd1.sf q1.1
    refine ⟨a, hx, hd, δ, w1, F1, He1, _, R.step wd1 st1, q1.2, fun e w2 q2 y H2 F2 He2 wd2 st2 r2 => ?_⟩
    obtain ⟨o, o', hg, q3, ho⟩ := get_of (res_ok wd2.ex wd2.sh (r1.step st2)) (res_ok wd2.ex wd2.sh r2) wd2.sf hx q2
    refine ⟨o, hg, k _ _ _ q3 _ H2 F2 He2 wd2 (st1.trans st2) ?_⟩
    rcases ho with ⟨rfl, rfl⟩ | ⟨u, v, rfl, rfl, r⟩
    · exact .non
    · exact r
def dGet2 (to tk : DO) (tx : DX) : DX := fun δ w Q => to δ w fun d w1 => isDct (res w1 d) ∧ tk δ w1 fun e w2 => tx δ w2 fun _ x w3 => sGetO (res w3 d) (res w3 e) fun o => Q false (o.getD x) w3
theorem jx_get2 {o e f : Expr} {to tk : DO} {tx : DX} {apos cpos : Pos} (hK : z.K = X.K) (hu : X.A.units + 1 < cLine) (ho : JO X z o to) (he : JO X z e tk) (hf : JX X z f tx) (m : M2 X o "get" apos e f cpos := by exact ⟨rfl, rfl, rfl, rfl⟩) : JX X z (.Call (.Attribute o "get" apos) [e, f] [] cpos) (dGet2 to tk tx) :=
  PE.imp (pe_dget2 hu ho he hf m) fun σ H Q ⟨δ, w, F, He, P, R, q, k⟩ => by
    refine ⟨δ, w, F, He, _, R, q, fun d w1 q1 x H1 F1 He1 wd1 st1 r1 => ?_⟩
    obtain ⟨a, hx, hd⟩ := isD_of (res_ok wd1.ex wd1.sh r1) wd1.sf q1.1
    refine ⟨a, hx, hd, δ, w1, F1, He1, _, R.step wd1 st1, q1.2, fun e w2 q2 y H2 F2 He2 wd2 st2 r2 => ?_⟩
    refine ⟨δ, w2, F2, He2, _, (R.step wd1 st1).step wd2 st2, q2, fun b y3 w3 q3 v3 H3 F3 He3 wd3 st3 r3 => ?_⟩
    obtain ⟨F4, st4, wd4, r4, s4⟩ := r3.thaw st3 wd3
    have st34 := st2.trans st4
    obtain ⟨o, o', hg, q4, ho⟩ := get_of (res_ok wd4.ex wd4.sh (r1.step st34)) (res_ok wd4.ex wd4.sh (r2.step st4)) wd4.sf hx q3
    refine ⟨o, hg, k _ _ _ q4 _ H3 F4 He3 wd4 (st1.trans st34) ?_⟩
    rcases ho with ⟨rfl, rfl⟩ | ⟨u, v, rfl, rfl, r⟩
    · exact r4
    · exact r
def dDPop (to tk : DO) : DX := fun δ w Q => to δ w fun d w1 => ∃ a kvs0, d = .ref a ∧ w1 a = some (.dK kvs0) ∧ tk δ w1 fun e w2 => ∃ kvs key x, w2 a = some (.dK kvs) ∧ keyOf e = some key ∧ valD kvs key = some x ∧ Q false x (updW w2 a (.dK (dropD kvs key)))
theorem jx_dpop {o e : Expr} {to tk : DO} {apos cpos : Pos} (hK : z.K = X.K) (ho : JO X z o to) (he : JO X z e tk) (m : M1 X o "pop" apos e cpos := by exact ⟨rfl, rfl, rfl, rfl⟩) : JX X z (.Call (.Attribute o "pop" apos) [e] [] cpos) (dDPop to tk) :=
  PE.imp (pe_dpop1 ho he m) fun σ H Q ⟨δ, w, F, He, P, R, q, k⟩ => by
    refine ⟨δ, w, F, He, _, R, q, fun d w1 q1 x H1 F1 He1 wd1 st1 r1 => ?_⟩
    obtain ⟨a, kvs0, rfl, hw, q1⟩ := q1
    obtain ⟨ob, h1, h2, rv⟩ := wd1.at hw
    cases rv with
    | dK rv =>
      refine ⟨a, r1.dt.refV, .inl ⟨_, .inl h1⟩, δ, w1, F1, He1, _, R.step wd1 st1, q1, fun e w2 q2 y H2 F2 He2 wd2 st2 r2 => ?_⟩
      obtain ⟨kvs, key, x, hw2, hk, hv, q2⟩ := q2
      obtain ⟨ob2, g1, g2, rv2⟩ := wd2.at hw2
      cases id rv2 with
      | dK rl =>
        rcases rl.val (k := key) with ⟨_, z2⟩ | ⟨u, d', z1, z2, ru⟩
        · rw [hv] at z2; cases z2
        · rw [hv] at z2; cases z2
          refine ⟨_, key, u, g1, keyOf_rel r2.dt hk, z1, ?_⟩
          exact k _ _ _ q2 u _ _ _ (wd2.put hw2 g2 rv2 (.dK rl.drop)) ((st1.trans st2).trans (.put g2 g1)) ru
/-! ### xs.pop(), xs.pop(i) of a named list -/
def dLPop (to : DO) : DX := fun δ w Q => to δ w fun d w1 => ∃ a ds x, d = .ref a ∧ w1 a = some (.lst ds) ∧ ds[ds.length - 1]? = some x ∧ Q false x (updW w1 a (.lst ds.dropLast))
theorem jx_lpop {o : Expr} {to : DO} {apos cpos : Pos} (hK : z.K = X.K) (ho : JO X z o to)
    (hbase : attributeBase o "pop" X.env (eval o X.env) = eval o X.env := by rfl) (hline : (apos.endLine == cpos.line) = true := by rfl) : JX X z (.Call (.Attribute o "pop" apos) [] [] cpos) (dLPop to) :=
  PE.imp (pe_bm0 PySem.F.plainAttrs_list PySem.F.slot_list_pop PySem.F.type_list_pop mt_pop ho hbase hline) fun σ H Q ⟨δ, w, F, He, P, R, q, k⟩ => by
    refine ⟨δ, w, F, He, _, R, q, fun d w1 q1 x H1 F1 He1 wd1 st1 r1 => ?_⟩
    obtain ⟨a, ds, y, rfl, hw, hy, q1⟩ := q1
    obtain ⟨ob, h1, h2, rv⟩ := wd1.at hw
    have hx := r1.dt.refV
    subst hx
    cases id rv with
    | lst rl =>
      obtain ⟨v, hv, ry⟩ := rl.get hy
      refine ⟨.inl ⟨rfl, _, .of h1⟩, a, _, v, rfl, rfl, h1, by rw [rl.length]; exact hv, ?_⟩
      exact k _ _ _ q1 v _ _ _ (wd1.put hw h2 rv (.lst rl.dropLast)) (st1.trans (.put h2 h1)) ry
def dLPopAt (to ti : DO) : DX := fun δ w Q => to δ w fun d w1 => ∃ a ds0, d = .ref a ∧ w1 a = some (.lst ds0) ∧ ti δ w1 fun e w2 => ∃ ds i n x, e = .int i ∧ w2 a = some (.lst ds) ∧ (-(2 ^ 63) ≤ i ∧ i < 2 ^ 63) ∧ ixN ds.length i = some n ∧ ds[n]? = some x ∧ Q false x (updW w2 a (.lst (ds.eraseIdx n)))
theorem seqIx_of {i : Int} {n k : Nat} (h : ixN n i = some k) : seqIndex? i n = some k := by
  unfold ixN at h
  unfold seqIndex?
  split at h
  · split at h
    · cases h
      first | (simp; omega) | (split <;> simp_all <;> omega)
    · cases h
  · split at h
    · cases h
      first | (simp; omega) | (split <;> simp_all <;> omega)
    · cases h
theorem jx_lpopAt {o e : Expr} {to ti : DO} {apos cpos : Pos} (hK : z.K = X.K) (ho : JO X z o to) (he : JO X z e ti)
    (hbase : attributeBase o "pop" X.env (eval o X.env) = eval o X.env := by rfl)
    (hfew : ((backTo cpos (starEach [e] X.env)).all (fun x => !x.1) && (backToKw cpos (keywordEach [] X.env)).all (fun x => x.1.isSome)
      && decide (([e] : List Expr).length + ([] : List Keyword).length + (if ([] : List Keyword).isEmpty then 0 else 1) < 30)) = true := by rfl)
    (hline : (apos.endLine == cpos.line) = true := by rfl) (hs : starEach [e] X.env = (false, eval e X.env) :: starEach [] X.env := by rfl) (hplain : (backTo cpos (starEach [] X.env)).any (·.1) = false := by rfl) : JX X z (.Call (.Attribute o "pop" apos) [e] [] cpos) (dLPopAt to ti) :=
  PE.imp (pe_bm PySem.F.plainAttrs_list PySem.F.slot_list_pop PySem.F.type_list_pop mt_popAt ho (pa_cons he pa_nil hs) hbase hfew hline hs hplain) fun σ H Q ⟨δ, w, F, He, P, R, q, k⟩ => by
    refine ⟨δ, w, F, He, _, R, q, fun d w1 q1 x H1 F1 He1 wd1 st1 r1 => ?_⟩
    obtain ⟨a, ds0, rfl, hw, q1⟩ := q1
    obtain ⟨ob, h1, h2, rv⟩ := wd1.at hw
    have hx := r1.dt.refV
    subst hx
    cases rv with
    | lst rl0 =>
      refine ⟨.inl ⟨rfl, _, .of h1⟩, δ, w1, F1, He1, _, R.step wd1 st1, q1, fun e w2 q2 y H2 F2 He2 wd2 st2 r2 => ?_⟩
      obtain ⟨ds, i, n, y, rfl, hw2, hb, hn, hy, q2⟩ := q2
      obtain ⟨ob2, g1, g2, rv2⟩ := wd2.at hw2
      cases id rv2 with
      | lst rl =>
        obtain ⟨v, hv, ry⟩ := rl.get hy
        refine ⟨a, _, i, n, v, rfl, by rw [r2.dt.int], g1, hb.1, hb.2, by rw [rl.length]; exact seqIx_of hn, hv, ?_⟩
        exact k _ _ _ q2 v _ _ _ (wd2.put hw2 g2 rv2 (.lst (rl.eraseIdx n))) ((st1.trans st2).trans (.put g2 g1)) ry
/-- xs.clear() of a named list -/
def dLClear (to : DO) : DX := fun δ w Q => to δ w fun d w1 => ∃ a ds, d = .ref a ∧ w1 a = some (.lst ds) ∧ Q false .non (updW w1 a (.lst []))
theorem jx_lclear {o : Expr} {to : DO} {apos cpos : Pos} (hK : z.K = X.K) (ho : JO X z o to)
    (hbase : attributeBase o "clear" X.env (eval o X.env) = eval o X.env := by rfl) (hline : (apos.endLine == cpos.line) = true := by rfl) : JX X z (.Call (.Attribute o "clear" apos) [] [] cpos) (dLClear to) :=
  PE.imp (pe_bm0 PySem.F.plainAttrs_list PySem.F.slot_list_clear PySem.F.type_list_clear mt_clear ho hbase hline) fun σ H Q ⟨δ, w, F, He, P, R, q, k⟩ => by
    refine ⟨δ, w, F, He, _, R, q, fun d w1 q1 x H1 F1 He1 wd1 st1 r1 => ?_⟩
    obtain ⟨a, ds, rfl, hw, q1⟩ := q1
    obtain ⟨ob, h1, h2, rv⟩ := wd1.at hw
    have hx := r1.dt.refV
    subst hx
    cases id rv with
    | lst rl =>
      refine ⟨.inl ⟨rfl, _, .of h1⟩, a, _, rfl, rfl, h1, ?_⟩
      exact k _ _ _ q1 .non _ _ _ (wd1.put hw h2 rv (.lst .nil)) (st1.trans (.put h2 h1)) .non
/-! ### more that is walked -/
def enumD (ds : List D) : List D := ds.zipIdx.map fun q => .tup [.int (q.2 : Nat), q.1]
theorem enumD_len (ds : List D) : (enumD ds).length = ds.length := by simp [enumD]
theorem enumD_at (ds : List D) (i : Nat) {d : D} (h : ds[i]? = some d) : (enumD ds)[i]? = some (.tup [.int (i : Nat), d]) := by
  unfold enumD
  rw [List.getElem?_map, List.getElem?_zipIdx, h]
  simp
theorem itok_enum {K : PySem.W.Frag} {F : Hp} {a : Addr} {vs : List V} {ds : List D} (ha : F a = some (.lst vs)) (ra : DRs K F vs ds) : ItOk K (Ite K a) F (enumD ds) where
  go := fun i H s h => by
    rw [enumD_len] at h
    obtain ⟨u, hu, _⟩ := ra.get (List.getElem?_eq_getElem h)
    exact ⟨vs, u, .of (s _ _ ha), hu⟩
  stop := fun H s => ⟨vs, .of (s _ _ ha), by rw [enumD_len, ra.length]; exact Nat.le_refl _⟩
  yld := fun i H x H' s h hy => by
    rw [enumD_len] at h
    obtain ⟨T, u, rfl, hT, rfl, h1⟩ := hy
    obtain ⟨d, hd, rd⟩ := ra.getV (h1 vs (.of (s _ _ ha)))
    exact .inr ⟨T, _, [.int (i : Nat), d], rfl, hT, rfl, enumD_at ds i hd, .cons (.int _) (.cons rd .nil)⟩
def kEnum {α : Type} (Q : List D → α → Prop) (w : α) : List D → Prop
  | [.lst xs] => Q (enumD xs) w
  | _ => False
def dEnum (ts : DA) : DI := fun δ w Q => ts δ w fun ds w1 => kEnum Q w1 ds
theorem ji_enum {e : Expr} {ts : DA} {p tpos : Pos} {elts : List Expr} {kk : Nat} (hK : z.K = X.K) (hm : X.mg "enumerate" = none) (ha : JA X z [e] ts) (hg : Gl X "enumerate" := by rfl)
    (hs : starEach [e] X.env = [(false, eval e X.env)] := by rfl) : PI X (.Tuple elts kk tpos) (.Call (.Name "enumerate" p) [e] [] pos) (liftI z (dEnum ts)) :=
  PI.imp (pi_enum hg hm ha hs) fun σ H R ⟨δ, w, F, He, P, Re, q, k⟩ => by
    refine ⟨δ, w, F, He, _, Re, q, fun ds w1 q1 vs H1 F1 He1 wd1 st1 r1 => ?_⟩
    rw [← hK]
    unfold kEnum at q1
    split at q1
    · next xs =>
      cases r1 with
      | cons ra rb =>
        cases rb
        cases ra with
        | lst ea ra => exact ⟨_, _, rfl, .of (wd1.sf _ _ ea), k _ _ q1 _ H1 F1 He1 wd1 st1 (itok_enum ea ra)⟩
    · exact q1.elim
/-- range(a, b, c) -/
def rngC (lo c : Int) (n : Nat) : List D := (List.range n).map fun k => .int (lo + (k : Nat) * c)
theorem itok_rngC {K : PySem.W.Frag} {F : Hp} {lo c : Int} {n : Nat} : ItOk K (Itc lo c n) F (rngC lo c n) where
  go := fun i H s h => by
    have h' : i < n := by simpa [rngC] using h
    exact h'
  stop := fun H s => by simp [rngC, Itc]
  yld := fun i H v H' s h ⟨e1, hv⟩ => .inl ⟨e1, .int (lo + (i : Nat) * c), by
    have h' : i < n := by simpa [rngC] using h
    simp [rngC, h'], by rw [hv]; exact .int _⟩
def kR3 {α : Type} (Q : List D → α → Prop) (w : α) : List D → Prop
  | [.int i, .int j, .int c] => ∃ n, RgC i j c n ∧ Q (rngC i c n) w
  | _ => False
def dRng3 (ts : DA) : DI := fun δ w Q => ts δ w fun ds w1 => kR3 Q w1 ds
theorem ji_rng3 {tg a b c : Expr} {ts : DA} {p : Pos} (hm : X.mg "range" = none) (ha : JA X z [a, b, c] ts) (hg : Gl X "range" := by rfl)
    (hs : starEach [a, b, c] X.env = (false, eval a X.env) :: starEach [b, c] X.env := by rfl) (hpl : (backTo pos (starEach [b, c] X.env)).any (·.1) = false := by rfl) : PI X tg (.Call (.Name "range" p) [a, b, c] [] pos) (liftI z (dRng3 ts)) :=
  PI.imp (pi_range3 hg hm ha hs hpl) fun σ H R ⟨δ, w, F, He, P, Re, q, k⟩ => by
    refine ⟨δ, w, F, He, _, Re, q, fun ds w1 q1 vs H1 F1 He1 wd1 st1 r1 => ?_⟩
    unfold kR3 at q1
    split at q1
    · obtain ⟨n, hn, q1⟩ := q1
      have e := DRs.ints (ns := [_, _, _]) r1
      subst e
      exact ⟨_, _, _, n, rfl, hn, k _ _ q1 _ H1 F1 He1 wd1 st1 itok_rngC⟩
    · exact q1.elim
/-! ### for over a named list that stays as it is -/
def dForGoN (a : Addr) (c : Cell) (g : DG) (t : DS) (E : DEnds) : List D → DSt → Om → Prop
  | [], δ, w => E.nx δ w
  | d :: ds, δ, w => g d δ fun δ1 => t { E with nx := fun δ w => w a = some c ∧ dForGoN a c g t E ds δ w, ct := fun δ w => w a = some c ∧ dForGoN a c g t E ds δ w, bk := E.nx } δ1 w
def dForN (to : DO) (g : DG) (t : DS) : DS := fun E δ w => to δ w fun d w1 => ∃ a ds, d = .ref a ∧ w1 a = some (.lst ds) ∧ dForGoN a (.lst ds) g t E ds δ w1
theorem js_forN {tg iter : Expr} {body : List Stmt} {to : DO} {G : TG} {g : DG} {t : DS} (hK : z.K = X.K) (hp : PassesOwn (model X.prog X.w) X.A X.env X.xe) (hc : X.calm = true) (hi : JO X z iter to) (hg : PG X tg G) (ok : GOk z G g) (hb : JSs X z body t)
    (hs : ∀ x, foldedSetIterable iter X.env x = pure x := by intro _; rfl) : JS X z (.For tg iter body [] pos) (dForN to g t) :=
  PS.imp (ps_for hp hc (pi_any hi) hg hb hs) fun D σ H ⟨δ, w, F, He, E, R, q, cn⟩ => by
    refine ⟨δ, w, F, He, _, R, q, fun d w1 q1 v H1 F1 He1 wd1 st1 r1 => ?_⟩
    obtain ⟨a, ds, rfl, hw, q1⟩ := q1
    obtain ⟨ob, h1, h2, rv⟩ := wd1.at hw
    have hv := r1.dt.refV
    subst hv
    cases rv with
    | lst rl =>
      refine .inl ⟨a, rfl, ⟨_, .of h1⟩, ?_⟩
      refine ⟨fun i m σ H => m = ds.length - i ∧ i ≤ ds.length ∧ ∃ δ w F He, Same F1 F ∧ Rel z δ w F He σ H ∧ w a = some (.lst ds) ∧ dForGoN a (.lst ds) g t E (ds.drop i) δ w, ⟨ds.length, by simp, Nat.zero_le _, δ, w1, F1, He1, Same.refl _, R.step wd1 st1, hw, q1⟩, ?_⟩
      rintro i m σ H ⟨rfl, hle, δ, w, F, He, sF, R, hw, q⟩
      obtain ⟨ob, g1, g2, rv⟩ := R.wd.at hw
      cases rv with
      | lst rl =>
        rename_i vs
        rw [← hK]
        by_cases hlt : i < ds.length
        · obtain ⟨u, hu, ru⟩ := rl.get (List.getElem?_eq_getElem hlt)
          refine .inr ⟨⟨vs, u, .of g1, hu⟩, fun σ' H' => ∃ δ w F He, Same F1 F ∧ Rel z δ w F He σ' H' ∧ w a = some (.lst ds) ∧ dForGoN a (.lst ds) g t E (ds.drop (i + 1)) δ w, fun σ' H' h => ⟨ds.length - (i + 1), by omega, rfl, hlt, h⟩, fun x H' y => ?_⟩
          obtain ⟨rfl, y⟩ := y
          have hx := y vs (.of g1)
          rw [hu] at hx
          cases hx
          rw [List.drop_eq_getElem_cons hlt] at q
          refine ok δ w F He _ σ u _ _ _ R ru q fun δ2 σ2 q2 R2 => ?_
          have s1 := st1.fz.trans sF
          exact ⟨δ2, w, F, He, _, R2, q2, ⟨fun δ3 w3 F3 He3 σ3 H3 p r s3 => ⟨δ3, w3, F3, He3, sF.trans s3, r, p.1, p.2⟩, cn.rt, fun δ3 w3 F3 He3 σ3 H3 p r s3 => cn.nx _ _ _ _ _ _ p r (s1.trans s3), fun δ3 w3 F3 He3 σ3 H3 p r s3 => ⟨δ3, w3, F3, He3, sF.trans s3, r, p.1, p.2⟩⟩⟩
        · have e : i = ds.length := by omega
          subst e
          rw [List.drop_length] at q
          exact .inl ⟨⟨vs, .of g1, by rw [rl.length]; exact Nat.le_refl _⟩, cn.nx _ _ _ _ _ _ q R (st1.fz.trans sF)⟩
/-! ### a dict that is walked: locked while it lasts -/
def lkE (a : Addr) (c c' : Cell) (E : DEnds) : DEnds where
  nx := fun δ w => w a = some c' ∧ E.nx δ (updW w a c)
  rt := fun b d w => w a = some c' ∧ E.rt b d (updW w a c)
  bk := fun δ w => w a = some c' ∧ E.bk δ (updW w a c)
  ct := fun δ w => w a = some c' ∧ E.ct δ (updW w a c)
def dLock (t : DS) : DS := fun E δ w => ∃ a, (∃ kvs, w a = some (.dK kvs) ∧ ∀ ob vs, t (lkE a (.dK kvs) (.fK ob vs kvs) E) δ (updW w a (.fK ob vs kvs))) ∨ ∃ kvs, w a = some (.dT kvs) ∧ ∀ ob vs, t (lkE a (.dT kvs) (.fT ob vs kvs) E) δ (updW w a (.fT ob vs kvs))
theorem lock_conn {a : Addr} {c c' : Cell} {o o' : HO} {F : Hp} {E : DEnds} {D : Ends} (cn : Conn z F E D) (hc : ∀ (F He : Hp) (u : HO), CR z.K F He a u c' → u = o' ∧ ∀ He', CR z.K F He' a o c) (ht : ∀ xs, o ≠ .tup xs) :
    Conn z F (lkE a c c' E) ⟨fun σ' H' => H' a = some o' ∧ D.nx σ' (upd H' a o), fun v H' => H' a = some o' ∧ D.rt v (upd H' a o), fun σ' H' => H' a = some o' ∧ D.bk σ' (upd H' a o), fun σ' H' => H' a = some o' ∧ D.ct σ' (upd H' a o)⟩ := by
  have key : ∀ {w : Om} {F He H : Hp}, Wd z.K w F He H → w a = some c' → H a = some o' ∧ He a = some o' ∧ Wd z.K (updW w a c) F (upd He a o) (upd H a o) := fun {w F He H} wd hw => by
    obtain ⟨u, h1, h2, rv⟩ := wd.at hw
    obtain ⟨rfl, q⟩ := hc _ _ _ rv
    exact ⟨h1, h2, wd.put hw h2 rv (q _)⟩
  refine ⟨fun δ w F' He σ H q R s => ?_, fun b d w q v H F' He wd st r => ?_, fun δ w F' He σ H q R s => ?_, fun δ w F' He σ H q R s => ?_⟩
  · obtain ⟨h1, h2, wd⟩ := key R.wd q.1
    exact ⟨h1, cn.nx _ _ _ _ _ _ q.2 (R.step wd (.put h2 h1 ht)) s⟩
  · obtain ⟨h1, h2, wd2⟩ := key wd q.1
    refine ⟨h1, cn.rt _ _ _ q.2 v _ F' _ wd2 (st.trans (.put h2 h1 ht)) ?_⟩
    cases b with
    | false => exact r
    | true =>
      obtain ⟨a', o2, e, ho, n, m, f, rr⟩ := r
      have hne : a' ≠ a := fun z => by subst z; rw [h2] at m; cases m
      exact ⟨a', o2, e, by rw [upd_ne hne]; exact ho, n, by rw [upd_ne hne]; exact m, f, rr⟩
  · obtain ⟨h1, h2, wd⟩ := key R.wd q.1
    exact ⟨h1, cn.bk _ _ _ _ _ _ q.2 (R.step wd (.put h2 h1 ht)) s⟩
  · obtain ⟨h1, h2, wd⟩ := key R.wd q.1
    exact ⟨h1, cn.ct _ _ _ _ _ _ q.2 (R.step wd (.put h2 h1 ht)) s⟩
theorem js_lock {st : Stmt} {t : DS} (h : JS X z st t) : JS X z st (dLock t) := PS.imp (ps_lock h) fun D σ H ⟨δ, w, F, He, E, R, q, cn⟩ => by
  obtain ⟨a, q⟩ := q
  rcases q with ⟨kvs, hw, q⟩ | ⟨kvs, hw, q⟩
  · obtain ⟨o, h1, h2, rv⟩ := R.wd.at hw
    cases id rv with
    | dK rl =>
      rename_i vs
      refine ⟨a, .dK vs, h1, trivial, fun od => ?_⟩
      refine ⟨δ, _, F, _, _, R.step (R.wd.put (o' := .frz od (.dK vs)) hw h2 rv (.fK rl)) (.put h2 h1), q od vs, lock_conn cn (fun F He u r => ?_) (by intro xs e; cases e)⟩
      cases r with
      | fK r => exact ⟨rfl, fun _ => .dK r⟩
  · obtain ⟨o, h1, h2, rv⟩ := R.wd.at hw
    cases id rv with
    | dT rl =>
      rename_i vs
      refine ⟨a, .dT vs, h1, trivial, fun od => ?_⟩
      refine ⟨δ, _, F, _, _, R.step (R.wd.put (o' := .frz od (.dT vs)) hw h2 rv (.fT rl)) (.put h2 h1), q od vs, lock_conn cn (fun F He u r => ?_) (by intro xs e; cases e)⟩
      cases r with
      | fT r => exact ⟨rfl, fun _ => .dT r⟩
/-- a tuple that stands is frozen -/
theorem Rel.tupF {δ : DSt} {w : Om} {F He H : Hp} {σ : St} {p : Addr} {vs : List V} {ds : List D} (R : Rel z δ w F He σ H) (h : H p = some (.tup vs)) (r : DRs z.K F vs ds) : ∃ F', Rel z δ w F' He σ H ∧ Same F F' ∧ DR z.K F' (.ref p) (.tup ds) := by
  cases e : F p with
  | some u =>
    have := R.wd.sf _ _ e
    rw [h] at this
    cases this
    exact ⟨F, R, Same.refl _, .tup e r⟩
  | none =>
    have hE : He p = none := by
      cases ew : w p with
      | none =>
        rcases R.wd.ex.none_ p ew with g | ⟨q, g⟩
        · exact g
        · have := R.wd.sh _ _ g; rw [h] at this; cases this
      | some c =>
        obtain ⟨o, g1, _, rc⟩ := R.wd.at ew
        rw [h] at g1
        cases g1
        cases rc
    refine ⟨upd F p (.tup vs), R.step (R.wd.freeze h e hE) ⟨same_upd e, fun b hb => ?_, fun _ h => .inl h, fun _ _ h _ => h, fun _ h => h, fun _ _ h => .inr h⟩, same_upd e, .tup upd_same (r.mono (same_upd e))⟩
    by_cases hbp : b = p
    · subst hbp; exact .inr (.inr ⟨vs, h⟩)
    · rw [upd_ne hbp] at hb; exact .inl hb
def keysC : Cell → Option (List D)
  | .fK _ _ kvs => some (kvs.map fun kv => kD kv.1)
  | .fT _ _ kvs => some (kvs.map fun kv => .tup (kv.1.map kD))
  | _ => none
theorem DR.ofKey {K : PySem.W.Frag} {F : Hp} (k : Key) : DR K F (kV k) (kD k) := by
  cases k with
  | inl i => exact .int i
  | inr x => exact .str x
theorem DKs.at {K : PySem.W.Frag} {F : Hp} : ∀ {vs : List (Key × V)} {ds : List (Key × D)} {i : Nat} {kv : Key × V}, DKs K F vs ds → vs[i]? = some kv → ∃ d, ds[i]? = some (kv.1, d) ∧ DR K F kv.2 d
  | _, _, _, _, .nil, e => by simp at e
  | _, _, 0, _, .cons (d := d) h _, e => by simp at e; subst e; exact ⟨d, by simp, h⟩
  | _, _, i + 1, kv, .cons _ hs, e => by
    obtain ⟨u, h1, h2⟩ := DKs.at (i := i) (kv := kv) hs (by simpa using e)
    exact ⟨u, by simpa using h1, h2⟩
theorem DTs.at {K : PySem.W.Frag} {F : Hp} : ∀ {vs : List (List Key × V)} {ds : List (List Key × D)} {i : Nat} {kv : List Key × V}, DTs K F vs ds → vs[i]? = some kv → ∃ d, ds[i]? = some (kv.1, d) ∧ DR K F kv.2 d
  | _, _, _, _, .nil, e => by simp at e
  | _, _, 0, _, .cons (d := d) h _, e => by simp at e; subst e; exact ⟨d, by simp, h⟩
  | _, _, i + 1, kv, .cons _ hs, e => by
    obtain ⟨u, h1, h2⟩ := DTs.at (i := i) (kv := kv) hs (by simpa using e)
    exact ⟨u, by simpa using h1, h2⟩
/-- for k in d, d walked -/
def dForKeys (to : DO) (g : DG) (t : DS) : DS := fun E δ w => to δ w fun d w1 => ∃ a c ks, d = .ref a ∧ w1 a = some c ∧ keysC c = some ks ∧ dForGoN a c g t E ks δ w1
theorem js_forKeys {tg iter : Expr} {body : List Stmt} {to : DO} {G : TG} {g : DG} {t : DS} (hp : PassesOwn (model X.prog X.w) X.A X.env X.xe) (hc : X.calm = true) (hi : JO X z iter to) (hg : PG X tg G) (ok : GOk z G g) (hb : JSs X z body t)
    (hs : ∀ x, foldedSetIterable iter X.env x = pure x := by intro _; rfl) : JS X z (.For tg iter body [] pos) (dForKeys to g t) :=
  PS.imp (ps_for hp hc (pi_keys hi) hg hb hs) fun Dn σ H ⟨δ, w, F, He, E, R, q, cn⟩ => by
    refine ⟨δ, w, F, He, _, R, q, fun d w1 q1 v H1 F1 He1 wd1 st1 r1 => ?_⟩
    obtain ⟨a, c, ks, rfl, hw, hks, q1⟩ := q1
    obtain ⟨ob, h1, h2, rv⟩ := wd1.at hw
    have hv := r1.dt.refV
    subst hv
    cases rv with
    | fK rl =>
      rename_i ob vs kvs
      cases hks
      refine ⟨a, ob, rfl, .inl ⟨vs, h1, ?_⟩⟩
      have hlen := rl.length
      refine ⟨fun i m σ H => m = vs.length - i ∧ i ≤ vs.length ∧ ∃ δ w F He, Same F1 F ∧ Rel z δ w F He σ H ∧ w a = some (.fK ob vs kvs) ∧ dForGoN a (.fK ob vs kvs) g t E ((List.map (fun kv : Key × D => kD kv.1) kvs).drop i) δ w, ⟨vs.length, by simp, Nat.zero_le _, δ, w1, F1, He1, Same.refl _, R.step wd1 st1, hw, q1⟩, ?_⟩
      rintro i m σ H ⟨rfl, hle, δ, w, F, He, sF, R, hw, q⟩
      obtain ⟨ob', g1, g2, rv⟩ := R.wd.at hw
      cases rv with
      | fK rl =>
        by_cases hlt : i < vs.length
        · refine .inr ⟨⟨g1, hlt⟩, fun σ' H' => ∃ δ w F He, Same F1 F ∧ Rel z δ w F He σ' H' ∧ w a = some (.fK ob vs kvs) ∧ dForGoN a (.fK ob vs kvs) g t E ((List.map (fun kv : Key × D => kD kv.1) kvs).drop (i + 1)) δ w, fun σ' H' h => ⟨vs.length - (i + 1), by omega, rfl, hlt, h⟩, fun x H' y => ?_⟩
          obtain ⟨rfl, k, v, hk, rfl⟩ := y
          obtain ⟨d, hd, rd⟩ := rl.at hk
          have hi : i < (List.map (fun kv : Key × D => kD kv.1) kvs).length := by simp; omega
          rw [List.drop_eq_getElem_cons hi] at q
          have e1 : (List.map (fun kv : Key × D => kD kv.1) kvs)[i] = kD k := by
            have := (List.getElem?_eq_some_iff.mp hd).2
            simp [this]
          rw [e1] at q
          refine ok δ w F He _ σ (kV k) _ _ _ R (.ofKey k) q fun δ2 σ2 q2 R2 => ?_
          have s1 := st1.fz.trans sF
          exact ⟨δ2, w, F, He, _, R2, q2, ⟨fun δ3 w3 F3 He3 σ3 H3 p r s3 => ⟨δ3, w3, F3, He3, sF.trans s3, r, p.1, p.2⟩, cn.rt, fun δ3 w3 F3 He3 σ3 H3 p r s3 => cn.nx _ _ _ _ _ _ p r (s1.trans s3), fun δ3 w3 F3 He3 σ3 H3 p r s3 => ⟨δ3, w3, F3, He3, sF.trans s3, r, p.1, p.2⟩⟩⟩
        · have e : i = vs.length := by omega
          subst e
          rw [List.drop_of_length_le (by simp; omega)] at q
          exact .inl ⟨⟨g1, Nat.le_refl _⟩, cn.nx _ _ _ _ _ _ q R (st1.fz.trans sF)⟩
    | fT rl =>
      rename_i ob vs kvs
      cases hks
      refine ⟨a, ob, rfl, .inr ⟨vs, h1, ?_⟩⟩
      have hlen := rl.length
      refine ⟨fun i m σ H => m = vs.length - i ∧ i ≤ vs.length ∧ ∃ δ w F He, Same F1 F ∧ Rel z δ w F He σ H ∧ w a = some (.fT ob vs kvs) ∧ dForGoN a (.fT ob vs kvs) g t E ((List.map (fun kv : List Key × D => D.tup (kv.1.map kD)) kvs).drop i) δ w, ⟨vs.length, by simp, Nat.zero_le _, δ, w1, F1, He1, Same.refl _, R.step wd1 st1, hw, q1⟩, ?_⟩
      rintro i m σ H ⟨rfl, hle, δ, w, F, He, sF, R, hw, q⟩
      obtain ⟨ob', g1, g2, rv⟩ := R.wd.at hw
      cases rv with
      | fT rl =>
        by_cases hlt : i < vs.length
        · refine .inr ⟨⟨g1, hlt⟩, fun σ' H' => ∃ δ w F He, Same F1 F ∧ Rel z δ w F He σ' H' ∧ w a = some (.fT ob vs kvs) ∧ dForGoN a (.fT ob vs kvs) g t E ((List.map (fun kv : List Key × D => D.tup (kv.1.map kD)) kvs).drop (i + 1)) δ w, fun σ' H' h => ⟨vs.length - (i + 1), by omega, rfl, hlt, h⟩, fun x H' y => ?_⟩
          obtain ⟨rfl, k, v, p, hk, rfl, hp⟩ := y
          obtain ⟨d, hd, rd⟩ := rl.at hk
          have hi : i < (List.map (fun kv : List Key × D => D.tup (kv.1.map kD)) kvs).length := by simp; omega
          rw [List.drop_eq_getElem_cons hi] at q
          have e1 : (List.map (fun kv : List Key × D => D.tup (kv.1.map kD)) kvs)[i] = .tup (k.map kD) := by
            have := (List.getElem?_eq_some_iff.mp hd).2
            simp [this]
          rw [e1] at q
          obtain ⟨F2, R2, s2, rp⟩ := R.tupF hp (DRs.ofKeys k)
          refine ok δ w F2 He _ σ (.ref p) _ _ _ R2 rp q fun δ2 σ2 q2 R3 => ?_
          have sF2 := sF.trans s2
          have s1 := st1.fz.trans sF2
          exact ⟨δ2, w, F2, He, _, R3, q2, ⟨fun δ3 w3 F3 He3 σ3 H3 p r s3 => ⟨δ3, w3, F3, He3, sF2.trans s3, r, p.1, p.2⟩, cn.rt, fun δ3 w3 F3 He3 σ3 H3 p r s3 => cn.nx _ _ _ _ _ _ p r (s1.trans s3), fun δ3 w3 F3 He3 σ3 H3 p r s3 => ⟨δ3, w3, F3, He3, sF2.trans s3, r, p.1, p.2⟩⟩⟩
        · have e : i = vs.length := by omega
          subst e
          rw [List.drop_of_length_le (by simp; omega)] at q
          exact .inl ⟨⟨g1, Nat.le_refl _⟩, cn.nx _ _ _ _ _ _ q R (st1.fz.trans sF)⟩
    | _ => cases hks
def itemsC : Cell → Option (List D)
  | .fK _ _ kvs => some (kvs.map fun kv => .tup [kD kv.1, kv.2])
  | _ => none
/-- for k, v in d.items(), d walked -/
def dForItems (to : DO) (g : DG) (t : DS) : DS := fun E δ w => to δ w fun d w1 => ∃ a c ks, d = .ref a ∧ w1 a = some c ∧ itemsC c = some ks ∧ dForGoN a c g t E ks δ w1
theorem js_forItems {e : Expr} {elts : List Expr} {kk : Nat} {tpos apos cpos : Pos} {body : List Stmt} {to : DO} {G : TG} {g : DG} {t : DS} (hp : PassesOwn (model X.prog X.w) X.A X.env X.xe) (hc : X.calm = true) (hi : JO X z e to) (hg : PG X (.Tuple elts kk tpos) G) (ok : GOk z G g) (hb : JSs X z body t)
    (hbase : attributeBase e "items" X.env (eval e X.env) = eval e X.env := by rfl) (hline : (apos.endLine == cpos.line) = true := by rfl)
    (hs : ∀ x, foldedSetIterable (.Call (.Attribute e "items" apos) [] [] cpos) X.env x = pure x := by intro _; rfl) : JS X z (.For (.Tuple elts kk tpos) (.Call (.Attribute e "items" apos) [] [] cpos) body [] pos) (dForItems to g t) :=
  PS.imp (ps_for hp hc (pi_items hi hbase hline) hg hb hs) fun Dn σ H ⟨δ, w, F, He, E, R, q, cn⟩ => by
    refine ⟨δ, w, F, He, _, R, q, fun d w1 q1 v H1 F1 He1 wd1 st1 r1 => ?_⟩
    obtain ⟨a, c, ks, rfl, hw, hks, q1⟩ := q1
    obtain ⟨ob, h1, h2, rv⟩ := wd1.at hw
    have hv := r1.dt.refV
    subst hv
    cases rv with
    | fK rl =>
      rename_i ob vs kvs
      cases hks
      refine ⟨a, ob, vs, rfl, h1, ?_⟩
      have hlen := rl.length
      refine ⟨fun i m σ H => m = vs.length - i ∧ i ≤ vs.length ∧ ∃ δ w F He, Same F1 F ∧ Rel z δ w F He σ H ∧ w a = some (.fK ob vs kvs) ∧ dForGoN a (.fK ob vs kvs) g t E ((List.map (fun kv : Key × D => D.tup [kD kv.1, kv.2]) kvs).drop i) δ w, ⟨vs.length, by simp, Nat.zero_le _, δ, w1, F1, He1, Same.refl _, R.step wd1 st1, hw, q1⟩, ?_⟩
      rintro i m σ H ⟨rfl, hle, δ, w, F, He, sF, R, hw, q⟩
      obtain ⟨ob', g1, g2, rv⟩ := R.wd.at hw
      cases rv with
      | fK rl =>
        by_cases hlt : i < vs.length
        · refine .inr ⟨⟨g1, hlt⟩, fun σ' H' => ∃ δ w F He, Same F1 F ∧ Rel z δ w F He σ' H' ∧ w a = some (.fK ob vs kvs) ∧ dForGoN a (.fK ob vs kvs) g t E ((List.map (fun kv : Key × D => D.tup [kD kv.1, kv.2]) kvs).drop (i + 1)) δ w, fun σ' H' h => ⟨vs.length - (i + 1), by omega, rfl, hlt, h⟩, fun x H' y => ?_⟩
          obtain ⟨T, k, v, hk, rfl, hT, rfl⟩ := y
          obtain ⟨d, hd, rd⟩ := rl.at hk
          have hi : i < (List.map (fun kv : Key × D => D.tup [kD kv.1, kv.2]) kvs).length := by simp; omega
          rw [List.drop_eq_getElem_cons hi] at q
          have e1 : (List.map (fun kv : Key × D => D.tup [kD kv.1, kv.2]) kvs)[i] = .tup [kD k, d] := by
            have := (List.getElem?_eq_some_iff.mp hd).2
            simp [this]
          rw [e1] at q
          have hF : F T = none := R.wd.fnone hT
          have hHe : He T = none := R.wd.henone hT
          have R2 : Rel z δ w (upd F T (.tup [kV k, v])) He σ (upd H T (.tup [kV k, v])) := R.step ((R.wd.alloc hT).freeze upd_same hF hHe) ((Step.alloc hT).freeze hF hT)
          refine ok δ w _ He _ σ (.ref T) _ _ _ R2 (.tup upd_same (.cons (.ofKey k) (.cons (rd.mono (same_upd hF)) .nil))) q fun δ2 σ2 q2 R3 => ?_
          have sF2 := sF.trans (same_upd (o := .tup [kV k, v]) hF)
          have s1 := st1.fz.trans sF2
          exact ⟨δ2, w, _, He, _, R3, q2, ⟨fun δ3 w3 F3 He3 σ3 H3 p r s3 => ⟨δ3, w3, F3, He3, sF2.trans s3, r, p.1, p.2⟩, cn.rt, fun δ3 w3 F3 He3 σ3 H3 p r s3 => cn.nx _ _ _ _ _ _ p r (s1.trans s3), fun δ3 w3 F3 He3 σ3 H3 p r s3 => ⟨δ3, w3, F3, He3, sF2.trans s3, r, p.1, p.2⟩⟩⟩
        · have e : i = vs.length := by omega
          subst e
          rw [List.drop_of_length_le (by simp; omega)] at q
          exact .inl ⟨⟨g1, Nat.le_refl _⟩, cn.nx _ _ _ _ _ _ q R (st1.fz.trans sF)⟩
    | _ => cases hks
end
/-! ### all that a def has made for itself is forgotten at its end -/
def back (w0 w : Om) : Om := fun a => match w0 a with
  | some _ => w a
  | none => none
theorem back_same {w0 w : Om} (h : ∀ a c, w0 a = some c → w a = some c) : back w0 w = w0 := by
  funext a
  unfold back
  cases e : w0 a with
  | none => rfl
  | some c => exact h a c e
theorem Wd.back {K : PySem.W.Frag} {w0 w : Om} {F He H : Hp} (x : Wd K w F He H) : ∃ He', Wd K (back w0 w) F He' H ∧ ∀ b, He' b ≠ none → He b ≠ none := by
  have e1 : ∀ b, (w b).isSome = true → (w0 b).isSome = false → (if ((w b).isSome && !(w0 b).isSome) = true then none else He b) = none := fun b h1 h2 => by simp [h1, h2]
  refine ⟨fun b => if ((w b).isSome && !(w0 b).isSome) = true then none else He b, ⟨x.sf, fun b u e => ?_, fun b u e => ?_, ⟨fun a c e => ?_, fun a e => ?_⟩⟩, fun b e => ?_⟩
  · split at e
    · cases e
    · exact x.sh b u e
  · split at e
    · cases e
    · exact x.dj b u e
  · unfold Lv.back at e
    split at e
    · next c0 h0 =>
      obtain ⟨o, h1, h2⟩ := x.ex.some_ a c e
      refine ⟨o, by simp [h0, h1], h2.other fun dx p h => ?_⟩
      have : w dx = none := by
        cases ew : w dx with
        | none => rfl
        | some c2 =>
          obtain ⟨o2, g1, g2⟩ := x.ex.some_ dx c2 ew
          rw [h] at g1
          cases g1
          cases g2
      simp [this, h]
    · cases e
  · split
    · exact .inl rfl
    · next hn =>
      have : w a = none := by
        cases ew : w a with
        | none => rfl
        | some c =>
          unfold Lv.back at e
          cases e0 : w0 a with
          | none => simp [ew, e0] at hn
          | some c0 => rw [e0] at e; rw [ew] at e; cases e
      exact x.ex.none_ a this
  · have e : (if ((w b).isSome && !(w0 b).isSome) = true then none else He b) ≠ none := e
    split at e
    · exact absurd rfl e
    · exact e
theorem Res.sub {K : PySem.W.Frag} {F He He' Hb H : Hp} {b : Bool} {v : V} {d : D} (r : Res K F He Hb H b v d) (h : ∀ b, He' b ≠ none → He b ≠ none) : Res K F He' Hb H b v d := by
  cases b with
  | false => exact r
  | true =>
    obtain ⟨a, o, e, ho, n, m, f, q⟩ := r
    exact ⟨a, o, e, ho, n, Classical.byContradiction fun z => h a z m, f, q⟩
theorem Step.sub {F He H F' He' He2 H' : Hp} (s : Step F He H F' He' H') (h : ∀ b, He2 b ≠ none → He' b ≠ none) : Step F He H F' He2 H' := ⟨s.fz, s.fzN, fun b e => s.heN b (h b e), s.keep, s.dom, s.tp⟩
def dBack (w0 : Om) (t : DS) : DS := fun E δ w => t { E with nx := fun δ w => E.nx δ (back w0 w), rt := fun b d w => E.rt b d (back w0 w) } δ w
theorem jss_back {X : Cx} {z : Ent} {st : List Stmt} {t : DS} (h : JSs X z st t) : JSs X z st (dBack z.w0 t) := PSs.imp h fun Dn σ H ⟨δ, w, F, He, E, R, q, cn⟩ => by
  refine ⟨δ, w, F, He, _, R, q, ⟨fun δ' w' F' He' σ' H' p R' s => ?_, fun b d w' p v H' F' He' wd st r => ?_, cn.bk, cn.ct⟩⟩
  · obtain ⟨He2, wd2, sub⟩ := R'.wd.back (w0 := z.w0)
    refine cn.nx _ _ _ _ _ _ p ⟨wd2, R'.st.sub sub, R'.len, fun i sl e => ?_, R'.inj⟩ s
    obtain ⟨u, hu, q'⟩ := R'.sl i sl e
    refine ⟨u, hu, ?_⟩
    match sl, q' with
    | none, _ => exact True.intro
    | some (false, d), q' => exact q'
    | some (true, d), ⟨c, o, ec, hc, nc, mc, fc, rc⟩ => exact ⟨c, o, ec, hc, nc, Classical.byContradiction fun z => sub c z mc, fc, rc⟩
  · obtain ⟨He2, wd2, sub⟩ := wd.back (w0 := z.w0)
    exact cn.rt _ _ _ p v _ F' He2 wd2 (st.sub sub) (r.sub sub)
end Lv

namespace Lv
open PySem PySem.Spec L2
section
variable {w : Om}
theorem rs_ref (a : Addr) : res w (.ref a) = resC (.ref a) (w a) := rfl
theorem rs_non : res w .non = .non := rfl
theorem rs_bl (b : Bool) : res w (.bl b) = .bl b := rfl
theorem rs_int (i : Int) : res w (.int i) = .int i := rfl
theorem rs_str (x : Str) : res w (.str x) = .str x := rfl
theorem rs_ty (n : String) : res w (.ty n) = .ty n := rfl
theorem rs_lst (ds : List D) : res w (.lst ds) = .lst ds := rfl
theorem rs_tup (ds : List D) : res w (.tup ds) = .tup ds := rfl
theorem rs_dK (kvs : List (Key × D)) : res w (.dK kvs) = .dK kvs := rfl
theorem rs_dT (kvs : List (List Key × D)) : res w (.dT kvs) = .dT kvs := rfl
theorem rs_scr (ns : List Int) : res w (.scr ns) = .scr ns := rfl
theorem rs_wD (ws : List Int) : res w (wD ws) = wD ws := rfl
theorem rs_iD (ws : List Int) : res w (iD ws) = iD ws := rfl
theorem rs_lwD (ws : List (List Int)) : res w (lwD ws) = lwD ws := rfl
theorem resC_lst (d : D) (ds : List D) : resC d (some (.lst ds)) = .lst ds := rfl
theorem resC_dK (d : D) (ds : List (Key × D)) : resC d (some (.dK ds)) = .dK ds := rfl
theorem resC_dT (d : D) (ds : List (List Key × D)) : resC d (some (.dT ds)) = .dT ds := rfl
theorem resC_fK (d : D) (ob : Obj) (vs : List (Key × V)) (ds : List (Key × D)) : resC d (some (.fK ob vs ds)) = .fK ds := rfl
theorem resC_fT (d : D) (ob : Obj) (vs : List (List Key × V)) (ds : List (List Key × D)) : resC d (some (.fT ob vs ds)) = .fT ds := rfl
theorem resC_ins (d : D) (cn : Str) (fs : List (Str × D)) : resC d (some (.ins cn fs)) = d := rfl
theorem kNm_t (Q : D → Om → Prop) (b : Bool) (d : D) : kNm true Q w b d = nmK Q w b d := rfl
theorem kNm_f (Q : D → Om → Prop) (b : Bool) (d : D) : kNm false Q w b d = Q d w := rfl
theorem nmK_f (Q : D → Om → Prop) (d : D) : nmK Q w false d = Q d w := rfl
theorem nmK_lst (Q : D → Om → Prop) (ds : List D) : nmK Q w true (.lst ds) = ∀ c, w c = none → Q (.ref c) (updW w c (.lst ds)) := rfl
theorem nmK_dK (Q : D → Om → Prop) (ds : List (Key × D)) : nmK Q w true (.dK ds) = ∀ c, w c = none → Q (.ref c) (updW w c (.dK ds)) := rfl
theorem nmK_dT (Q : D → Om → Prop) (ds : List (List Key × D)) : nmK Q w true (.dT ds) = ∀ c, w c = none → Q (.ref c) (updW w c (.dT ds)) := rfl
theorem isDct_dK (kvs : List (Key × D)) : isDct (.dK kvs) = True := rfl
theorem isDct_dT (kvs : List (List Key × D)) : isDct (.dT kvs) = True := rfl
theorem isDct_fK (kvs : List (Key × D)) : isDct (.fK kvs) = True := rfl
theorem isDct_fT (kvs : List (List Key × D)) : isDct (.fT kvs) = True := rfl
theorem sGetO_K (kvs : List (Key × D)) (i : Int) (P : Option D → Prop) : sGetO (.dK kvs) (.int i) P = P (valD kvs (.inl i)) := rfl
theorem sGetO_S (kvs : List (Key × D)) (i : Str) (P : Option D → Prop) : sGetO (.dK kvs) (.str i) P = P (valD kvs (.inr i)) := rfl
theorem sGetO_T (kvs : List (List Key × D)) (ds : List D) (P : Option D → Prop) : sGetO (.dT kvs) (.tup ds) P = ∃ ks, ds = ks.map kD ∧ P (valD kvs ks) := rfl
theorem sGetO_fK (kvs : List (Key × D)) (i : Int) (P : Option D → Prop) : sGetO (.fK kvs) (.int i) P = P (valD kvs (.inl i)) := rfl
theorem sGetO_fT (kvs : List (List Key × D)) (ds : List D) (P : Option D → Prop) : sGetO (.fT kvs) (.tup ds) P = ∃ ks, ds = ks.map kD ∧ P (valD kvs ks) := rfl
theorem sIn_K (neg : Bool) (kvs : List (Key × D)) (i : Int) (P : Bool → D → Prop) : sIn neg (.int i) (.dK kvs) P = P false (.bl (if neg then !(valD kvs (.inl i)).isSome else (valD kvs (.inl i)).isSome)) := rfl
theorem sIn_fK (neg : Bool) (kvs : List (Key × D)) (i : Int) (P : Bool → D → Prop) : sIn neg (.int i) (.fK kvs) P = P false (.bl (if neg then !(valD kvs (.inl i)).isSome else (valD kvs (.inl i)).isSome)) := rfl
theorem sIn_T (neg : Bool) (kvs : List (List Key × D)) (ds : List D) (P : Bool → D → Prop) : sIn neg (.tup ds) (.dT kvs) P = ∃ ks, ds = ks.map kD ∧ P false (.bl (if neg then !(valD kvs ks).isSome else (valD kvs ks).isSome)) := rfl
theorem sIn_fT (neg : Bool) (kvs : List (List Key × D)) (ds : List D) (P : Bool → D → Prop) : sIn neg (.tup ds) (.fT kvs) P = ∃ ks, ds = ks.map kD ∧ P false (.bl (if neg then !(valD kvs ks).isSome else (valD kvs ks).isSome)) := rfl
theorem sPutC_lst (P : Cell → Prop) (x : D) (ds : List D) (j : Int) : sPutC P (.int j) x (some (.lst ds)) = ∃ n, ixN ds.length j = some n ∧ P (.lst (ds.set n x)) := rfl
theorem sPutC_K (P : Cell → Prop) (x : D) (kvs : List (Key × D)) (j : Int) : sPutC P (.int j) x (some (.dK kvs)) = (kvs.length < sizeLine ∧ P (.dK (putD kvs (.inl j) x))) := rfl
theorem sPutC_S (P : Cell → Prop) (x : D) (kvs : List (Key × D)) (j : Str) : sPutC P (.str j) x (some (.dK kvs)) = (kvs.length < sizeLine ∧ P (.dK (putD kvs (.inr j) x))) := rfl
theorem sPutC_T (P : Cell → Prop) (x : D) (kvs : List (List Key × D)) (ds : List D) : sPutC P (.tup ds) x (some (.dT kvs)) = ∃ js, ds = js.map kD ∧ kvs.length < sizeLine ∧ P (.dT (putD kvs js x)) := rfl
theorem keyOf_int (i : Int) : keyOf (.int i) = some (.inl i) := rfl
theorem keyOf_str (i : Str) : keyOf (.str i) = some (.inr i) := rfl
end
/-! ### pairs of numbers as keys -/
def pk (a b : Int) : List Key := [.inl a, .inl b]
theorem pk_keys (a b : Int) : ∃ ks : List Key, [D.int a, D.int b] = ks.map kD ∧ ks = pk a b := ⟨pk a b, rfl, rfl⟩
theorem pk_use {a b : Int} {R : List Key → Prop} (h : R (pk a b)) : ∃ ks, [D.int a, D.int b] = ks.map kD ∧ R ks := ⟨pk a b, rfl, h⟩
def tk3 (a b c : Int) : List Key := [.inl a, .inl b, .inl c]
theorem tk3_use {a b c : Int} {R : List Key → Prop} (h : R (tk3 a b c)) : ∃ ks, [D.int a, D.int b, D.int c] = ks.map kD ∧ R ks := ⟨tk3 a b c, rfl, h⟩
theorem pk_inj {a b c d : Int} : pk a b = pk c d ↔ a = c ∧ b = d := by
  unfold pk
  simp
theorem ixN_nat {n i : Nat} (h : i < n) : ixN n (i : Int) = some i := by
  unfold ixN
  rw [if_pos (by omega), if_pos (by omega), Int.toNat_natCast]
/-! ### dicts as data -/
section
variable {κ : Type} [DecidableEq κ]
theorem valD_nil (j : κ) : valD ([] : List (κ × D)) j = none := rfl
theorem valD_cons (i : κ) (y : D) (kvs : List (κ × D)) (j : κ) : valD ((i, y) :: kvs) j = if i = j then some y else valD kvs j := by
  unfold valD
  rw [List.find?_cons]
  by_cases e : i = j
  · simp [e]
  · simp [e]
theorem valD_app (kvs ms : List (κ × D)) (j : κ) : valD (kvs ++ ms) j = (valD kvs j).or (valD ms j) := by
  induction kvs with
  | nil => rfl
  | cons kv kvs ih =>
    obtain ⟨i, y⟩ := kv
    rw [List.cons_append, valD_cons, valD_cons, ih]
    split <;> rfl
theorem valD_repl (kvs : List (κ × D)) (k j : κ) (x : D) : valD (kvs.map fun kv => if kv.1 = k then (kv.1, x) else kv) j = if j = k then (valD kvs k).map (fun _ => x) else valD kvs j := by
  induction kvs with
  | nil => rw [List.map_nil, valD_nil, valD_nil]; split <;> rfl
  | cons kv kvs ih =>
    obtain ⟨i, y⟩ := kv
    rw [List.map_cons]
    by_cases e : i = k
    · subst e
      rw [if_pos rfl, valD_cons, ih, valD_cons, valD_cons, if_pos rfl]
      by_cases e2 : i = j
      · subst e2; simp
      · rw [if_neg e2, if_neg (fun z => e2 z.symm), if_neg (fun z => e2 z.symm), if_neg e2]
    · rw [if_neg e, valD_cons, ih, valD_cons, valD_cons, if_neg e]
      by_cases e2 : i = j
      · subst e2; rw [if_pos rfl, if_neg e]; simp
      · rw [if_neg e2, if_neg e2]
theorem valD_any (kvs : List (κ × D)) (k : κ) : (kvs.any fun kv => decide (kv.1 = k)) = (valD kvs k).isSome := by
  induction kvs with
  | nil => rfl
  | cons kv kvs ih =>
    obtain ⟨i, y⟩ := kv
    rw [List.any_cons, ih, valD_cons]
    by_cases e : i = k <;> simp [e]
theorem valD_put (kvs : List (κ × D)) (k j : κ) (x : D) : valD (putD kvs k x) j = if j = k then some x else valD kvs j := by
  unfold putD
  rw [valD_any]
  split
  · next h =>
    rw [valD_repl]
    split
    · obtain ⟨y, hy⟩ := Option.isSome_iff_exists.mp h
      rw [hy]; rfl
    · rfl
  · next h =>
    rw [valD_app, valD_cons, valD_nil]
    have hn : valD kvs k = none := by simpa using h
    by_cases e : j = k
    · subst e; rw [hn]; simp
    · rw [if_neg (fun z => e z.symm), if_neg e]; simp
theorem valD_drop (kvs : List (κ × D)) (k j : κ) : valD (dropD kvs k) j = if j = k then none else valD kvs j := by
  unfold dropD
  induction kvs with
  | nil => rw [List.filter_nil, valD_nil]; split <;> rfl
  | cons kv kvs ih =>
    obtain ⟨i, y⟩ := kv
    rw [List.filter_cons]
    by_cases e : i = k
    · subst e
      simp only [ne_eq, not_true, decide_false, Bool.false_eq_true, if_false]
      rw [ih, valD_cons]
      by_cases e2 : j = i
      · subst e2; simp
      · rw [if_neg e2, if_neg e2, if_neg (fun z => e2 z.symm)]
    · simp only [ne_eq, e, not_false_eq_true, decide_true, if_true]
      rw [valD_cons, ih, valD_cons]
      by_cases e2 : i = j
      · subst e2; rw [if_pos rfl, if_pos rfl, if_neg e]
      · rw [if_neg e2, if_neg e2]
theorem valD_mem {kvs : List (κ × D)} {k : κ} {x : D} (h : valD kvs k = some x) : (k, x) ∈ kvs := by
  induction kvs with
  | nil => cases h
  | cons kv kvs ih =>
    obtain ⟨i, y⟩ := kv
    rw [valD_cons] at h
    split at h
    · next e => cases h; subst e; exact List.mem_cons_self
    · exact List.mem_cons_of_mem _ (ih h)
theorem valD_of_mem {kvs : List (κ × D)} {k : κ} {x : D} (nd : (kvs.map (·.1)).Nodup) (h : (k, x) ∈ kvs) : valD kvs k = some x := by
  induction kvs with
  | nil => cases h
  | cons kv kvs ih =>
    obtain ⟨i, y⟩ := kv
    rw [List.map_cons, List.nodup_cons] at nd
    rw [valD_cons]
    rcases List.mem_cons.mp h with e | e
    · cases e; simp
    · rw [if_neg (fun z => nd.1 (by subst z; exact List.mem_map.mpr ⟨_, e, rfl⟩))]
      exact ih nd.2 e
theorem valD_none {kvs : List (κ × D)} {k : κ} : valD kvs k = none ↔ k ∉ kvs.map (·.1) := by
  induction kvs with
  | nil => simp [valD_nil]
  | cons kv kvs ih =>
    obtain ⟨i, y⟩ := kv
    rw [valD_cons, List.map_cons, List.mem_cons]
    by_cases e : i = k
    · subst e; simp
    · have e2 : ¬ k = i := fun z => e z.symm
      rw [if_neg e, ih]
      simp [e2]
theorem keys_put (kvs : List (κ × D)) (k : κ) (x : D) : (putD kvs k x).map (·.1) = if k ∈ kvs.map (·.1) then kvs.map (·.1) else kvs.map (·.1) ++ [k] := by
  unfold putD
  rw [valD_any]
  by_cases h : k ∈ kvs.map (·.1)
  · have : (valD kvs k).isSome = true := by
      cases e : valD kvs k with
      | none => exact absurd h (valD_none.mp e)
      | some y => rfl
    rw [if_pos this, if_pos h, List.map_map]
    congr 1
    funext kv
    show (if kv.1 = k then (kv.1, x) else kv).1 = kv.1
    split <;> rfl
  · have : ¬ (valD kvs k).isSome = true := by rw [valD_none.mpr h]; simp
    rw [if_neg this, if_neg h]
    simp
theorem nodup_put {kvs : List (κ × D)} (h : (kvs.map (·.1)).Nodup) (k : κ) (x : D) : ((putD kvs k x).map (·.1)).Nodup := by
  rw [keys_put]
  split
  · exact h
  · next hn =>
    rw [List.nodup_append]
    refine ⟨h, by simp, fun a ha b hb => ?_⟩
    simp at hb
    subst hb
    exact fun e => hn (e ▸ ha)
theorem nodup_drop {kvs : List (κ × D)} (h : (kvs.map (·.1)).Nodup) (k : κ) : ((dropD kvs k).map (·.1)).Nodup := by
  unfold dropD
  exact h.sublist ((List.filter_sublist).map _)
theorem len_put (kvs : List (κ × D)) (k : κ) (x : D) : (putD kvs k x).length ≤ kvs.length + 1 := by
  unfold putD
  split <;> simp
end
end Lv

namespace Lv
open PySem PySem.Spec L2
theorem forN_inv {α : Type} {a : Addr} {c : Cell} {g : DG} {t : DS} {E : DEnds} (f : α → D) (I : List α → DSt → Om → Prop) (xs : List α)
    (hs : ∀ pre x post δ w (N C : DSt → Om → Prop), xs = pre ++ x :: post → I pre δ w → (∀ δ' w', w' a = some c → I (pre ++ [x]) δ' w' → N δ' w') → (∀ δ' w', w' a = some c → I (pre ++ [x]) δ' w' → C δ' w') → g (f x) δ fun δ1 => t ⟨N, E.rt, E.nx, C⟩ δ1 w)
    (hd : ∀ δ w, I xs δ w → E.nx δ w) : ∀ (post pre : List α), xs = pre ++ post → ∀ δ w, I pre δ w → dForGoN a c g t E (post.map f) δ w
  | [], pre, e, δ, w, h => by
    rw [List.append_nil] at e
    subst e
    exact hd δ w h
  | x :: post, pre, e, δ, w, h => by
    have e2 : xs = (pre ++ [x]) ++ post := by rw [e]; simp
    have ih := forN_inv f I xs hs hd post (pre ++ [x]) e2
    exact hs pre x post δ w _ _ e h (fun δ' w' hc h => ⟨hc, ih δ' w' h⟩) (fun δ' w' hc h => ⟨hc, ih δ' w' h⟩)
/-- a for over a named list, a walked dict -/
theorem forN_go {α : Type} {a : Addr} {c : Cell} {g : DG} {t : DS} {E : DEnds} (f : α → D) (I : List α → DSt → Om → Prop) (xs : List α) {δ : DSt} {w : Om} (h0 : I [] δ w)
    (hs : ∀ pre x post δ w (N C : DSt → Om → Prop), xs = pre ++ x :: post → I pre δ w → (∀ δ' w', w' a = some c → I (pre ++ [x]) δ' w' → N δ' w') → (∀ δ' w', w' a = some c → I (pre ++ [x]) δ' w' → C δ' w') → g (f x) δ fun δ1 => t ⟨N, E.rt, E.nx, C⟩ δ1 w)
    (hd : ∀ δ w, I xs δ w → E.nx δ w) : dForGoN a c g t E (xs.map f) δ w := forN_inv f I xs hs hd xs [] rfl δ w h0
theorem rng_nat (n : Nat) : rngD 0 n = (List.range n).map fun k : Nat => D.int k := by
  unfold rngD
  congr 1
  funext k
  rw [Int.zero_add]
theorem rng_nat' (n : Nat) : rngD 0 ((n : Int) - 0).toNat = (List.range n).map fun k : Nat => D.int k := by
  rw [← rng_nat, Int.sub_zero, Int.toNat_natCast]
theorem updW_new {w : Om} {a b : Addr} {c d : Cell} (h : w a = some c) (hn : w b = none) : updW w b d a = some c := by
  rw [updW_ne (fun z => by subst z; rw [h] at hn; cases hn)]; exact h
theorem updW_some {w : Om} {a b : Addr} {d : Cell} (h : w a ≠ none) : updW w b d a ≠ none := by
  unfold updW
  split
  · exact fun z => nomatch z
  · exact h
theorem none_upd {w : Om} {a b : Addr} {d : Cell} (h : updW w b d a = none) : w a = none ∧ a ≠ b := by
  have hne : a ≠ b := fun z => by subst z; rw [updW_same] at h; cases h
  rw [updW_ne hne] at h
  exact ⟨h, hne⟩
end Lv

namespace Lv
open PySem PySem.Spec L2
section
variable {X : Cx} {z : Ent} {pos : Pos}
/-- clear() of what an expression has just made -/
def dLClearT (t : DX) : DX := fun δ w Q => t δ w fun b d w1 => nmK (fun d w1 => ∃ a ds, d = .ref a ∧ w1 a = some (.lst ds) ∧ Q false .non (updW w1 a (.lst []))) w1 b d
theorem jx_lclearT {o : Expr} {t : DX} {apos cpos : Pos} (hK : z.K = X.K) (ho : JX X z o t)
    (hbase : attributeBase o "clear" X.env (eval o X.env) = eval o X.env := by rfl) (hline : (apos.endLine == cpos.line) = true := by rfl) : JX X z (.Call (.Attribute o "clear" apos) [] [] cpos) (dLClearT t) :=
  PE.imp (pe_bm0 PySem.F.plainAttrs_list PySem.F.slot_list_clear PySem.F.type_list_clear mt_clear ho hbase hline) fun σ H Q ⟨δ, w, F, He, P, R, q, k⟩ => by
    refine ⟨δ, w, F, He, _, R, q, fun b d w1 q1 x H1 F1 He1 wd1 st1 r1 => ?_⟩
    obtain ⟨y, w3, F2, He2, q3, wd2, st2, r2, s2⟩ := kNm_use (nm := true) (Q := fun d w1 => ∃ a ds, d = .ref a ∧ w1 a = some (.lst ds) ∧ P false .non (updW w1 a (.lst []))) q1 wd1 st1 r1
    obtain ⟨a, ds, rfl, hw, q1⟩ := q3
    obtain ⟨ob, h1, h2, rv⟩ := wd2.at hw
    have hx : x = .ref a := by cases r2; rfl
    subst hx
    cases id rv with
    | lst rl =>
      refine ⟨.inl ⟨rfl, _, .of h1⟩, a, _, rfl, rfl, h1, ?_⟩
      exact k _ _ _ q1 .non _ _ _ (wd2.put hw h2 rv (.lst .nil)) (st2.trans (.put h2 h1)) .non
/-- len, of dicts whose keys are tuples too -/
def sLenA (d : D) (P : Bool → D → Prop) : Prop := match d with
  | .lst ds => P false (.int ds.length)
  | .tup ds => P false (.int ds.length)
  | .scr ds => P false (.int ds.length)
  | .str x => x.length ≤ sizeLine ∧ P false (.int x.length)
  | .dK ds => P false (.int ds.length)
  | .dT ds => P false (.int ds.length)
  | _ => False
def rLenA (K : PySem.W.Frag) : List V → Hp → VK → Prop := fun xs H Q => rLenD K xs H Q ∨ rLenT xs H Q
theorem call_lenB : CallR X (.builtin "len") (rLenA X.K) := call_lenA.or call_len_dT
theorem dts_len {K : PySem.W.Frag} {F : Hp} : ∀ {vs : List (List Key × V)} {ds : List (List Key × D)}, DTs K F vs ds → vs.length = ds.length
  | _, _, .nil => rfl
  | _, _, .cons _ r => congrArg (· + 1) (dts_len r)
theorem sem_lenA : Sem1 z (fun x H Q => rLenA z.K [x] H Q) sLenA := fun w F He H x d P Q wd dx q k => by
  by_cases hd : ∃ ds, d = .dT ds
  · obtain ⟨ds, rfl⟩ := hd
    obtain ⟨a, vs, rfl, ha, ra⟩ := dx.dT wd.sf
    exact .inr ⟨a, vs, rfl, ha, by rw [dts_len ra]; exact res_at wd (.int _) q k⟩
  · refine .inl (sem_len w F He H x d P Q wd dx ?_ k)
    cases d with
    | dT ds => exact absurd ⟨ds, rfl⟩ hd
    | _ => exact q
/-- min and max of a list of numbers -/
def sMin1 (d : D) (P : Bool → D → Prop) : Prop := ∃ ns : List Int, d = .lst (ns.map D.int) ∧ 0 < ns.length ∧ ∀ m, m ∈ ns → (∀ y, y ∈ ns → m ≤ y) → P false (.int m)
def sMax1 (d : D) (P : Bool → D → Prop) : Prop := ∃ ns : List Int, d = .lst (ns.map D.int) ∧ 0 < ns.length ∧ ∀ m, m ∈ ns → (∀ y, y ∈ ns → y ≤ m) → P false (.int m)
theorem sem_min1 : Sem1 z (fun x H Q => rMin z.K [x] H Q) sMin1 := fun w F He H x d P Q wd dx q k => by
  obtain ⟨ns, rfl, hn, q⟩ := q
  obtain ⟨a, vs, rfl, ha, ra⟩ := dx.lst wd.sf
  have e := ra.ints
  subst e
  exact ⟨a, ns, rfl, .of ha, hn, fun m h1 h2 => res_at wd (.int _) (q m h1 h2) k⟩
theorem sem_max1 : Sem1 z (fun x H Q => rMax z.K [x] H Q) sMax1 := fun w F He H x d P Q wd dx q k => by
  obtain ⟨ns, rfl, hn, q⟩ := q
  obtain ⟨a, vs, rfl, ha, ra⟩ := dx.lst wd.sf
  have e := ra.ints
  subst e
  exact ⟨a, ns, rfl, .of ha, hn, fun m h1 h2 => res_at wd (.int _) (q m h1 h2) k⟩
theorem sMin1_two (i j : Int) (P : Bool → D → Prop) (h : P false (.int (if j < i then j else i))) : sMin1 (.lst [.int i, .int j]) P := ⟨[i, j], rfl, by simp, fun m h1 h2 => by
  have e : m = if j < i then j else i := by
    have a := h2 i (by simp)
    have b := h2 j (by simp)
    simp at h1
    split <;> omega
  rw [e]; exact h⟩
theorem sMax1_two (i j : Int) (P : Bool → D → Prop) (h : P false (.int (if j > i then j else i))) : sMax1 (.lst [.int i, .int j]) P := ⟨[i, j], rfl, by simp, fun m h1 h2 => by
  have e : m = if j > i then j else i := by
    have a := h2 i (by simp)
    have b := h2 j (by simp)
    simp at h1
    split <;> omega
  rw [e]; exact h⟩
theorem sLenA_lst (ds : List D) (P : Bool → D → Prop) : sLenA (.lst ds) P = P false (.int ds.length) := rfl
theorem sLenA_tup (ds : List D) (P : Bool → D → Prop) : sLenA (.tup ds) P = P false (.int ds.length) := rfl
theorem sLenA_scr (ds : List Int) (P : Bool → D → Prop) : sLenA (.scr ds) P = P false (.int ds.length) := rfl
theorem sLenA_str (x : Str) (P : Bool → D → Prop) : sLenA (.str x) P = (x.length ≤ sizeLine ∧ P false (.int x.length)) := rfl
theorem sLenA_dK (ds : List (Key × D)) (P : Bool → D → Prop) : sLenA (.dK ds) P = P false (.int ds.length) := rfl
theorem sLenA_dT (ds : List (List Key × D)) (P : Bool → D → Prop) : sLenA (.dT ds) P = P false (.int ds.length) := rfl
end
end Lv

namespace Lv
open PySem PySem.Spec L2
section
variable {X : Cx} {z : Ent} {pos : Pos}
/-- x.insert(k, e), k not below 0 -/
def dInsert (i : Nat) (tk : DO) (t : DX) : DS := fun E δ w => match δ[i]? with
  | some (some (true, .lst ds)) => tk δ w fun d w1 => match res w1 d with
    | .int k => t δ w1 fun _ x w2 => (ds.length < sizeLine ∧ 0 ≤ k ∧ k < 2 ^ 63) ∧ E.nx (δ.set i (some (true, .lst (ds.take k.toNat ++ [x] ++ ds.drop k.toNat)))) w2
    | _ => False
  | _ => False
theorem js_insert {i : Nat} {o k e : Expr} {tk : DO} {t : DX} {apos cpos : Pos} (hK : z.K = X.K) (ho : PE X o (tVar i)) (hk : JO X z k tk) (he : JX X z e t)
    (hbase : attributeBase o "insert" X.env (eval o X.env) = eval o X.env := by rfl)
    (hfew : ((backTo cpos (starEach [k, e] X.env)).all (fun x => !x.1) && (backToKw cpos (keywordEach [] X.env)).all (fun x => x.1.isSome)
      && decide (([k, e] : List Expr).length + ([] : List Keyword).length + (if ([] : List Keyword).isEmpty then 0 else 1) < 30)) = true := by rfl)
    (hline : (apos.endLine == cpos.line) = true := by rfl) (hs : starEach [k, e] X.env = (false, eval k X.env) :: starEach [e] X.env := by rfl) (hs2 : starEach [e] X.env = (false, eval e X.env) :: starEach [] X.env := by rfl) (hplain : (backTo cpos (starEach [e] X.env)).any (·.1) = false := by rfl)
    (hsw : swapsWith (.Call (.Attribute o "insert" apos) [k, e] [] cpos) none pos.line X.env = pure false := by rfl) : JS X z (.Expr (.Call (.Attribute o "insert" apos) [k, e] [] cpos) pos) (dInsert i tk t) :=
  PS.imp (ps_expr (pe_bm PySem.F.plainAttrs_list PySem.F.slot_list_insert PySem.F.type_list_insert mt_insert ho (pa_cons hk (pa_cons he pa_nil hs2) hs) hbase hfew hline hs hplain) hsw) fun D σ H ⟨δ, w, F, He, E, R, q, c⟩ => by
    unfold dInsert at q
    split at q
    · next ds e =>
      obtain ⟨a, ob, hs, ha, m, r⟩ := own_at R e
      cases r with
      | lst r =>
        refine ⟨.ref a, hs, .inl ⟨rfl, _, .of ha⟩, δ, w, F, He, _, R, q, fun d w1 q1 v H1 F1 He1 wd1 st1 r1 => ?_⟩
        have R1 := R.step wd1 st1
        have r1 := res_ok wd1.ex wd1.sh r1
        generalize res w1 d = d at q1 r1
        split at q1
        · next kk =>
          have ev := r1.int
          subst ev
          refine ⟨δ, w1, F1, He1, _, R1, q1, fun b x w2 q2 v2 H2 F2 He2 wd2 st2 r2 => ?_⟩
          obtain ⟨F3, st3, wd3, r3, s3⟩ := r2.thaw st2 wd2
          have st4 := st1.trans st3
          have R2 := R.step wd3 st4
          refine ⟨a, _, kk, v2, rfl, rfl, st4.keep a _ ha m, by rw [r.length]; exact q2.1.1, q2.1.2.1, q2.1.2.2, ?_⟩
          exact c.nx _ _ _ _ _ _ q2.2 (R2.write e hs (.lst (((r.mono st4.fz).take kk.toNat |>.append (.cons r3 .nil)).append ((r.mono st4.fz).drop kk.toNat)))) st4.fz
        · exact q1.elim
    · exact q.elim
end
end Lv

namespace Lv
open PySem PySem.Spec PyProof.Rows L2
/-! ### enumerate(tuple) -/
set_option maxHeartbeats 1000000 in
theorem enum_new1 {v : Value} {o : Obj} {Hq : Heap → Prop} (B : Begins v o Hq) :
    Meets (Builtin.«enumerate.__new__» ⟨[.type "enumerate", v], []⟩) (fun _ R s => Hq s.heap ∧
      R (.ok (.ret (.ref (s.heap.push o).objs.size))) { s with heap := (s.heap.push o).push { cls := .type "enumerate", data := .fields #[.none, .bool false, .ref s.heap.objs.size, rawInt 0, .none, .none] } }) :=
  .of_wp fun prog w A R s h => by
    obtain ⟨hp, g, d, tk, os⟩ := s; obtain ⟨h1, h⟩ := h
    have hsub := sub_enumerate
    have q1 : ∀ {A' : Around} {E : Value → Shared → Prop} {Q : Value → Shared → Prop}, Q (.ref hp.objs.size) ⟨hp.push o, g, d, tk, os⟩ → wpAny (model prog w) A' (pyIter v) Q E ⟨hp, g, d, tk, os⟩ :=
      fun q => B.iter prog w _ _ ⟨hp, g, d, tk, os⟩ _ h1 q
    wp_walk using q1
    refine wpAny_stack_any fun st => wpAny_pure ?_
    split
    · rename_i c _ _ _ _ _
      cases (c == Value.type "enumerate")
      · wp_walk using q1
        exact ⟨_, rfl, h⟩
      · wp_walk using q1
        exact ⟨_, rfl, h⟩
    · wp_walk using q1
      exact ⟨_, rfl, h⟩
theorem enum_call1 {prog : Program} {w : World} {A : Around} {E : Value → Shared → Prop} {s : Shared} {v : Value} {o : Obj} {Hq : Heap → Prop} {Q : Value → Shared → Prop} (B : Begins v o Hq) (h1 : Hq s.heap)
    (h : ∀ h', IsEnum h' (s.heap.objs.size + 1) s.heap.objs.size 0 .none → h'.get? s.heap.objs.size = some o → h'.objs.size = s.heap.objs.size + 2 →
      (∀ b o, s.heap.get? b = some o → h'.get? b = some o) → Q (.ref (s.heap.objs.size + 1)) { s with heap := h' }) :
    wpAny (model prog w) A (call (.type "enumerate") [v]) Q E s := by
  refine callType_new F.called_enumerate (by decide) (F.typeCall_enumerate_1 _) (F.newCall_enumerate_1 _) (fun obj => F.args_object_init_2 obj _) F.entry_enumerate_new (enum_new1 B) ⟨h1, ?_⟩
  have hz : (s.heap.push o).objs.size = s.heap.objs.size + 1 := Heap.size_push ..
  show _ ∧ _
  rw [hz]
  have he : IsEnum ((s.heap.push o).push { cls := .type "enumerate", data := .fields #[.none, .bool false, .ref s.heap.objs.size, rawInt 0, .none, .none] }) (s.heap.objs.size + 1) s.heap.objs.size 0 .none := by
    have := Heap.get?_push_size (s.heap.push o) (o := { cls := .type "enumerate", data := .fields #[.none, .bool false, .ref s.heap.objs.size, rawInt 0, .none, .none] }) rfl
    rw [hz] at this; exact this
  exact ⟨⟨_, he, rfl⟩, h _ he (Heap.get?_push_of_some _ (Heap.get?_push_size _ B.free)) (by rw [Heap.size_push, hz]) fun b o x => Heap.get?_push_of_some _ (Heap.get?_push_of_some _ x)⟩
/-- the tuple at a, each item in a new pair -/
def IteT (K : PySem.W.Frag) (a : Addr) : It :=
  ⟨fun i H => ∃ (xs : List V) (x : V), SqT K H a xs ∧ xs[i]? = some x, fun i H v H' => ∃ T x, v = .ref T ∧ H T = none ∧ H' = upd H T (.tup [.int (i : Nat), x]) ∧ ∀ xs, SqT K H a xs → xs[i]? = some x, fun i H => ∃ xs : List V, SqT K H a xs ∧ xs.length = i⟩
theorem turn_enumT {P : Program} {w : World} {K : PySem.W.Frag} {elts : List Expr} {kk : Nat} {tpos : Pos} (a e it : Addr) :
    Turn P w K (.Tuple elts kk tpos) (IteT K a) [e, it] e (fun i h => (∃ old, IsEnum h e it ((i : Nat) : Int) old) ∧ h.IsTupleIter it a i ∧ e ≠ it ∧ a ≠ it ∧ a ≠ e) where
  mem := by simp
  obj := fun i h st b hb => by
    obtain ⟨⟨old, he⟩, ⟨o, ho, hc, hd⟩, _⟩ := st
    have e' : b = e ∨ b = it := by simpa using hb
    rcases e' with z | z
    · rw [z]; exact ⟨_, he, fun v q => nomatch q⟩
    · rw [z]; exact ⟨o, ho, fun v q => by rw [hd] at q; cases q⟩
  keep := fun i h h' st k => let ⟨⟨old, he⟩, hi, hne⟩ := st; ⟨⟨old, k e (by simp) _ he⟩, hi.at fun o q => k it (by simp) o q, hne⟩
  item := by
    intro X hP hw hK hc i pins s σ H E I hf st hg
    subst hP hw hK
    obtain ⟨⟨old, he⟩, hit, hne, hai, hae⟩ := st
    obtain ⟨xs, x, hq, hx⟩ := hg
    obtain ⟨its, rv, p, hz⟩ := I.tuple hq
    obtain ⟨u, hu, ru⟩ := rv.get hx
    have hlen : i < its.toArray.size := by
      have := (List.getElem?_eq_some_iff.mp hu).1
      simpa using this
    have hel : e < s.heap.objs.size := Heap.lt_size he
    have hil : it < s.heap.objs.size := by obtain ⟨_, q, _⟩ := hit; exact Heap.lt_size q
    refine wpAny_pyNext_enum_itemD (Draws.tuple (A := X.A.in1) (I.ok.hd hc) it a hai its.toArray) he ⟨hit, p⟩ hlen hne (by simp; exact ⟨hne, fun z => hae z.symm⟩) fun y h' tk hy ho hit' hT hsz hk => ?_
    have hyu : y = u := by
      rw [List.getElem?_toArray, hu] at hy
      exact (Option.some.inj hy).symm
    subst hyu
    refine ⟨_, rfl, wpAny_letOwnedTupleGo_enum (s := { s with heap := h', toks := tk + 1 }) ho fun h'' he' sb => ?_⟩
    have hT2 : h''.get? s.heap.objs.size = some { cls := .type "tuple", data := .seq #[.int i tk, y] } := (sb.2 _ (Nat.ne_of_gt hel)).trans hT
    have new : ObjOk X.prog X.w (upd H s.heap.objs.size (.tup [.int (i : Nat), x])) h'' s.heap.objs.size (.tup [.int (i : Nat), x]) :=
      ⟨by show 2 ≤ sizeLine; decide, [.int i tk, y], .cons ⟨_, rfl⟩ (.cons ru .nil), ⟨_, hT2, rfl, _, rfl⟩⟩
    have I1 : Inv X pins σ (upd H s.heap.objs.size (.tup [.int (i : Nat), x])) { s with heap := h'', toks := tk + 1 } :=
      I.turnedNew (ch := [e, it]) (fun b ob hb q => (sb.2 b (fun z => hb (by simp [z]))).trans (hk b ob (fun z => hb (by simp [z])) (fun z => hb (by simp [z])) q)) hf (Nat.le_refl _) new
    refine ⟨.ref s.heap.objs.size, _, I1, rfl, ⟨_, x, rfl, I.hok.fresh (Nat.le_refl _), rfl, fun ys hy => by rw [I.tuple_inj hy hq]; exact hx⟩, ⟨⟨y, ?_⟩, hit'.1.at fun o q => (sb.2 it (Ne.symm hne)).trans q, hne, hai, hae⟩, fun b hb => ?_⟩
    · have e1 : ((i + 1 : Nat) : Int) = (i : Int) + 1 := by omega
      rw [e1]; exact he'
    · have hb' : b < s.heap.objs.size := by
        have e' : b = e ∨ b = it := by simpa using hb
        rcases e' with z | z
        · rw [z]; exact hel
        · rw [z]; exact hil
      rw [upd_ne (Nat.ne_of_lt hb')]
      exact (hf b hb).1
  done := by
    intro X hP hw hK hc i pins s σ H E I hf st hg
    subst hP hw hK
    obtain ⟨⟨old, he⟩, hit, hne, hai, hae⟩ := st
    obtain ⟨xs, hq, hx⟩ := hg
    obtain ⟨its, rv, p, hz⟩ := I.tuple hq
    obtain ⟨f0, f1, f2, f3, f4, f5⟩ := hf it (by simp)
    have hl := rv.length
    have hsz : its.toArray.size = i := by simp; omega
    exact wpAny_pyNext_enum_endD (Draws.tuple (A := X.A.in1) (I.ok.hd hc) it a hai its.toArray) he ⟨by rw [hsz]; exact hit, p⟩ fun h' eb => ⟨rfl, I.turned (t' := s.toks) (fun b o hb q => eb b o hb q) f0 f1 f3 f4 f5⟩
  self := fun A i s Q E st h => let ⟨⟨_, he⟩, _⟩ := st; wpAny_pyIter_enum he h
def iEnumT (K : PySem.W.Frag) (ta : TA) : TI := fun σ H R => ta σ H fun vs H1 => ∃ a xs, vs = [.ref a] ∧ ((SqL K H1 a xs ∧ R (Ite K a) H1) ∨ (SqT K H1 a xs ∧ R (IteT K a) H1))
theorem pi_enumT {X : Cx} {e : Expr} {ta : TA} {p pos tpos : Pos} {elts : List Expr} {kk : Nat} (hg : Gl X "enumerate") (hm : X.mg "enumerate" = none) (ha : PA X [e] ta) (hs : starEach [e] X.env = [(false, eval e X.env)] := by rfl) :
    PI X (.Tuple elts kk tpos) (.Call (.Name "enumerate" p) [e] [] pos) (iEnumT X.K ta) := by
  refine ⟨fun pins s σ H R I h => ?_⟩
  refine Call_ (ld_blt I hg hm boot_enumerate (PyProof.Rows.callWith_type1 (thn (ha.run pos pins s σ H _ I h) fun us s1 ⟨vs, H1, I1, r1, q1⟩ => ?_) hs rfl))
  obtain ⟨a, xs, ex, q⟩ := q1
  subst ex
  cases r1 with
  | cons r rr =>
    cases rr
    cases r
    have fin : ∀ b, b ∈ [s1.heap.objs.size + 1, s1.heap.objs.size] → s1.heap.objs.size ≤ b := fun b hb => by
      have e' : b = s1.heap.objs.size + 1 ∨ b = s1.heap.objs.size := by simpa using hb
      rcases e' with z | z
      · rw [z]; exact Nat.le_add_right _ _
      · rw [z]; exact Nat.le_refl _
    rcases q with ⟨hq, q⟩ | ⟨hq, q⟩
    · obtain ⟨its, rv, p', hz⟩ := I1.list hq
      refine call_enumerate_list p'.isList fun h' he hit hsz hk => wpAny_pyIter_enum he ?_
      have I2 : Inv X pins σ H1 { s1 with heap := h' } := I1.kept (t' := s1.toks) hk
      exact ⟨s1.heap.objs.size + 1, [s1.heap.objs.size + 1, s1.heap.objs.size], _, _, H1, rfl, I2, turn_enum a (s1.heap.objs.size + 1) s1.heap.objs.size, ⟨⟨.none, he⟩, hit, Nat.succ_ne_self _⟩, fun b hb => I1.fpOk (fin b hb) (I1.hok.fresh (fin b hb)), q⟩
    · obtain ⟨its, rv, p', hz⟩ := I1.tuple hq
      have hal : a < s1.heap.objs.size := by obtain ⟨_, q, _⟩ := (show s1.heap.IsTuple a its.toArray from p'); exact Heap.lt_size q
      refine enum_call1 (begins_tuple a its.toArray) p' fun h' he hit hsz hk => wpAny_pyIter_enum he ?_
      have I2 : Inv X pins σ H1 { s1 with heap := h' } := I1.kept (t' := s1.toks) hk
      exact ⟨s1.heap.objs.size + 1, [s1.heap.objs.size + 1, s1.heap.objs.size], _, _, H1, rfl, I2, turn_enumT a (s1.heap.objs.size + 1) s1.heap.objs.size, ⟨⟨.none, he⟩, ⟨_, hit, rfl, rfl⟩, Nat.succ_ne_self _, Nat.ne_of_lt hal, Nat.ne_of_lt (Nat.lt_succ_of_lt hal)⟩, fun b hb => I1.fpOk (fin b hb) (I1.hok.fresh (fin b hb)), q⟩
section
variable {X : Cx} {z : Ent} {pos : Pos}
theorem itok_enumT {K : PySem.W.Frag} {F : Hp} {a : Addr} {vs : List V} {ds : List D} (ha : F a = some (.tup vs)) (ra : DRs K F vs ds) : ItOk K (IteT K a) F (enumD ds) where
  go := fun i H s h => by
    rw [enumD_len] at h
    obtain ⟨u, hu, _⟩ := ra.get (List.getElem?_eq_getElem h)
    exact ⟨vs, u, .of (s _ _ ha), hu⟩
  stop := fun H s => ⟨vs, .of (s _ _ ha), by rw [enumD_len, ra.length]⟩
  yld := fun i H x H' s h hy => by
    rw [enumD_len] at h
    obtain ⟨T, u, rfl, hT, rfl, h1⟩ := hy
    obtain ⟨d, hd, rd⟩ := ra.getV (h1 vs (.of (s _ _ ha)))
    exact .inr ⟨T, _, [.int (i : Nat), d], rfl, hT, rfl, enumD_at ds i hd, .cons (.int _) (.cons rd .nil)⟩
/-- enumerate(a list or a tuple) -/
def kEnumT {α : Type} (Q : List D → α → Prop) (w : α) : List D → Prop
  | [.lst xs] => Q (enumD xs) w
  | [.tup xs] => Q (enumD xs) w
  | _ => False
def dEnumT (ts : DA) : DI := fun δ w Q => ts δ w fun ds w1 => kEnumT Q w1 ds
theorem ji_enumT {e : Expr} {ts : DA} {p tpos : Pos} {elts : List Expr} {kk : Nat} (hK : z.K = X.K) (hm : X.mg "enumerate" = none) (ha : JA X z [e] ts) (hg : Gl X "enumerate" := by rfl)
    (hs : starEach [e] X.env = [(false, eval e X.env)] := by rfl) : PI X (.Tuple elts kk tpos) (.Call (.Name "enumerate" p) [e] [] pos) (liftI z (dEnumT ts)) :=
  PI.imp (pi_enumT hg hm ha hs) fun σ H R ⟨δ, w, F, He, P, Re, q, k⟩ => by
    refine ⟨δ, w, F, He, _, Re, q, fun ds w1 q1 vs H1 F1 He1 wd1 st1 r1 => ?_⟩
    rw [← hK]
    unfold kEnumT at q1
    split at q1
    · next xs =>
      cases r1 with
      | cons ra rb =>
        cases rb
        cases ra with
        | lst ea ra => exact ⟨_, _, rfl, .inl ⟨.of (wd1.sf _ _ ea), k _ _ q1 _ H1 F1 He1 wd1 st1 (itok_enum ea ra)⟩⟩
    · next xs =>
      cases r1 with
      | cons ra rb =>
        cases rb
        cases ra with
        | tup ea ra => exact ⟨_, _, rfl, .inr ⟨.of (wd1.sf _ _ ea), k _ _ q1 _ H1 F1 He1 wd1 st1 (itok_enumT ea ra)⟩⟩
    · exact q1.elim
end
end Lv

namespace Lv
open PySem PySem.Spec L2

/-! ### an exception that was caught is kept as a value -/
section
variable {X : Cx} {pins : List (Addr × Obj)} {σ : L2.St} {H : Hp} {s : Shared}
theorem exk_ok {P : Program} {W : World} {H : Hp} {h : Heap} {a C : Addr} {d : Option Addr} {oe : Obj} {vs : Array Value} (e : h.get? a = some oe) (q : Zc (.ref C) d oe) (f : oe.data = .fields vs) : ObjOk P W H h a (exk a C d) :=
  ⟨⟨oe, vs, e, q.1, q.2, f⟩, ⟨oe, e⟩, fun h1 h2 ⟨o1, v1, g1, g2, g3, g4⟩ kp => ⟨o1, v1, kp _ g1, g2, g3, g4⟩⟩
/-- what stood beside the tracked things is tracked from now on -/
theorem Inv.grab {a : Addr} {o : HO} {oe : Obj} {vs : Array Value} (I : Inv X pins σ H s) (n : H a = none) (n0 : X.s_0.heap.get? a = none) (np : ∀ p ∈ X.pn ++ pins, p.1 ≠ a) (nl : a ≠ X.env.locals)
    (e : s.heap.get? a = some oe) (f : oe.data = .fields vs) (ok : ObjOk X.prog X.w (upd H a o) s.heap a o) : Inv X pins σ (upd H a o) s := by
  have there : ∀ {b : Addr} {u : HO}, H b = some u → b ≠ a := fun {b u} q z => by rw [z, n] at q; cases q
  have up : ∀ {b : Addr} {u : HO}, H b = some u → upd H a o b = some u := fun {b u} q => by rw [upd_ne (there q)]; exact q
  constructor
  case ok => exact I.ok
  case os => exact I.os
  case bare => exact I.bare
  case loc => exact I.loc
  case cell => exact I.cell
  case len => exact I.len
  case free => rw [upd_ne (Ne.symm nl)]; exact I.free
  case freeC =>
    intro x c hc
    have nc : c ≠ a := fun z => by
      obtain ⟨v, w1, w2, w3⟩ := I.cell x c hc
      rw [z, e] at w2
      cases w2
      rw [f] at w3
      cases w3
    rw [upd_ne nc]
    exact I.freeC x c hc
  case pin =>
    intro p hp
    obtain ⟨p1, p2, p3, p4, p5⟩ := I.pin p hp
    exact ⟨p1, by rw [upd_ne (np p hp)]; exact p2, p3, p4, p5⟩
  case hok =>
    intro b u hb
    by_cases z : b = a
    · subst z
      rw [upd_same] at hb
      cases hb
      exact ok
    · rw [upd_ne z] at hb
      exact (I.hok b u hb).stay (fun _ _ _ q => q) (fun _ q => up q) fun _ _ q => up q
  case base =>
    have B := I.base
    refine { keep := B.keep, slot := B.slot, there := B.there, free := fun b u h1 h2 h3 => ?_, tups := fun b xs q => up (B.tups b xs q), frzs := fun b u v q => up (B.frzs b u v q), tbls := fun b ps q => ?_ }
    · rw [upd_ne fun z => by subst z; rw [n0] at h1; cases h1]
      exact B.free b u h1 h2 h3
    · obtain ⟨more, q2⟩ := B.tbls b ps q
      exact ⟨more, up q2⟩
end
/-- what is wanted of the body's exception: it is kept at its place when the suite is through -/
def wKeep (K : PySem.W.Frag) (c : Value) (i : Nat) (ts : Addr → Value → Option Addr → TS) (Wo : WX) (D : Ends) : WX := fun cls d σ H =>
  ∃ b, PySem.W.exmOne K cls c = some b ∧ (b = true → ∃ C, cls = .ref C ∧ ∀ a, H a = none → ts a cls d ⟨fun σ' H' => H' a = none → D.nx (σ'.set i none) (upd H' a (exk a C d)), D.rt, fun σ' H' => H' a = none → D.bk (σ'.set i none) (upd H' a (exk a C d)), fun σ' H' => H' a = none → D.ct (σ'.set i none) (upd H' a (exk a C d))⟩ (σ.set i (some (.ref a))) H) ∧
    (b = false → Wo cls d σ H)
section
variable {X : Cx} {xn nm : Str} {c : Value} {i : Nat} {body suite : List Stmt} {st0 : Stmt} {q1 q2 pos : Pos} {tb : WX → TS} {ts : Addr → Value → Option Addr → TS} {Wo : WX}
/-- try: body, except xn as nm: suite; the exception may be kept by another name -/
theorem ps_keep (hst : X.stack = X.env :: X.outer) (hfm : X.env.frame = some X.env.locals) (hex : X.ex = []) (nd : X.N.Nodup) (hi : X.N[i]? = some nm) (hl : X.env.kindOf nm = some .local) (hc : Names X xn c) (tk : Takes X Wo)
    (hb : ∀ (W : WX) (pn : List (Addr × Obj)) (xe : Value → Shared → Prop), Takes (X.tr pn xe) W → PassesOwn (model X.prog X.w) X.A X.env xe → PSs (X.tr pn xe) body (tb W))
    (hsu : ∀ (a : Addr) (oe : Obj) (cls : Value) (d : Option Addr) (pn : List (Addr × Obj)), Zc cls d oe → (∃ vs, oe.data = .fields vs) → PSs (X.suite a ((a, oe) :: pn)) (st0 :: suite) (ts a cls d)) :
    PS X (.Try body [.ExceptHandler (some (.Name xn q1)) (some nm) (st0 :: suite) q2] [] [] pos) (fun D σ H => tb (wKeep X.K c i ts Wo D) D σ H) := by
  constructor
  intro pins s σ H D I hq
  have ok := I.ok
  have hfs : X.A.frames = some (X.env :: X.outer) := ok.frames.trans (congrArg some hst)
  refine wpAny_Try_except ?_
  have run := (hb (wKeep X.K c i ts Wo D) (X.pn ++ pins) (fun e s1 => wpAny (model X.prog X.w) X.A (noteFrame e X.env) (fun _ s2 => wpAny (model X.prog X.w) X.A (setFlight e none) (fun _ s3 =>
    wpAny (model X.prog X.w) X.A (handleBy e X.env [.ExceptHandler (some (.Name xn q1)) (some nm) (st0 :: suite) q2]) (SP X pins D) X.xe s3) X.xe s2) X.xe s1) ?air PassesOwn.looking).run [] s σ H D (I.toTry _) hq
  · refine wpAny_mono run (fun fl s1 hsp => ?_) fun _ _ z => z
    match fl, hsp with
    | .next, ⟨σ1, H1, J1, r⟩ => exact wpAny_execs_nil ⟨σ1, H1, J1.ofTry ok, r⟩
    | .brk, ⟨σ1, H1, J1, r⟩ => exact ⟨σ1, H1, J1.ofTry ok, r⟩
    | .cont, ⟨σ1, H1, J1, r⟩ => exact ⟨σ1, H1, J1.ofTry ok, r⟩
    | .ret u, ⟨v, σ1, H1, J1, rv, r⟩ => exact ⟨v, σ1, H1, J1.ofTry ok, rv, r⟩
  case air =>
    intro u s1 hx
    obtain ⟨a, G, sI, pins1, σ1, H1, cls, d, rfl, J1, gr, ups, sky, na, eos, bare, b, em, yes, no⟩ := hx
    have J : Inv X pins σ1 H1 sI := J1.ofTry ok
    rw [show Sky G (X.tr (X.pn ++ pins) _).stack a (Zc cls d) _ s1.heap = Sky G (X.env :: X.outer) a (Zc cls d) X.env.locals s1.heap by rw [show (X.tr (X.pn ++ pins) _).stack = X.stack from rfl, hst]] at sky
    -- the place of the exception is new
    have gn : G.get? a = none := by
      rcases sky with k | k | k
      · exact k.2.1
      · exact k.2.1
      · exact k.2.1
    refine Sky.land Zc.steady hfs hfm sky fun h2 fly up2 => ?_
    obtain ⟨oe, fv, ge, ze, de⟩ := fly.there
    have nfr : a ∉ frs (X.env :: X.outer) := fun hm => by
      obtain ⟨_, o', g', nf⟩ := fly.2.2.1.mem hm
      rw [ge] at g'
      cases g'
      exact nf _ de
    have nl : a ≠ X.env.locals := fun z => nfr (List.mem_filterMap.mpr ⟨X.env, List.mem_cons_self, by rw [hfm, z]⟩)
    have nfs : a ∉ X.fs := fun hm => by
      obtain ⟨ev, h1, h2⟩ := List.mem_filterMap.mp hm
      exact nfr (List.mem_filterMap.mpr ⟨ev, List.mem_cons_of_mem _ h1, h2⟩)
    have nI : sI.heap.get? a = none := by
      cases g : sI.heap.get? a with
      | none => rfl
      | some o =>
        have z := gr a o g (by rw [hst]; exact nfr)
        rw [gn] at z
        cases z
    have n0 : X.s_0.heap.get? a = none := by
      cases g : X.s_0.heap.get? a with
      | none => rfl
      | some o =>
        obtain ⟨o', z⟩ := J.base.there a o g (by rw [hex]; exact fun z => nomatch z)
        rw [nI] at z
        cases z
    have np : ∀ p ∈ X.pn ++ pins, p.1 ≠ a := fun p hp z => by
      have g := (J.pin p hp).1
      rw [z, nI] at g
      cases g
    have J2 : Inv X pins σ1 H1 { s1 with heap := h2 } := J.landed gr fly.1 (ups.trans up2) eos bare
    have S2 := J2.suite ge de na nl nfs
    refine wpAny_handleBy_cons (codeAny_handlers_test ?_) (fun z => nomatch z)
    have LK := PySem.W.exm_one (M := model X.prog X.w) J2.kIn (show PySem.W.Looks (model X.prog X.w) h2 (typeOf (.ref a)) cls from fun A Q E s kp q => wpAny_typeOf_ref (kp _ _ ge) (by rw [ze.1]; exact q)) em
    have look : ∀ {Q : Value → Shared → Prop} {E : Value → Shared → Prop}, Q c { s1 with heap := h2 } → wpAny (model X.prog X.w) (X.A.mark (some (.ref a))) (eval (.Name xn q1) X.env) Q E { s1 with heap := h2 } := fun {Q E} q => by
      obtain ⟨g1, g2, g3⟩ := hc
      rcases g3 with g3 | ⟨g3, g4, g5⟩
      · exact ld_glob (X := X.suite a ((a, oe) :: (X.pn ++ pins))) S2 g1 g3 q g2
      · exact ld_blt (X := X.suite a ((a, oe) :: (X.pn ++ pins))) S2 g1 g3 g4 q g5 g2
    refine look (LK.here ?_)
    cases b with
    | false =>
      show wpAny _ X.A (handleBy (.ref a) X.env []) _ _ _
      refine wpAny_handleBy_nil ?_
      obtain ⟨_, _, _, o4, v4, T4, _, _, g4, _, d4, t4, _⟩ := id fly
      unfold PySem.passOn
      refine wpAny_bind (wpAny_field g4 d4 t4 ?_)
      rw [if_neg (by simp)]
      have out : wpAny (model X.prog X.w) X.A (setFlight (.ref a) X.env.frame) (fun _ s4 => wpAny (model X.prog X.w) X.A (throw (.ref a) : Sem Flow) (SP X pins D) X.xe s4) X.xe { s1 with heap := h2 } := by
        rw [hfm]
        refine HandSPX.setFlight_upZ fly fun h5 held up5 => wpAny_throw (tk _ _ ?_)
        exact ⟨a, G, sI, pins, σ1, H1, cls, d, rfl, J, gr, (ups.trans up2).trans up5, .inr (.inr (by rw [hst]; exact held)), na, eos, bare, no rfl⟩
      first | exact wpAny_bind out | exact wpAny_bind (wpAny_pure (wpAny_bind out))
    | true =>
      obtain ⟨C, rfl, yes⟩ := yes rfl
      refine codeAny_handlers_suite_as ?_
      refine HandSPX.lands_againZ fly fun h3 fly3 up3 => ?_
      have J3 : Inv X pins σ1 H1 { s1 with heap := h3 } := J.landed gr fly3.1 ((ups.trans up2).trans up3) eos bare
      obtain ⟨o3, v3, g3, z3, d3⟩ := fly3.there
      refine store_ok (X := X.suite a ((a, o3) :: (X.pn ++ pins))) (v := .ref a) (J3.suite g3 d3 na nl nfs) nd hi (.inl hl) rfl (fun s5 S5 => ?_) (.inr hl)
      have fin : ∀ {σ6 : L2.St} {H6 : Hp} {Q : Shared → Prop} {s6 : Shared}, Inv (X.suite a ((a, o3) :: (X.pn ++ pins))) [] σ6 H6 s6 → (H6 a = none → ∀ s7, Inv X pins (σ6.set i none) (upd H6 a (exk a C d)) s7 → Q s7) →
          wpAny (model X.prog X.w) X.A (do bindName X.env nm .none; unbindBehindTheSuite X.env nm q2) (fun _ s7 => Q s7) X.xe s6 := fun {σ6 H6 Q s6} S6 hq => by
        obtain ⟨m1, m2, _⟩ := S6.pin (a, o3) (List.mem_append_left _ List.mem_cons_self)
        have m1' : s6.heap.get? a = some o3 := m1
        have m2' : H6 a = none := m2
        exact gone_ok (Inv.grab (S6.unsuite ok) m2' n0 np nl m1' d3 (exk_ok m1' z3 d3)) nd hi hl (hq m2')
      refine wpAny_mono ((hsu a o3 (.ref C) d (X.pn ++ pins) z3 ⟨_, d3⟩).run [] s5 _ H1 _ S5 (yes a na)) (fun fl s6 hsp => ?_) fun _ _ z => z.elim
      match fl, hsp with
      | .next, ⟨σ6, H6, S6, r⟩ => exact fin S6 fun z s7 J7 => ⟨_, _, J7, r z⟩
      | .brk, ⟨σ6, H6, S6, r⟩ => exact fin S6 fun z s7 J7 => ⟨_, _, J7, r z⟩
      | .cont, ⟨σ6, H6, S6, r⟩ => exact fin S6 fun z s7 J7 => ⟨_, _, J7, r z⟩
      | .ret u, ⟨v6, σ6, H6, S6, rv, r⟩ => exact gone_ok (S6.unsuite ok) nd hi hl fun s7 J7 => ⟨_, _, _, J7, rv, r⟩
end
end Lv

namespace Lv
open PySem PySem.Spec L2

/-! ### exceptions over data: what is wanted of one, by its class's name, its fields, the slots and the world -/
abbrev DXK := Str → List (Str × D) → DSt → Om → Prop
abbrev DSpX := List D → Om → (Bool → D → Om → Prop) → (Str → List (Str × D) → Om → Prop) → Prop
def xNo : DXK := fun _ _ _ _ => False
def XD (K : PySem.W.Frag) (F : Hp) (d : Option Addr) (fs : List (Str × D)) : Prop := (d = none ∧ fs = []) ∨ ∃ dd vs, d = some dd ∧ F dd = some (.xd vs) ∧ DFs K F vs fs
theorem XD.mono {K : PySem.W.Frag} {F F' : Hp} {d : Option Addr} {fs : List (Str × D)} (x : XD K F d fs) (s : Same F F') : XD K F' d fs :=
  x.elim .inl fun ⟨dd, vs, e, h, r⟩ => .inr ⟨dd, vs, e, s _ _ h, r.mono s⟩
def liftW (z : Ent) (x : DXK) : WX := fun cls d σ H => ∃ δ w F He cn fs C, Rel z δ w F He σ H ∧ cls = .ref C ∧ PySem.W.nsIn z.K mainGlobals cn = some (some (.ref C)) ∧ XD z.K F d fs ∧ x cn fs δ w
theorem takesNo {X : Cx} {z : Ent} : Takes X (liftW z xNo) := fun _ _ ⟨_, _, _, _, _, _, _, _, _, _, _, _, _, _, _, _, w⟩ => by
  obtain ⟨_, _, _, _, _, _, _, _, _, _, _, q⟩ := w
  exact q.elim
def toSpX (K : PySem.W.Frag) (T : DSpX) : Sp := fun vs H Q E => ∃ ds w F He P Px, Wd K w F He H ∧ DRs K F vs ds ∧ T ds w P Px ∧ (∀ b d w', P b d w' → ∀ v H' F' He', Wd K w' F' He' H' → Step F He H F' He' H' → Res K F' He' H H' b v d → Q v H') ∧
  ∀ cn fs w', Px cn fs w' → ∀ C d H' F' He', Wd K w' F' He' H' → Step F He H F' He' H' → PySem.W.nsIn K mainGlobals cn = some (some (.ref C)) → XD K F' d fs → E (.ref C) d H'
/-- the def of this name keeps T; it may raise -/
structure FnX (P : Program) (w : World) (K : PySem.W.Frag) (mg : Str → Option Value) (base : Heap) (k : Nat) (x : Str) (T : DSpX) : Prop where
  ex : ∃ (f : Addr) (fd : FuncData) (ps : List Str), FnOk P w K mg base (L2.CX P w) k f fd ps (toSpX K T) ∧ mg x = some (.ref f) ∧ PySem.W.keepIn K (.ref f) = true ∧ Binds K fd ps []
theorem FnX.mono {P : Program} {w : World} {K : PySem.W.Frag} {mg : Str → Option Value} {base : Heap} {j k : Nat} {x : Str} {T : DSpX} (F : FnX P w K mg base j x T) (h : j ≤ k) : FnX P w K mg base k x T :=
  let ⟨f, fd, ps, a, b, c, d⟩ := F.ex; ⟨f, fd, ps, a.mono h, b, c, d⟩
def dCallX (T : DSpX) (x : DXK) (t : DA) : DX := fun δ w Q => t δ w fun ds w1 => T ds w1 Q fun cn fs w2 => x cn fs δ w2
section
variable {X : Cx} {z : Ent} {pos : Pos}
theorem callX_lift {T : DSpX} {x : DXK} {t : DA} {σ : L2.St} {H : Hp} {Q : VK} {K : PySem.W.Frag} (hK : z.K = K) (h : liftX z (dCallX T x t) σ H Q) : tCallS (toSpX K T) (WE (liftW z x)) (liftA z t) σ H Q := by
  subst hK
  obtain ⟨δ, w, F, He, P, R, q, k⟩ := h
  refine ⟨δ, w, F, He, _, R, q, fun ds w1 q1 vs H1 F1 He1 wd1 st1 r1 => ?_⟩
  refine ⟨ds, w1, F1, He1, P, _, wd1, r1, q1, fun b d w' p v H' F' He' wd st r => k b d w' p v H' F' He' wd (st1.trans st) (r.base st1), fun cn fs w' p C d H' F' He' wd st n xd => ?_⟩
  exact ⟨δ, w', F', He', cn, fs, C, R.step wd (st1.trans st), rfl, n, xd, p⟩
theorem jx_callX {k : Nat} {T : DSpX} {xx : DXK} {t : DA} {x : Str} {p : Pos} {e : Expr} {es : List Expr} (f : FnX X.prog X.w X.K X.mg X.base k x T) (tk : Takes X (liftW z xx)) (hK : z.K = X.K) (hr : Room k X.A) (ha : JA X z (e :: es) t) (hg : Gl X x := by rfl)
    (hdb : (x == ("__debug__" : Str)) = false := by decide) (he : starEach (e :: es) X.env = (false, eval e X.env) :: starEach es X.env := by rfl) (hpl : (backTo pos (starEach es X.env)).any (·.1) = false := by rfl) : JX X z (.Call (.Name x p) (e :: es) [] pos) (dCallX T xx t) := by
  obtain ⟨fa, fd, ps, a, b, c, d⟩ := f.ex
  exact PE.imp (pe_callS a hr hg b c d (fun σ => passAt tk σ) ha hdb he hpl) fun _ _ _ h => callX_lift hK h

/-! ### raise -/
/-- what is known of an exception class of the program's own without a making of its own -/
structure XCls (K : PySem.W.Frag) (mg : Str → Option Value) (cn : Str) (C : Addr) : Prop where
  ns : PySem.W.nsIn K mainGlobals cn = some (some (.ref C))
  at_ : mg cn = some (.ref C)
  kp : PySem.W.keepIn K (.ref C) = true
  sub : PySem.W.subIn K (.ref C) (.type "BaseException") = some true
  ty : PySem.W.typeIn K (.ref C) = some (.type "type")
def dRaise (cn : Str) (x : DXK) : DS := fun _ δ w => x cn [] δ w
theorem js_raise {cn m : Str} {C : Addr} {x : DXK} {j : Nat} {p p2 p3 : Pos} (T : XCls X.K X.mg cn C) (q : PySem.W.excIn X.K C [.type "ValueError", .type "Exception", .type "BaseException", .type "object"] "ValueError.__new__" = true) (tk : Takes X (liftW z x)) (hK : z.K = X.K) (hc : X.calm = true) (hg : Gl X cn := by rfl)
    (hdb : (cn == ("__debug__" : Str)) = false := by decide) : JS X z (.Raise (some (.Call (.Name cn p) [.Constant (.str m) j p2] [] p3)) none pos) (dRaise cn x) :=
  PS.imp (ps_raise hc tk (pmk_own PySem.F.excBase_ValueError q T.at_ T.kp (raises_own T.sub T.ty) hg hdb)) fun D σ H ⟨δ, w, F, He, E, R, q, c⟩ => ⟨δ, w, F, He, cn, [], C, R, rfl, by rw [hK]; exact T.ns, .inl ⟨rfl, rfl⟩, q⟩

/-! ### try -/
/-- does an except clause of c take an exception of cn; L: the exceptions that are raised here -/
def subE (L : List Str) (cn c : Str) : Option Bool := if L.contains cn then some (decide (c = cn) || decide (c = "YardError") || decide (c = "ValueError")) else none
/-- the class that a clause names -/
structure Clause (X : Cx) (L : List Str) (c : Str) (v : Value) : Prop where
  nm : Names X c v
  mt : ∀ cn C b, subE L cn c = some b → PySem.W.nsIn X.K mainGlobals cn = some (some (.ref C)) → PySem.W.exmOne X.K (.ref C) v = some b
def noOwn (δ : DSt) : Bool := δ.all fun s => match s with
  | some (true, _) => false
  | _ => true
theorem noOwn_at {δ : DSt} (h : noOwn δ = true) {i : Nat} {d : D} (e : δ[i]? = some (some (true, d))) : False := by
  have := List.all_eq_true.mp h _ (List.mem_of_getElem? e)
  cases this
theorem Rel.root {δ : DSt} {w : Om} {F He H : Hp} {σ : L2.St} (R : Rel z δ w F He σ H) (no : noOwn δ = true) : Rel ⟨z.K, F, He, H, w, R.wd.ex⟩ δ w F He σ H where
  wd := R.wd
  st := .refl
  len := R.len
  sl := fun i s e => by
    obtain ⟨v, hv, r⟩ := R.sl i s e
    refine ⟨v, hv, ?_⟩
    match s, e, r with
    | none, _, _ => exact True.intro
    | some (false, d), _, r => exact r
    | some (true, d), e, _ => exact (noOwn_at no e).elim
  inj := fun i j d e a h1 _ _ _ => (noOwn_at no h1).elim
theorem Rel.unroot {δ δ' : DSt} {w w' : Om} {F He H F' He' H' : Hp} {σ σ' : L2.St} (R : Rel z δ w F He σ H) (S : Rel ⟨z.K, F, He, H, w, R.wd.ex⟩ δ' w' F' He' σ' H') : Rel z δ' w' F' He' σ' H' where
  wd := S.wd
  st := R.st.trans S.st
  len := S.len
  sl := fun i s e => by
    obtain ⟨v, hv, r⟩ := S.sl i s e
    refine ⟨v, hv, ?_⟩
    match s, r with
    | none, _ => exact True.intro
    | some (false, d), r => exact r
    | some (true, d), ⟨a, o, e1, ho, n, m, f, q⟩ => exact ⟨a, o, e1, ho, n, m, Classical.byContradiction fun c => R.st.dom a c f, q⟩
  inj := S.inj
/-- a name for the exception becomes what is known of it -/
def keepS (a : Addr) (e : D) : Sl → Sl
  | some (false, .ref b) => if b = a then some (false, e) else some (false, .ref b)
  | s => s
def keepD (a : Addr) (e : D) (δ : DSt) : DSt := δ.map (keepS a e)
theorem Rel.keepX {δ : DSt} {w : Om} {F He H : Hp} {σ : L2.St} {a C : Addr} {d : Option Addr} {cn : Str} {fs : List (Str × D)} (R : Rel z δ w F He σ H) (n : H a = none) (hC : PySem.W.nsIn z.K mainGlobals cn = some (some (.ref C))) (xd : XD z.K F d fs) :
    Rel z (keepD a (.exc cn fs) δ) w (upd F a (exk a C d)) He σ (upd H a (exk a C d)) ∧ Same F (upd F a (exk a C d)) := by
  have nF := R.wd.fnone n
  have nE := R.wd.henone n
  have st : Step F He H (upd F a (exk a C d)) He (upd H a (exk a C d)) := (Step.alloc n).freeze nF n
  have R1 := R.step ((R.wd.alloc (o := exk a C d) n).freeze upd_same nF nE) st
  have dr : DR z.K (upd F a (exk a C d)) (.ref a) (.exc cn fs) := by
    rcases xd.mono st.fz with ⟨rfl, rfl⟩ | ⟨dd, vs, rfl, h, r⟩
    · exact .exc0 upd_same hC
    · exact .exc1 upd_same hC h r
  refine ⟨⟨R1.wd, R1.st, by rw [R1.len]; simp [keepD], fun i s e => ?_, fun i j d1 d2 b e1 e2 h1 h2 => ?_⟩, st.fz⟩
  · unfold keepD at e
    rw [List.getElem?_map] at e
    cases e0 : δ[i]? with
    | none => rw [e0] at e; cases e
    | some s0 =>
      rw [e0] at e
      cases e
      obtain ⟨v, hv, r⟩ := R1.sl i s0 e0
      refine ⟨v, hv, ?_⟩
      unfold keepS
      split
      · next b =>
        split
        · next hb =>
          subst hb
          obtain ⟨x, rfl, q⟩ := r
          cases q
          exact ⟨_, rfl, dr⟩
        · exact r
      · exact r
  · have key : ∀ {i : Nat} {d : D}, (keepD a (.exc cn fs) δ)[i]? = some (some (true, d)) → δ[i]? = some (some (true, d)) := fun {i d} e => by
      unfold keepD at e
      rw [List.getElem?_map] at e
      cases e0 : δ[i]? with
      | none => rw [e0] at e; cases e
      | some s0 =>
        rw [e0] at e
        injection e with e
        unfold keepS at e
        split at e
        · split at e <;> cases e
        · rw [← e]
    exact R1.inj i j d1 d2 b (key e1) (key e2) h1 h2
/-- try: body, except c as n: suite, the exception's name in slot i -/
def xKeep (L : List Str) (i : Nat) (c : Str) (ts : Addr → DS) (E : DEnds) (x : DXK) : DXK := fun cn fs δ w => ∃ b, subE L cn c = some b ∧
  (b = true → ∀ a, w a = none → ts a ⟨fun δ' w' => E.nx (keepD a (.exc cn fs) (δ'.set i none)) w', E.rt, fun δ' w' => E.bk (keepD a (.exc cn fs) (δ'.set i none)) w', fun δ' w' => E.ct (keepD a (.exc cn fs) (δ'.set i none)) w'⟩ (δ.set i (some (false, .ref a))) w) ∧ (b = false → x cn fs δ w)
def dTryK (L : List Str) (i : Nat) (c : Str) (tb : DXK → DS) (ts : Addr → DS) (x : DXK) : DS := fun E δ w => noOwn δ = true ∧ tb (xKeep L i c ts E x) E δ w
theorem js_tryK {L : List Str} {c nm : Str} {cv : Value} {i : Nat} {body suite : List Stmt} {st0 : Stmt} {q1 q2 : Pos} {tb : DXK → DS} {ts : Addr → DS} {x : DXK} (hst : X.stack = X.env :: X.outer) (hfm : X.env.frame = some X.env.locals) (hex : X.ex = []) (hK : z.K = X.K) (nd : X.N.Nodup) (hi : X.N[i]? = some nm)
    (hl : X.env.kindOf nm = some .local) (hc : Clause X L c cv) (tk : Takes X (liftW z x))
    (hb : ∀ (F He H : Hp) (w : Om) (r : rep X.K w F He) (y : DXK) (pn : List (Addr × Obj)) (xe : Value → Shared → Prop), Takes (X.tr pn xe) (liftW ⟨X.K, F, He, H, w, r⟩ y) → PassesOwn (model X.prog X.w) X.A X.env xe → JSs (X.tr pn xe) ⟨X.K, F, He, H, w, r⟩ body (tb y))
    (hsu : ∀ (a : Addr) (oe : Obj) (pn : List (Addr × Obj)), JSs (X.suite a ((a, oe) :: pn)) z (st0 :: suite) (ts a)) :
    JS X z (.Try body [.ExceptHandler (some (.Name c q1)) (some nm) (st0 :: suite) q2] [] [] pos) (dTryK L i c tb ts x) := by
  refine PS.imp (ps_keep (tb := fun W D σ H => ∃ (z' : Ent) (y : DXK), z'.K = X.K ∧ (∀ cls d σ H, liftW z' y cls d σ H → W cls d σ H) ∧ liftS z' (tb y) D σ H) (ts := fun a _ _ => liftS z (ts a)) hst hfm hex nd hi hl hc.nm tk (fun W pn xe tW pw => ?_) (fun a oe cls d pn _ _ => hsu a oe pn)) fun D σ H hq => ?_
  · constructor
    intro pins s σ H D I ⟨z', y, hz, hy, hq⟩
    obtain ⟨K', F', He', H', w', r'⟩ := z'
    dsimp only at hz
    subst hz
    exact (hb F' He' H' w' r' y pn xe (tW.imp hy) pw).run pins s σ H D I hq
  · obtain ⟨δ, w, F, He, E, R, ⟨no, q⟩, cn⟩ := hq
    refine ⟨⟨z.K, F, He, H, w, R.wd.ex⟩, _, hK, fun cls d σ1 H1 hw => ?_, δ, w, F, He, E, R.root no, q, ?_⟩
    · obtain ⟨δ1, w1, F1, He1, cn1, fs, C, R1', rfl, hC, xd, b, e1, yes, no1⟩ := hw
      have R1 := R.unroot R1'
      have sF : Same F F1 := R1'.st.fz
      refine ⟨b, hc.mt cn1 C b e1 (by rw [← hK]; exact hC), fun hb => ⟨C, rfl, fun a na => ?_⟩, fun hb => ⟨δ1, w1, F1, He1, cn1, fs, C, R1, rfl, hC, xd, no1 hb⟩⟩
      have wa : w1 a = none := R1.wd.none_of (R1.wd.henone na)
      refine ⟨δ1.set i (some (false, .ref a)), w1, F1, He1, _, R1.put (.ref a), yes hb a wa, ?_⟩
      have go : ∀ {δ2 : DSt} {w2 : Om} {F2 He2 H2 : Hp} {σ2 : L2.St}, Rel z δ2 w2 F2 He2 σ2 H2 → Same F1 F2 → H2 a = none → Rel z (keepD a (.exc cn1 fs) (δ2.set i none)) w2 (upd F2 a (exk a C d)) He2 (σ2.set i none) (upd H2 a (exk a C d)) ∧ Same F (upd F2 a (exk a C d)) :=
        fun R2 s2 n2 => let ⟨h1, h2⟩ := (R2.forget i).keepX n2 hC (xd.mono s2); ⟨h1, (sF.trans s2).trans h2⟩
      exact ⟨fun δ2 w2 F2 He2 σ2 H2 p R2 s2 n2 => let ⟨h1, h2⟩ := go R2 s2 n2; cn.nx _ _ _ _ _ _ p h1 h2, cn.rt, fun δ2 w2 F2 He2 σ2 H2 p R2 s2 n2 => let ⟨h1, h2⟩ := go R2 s2 n2; cn.bk _ _ _ _ _ _ p h1 h2,
        fun δ2 w2 F2 He2 σ2 H2 p R2 s2 n2 => let ⟨h1, h2⟩ := go R2 s2 n2; cn.ct _ _ _ _ _ _ p h1 h2⟩
    · exact ⟨fun δ2 w2 F2 He2 σ2 H2 p R2 s2 => cn.nx _ _ _ _ _ _ p (R.unroot R2) s2, fun b d w2 p v H2 F2 He2 wd st rr => cn.rt b d w2 p v H2 F2 He2 wd (R.st.trans st) (rr.base R.st),
        fun δ2 w2 F2 He2 σ2 H2 p R2 s2 => cn.bk _ _ _ _ _ _ p (R.unroot R2) s2, fun δ2 w2 F2 He2 σ2 H2 p R2 s2 => cn.ct _ _ _ _ _ _ p (R.unroot R2) s2⟩
/-- several clauses without a name -/
def xMany (L : List Str) (E : DEnds) (x : DXK) : List (Str × DS) → DXK
  | [] => x
  | (c, u) :: r => fun cn fs δ w => ∃ b, subE L cn c = some b ∧ (b = true → u E δ w) ∧ (b = false → xMany L E x r cn fs δ w)
def dTryM (L : List Str) (tb : DXK → DS) (l : List (Str × DS)) (x : DXK) : DS := fun E δ w => noOwn δ = true ∧ tb (xMany L E x l) E δ w
inductive JHs (X : Cx) (z : Ent) (L : List Str) : List ExceptHandler → List (Str × DS) → List (Value × (Addr → Value → Option Addr → TS)) → Prop
  | nil : JHs X z L [] [] []
  | cons {c : Str} {cv : Value} {u : DS} {st0 : Stmt} {suite : List Stmt} {q1 q2 : Pos} {hs : List ExceptHandler} {l : List (Str × DS)} {r : List (Value × (Addr → Value → Option Addr → TS))} (hc : Clause X L c cv) (hsu : ∀ (a : Addr) (oe : Obj) (pn : List (Addr × Obj)), JSs (X.suite a ((a, oe) :: pn)) z (st0 :: suite) u) (t : JHs X z L hs l r) :
      JHs X z L (.ExceptHandler (some (.Name c q1)) none (st0 :: suite) q2 :: hs) ((c, u) :: l) ((cv, fun _ _ _ => liftS z u) :: r)
theorem JHs.ok {L : List Str} {hs : List ExceptHandler} {l : List (Str × DS)} {r : List (Value × (Addr → Value → Option Addr → TS))} (h : JHs X z L hs l r) : HdsOk X hs r := by
  induction h with
  | nil => exact .nil
  | cons hc hsu t ih => exact .cons hc.nm (fun a oe cls d pn _ _ => hsu a oe pn) ih
theorem JHs.wish {L : List Str} {hs : List ExceptHandler} {l : List (Str × DS)} {r : List (Value × (Addr → Value → Option Addr → TS))} (h : JHs X z L hs l r) (hK : z.K = X.K) {x : DXK} {E : DEnds} {Dn : Ends} {F : Hp} (cn : Conn z F E Dn) {δ1 : DSt} {w1 : Om} {F1 He1 H1 : Hp} {σ1 : L2.St} (R1 : Rel z δ1 w1 F1 He1 σ1 H1) (s1 : Same F F1)
    {cn1 : Str} {fs : List (Str × D)} {C : Addr} {d : Option Addr} (hC : PySem.W.nsIn z.K mainGlobals cn1 = some (some (.ref C))) (xd : XD z.K F1 d fs) (q : xMany L E x l cn1 fs δ1 w1) : wMany X.K (liftW z x) Dn r (.ref C) d σ1 H1 := by
  induction h with
  | nil => exact ⟨δ1, w1, F1, He1, cn1, fs, C, R1, rfl, hC, xd, q⟩
  | cons hc hsu t ih =>
    obtain ⟨b, e, yes, no⟩ := q
    exact ⟨b, hc.mt cn1 C b e (by rw [← hK]; exact hC), fun hb a na => ⟨δ1, w1, F1, He1, E, R1, yes hb, cn.mono s1⟩, fun hb => ih (no hb)⟩
theorem js_tryM {L : List Str} {body : List Stmt} {h0 : ExceptHandler} {hs : List ExceptHandler} {l : List (Str × DS)} {r : List (Value × (Addr → Value → Option Addr → TS))} {tb : DXK → DS} {x : DXK} (hst : X.stack = X.env :: X.outer) (hfm : X.env.frame = some X.env.locals) (hK : z.K = X.K) (hc : JHs X z L (h0 :: hs) l r) (tk : Takes X (liftW z x))
    (hb : ∀ (F He H : Hp) (w : Om) (r : rep X.K w F He) (y : DXK) (pn : List (Addr × Obj)) (xe : Value → Shared → Prop), Takes (X.tr pn xe) (liftW ⟨X.K, F, He, H, w, r⟩ y) → PassesOwn (model X.prog X.w) X.A X.env xe → JSs (X.tr pn xe) ⟨X.K, F, He, H, w, r⟩ body (tb y)) :
    JS X z (.Try body (h0 :: hs) [] [] pos) (dTryM L tb l x) := by
  refine PS.imp (ps_try_many (tb := fun W D σ H => ∃ (z' : Ent) (y : DXK), z'.K = X.K ∧ (∀ cls d σ H, liftW z' y cls d σ H → W cls d σ H) ∧ liftS z' (tb y) D σ H) hst hfm tk (fun W pn xe tW pw => ?_) hc.ok) fun D σ H hq => ?_
  · constructor
    intro pins s σ H D I ⟨z', y, hz, hy, hq⟩
    obtain ⟨K', F', He', H', w', r'⟩ := z'
    dsimp only at hz
    subst hz
    exact (hb F' He' H' w' r' y pn xe (tW.imp hy) pw).run pins s σ H D I hq
  · obtain ⟨δ, w, F, He, E, R, ⟨no, q⟩, cn⟩ := hq
    refine ⟨⟨z.K, F, He, H, w, R.wd.ex⟩, _, hK, fun cls d σ1 H1 hw => ?_, δ, w, F, He, E, R.root no, q, ?_⟩
    · obtain ⟨δ1, w1, F1, He1, cn1, fs, C, R1', rfl, hC, xd, q1⟩ := hw
      exact hc.wish hK cn (R.unroot R1') R1'.st.fz hC xd q1
    · exact ⟨fun δ2 w2 F2 He2 σ2 H2 p R2 s2 => cn.nx _ _ _ _ _ _ p (R.unroot R2) s2, fun b d w2 p v H2 F2 He2 wd st rr => cn.rt b d w2 p v H2 F2 He2 wd (R.st.trans st) (rr.base R.st),
        fun δ2 w2 F2 He2 σ2 H2 p R2 s2 => cn.bk _ _ _ _ _ _ p (R.unroot R2) s2, fun δ2 w2 F2 He2 σ2 H2 p R2 s2 => cn.ct _ _ _ _ _ _ p (R.unroot R2) s2⟩
end

/-! ### defs that may raise -/
def xDef (Px : Str → List (Str × D) → Om → Prop) : DXK := fun cn fs _ w => Px cn fs w
section
variable {P : Program} {w : World} {K : PySem.W.Frag} {mg : Str → Option Value} {base : Heap}
theorem fnX_ok {T : DSpX} {x qual : Str} {st : Stmt} {f : Addr} {fd : FuncData} {N ps : List Str} {k : Nat} (F : L2.Fun K x qual st f fd) (S : FnScope N ps (defScope st)) (hm : mg x = some (.ref f))
    (hbd : ∀ (kV doc pm : Value) (an : Option Addr) (cdv ct : Value) (us : List Value), us.length = ps.length → bindArgs (PySem.W.fnOf x qual (defArgs st) (defBody st) (defScope st) .none kV doc pm an cdv ct) ⟨us, []⟩ = pure (ps.zip us))
    (len : ∀ ds w P Px, T ds w P Px → ds.length = ps.length)
    (h : ∃ tb : Om → DXK → DS, (∀ (cdv : Value) (A : Around) (outer : List Env) (s : Shared) (H F0 He0 : Hp) (w0 : Om) (rep0 : rep K w0 F0 He0) (E : XK) (y : DXK), Room k (A.deeper (PyProof.Rows.envOfC qual (defScope st) s.heap.objs.size f cdv)) →
        Takes (cxOf (L2.CX P w) P w K mg base N qual (defScope st) f cdv A outer s H E) (liftW ⟨K, F0, He0, H, w0, rep0⟩ y) → JSs (cxOf (L2.CX P w) P w K mg base N qual (defScope st) f cdv A outer s H E) ⟨K, F0, He0, H, w0, rep0⟩ (defBody st) (tb w0 y)) ∧
      ∀ ds w P Px, T ds w P Px → tb w (xDef Px) { nx := fun _ w => P false .non w, rt := P } (startD N ds) w) : FnX P w K mg base (k + 1) x T := by
  obtain ⟨tb, hb, hT⟩ := h
  refine ⟨f, fd, ps, F.okX S (fun vs H Q E h => ?_) (fun cdv A outer s H vs Q E hr h => ?_), hm, F.kp, F.binds hbd⟩
  · obtain ⟨ds, w, F, He, P, Px, _, r, q, _⟩ := h
    rw [r.length]
    exact len _ _ _ _ q
  · obtain ⟨ds, w, F, He, P, Px, wd, r, q, k, kx⟩ := h
    refine ⟨_, hb cdv A outer s H F He w wd.ex E (xDef Px) hr ((takes_of rfl rfl rfl rfl).imp fun cls d σ1 H1 hw => ?_), startD N ds, w, F, He, _, rel_start wd r, hT ds w P Px q, ?_⟩
    · obtain ⟨δ1, w1, F1, He1, cn, fs, C, R1, rfl, hC, xd, p⟩ := hw
      exact kx cn fs w1 p C d H1 F1 He1 R1.wd R1.st hC xd
    · exact ⟨fun δ w' F' He' σ H' p R _ => k _ _ _ p .non H' F' He' R.wd R.st .non, fun b d w' p v H' F' He' wd' st' rr => k b d w' p v H' F' He' wd' st' rr, fun _ _ _ _ _ _ p => p.elim, fun _ _ _ _ _ _ p => p.elim⟩
end
end Lv

namespace Lv
open PySem PySem.Spec L2

/-! ### an exception with a making of its own: TooMany(made, rows) -/
section
variable {X : Cx} {p p1 p2 pos : Pos} {e : Expr} {es : List Expr} {ta : TA}
/-- C.__init__(self, ..) of a class over ValueError that has none of its own -/
theorem pe_oinit {x : Str} {C0 : Addr} {pl : Sem Bool} (hg : Gl X x) (gC : X.mg x = some (.ref C0)) (rd : PySem.W.readsIn X.K C0 (.type "type") = true) (ga : PySem.W.specialIn X.K (.ref C0) "__getattribute__" = some (some (.builtin "type.__getattribute__")))
    (fd : PySem.W.findCls X.K (.ref C0) (.type "type") "__init__" = some (.val (.builtin "ValueError.__init__"))) (ha : PA X (e :: es) ta)
    (hc : eval (.Call (.Attribute (.Name x p1) "__init__" p2) (e :: es) [] pos) X.env = (do
      let ov ← eval (.Name x p1) X.env
      standAt p2.atName
      let (f, first) ← holding [ov] (getMethod ov "__init__" pl)
      callWith pos f first (backTo pos (starEach (e :: es) X.env)) (backToKw pos (keywordEach [] X.env))) := by rfl)
    (hdb : (x == ("__debug__" : Str)) = false := by decide)
    (he : starEach (e :: es) X.env = (false, eval e X.env) :: starEach es X.env := by rfl) (hpl : (backTo pos (starEach es X.env)).any (·.1) = false := by rfl) :
    PE X (.Call (.Attribute (.Name x p1) "__init__" p2) (e :: es) [] pos) (tVeI X.K ta) := by
  constructor
  intro pins s σ H Q I h
  refine PySem.W.methodCall_KW (ld_glob I hg gC ?_ hdb) hc
  refine PySem.W.method_cls I.kIn ga (PySem.W.cls_value I.kIn rd fd (by decide +kernel) ?_)
  show wpAny _ _ (callWith pos (Value.builtin "ValueError.__init__") [] (backTo pos (starEach (e :: es) X.env)) []) _ _ _
  refine PyProof.Rows.callWith_method1 (thn (ha.run pos pins _ σ H _ (I.tok _) h) fun us s1 hh => ?_) he hpl
  obtain ⟨vs, H1, I1, r1, a, C, ws, rfl, hl, T, ea, q⟩ := hh
  cases r1 with
  | @cons _ u0 _ ur ra rw' =>
    cases (show u0 = Value.ref a from ra)
    exact oinit_ok T I1 ea (by rw [← Paired.length rw', sizeLine_eq]; omega) fun s' J => ⟨.non, H1, J, rfl, q⟩
end
/-- what its making leaves -/
def spTM (K : PySem.W.Frag) (C : Addr) : Sp := fun vs H Q _ => ∃ (a l : Addr) (y : V) (xs : List V), vs = [.ref a, y, .ref l] ∧ H a = some (exo a C none) ∧ H l = some (.lst xs) ∧
  ∀ dx p, H dx = none → H p = none → p ≠ dx → Q .non (upd (upd (upd (upd H dx (exd dx [("made", y)])) a (exo a C (some dx))) p (.lst xs)) dx (exd dx [("rows", .ref p), ("made", y)]))
/-- what is known of the class -/
structure TMCls (K : PySem.W.Frag) (mg : Str → Option Value) (C f : Addr) : Prop where
  ns : PySem.W.nsIn K mainGlobals "TooMany" = some (some (.ref C))
  at_ : mg "TooMany" = some (.ref C)
  ox : OexC K C
  ini : PySem.W.findIn K (.ref C) "__init__" = some (some (.ref f))
  tf : PySem.W.typeIn K (.ref f) = some (.type "function")
structure TMFn (P : Program) (w : World) (K : PySem.W.Frag) (mg : Str → Option Value) (base : Heap) (k : Nat) (C : Addr) : Prop where
  ex : ∃ (f : Addr) (fd : FuncData) (ps : List Str), TMCls K mg C f ∧ FnOk P w K mg base CX0 k f fd ps (spTM K C) ∧ Binds K fd ps []
section
variable {P : Program} {w : World} {K : PySem.W.Frag} {mg : Str → Option Value} {base : Heap}
theorem tm_ok {st : Stmt} {C C0 f : Addr} {fd : FuncData} {k : Nat} {q1 q2 q3 q4 q5 q6 q7 q8 q9 q10 q11 q12 q13 q14 q15 : Pos} {j : Nat} {m : Str} (F : L2.Fun K "__init__" "TooMany.__init__" st f fd) (S : FnScope ["self", "made", "rows"] ["self", "made", "rows"] (defScope st)) (T : TMCls K mg C f)
    (hbd : ∀ (kV doc pm : Value) (an : Option Addr) (cdv ct : Value) (us : List Value), us.length = 3 → bindArgs (PySem.W.fnOf "__init__" "TooMany.__init__" (defArgs st) (defBody st) (defScope st) .none kV doc pm an cdv ct) ⟨us, []⟩ = pure ((["self", "made", "rows"] : List Str).zip us))
    (gC : mg "YardError" = some (.ref C0)) (rd : PySem.W.readsIn K C0 (.type "type") = true) (ga : PySem.W.specialIn K (.ref C0) "__getattribute__" = some (some (.builtin "type.__getattribute__")))
    (fdc : PySem.W.findCls K (.ref C0) (.type "type") "__init__" = some (.val (.builtin "ValueError.__init__"))) (n1 : PySem.W.findIn K (.ref C) "made" = some none) (n2 : PySem.W.findIn K (.ref C) "rows" = some none) (hl : mg "list" = none)
    (body : ∀ (cdv : Value) (A : Around) (outer : List Env) (s : Shared) (H : Hp) (E : XK), PSs (cxOf CX0 P w K mg base ["self", "made", "rows"] "TooMany.__init__" (defScope st) f cdv A outer s H E).nox (defBody st)
      (fun D σ H => ∃ (a l : Addr) (y : V) (xs : List V), σ = start ["self", "made", "rows"] [.ref a, y, .ref l] ∧ H a = some (exo a C none) ∧ H l = some (.lst xs) ∧
        ∀ dx p, H dx = none → H p = none → p ≠ dx → D.nx σ (upd (upd (upd (upd H dx (exd dx [("made", y)])) a (exo a C (some dx))) p (.lst xs)) dx (exd dx [("rows", .ref p), ("made", y)])))) : TMFn P w K mg base (k + 1) C := by
  refine ⟨f, fd, _, T, F.ok S (fun vs H Q E h => ?_) (fun cdv A outer s H vs Q E hr h => ?_), F.binds hbd⟩
  · obtain ⟨a, l, y, xs, rfl, _⟩ := h
    rfl
  · obtain ⟨a, l, y, xs, rfl, h1, h2, h3⟩ := h
    exact ⟨_, body cdv A outer s H E, a, l, y, xs, rfl, h1, h2, h3⟩
end
def kTM (x : DXK) (δ : DSt) (w : Om) : List D → Prop
  | [d, .lst rows] => x "TooMany" [("rows", .lst rows), ("made", d)] δ w
  | _ => False
def dRaiseTM (t : DA) (x : DXK) : DS := fun _ δ w => t δ w fun ds w1 => kTM x δ w1 ds
theorem js_raiseTM {X : Cx} {z : Ent} {pos p p3 : Pos} {C : Addr} {k : Nat} {x : DXK} {t : DA} {e : Expr} {es : List Expr} (T : TMFn X.prog X.w X.K X.mg X.base k C) (tk : Takes X (liftW z x)) (hK : z.K = X.K) (hr : Room (k + 1) X.A) (hc : X.calm = true) (ha : JA X z (e :: es) t) (hg : Gl X "TooMany" := by rfl)
    (he : starEach (e :: es) X.env = (false, eval e X.env) :: starEach es X.env := by rfl) (hpl : (backTo p3 (starEach es X.env)).any (·.1) = false := by rfl) : JS X z (.Raise (some (.Call (.Name "TooMany" p) (e :: es) [] p3)) none pos) (dRaiseTM t x) := by
  obtain ⟨f, fd, ps, K1, F1, B⟩ := T.ex
  refine PS.imp (ps_raise hc tk (pmk_oex K1.ox K1.ini K1.tf F1 hr B .nil pass0 hg K1.at_ ha (by decide) he hpl)) fun D σ H hq => ?_
  obtain ⟨δ, w, F, He, E, R, q, c⟩ := hq
  refine ⟨δ, w, F, He, _, R, q, fun ds w1 q1 vs H1 F1 He1 wd1 st1 r1 => ?_⟩
  unfold kTM at q1
  split at q1
  case h_2 => exact q1.elim
  next d rows =>
  cases r1 with
  | cons rv r1 =>
  next v vs =>
  cases r1 with
  | cons rl r1 =>
  cases r1
  cases rl with
  | @lst l xs _ hl rx =>
  refine ⟨by simp, fun a na => ?_⟩
  have sl := wd1.sf _ _ hl
  have nla : l ≠ a := fun e => by rw [e, na] at sl; cases sl
  refine ⟨a, l, v, xs, rfl, upd_same, by rw [upd_ne nla]; exact sl, fun dx p hdx hp npd => ?_⟩
  have nda : dx ≠ a := fun e => by rw [e, upd_same] at hdx; cases hdx
  have npa : p ≠ a := fun e => by rw [e, upd_same] at hp; cases hp
  rw [upd_ne nda] at hdx
  rw [upd_ne npa] at hp
  refine ⟨rfl, dx, [("rows", .ref p), ("made", v)], ?_, upd_same, hdx, ?_⟩
  · rw [upd_ne (Ne.symm nda), upd_ne (Ne.symm npa), upd_same]
  · have eq : upd (del (upd (upd (upd (upd (upd H1 a (exo a C none)) dx (exd dx [("made", v)])) a (exo a C (some dx))) p (.lst xs)) dx (exd dx [("rows", .ref p), ("made", v)])) a) dx (.xd [("rows", .ref p), ("made", v)]) = upd (upd H1 p (.lst xs)) dx (.xd [("rows", .ref p), ("made", v)]) := by
      funext b
      by_cases h1 : b = dx
      · subst h1; rw [upd_same, upd_same]
      · rw [upd_ne h1, upd_ne h1]
        by_cases h2 : b = a
        · subst h2
          rw [del_same, upd_ne (Ne.symm npa), na]
        · rw [del_ne h2, upd_ne h1]
          by_cases h3 : b = p
          · subst h3; rw [upd_same, upd_same]
          · rw [upd_ne h3, upd_ne h2, upd_ne h1, upd_ne h2, upd_ne h3]
    rw [eq]
    have W1 := wd1.alloc (o := .lst xs) hp
    have n1 := wd1.fnone hp
    have m1 := wd1.henone hp
    have W2 := W1.freeze upd_same n1 m1
    have S2 : Step F1 He1 H1 (upd F1 p (.lst xs)) He1 (upd H1 p (.lst xs)) := (Step.alloc hp).freeze n1 hp
    have hd2 : upd H1 p (.lst xs) dx = none := by rw [upd_ne (Ne.symm npd)]; exact hdx
    have W3 := W2.alloc (o := .xd [("rows", .ref p), ("made", v)]) hd2
    have W4 := W3.freeze upd_same (W2.fnone hd2) (W2.henone hd2)
    have S4 : Step F1 He1 H1 (upd (upd F1 p (.lst xs)) dx (.xd [("rows", .ref p), ("made", v)])) He1 (upd (upd H1 p (.lst xs)) dx (.xd [("rows", .ref p), ("made", v)])) := S2.trans ((Step.alloc hd2).freeze (W2.fnone hd2) hd2)
    refine ⟨δ, w1, _, He1, "TooMany", _, C, R.step W4 (st1.trans S4), rfl, by rw [hK]; exact K1.ns, .inr ⟨dx, _, rfl, upd_same, .cons (.lst (vs := xs) ?_ (rx.mono S4.fz)) (.cons (rv.mono S4.fz) .nil)⟩, q1⟩
    rw [upd_ne npd, upd_same]
end Lv

namespace Lv
open PySem PySem.Spec L2

/-! ### isinstance of a kept exception, its fields -/
/-- what its class must say -/
structure ExcT (K : PySem.W.Frag) (C : Addr) : Prop where
  cl : (PySem.W.clsIn K C).isSome = true
  hd : PySem.W.hasDictIn K C = true
  ga : PySem.W.findIn K (.ref C) "__getattribute__" = some (some (.builtin "BaseException.__getattribute__"))
  gg : PySem.W.findIn K (.ref C) "__getattr__" = some none
  sb : PySem.W.subIn K (.ref C) (.type "BaseException") = some true
  cc : PySem.W.findIn K (.ref C) "__class__" = some (some (.builtin "object.__class__"))
  mo : PySem.W.mroIn K C (.type "object") = some true
structure ExcB (K : PySem.W.Frag) : Prop where
  hn : PySem.W.specialIn K (.builtin "object.__class__") "__get__" = some (some (.builtin "getset_descriptor.__get__"))
  ht : PySem.W.takesIn K (.builtin "object.__class__") = some true
theorem exk_at {P : Program} {W : World} {H : Hp} {h : Heap} {a C : Addr} {d : Option Addr} (ok : HOk P W H h) (e : H a = some (exk a C d)) : ∃ (oe : Obj) (vs : Array Value), h.get? a = some oe ∧ oe.cls = .ref C ∧ oe.dict = d ∧ oe.data = .fields vs := by
  have x : ObjOk P W H h a (.ext fun h => ∃ (oe : Obj) (vs : Array Value), h.get? a = some oe ∧ oe.cls = .ref C ∧ oe.dict = d ∧ oe.data = .fields vs) := ok a _ e
  exact x.1
/-- its dict, where it has one -/
def XDd (H : Hp) (d : Option Addr) : Prop := d = none ∨ ∃ dd vs, d = some dd ∧ H dd = some (.xd vs)
theorem inst_of {X : Cx} {pins : List (Addr × Obj)} {σ : L2.St} {H : Hp} {s : Shared} {a C : Addr} {d : Option Addr} (I : Inv X pins σ H s) (e : H a = some (exk a C d)) (xd : XDd H d) : ∃ ox od, PySem.W.InstAt s.heap a ox C od := by
  obtain ⟨oe, vs, h1, h2, h3, h4⟩ := exk_at I.hok e
  have nc : PySem.W.notCls oe := by unfold PySem.W.notCls; rw [h4] <;> rfl
  rcases xd with rfl | ⟨dd, fs, rfl, hx⟩
  · exact ⟨oe, none, h1, h2, nc, by rw [h3] <;> trivial⟩
  · have ob : ObjOk X.prog X.w H s.heap dd (.xd fs) := I.hok dd _ hx
    obtain ⟨mA, hns, hr⟩ := ob
    obtain ⟨od, ho, _⟩ := lookIn_ns hns
    exact ⟨oe, some od, h1, h2, nc, by rw [h3]; exact ho⟩
def rIsX (K : PySem.W.Frag) : List V → Hp → VK → Prop := fun xs H Q => ∃ (a C : Addr) (d : Option Addr) (c : V) (u : Value) (b : Bool), xs = [.ref a, c] ∧ ClsV c u ∧ H a = some (exk a C d) ∧ XDd H d ∧ ExcT K C ∧ ExcB K ∧ PySem.W.kitOne K (.ref C) u = some b ∧ Q (.bl b) H
def rIsXT (K : PySem.W.Frag) : List V → Hp → VK → Prop := fun xs H Q => ∃ (a C tp : Addr) (d : Option Addr) (cs : List V) (us : List Value) (b : Bool), xs = [.ref a, .ref tp] ∧ H tp = some (.tup cs) ∧ Paired ClsV cs us ∧ H a = some (exk a C d) ∧ XDd H d ∧ ExcT K C ∧ ExcB K ∧ PySem.W.kitAny K (.ref C) us = some b ∧ Q (.bl b) H
section
variable {X : Cx}
theorem call_isX : CallR X (.builtin "isinstance") (rIsX X.K) := by
  intro pins s σ H xs us Q I r h
  obtain ⟨a, C, d, c, u, b, rfl, k, e, xd, T, B, ki, q⟩ := h
  obtain ⟨u1, u2, rfl, r1, r2⟩ := vals2 r
  have e2 := k.eq r2
  subst e2
  cases (show u1 = Value.ref a from r1)
  obtain ⟨ox, od, J⟩ := inst_of I e xd
  exact PySem.W.kia_one (PySem.W.kitx_exc T.cl T.ga T.gg T.sb T.cc B.hn B.ht T.mo) I.kIn J ki (fun z => nomatch z) fun tk => ⟨.bl b, H, I.tok tk, rfl, q⟩
theorem call_isXT : CallR X (.builtin "isinstance") (rIsXT X.K) := by
  intro pins s σ H xs us Q I r h
  obtain ⟨a, C, tp, d, cs, ws, b, rfl, hT, k, e, xd, T, B, ki, q⟩ := h
  obtain ⟨u1, u2, rfl, r1, r2⟩ := vals2 r
  cases (show u2 = Value.ref tp from r2)
  cases (show u1 = Value.ref a from r1)
  obtain ⟨ox, od, J⟩ := inst_of I e xd
  obtain ⟨_, its, rv, ⟨oc, o2, dt, sl⟩, h1, h2, n, h3⟩ := (show ObjOk X.prog X.w H s.heap tp (.tup cs) from I.hok tp _ hT)
  have e3 := ClsV.all k rv
  simp only at h2 h3
  subst e3 h2 h3
  exact PySem.W.kia_tup (PySem.W.kitx_exc T.cl T.ga T.gg T.sb T.cc B.hn B.ht T.mo) I.kIn J h1 ki (fun z => nomatch z) fun tk => ⟨.bl b, H, I.tok tk, rfl, q⟩
end
/-- the class that such a thing names -/
def clsN : D → Option Str
  | .cls c => some c
  | .ty n => if n = "ValueError" then some "ValueError" else none
  | _ => none
/-- what is known of all classes of exceptions here (A: those that are asked for) -/
structure ExI (K : PySem.W.Frag) (L A : List Str) : Prop where
  bs : ExcB K
  ty : ∀ cn C, L.contains cn = true → PySem.W.nsIn K mainGlobals cn = some (some (.ref C)) → ExcT K C
  one : ∀ cn C c b v, subE L cn c = some b → A.contains c = true → PySem.W.nsIn K mainGlobals cn = some (some (.ref C)) → PySem.W.nsIn K mainGlobals c = some (some v) → PySem.W.kitOne K (.ref C) v = some b
  val : ∀ cn C, L.contains cn = true → PySem.W.nsIn K mainGlobals cn = some (some (.ref C)) → PySem.W.kitOne K (.ref C) (.type "ValueError") = some true
theorem DR.excAt {K : PySem.W.Frag} {F H : Hp} {v : V} {cn : Str} {fs : List (Str × D)} (r : DR K F v (.exc cn fs)) (s : Same F H) : ∃ a C d, v = .ref a ∧ H a = some (exk a C d) ∧ XDd H d ∧ PySem.W.nsIn K mainGlobals cn = some (some (.ref C)) := by
  cases r with
  | exc0 h n => exact ⟨_, _, _, rfl, s _ _ h, .inl rfl, n⟩
  | exc1 h n h2 _ => exact ⟨_, _, _, rfl, s _ _ h, .inr ⟨_, _, rfl, s _ _ h2⟩, n⟩
def sAskT (L : List Str) (A : List Str) (cn : Str) : List D → Option Bool
  | [] => some false
  | .cls c :: r => if A.contains c then (subE L cn c).bind fun b => (sAskT L A cn r).map fun b2 => b || b2 else none
  | _ :: _ => none
def sIsiE (L A : List Str) (d e : D) (P : Bool → D → Prop) : Prop := match d with
  | .exc cn _ => match e with
    | .cls c => A.contains c = true ∧ ∃ b, subE L cn c = some b ∧ P false (.bl b)
    | .ty n => n = "ValueError" ∧ L.contains cn = true ∧ P false (.bl true)
    | .tup cs => L.contains cn = true ∧ ∃ b, sAskT L A cn cs = some b ∧ P false (.bl b)
    | _ => False
  | _ => sIsi d e P
def rIsAll (K : PySem.W.Frag) : List V → Hp → VK → Prop := fun xs H Q => rIsi K xs H Q ∨ rIsX K xs H Q ∨ rIsXT K xs H Q
theorem call_isAll {X : Cx} : CallR X (.builtin "isinstance") (rIsAll X.K) := call_isi.or (call_isX.or call_isXT)
theorem ask_ok {K : PySem.W.Frag} {F : Hp} {L A : List Str} (T : ExI K L A) {cn : Str} {C : Addr} (hC : PySem.W.nsIn K mainGlobals cn = some (some (.ref C))) : ∀ {cs : List D} {vs : List V} {b : Bool}, DRs K F vs cs → sAskT L A cn cs = some b → ∃ us, Paired ClsV vs us ∧ PySem.W.kitAny K (.ref C) us = some b
  | [], _, b, r, h => by
    cases r
    cases h
    exact ⟨[], .nil, rfl⟩
  | d :: cs, _, b, r, h => by
    cases r with
    | cons rd r =>
    cases d with
    | cls c =>
      cases rd with
      | cls nc =>
      unfold sAskT at h
      split at h
      · next hA =>
        cases e1 : subE L cn c with
        | none => rw [e1] at h; cases h
        | some b1 =>
          cases e2 : sAskT L A cn cs with
          | none => rw [e1, e2] at h; cases h
          | some b2 =>
            rw [e1, e2] at h
            cases h
            obtain ⟨us, q1, q2⟩ := ask_ok T hC r e2
            refine ⟨_, .cons (.own _) q1, kitAny_cons (T.one _ _ _ _ _ e1 hA hC nc) (fun z => ?_) (fun z => ?_)⟩
            · subst z; simpa using q2
            · subst z; rfl
      · cases h
    | _ => cases h
theorem sem_isiE {z : Ent} {L A : List Str} (T : ExI z.K L A) : Sem2 z (fun x y H Q => rIsAll z.K [x, y] H Q) (sIsiE L A) := fun w F He H x y d e P Q wd dx dy q k => by
  unfold sIsiE at q
  split at q
  · next cn fs =>
    obtain ⟨a, C, dd, rfl, e1, xd, hC⟩ := (dx.plain fun o q => by cases q with | own q => cases q).excAt wd.sf
    split at q
    · next c =>
      obtain ⟨hA, b, e2, q⟩ := q
      have ry := dy.plain fun o q => by cases q with | own q => cases q
      cases ry with
      | cls nc => exact .inr (.inl ⟨a, C, dd, _, _, b, rfl, .own _, e1, xd, T.ty _ _ (by unfold subE at e2; split at e2; assumption; cases e2) hC, T.bs, T.one _ _ _ _ _ e2 hA hC nc, k _ _ q _ H F He wd .refl (.bl _)⟩)
    · next n =>
      obtain ⟨rfl, hL, q⟩ := q
      cases dy.ty
      exact .inr (.inl ⟨a, C, dd, _, _, true, rfl, .ty _, e1, xd, T.ty _ _ hL hC, T.bs, T.val _ _ hL hC, k _ _ q _ H F He wd .refl (.bl _)⟩)
    · next cs =>
      obtain ⟨hL, b, e2, q⟩ := q
      obtain ⟨tp, vs, rfl, ht, rt⟩ := dy.tup wd.sf
      obtain ⟨us, u1, u2⟩ := ask_ok T hC rt e2
      exact .inr (.inr ⟨a, C, tp, dd, vs, us, b, rfl, ht, u1, e1, xd, T.ty _ _ hL hC, T.bs, u2, k _ _ q _ H F He wd .refl (.bl _)⟩)
    · exact q.elim
  · exact .inl (sem_isi w F He H x y d e P Q wd dx dy q k)
/-- a class by its name -/
theorem jx_cls {X : Cx} {z : Ent} {pos : Pos} {cn : Str} {C : Addr} (hK : z.K = X.K) (n : PySem.W.nsIn X.K mainGlobals cn = some (some (.ref C))) (m : X.mg cn = some (.ref C)) (hg : Gl X cn := by rfl) (hd : (cn == ("__debug__" : Str)) = false := by decide) : JX X z (.Name cn pos) (dC (.cls cn)) :=
  jx_c (pe_glob (v := .ref C) hg m rfl hd) fun _ => .cls (by rw [hK]; exact n)

/-! ### e.f of a kept exception -/
def dXFld (f : Str) (t : DO) : DX := fun δ w Q => t δ w fun d w1 => ∃ cn fs x, d = .exc cn fs ∧ cn = "TooMany" ∧ fs.lookup f = some x ∧ Q false x w1
theorem jx_xfld {X : Cx} {z : Ent} {pos : Pos} {f : Str} {C : Addr} {e : Expr} {t : DO} (hK : z.K = X.K) (n : PySem.W.nsIn X.K mainGlobals "TooMany" = some (some (.ref C))) (T : XfC X.K C) (hno : PySem.W.findIn X.K (.ref C) f = some none) (he : JO X z e t) (hb : attributeBase e f X.env (eval e X.env) = eval e X.env := by rfl) : JX X z (.Attribute e f pos) (dXFld f t) := by
  constructor
  intro pins s σ H Q I h
  obtain ⟨δ, w, F, He, P, R, q, k⟩ := h
  refine attr_of hb (thn (he.run pins s σ H (fun v H1 => ∃ a dd vs v1 d w1 F1 He1, v = .ref a ∧ H1 a = some (exk a C (some dd)) ∧ H1 dd = some (.xd vs) ∧ vs.lookup f = some v1 ∧ DR z.K F1 v1 d ∧ P false d w1 ∧ Wd z.K w1 F1 He1 H1 ∧ Step F He H F1 He1 H1) I ⟨δ, w, F, He, _, R, q, fun d w1 q1 v H1 F1 He1 wd st r => ?_⟩) fun u s1 hh => ?_)
  · obtain ⟨cn, fs, x, rfl, rfl, lk, p⟩ := q1
    have rd : DR z.K F1 v (.exc "TooMany" fs) := by
      rcases r with r | ⟨_, _, _, _, _, q⟩
      · exact r
      · cases q
    cases rd with
    | exc0 _ _ => simp at lk
    | @exc1 a C' dd _ vs _ h1 h2 h3 h4 =>
      rw [hK, n] at h2
      cases h2
      have key : ∀ {vs : List (Str × V)} {fs : List (Str × D)}, DFs z.K F1 vs fs → fs.lookup f = some x → ∃ v1, vs.lookup f = some v1 ∧ DR z.K F1 v1 x := by
        intro vs fs h lk
        rcases h.look (f := f) with ⟨_, z2⟩ | ⟨v1, d1, z1, z2, z3⟩
        · rw [z2] at lk; cases lk
        · rw [z2] at lk; cases lk; exact ⟨v1, z1, z3⟩
      obtain ⟨v1, z1, z2⟩ := key h4 lk
      exact ⟨a, dd, vs, v1, x, w1, F1, He1, rfl, wd.sf _ _ h1, wd.sf _ _ h3, z1, z2, p, wd, st⟩
  · obtain ⟨v, H1, I1, rv, a, dd, vs, v1, d, w1, F1, He1, rfl, h1, h2, lk, r1, p, wd, st⟩ := hh
    cases (show u = Value.ref a from rv)
    have hx : ObjOk X.prog X.w H1 s1.heap dd (.xd vs) := I1.hok dd _ h2
    obtain ⟨mA, hns, hr⟩ := hx
    obtain ⟨od, ho, hl⟩ := lookIn_ns hns
    obtain ⟨u, hu, ru⟩ := RelO.some_of (v := v1) (o := mA f) (by rw [← lk]; exact hr f)
    obtain ⟨oe, fv, g1, g2, g3, g4⟩ := exk_at I1.hok h1
    have J : PySem.W.InstAt s1.heap a oe C (some od) := ⟨g1, g2, by unfold PySem.W.notCls; rw [g4] <;> rfl, by rw [g3]; exact ho⟩
    exact HandSPX.exc_get I1.kIn J T.ga T.gg T.exC (PySem.W.findObj_own T.hdC hno rfl (by rw [hl, hu])) (handed_of ru) ⟨v1, H1, I1.tok _, ru, k _ _ _ p v1 H1 F1 He1 wd st r1⟩
end Lv

namespace Lv
open PySem PySem.Spec L2

/-! ### the classes of exceptions, all of them at once -/
def EXN : List Str := ["NoWord", "TooLong", "NoOrder", "TooMany", "TooGreat"]
def XN : List Str := ["NoWord", "TooLong", "NoOrder", "TooMany", "TooGreat", "YardError"]
structure XOne (K : PySem.W.Frag) (cn : Str) (C : Addr) : Prop where
  ns : PySem.W.nsIn K mainGlobals cn = some (some (.ref C))
  cl : PySem.W.isClsIn K C = true
  ty : PySem.W.typeIn K (.ref C) = some (.type "type")
  sb : PySem.W.subIn K (.ref C) (.type "BaseException") = some true
  sv : PySem.W.subIn K (.ref C) (.type "ValueError") = some true
  hd : PySem.W.hasDictIn K C = true
  ga : PySem.W.findIn K (.ref C) "__getattribute__" = some (some (.builtin "BaseException.__getattribute__"))
  gg : PySem.W.findIn K (.ref C) "__getattr__" = some none
  cc : PySem.W.findIn K (.ref C) "__class__" = some (some (.builtin "object.__class__"))
  mo : PySem.W.mroIn K C (.type "object") = some true
theorem XOne.t {K : PySem.W.Frag} {cn : Str} {C : Addr} (o : XOne K cn C) : ExcT K C := ⟨o.cl, o.hd, o.ga, o.gg, o.sb, o.cc, o.mo⟩
structure XRow (K : PySem.W.Frag) (c c1 c2 c3 c4 c5 c0 : Addr) (b1 b2 b3 b4 b5 : Bool) : Prop where
  s1 : PySem.W.subIn K (.ref c) (.ref c1) = some b1
  s2 : PySem.W.subIn K (.ref c) (.ref c2) = some b2
  s3 : PySem.W.subIn K (.ref c) (.ref c3) = some b3
  s4 : PySem.W.subIn K (.ref c) (.ref c4) = some b4
  s5 : PySem.W.subIn K (.ref c) (.ref c5) = some b5
  s0 : PySem.W.subIn K (.ref c) (.ref c0) = some true
structure XTab (K : PySem.W.Frag) (c1 c2 c3 c4 c5 c0 : Addr) : Prop where
  o1 : XOne K "NoWord" c1
  o2 : XOne K "TooLong" c2
  o3 : XOne K "NoOrder" c3
  o4 : XOne K "TooMany" c4
  o5 : XOne K "TooGreat" c5
  o0 : XOne K "YardError" c0
  r1 : XRow K c1 c1 c2 c3 c4 c5 c0 true false false false false
  r2 : XRow K c2 c1 c2 c3 c4 c5 c0 false true false false false
  r3 : XRow K c3 c1 c2 c3 c4 c5 c0 false false true false false
  r4 : XRow K c4 c1 c2 c3 c4 c5 c0 false false false true false
  r5 : XRow K c5 c1 c2 c3 c4 c5 c0 false false false false true
  bs : ExcB K
section
variable {K : PySem.W.Frag} {c1 c2 c3 c4 c5 c0 : Addr}
/-- one of the five, at C -/
inductive Which (c1 c2 c3 c4 c5 : Addr) : Str → Addr → Prop
  | w1 : Which c1 c2 c3 c4 c5 "NoWord" c1
  | w2 : Which c1 c2 c3 c4 c5 "TooLong" c2
  | w3 : Which c1 c2 c3 c4 c5 "NoOrder" c3
  | w4 : Which c1 c2 c3 c4 c5 "TooMany" c4
  | w5 : Which c1 c2 c3 c4 c5 "TooGreat" c5
theorem XTab.which (T : XTab K c1 c2 c3 c4 c5 c0) {cn : Str} {C : Addr} (h : EXN.contains cn = true) (n : PySem.W.nsIn K mainGlobals cn = some (some (.ref C))) : Which c1 c2 c3 c4 c5 cn C := by
  have hm : cn ∈ EXN := by simpa using h
  simp only [EXN, List.mem_cons, List.not_mem_nil, or_false] at hm
  rcases hm with rfl | rfl | rfl | rfl | rfl
  · rw [T.o1.ns] at n; cases n; exact .w1
  · rw [T.o2.ns] at n; cases n; exact .w2
  · rw [T.o3.ns] at n; cases n; exact .w3
  · rw [T.o4.ns] at n; cases n; exact .w4
  · rw [T.o5.ns] at n; cases n; exact .w5
theorem XTab.one (T : XTab K c1 c2 c3 c4 c5 c0) {cn : Str} {C : Addr} (w : Which c1 c2 c3 c4 c5 cn C) : XOne K cn C := by
  cases w
  · exact T.o1
  · exact T.o2
  · exact T.o3
  · exact T.o4
  · exact T.o5
/-- a class among the six -/
inductive Which6 (c1 c2 c3 c4 c5 c0 : Addr) : Str → Addr → Prop
  | five {c : Str} {D : Addr} (w : Which c1 c2 c3 c4 c5 c D) : Which6 c1 c2 c3 c4 c5 c0 c D
  | w0 : Which6 c1 c2 c3 c4 c5 c0 "YardError" c0
theorem XTab.which6 (T : XTab K c1 c2 c3 c4 c5 c0) {c : Str} {v : Value} (h : XN.contains c = true) (n : PySem.W.nsIn K mainGlobals c = some (some v)) : ∃ D, v = .ref D ∧ Which6 c1 c2 c3 c4 c5 c0 c D := by
  have hm : c ∈ XN := by simpa using h
  simp only [XN, List.mem_cons, List.not_mem_nil, or_false] at hm
  rcases hm with rfl | rfl | rfl | rfl | rfl | rfl
  · rw [T.o1.ns] at n; cases n; exact ⟨_, rfl, .five .w1⟩
  · rw [T.o2.ns] at n; cases n; exact ⟨_, rfl, .five .w2⟩
  · rw [T.o3.ns] at n; cases n; exact ⟨_, rfl, .five .w3⟩
  · rw [T.o4.ns] at n; cases n; exact ⟨_, rfl, .five .w4⟩
  · rw [T.o5.ns] at n; cases n; exact ⟨_, rfl, .five .w5⟩
  · rw [T.o0.ns] at n; cases n; exact ⟨_, rfl, .w0⟩
theorem XTab.one6 (T : XTab K c1 c2 c3 c4 c5 c0) {c : Str} {D : Addr} (w : Which6 c1 c2 c3 c4 c5 c0 c D) : XOne K c D := by
  cases w with
  | five w => exact T.one w
  | w0 => exact T.o0
theorem XTab.sub (T : XTab K c1 c2 c3 c4 c5 c0) {cn c : Str} {C D : Addr} {b : Bool} (w : Which c1 c2 c3 c4 c5 cn C) (w' : Which6 c1 c2 c3 c4 c5 c0 c D) (e : subE EXN cn c = some b) : PySem.W.subIn K (.ref C) (.ref D) = some b := by
  have key : ∀ {b' : Bool}, PySem.W.subIn K (.ref C) (.ref D) = some b' → subE EXN cn c = some b' → PySem.W.subIn K (.ref C) (.ref D) = some b := fun h1 h2 => by rw [h2] at e; cases e; exact h1
  cases w <;> cases w' <;> (try rename_i w2; cases w2) <;> first
    | exact key T.r1.s1 (by decide +kernel) | exact key T.r1.s2 (by decide +kernel) | exact key T.r1.s3 (by decide +kernel) | exact key T.r1.s4 (by decide +kernel) | exact key T.r1.s5 (by decide +kernel) | exact key T.r1.s0 (by decide +kernel)
    | exact key T.r2.s1 (by decide +kernel) | exact key T.r2.s2 (by decide +kernel) | exact key T.r2.s3 (by decide +kernel) | exact key T.r2.s4 (by decide +kernel) | exact key T.r2.s5 (by decide +kernel) | exact key T.r2.s0 (by decide +kernel)
    | exact key T.r3.s1 (by decide +kernel) | exact key T.r3.s2 (by decide +kernel) | exact key T.r3.s3 (by decide +kernel) | exact key T.r3.s4 (by decide +kernel) | exact key T.r3.s5 (by decide +kernel) | exact key T.r3.s0 (by decide +kernel)
    | exact key T.r4.s1 (by decide +kernel) | exact key T.r4.s2 (by decide +kernel) | exact key T.r4.s3 (by decide +kernel) | exact key T.r4.s4 (by decide +kernel) | exact key T.r4.s5 (by decide +kernel) | exact key T.r4.s0 (by decide +kernel)
    | exact key T.r5.s1 (by decide +kernel) | exact key T.r5.s2 (by decide +kernel) | exact key T.r5.s3 (by decide +kernel) | exact key T.r5.s4 (by decide +kernel) | exact key T.r5.s5 (by decide +kernel) | exact key T.r5.s0 (by decide +kernel)
theorem subE_mem {L : List Str} {cn c : Str} {b : Bool} (e : subE L cn c = some b) : L.contains cn = true := by
  unfold subE at e
  split at e
  · assumption
  · cases e
theorem kitOne_of {C D : Addr} {b : Bool} (cl : PySem.W.isClsIn K D = true) (ty : PySem.W.typeIn K (.ref D) = some (.type "type")) (s : PySem.W.subIn K (.ref C) (.ref D) = some b) (ss : PySem.W.subIn K (.ref C) (.ref C) = some true) : PySem.W.kitOne K (.ref C) (.ref D) = some b := by
  unfold PySem.W.kitOne
  split
  · next h =>
    have e : C = D := Value.ref.inj (beq_iff_eq.mp h)
    subst e
    rw [ss] at s
    exact s
  · have e2 : ((PySem.W.clsIn K D).isSome && PySem.W.typeIn K (.ref D) == some (.type "type")) = true := by rw [show (PySem.W.clsIn K D).isSome = true from cl, ty] <;> rfl
    show (if ((PySem.W.clsIn K D).isSome && PySem.W.typeIn K (.ref D) == some (.type "type")) = true then PySem.W.subIn K (.ref C) (.ref D) else none) = some b
    rw [if_pos e2]
    exact s
theorem XTab.self (T : XTab K c1 c2 c3 c4 c5 c0) {cn : Str} {C : Addr} (w : Which c1 c2 c3 c4 c5 cn C) : PySem.W.subIn K (.ref C) (.ref C) = some true := by
  cases w
  · exact T.r1.s1
  · exact T.r2.s2
  · exact T.r3.s3
  · exact T.r4.s4
  · exact T.r5.s5
theorem kitMeta_VE : PySem.W.kitMeta "ValueError" = true := by decide +kernel
theorem XTab.exi (T : XTab K c1 c2 c3 c4 c5 c0) : ExI K EXN XN where
  bs := T.bs
  ty := fun cn C h n => (T.one (T.which h n)).t
  one := fun cn C c b v e hA n m => by
    obtain ⟨D, rfl, w'⟩ := T.which6 hA m
    have w := T.which (subE_mem e) n
    have o := T.one6 w'
    exact kitOne_of o.cl o.ty (T.sub w w' e) (T.self w)
  val := fun cn C h n => by
    have o := T.one (T.which h n)
    have e : PySem.W.kitCls K (.ref C) (.type "ValueError") = some true := by
      show (if PySem.W.kitMeta "ValueError" = true then PySem.W.subIn K (.ref C) (.type "ValueError") else none) = some true
      rw [if_pos kitMeta_VE]
      exact o.sv
    unfold PySem.W.kitOne
    split
    · rfl
    · exact e
theorem XTab.mt (T : XTab K c1 c2 c3 c4 c5 c0) {c : Str} {D : Addr} (w' : Which6 c1 c2 c3 c4 c5 c0 c D) : ∀ cn C b, subE EXN cn c = some b → PySem.W.nsIn K mainGlobals cn = some (some (.ref C)) → PySem.W.exmOne K (.ref C) (.ref D) = some b := fun cn C b e n => by
  have o := T.one6 w'
  have w := T.which (subE_mem e) n
  exact PySem.W.exm_ref o.sb o.hd o.ty (T.sub w w' e)
end
end Lv

namespace Lv
open PySem PySem.Spec L2

/-! ### one of two readings -/
def dOrX (t u : DX) : DX := fun δ w Q => t δ w Q ∨ u δ w Q
section
variable {X : Cx} {z : Ent} {pos : Pos}
theorem jx_or2 {e : Expr} {t u : DX} (h : JX X z e t) (g : JX X z e u) : JX X z e (dOrX t u) := by
  constructor
  intro pins s σ H Q I ⟨δ, w, F, He, P, R, q, k⟩
  rcases q with q | q
  · exact h.run pins s σ H Q I ⟨δ, w, F, He, P, R, q, k⟩
  · exact g.run pins s σ H Q I ⟨δ, w, F, He, P, R, q, k⟩

/-! ### C() of a class that has no __init__ -/
structure Mk0 (K : PySem.W.Frag) (mg : Str → Option Value) (cn : Str) (C : Addr) : Prop where
  ns : PySem.W.nsIn K mainGlobals cn = some (some (.ref C))
  at_ : mg cn = some (.ref C)
  makes : PySem.W.makesIn K C = true
  init : PySem.W.findIn K (.ref C) "__init__" = some (some (.builtin "object.__init__"))
  kp : PySem.W.keepIn K (.ref C) = true
def tMk0 (C : Addr) : TE := fun _ H Q => ∀ x dx, H x = none → H dx = none → dx ≠ x → Q (.ref x) (upd (upd H dx (.own x)) x (.ins C dx []))
theorem pe_mk0 {cn : Str} {C : Addr} {p : Pos} (M : Mk0 X.K X.mg cn C) (hg : Gl X cn) (hdb : (cn == ("__debug__" : Str)) = false := by decide) : PE X (.Call (.Name cn p) [] [] pos) (tMk0 C) := by
  constructor
  intro pins s σ H Q I h
  refine wpAny_Call_Name_kw (ld_glob I hg M.at_ ?_ hdb)
  refine PySem.W.callWith_K0 I.kIn M.kp ?_
  have hq := h (s.heap.objs.size + 1) s.heap.objs.size (I.hok.fresh (Nat.le_succ _)) (I.hok.fresh (Nat.le_refl _)) (Nat.ne_of_lt (Nat.lt_succ_self _))
  have I2 := Inv.made (C := C) I
  obtain ⟨hh, g, d, t, os⟩ := s
  refine wpAny_call (make_map0 I.kIn M.makes M.init (fun self => PySem.W.Looks.of_pure (PySem.W.oi_bind self)) ?_)
  have e0 : ((hh.push PySem.W.emptyDict).push (PySem.W.instObj C hh.objs.size)).get? (hh.objs.size + 1) = some (PySem.W.instObj C hh.objs.size) := by heap_get
  have Y := PySem.W.makes_of (M := model X.prog X.w) I.kIn M.makes
  have t1 : PySem.W.Looks (model X.prog X.w) ((hh.push PySem.W.emptyDict).push (PySem.W.instObj C hh.objs.size)) (typeOf (.ref (hh.objs.size + 1))) (.ref C) := (PySem.W.Looks.ld e0).andThen .now
  have t2 : PySem.W.Looks (model X.prog X.w) ((hh.push PySem.W.emptyDict).push (PySem.W.instObj C hh.objs.size)) (isInstance (.ref (hh.objs.size + 1)) (.type "object")) true := t1.andThen (Y.top.keeps fun b o e => Heap.get?_push_of_some _ (Heap.get?_push_of_some _ e))
  refine codeAny_call_builtin PySem.W.oi_plain PySem.W.entry_oi (@PySem.W.check_slot (model X.prog X.w) _ _ _ "object.__init__" "object" "__init__" (.ref (hh.objs.size + 1)) [] [] _ PySem.W.oi_kind PySem.W.oi_split t2 (PySem.W.oi_args (.ref (hh.objs.size + 1))) ?_)
  rw [PySem.W.oi_run]
  exact wpAny_pure (And.intro rfl ⟨V.ref (hh.objs.size + 1), _, I2, rfl, hq⟩)
def dNew (cn : Str) : DX := fun _ w Q => ∀ x, w x = none → Q false (.ref x) (updW w x (.ins cn []))
theorem jx_new {cn : Str} {C : Addr} {p : Pos} (M : Mk0 X.K X.mg cn C) (hK : z.K = X.K) (hg : Gl X cn := by rfl) (hdb : (cn == ("__debug__" : Str)) = false := by decide) : JX X z (.Call (.Name cn p) [] [] pos) (dNew cn) := PE.imp (pe_mk0 M hg hdb) fun σ H Q ⟨δ, w, F, He, P, R, q, k⟩ x dx hx hdx hne => by
  have wd1 := R.wd
  have m := wd1.henone hx
  have md := wd1.henone hdx
  have n := wd1.fnone hx
  have nd := wd1.fnone hdx
  have h1 : (upd H dx (.own x)) x = none := by rw [upd_ne (Ne.symm hne)]; exact hx
  have wd2 : Wd z.K (updW w x (.ins cn [])) F (upd (upd He dx (.own x)) x (.ins C dx [])) (upd (upd H dx (.own x)) x (.ins C dx [])) := by
    refine ⟨((wd1.alloc hdx).alloc h1).sf, fun b u e => ?_, fun b u e => ?_, ⟨fun b c e => ?_, fun b e => ?_⟩⟩
    · by_cases hb : b = x
      · subst hb; rw [upd_same] at e ⊢; exact e
      · rw [upd_ne hb] at e ⊢
        by_cases hb2 : b = dx
        · subst hb2; rw [upd_same] at e ⊢; exact e
        · rw [upd_ne hb2] at e ⊢; exact wd1.sh b u e
    · by_cases hb : b = x
      · subst hb; exact n
      · rw [upd_ne hb] at e
        by_cases hb2 : b = dx
        · subst hb2; exact nd
        · rw [upd_ne hb2] at e; exact wd1.dj b u e
    · by_cases hb : b = x
      · subst hb
        rw [updW_same] at e
        cases e
        exact ⟨_, upd_same, .ins (by rw [hK]; exact M.ns) (by rw [upd_ne hne, upd_same]) .nil⟩
      · rw [updW_ne hb] at e
        obtain ⟨o, g1, g2⟩ := wd1.ex.some_ b c e
        have hb2 : b ≠ dx := fun z => by subst z; rw [md] at g1; cases g1
        refine ⟨o, by rw [upd_ne hb, upd_ne hb2]; exact g1, g2.other fun d p e => ?_⟩
        rw [upd_ne (ne_of_none e m), upd_ne (ne_of_none e md)]
        exact e
    · have hb : b ≠ x := fun z => by subst z; rw [updW_same] at e; cases e
      rw [updW_ne hb] at e
      rw [upd_ne hb]
      by_cases hb2 : b = dx
      · subst hb2; exact .inr ⟨x, upd_same⟩
      · rw [upd_ne hb2]; exact wd1.ex.none_ b e
  have st2 : Step F He H F (upd (upd He dx (.own x)) x (.ins C dx [])) (upd (upd H dx (.own x)) x (.ins C dx [])) :=
    (Step.name (Step.name (((Step.alloc hdx).trans (Step.alloc h1))) hdx) hx)
  exact k _ _ _ (q x (wd1.none_of m)) _ _ F _ wd2 st2 (.ref x)

/-! ### isinstance of an instance -/
def dIsiI (c : Str) (ib : Str → Option Bool) (t : DO) : DX := fun δ w Q => t δ w fun d w1 => ∃ a cn fs b, d = .ref a ∧ w1 a = some (.ins cn fs) ∧ ib cn = some b ∧ Q false (.bl b) w1

/-! ### a def with defaults; it may raise -/
structure FnXD (P : Program) (w : World) (K : PySem.W.Frag) (mg : Str → Option Value) (base : Heap) (k : Nat) (x : Str) (n : Nat) (dv : V) (T : DSpX) : Prop where
  ex : ∃ (f : Addr) (fd : FuncData) (ps : List Str) (ds : List Value), FnOk P w K mg base (L2.CX P w) k f fd ps (toSpX K T) ∧ mg x = some (.ref f) ∧ PySem.W.keepIn K (.ref f) = true ∧ Binds K fd ps [] ∧ Vals [dv] ds ∧ Binds K fd ps ds ∧ ps.length = n + 1
theorem FnXD.mono {P : Program} {w : World} {K : PySem.W.Frag} {mg : Str → Option Value} {base : Heap} {j k n : Nat} {x : Str} {dv : V} {T : DSpX} (F : FnXD P w K mg base j x n dv T) (h : j ≤ k) : FnXD P w K mg base k x n dv T :=
  let ⟨f, fd, ps, ds, a, b⟩ := F.ex; ⟨f, fd, ps, ds, a.mono h, b⟩
theorem FnXD.fnx {P : Program} {w : World} {K : PySem.W.Frag} {mg : Str → Option Value} {base : Heap} {k n : Nat} {x : Str} {dv : V} {T : DSpX} (F : FnXD P w K mg base k x n dv T) : FnX P w K mg base k x T :=
  let ⟨f, fd, ps, ds, a, b, c, d, _⟩ := F.ex; ⟨f, fd, ps, a, b, c, d⟩
def tCallSD (sp : Sp) (dvs : List V) (E : St → XK) (t : TA) : TE := fun σ H Q => t σ H fun vs H1 => sp (vs ++ dvs) H1 Q (E σ)
theorem pe_callSD {CX : CXT} {k : Nat} {f : Addr} {fd : FuncData} {ps : List Str} {sp : Sp} {E : St → XK} {x : Str} {p : Pos} {e : Expr} {es : List Expr} {t : TA} {ds : List Value} {dvs : List V} (F : FnOk X.prog X.w X.K X.mg X.base CX k f fd ps sp) (hr : Room k X.A) (hg : Gl X x) (hm : X.mg x = some (.ref f)) (hk : PySem.W.keepIn X.K (.ref f) = true) (hb : Binds X.K fd ps ds) (hd : Vals dvs ds) (hx : ∀ σ, PassesAt CX X σ (E σ))
    (ha : PA X (e :: es) t) (hdb : (x == ("__debug__" : Str)) = false := by decide) (he : starEach (e :: es) X.env = (false, eval e X.env) :: starEach es X.env := by rfl) (hpl : (backTo pos (starEach es X.env)).any (·.1) = false := by rfl) :
    PE X (.Call (.Name x p) (e :: es) [] pos) (tCallSD sp dvs E t) := by
  constructor
  intro pins s σ H Q I h
  refine wpAny_Call_Name_kw (ld_glob I hg hm ?_ hdb)
  refine PySem.W.callWith_K (h₀ := X.base) I.ok.mod.kin hk (thn (ha.run pos pins s σ H _ I h) fun us s1 hq => ?_) he hpl
  obtain ⟨vs, H1, I1, r, q⟩ := hq
  have r2 : Vals (vs ++ dvs) (us ++ ds) := r.append hd
  have hl : (us ++ ds).length = ps.length := by rw [← r2.length]; exact F.len _ _ _ _ q
  refine ⟨I1.kIn, wpAny_call (codeAny_mono (F.run X.A X.stack s1 H1 ⟨us, []⟩ _ _ Q (E σ) hr I1.env0 (hb s1 us I1.kIn hl) r2 q) fun r s' hq => ?_)⟩
  match r, hq with
  | .error e, hq => exact hx σ pins H1 s1 e s' I1 hq
  | .ok (.ret u), hq => exact I1.after hq
  | .ok .next, hq => exact False.elim hq
  | .ok .brk, hq => exact False.elim hq
  | .ok .cont, hq => exact False.elim hq
def dCallXD (T : DSpX) (dd : D) (x : DXK) (t : DA) : DX := fun δ w Q => t δ w fun ds w1 => T (ds ++ [dd]) w1 Q fun cn fs w2 => x cn fs δ w2
theorem callXD_lift {T : DSpX} {x : DXK} {t : DA} {dd : D} {dv : V} {σ : L2.St} {H : Hp} {Q : VK} {K : PySem.W.Frag} (hK : z.K = K) (rd : ∀ F, DR K F dv dd) (h : liftX z (dCallXD T dd x t) σ H Q) : tCallSD (toSpX K T) [dv] (WE (liftW z x)) (liftA z t) σ H Q := by
  subst hK
  obtain ⟨δ, w, F, He, P, R, q, k⟩ := h
  refine ⟨δ, w, F, He, _, R, q, fun ds w1 q1 vs H1 F1 He1 wd1 st1 r1 => ?_⟩
  refine ⟨ds ++ [dd], w1, F1, He1, P, _, wd1, r1.append (.cons (rd F1) .nil), q1, fun b d w' p v H' F' He' wd st r => k b d w' p v H' F' He' wd (st1.trans st) (r.base st1), fun cn fs w' p C d H' F' He' wd st n xd => ?_⟩
  exact ⟨δ, w', F', He', cn, fs, C, R.step wd (st1.trans st), rfl, n, xd, p⟩
theorem jx_callXD {k n : Nat} {T : DSpX} {xx : DXK} {t : DA} {x : Str} {p : Pos} {e : Expr} {es : List Expr} {dv : V} {dd : D} (f : FnXD X.prog X.w X.K X.mg X.base k x n dv T) (rd : ∀ F, DR X.K F dv dd) (tk : Takes X (liftW z xx)) (hK : z.K = X.K) (hr : Room k X.A) (ha : JA X z (e :: es) t) (hg : Gl X x := by rfl)
    (hdb : (x == ("__debug__" : Str)) = false := by decide) (he : starEach (e :: es) X.env = (false, eval e X.env) :: starEach es X.env := by rfl) (hpl : (backTo pos (starEach es X.env)).any (·.1) = false := by rfl) : JX X z (.Call (.Name x p) (e :: es) [] pos) (dCallXD T dd xx t) := by
  obtain ⟨fa, fd, ps, dss, a, b, c, _, d1, d2, _⟩ := f.ex
  exact PE.imp (pe_callSD a hr hg b c d2 d1 (fun σ => passAt tk σ) ha hdb he hpl) fun σ H Q h => callXD_lift hK rd h
end
section
variable {P : Program} {w : World} {K : PySem.W.Frag} {mg : Str → Option Value} {base : Heap}
theorem fnXD_ok {T : DSpX} {x qual : Str} {st : Stmt} {f : Addr} {fd : FuncData} {N ps : List Str} {k n : Nat} {dv : V} (F : FunD K x qual (defArgs st) (defBody st) (defScope st) [dv] [] f fd) (S : FnScope N ps (defScope st)) (hm : mg x = some (.ref f)) (hn : ps.length = n + 1)
    (hb0 : ∀ (T : Addr) (kV doc pm : Value) (an : Option Addr) (cdv ct : Value) (us its : List Value), us.length = n + 1 → its.length = 1 →
      ∃ k, bindArgs (PySem.W.fnOf x qual (defArgs st) (defBody st) (defScope st) (.ref T) kV doc pm an cdv ct) ⟨us, []⟩ = seqItems? (.ref T) >>= k ∧ k (some its.toArray) = pure (ps.zip (us ++ its.drop 1)))
    (hb1 : ∀ (T : Addr) (kV doc pm : Value) (an : Option Addr) (cdv ct : Value) (us its : List Value), us.length = n → its.length = 1 →
      ∃ k, bindArgs (PySem.W.fnOf x qual (defArgs st) (defBody st) (defScope st) (.ref T) kV doc pm an cdv ct) ⟨us, []⟩ = seqItems? (.ref T) >>= k ∧ k (some its.toArray) = pure (ps.zip (us ++ its.drop 0)))
    (len : ∀ ds w P Px, T ds w P Px → ds.length = ps.length)
    (h : ∃ tb : Om → DXK → DS, (∀ (cdv : Value) (A : Around) (outer : List Env) (s : Shared) (H F0 He0 : Hp) (w0 : Om) (rep0 : rep K w0 F0 He0) (E : XK) (y : DXK), Room k (A.deeper (PyProof.Rows.envOfC qual (defScope st) s.heap.objs.size f cdv)) →
        Takes (cxOf (L2.CX P w) P w K mg base N qual (defScope st) f cdv A outer s H E) (liftW ⟨K, F0, He0, H, w0, rep0⟩ y) → JSs (cxOf (L2.CX P w) P w K mg base N qual (defScope st) f cdv A outer s H E) ⟨K, F0, He0, H, w0, rep0⟩ (defBody st) (tb w0 y)) ∧
      ∀ ds w P Px, T ds w P Px → tb w (xDef Px) { nx := fun _ w => P false .non w, rt := P } (startD N ds) w) : FnXD P w K mg base (k + 1) x n dv T := by
  obtain ⟨tb, hb, hT⟩ := h
  obtain ⟨d0, e0, B0⟩ := F.binds1 (ps := ps) (n + 1) 1 (by simp) (by simp [hn]) hb0
  obtain ⟨d1, e1, B1⟩ := F.binds1 (ps := ps) n 0 (by simp) (by simp [hn]) hb1
  cases e0
  refine ⟨f, fd, ps, d1, F.ok S (fun vs H Q E h => ?_) (fun cdv A outer s H vs Q E hr h => ?_), hm, F.kp, B0, e1, B1, hn⟩
  · obtain ⟨ds, w, F, He, P, Px, _, r, q, _⟩ := h
    rw [r.length]
    exact len _ _ _ _ q
  · obtain ⟨ds, w, F, He, P, Px, wd, r, q, k, kx⟩ := h
    refine ⟨_, hb cdv A outer s H F He w wd.ex E (xDef Px) hr ((takes_of rfl rfl rfl rfl).imp fun cls d σ1 H1 hw => ?_), startD N ds, w, F, He, _, rel_start wd r, hT ds w P Px q, ?_⟩
    · obtain ⟨δ1, w1, F1, He1, cn, fs, C, R1, rfl, hC, xd, p⟩ := hw
      exact kx cn fs w1 p C d H1 F1 He1 R1.wd R1.st hC xd
    · exact ⟨fun δ w' F' He' σ H' p R _ => k _ _ _ p .non H' F' He' R.wd R.st .non, fun b d w' p v H' F' He' wd' st' rr => k b d w' p v H' F' He' wd' st' rr, fun _ _ _ _ _ _ p => p.elim, fun _ _ _ _ _ _ p => p.elim⟩
/-- what a def has brought into the world beside is forgotten, also where it raises -/
def dBackX (w0 : Om) (t : DXK → DS) (x : DXK) : DS := fun E δ w => t (fun cn fs δ w => x cn fs δ (back w0 w)) { E with nx := fun δ w => E.nx δ (back w0 w), rt := fun b d w => E.rt b d (back w0 w) } δ w
theorem jss_backX {X : Cx} {z : Ent} {st : List Stmt} {t : DXK → DS} {x : DXK} (tk : Takes X (liftW z x)) (h : ∀ y, Takes X (liftW z y) → JSs X z st (t y)) : JSs X z st (dBackX z.w0 t x) := by
  have tk2 : Takes X (liftW z fun cn fs δ w => x cn fs δ (back z.w0 w)) := tk.imp fun cls d σ H hw => by
    obtain ⟨δ, w, F, He, cn, fs, C, R, e, n, xd, p⟩ := hw
    obtain ⟨He2, wd2, sub⟩ := R.wd.back (w0 := z.w0)
    refine ⟨δ, _, F, He2, cn, fs, C, ⟨wd2, R.st.sub sub, R.len, fun i sl e => ?_, R.inj⟩, e, n, xd, p⟩
    obtain ⟨u, hu, q'⟩ := R.sl i sl e
    refine ⟨u, hu, ?_⟩
    match sl, q' with
    | none, _ => exact True.intro
    | some (false, d), q' => exact q'
    | some (true, d), ⟨c, o, ec, hc, nc, mc, fc, rc⟩ => exact ⟨c, o, ec, hc, nc, Classical.byContradiction fun z => sub c z mc, fc, rc⟩
  exact PSs.imp (jss_back (h _ tk2)) fun Dn σ H q => q
end
/-- where the classes of exceptions stand for the program -/
structure XMg (K : PySem.W.Frag) (mg : Str → Option Value) (c1 c2 c3 c4 c5 c0 : Addr) : Prop where
  m1 : mg "NoWord" = some (.ref c1)
  m2 : mg "TooLong" = some (.ref c2)
  m3 : mg "NoOrder" = some (.ref c3)
  m4 : mg "TooMany" = some (.ref c4)
  m5 : mg "TooGreat" = some (.ref c5)
  m0 : mg "YardError" = some (.ref c0)
  k1 : PySem.W.keepIn K (.ref c1) = true
  k2 : PySem.W.keepIn K (.ref c2) = true
  k3 : PySem.W.keepIn K (.ref c3) = true
  k5 : PySem.W.keepIn K (.ref c5) = true
  q1 : PySem.W.excIn K c1 [.type "ValueError", .type "Exception", .type "BaseException", .type "object"] "ValueError.__new__" = true
  q2 : PySem.W.excIn K c2 [.type "ValueError", .type "Exception", .type "BaseException", .type "object"] "ValueError.__new__" = true
  q3 : PySem.W.excIn K c3 [.type "ValueError", .type "Exception", .type "BaseException", .type "object"] "ValueError.__new__" = true
  q5 : PySem.W.excIn K c5 [.type "ValueError", .type "Exception", .type "BaseException", .type "object"] "ValueError.__new__" = true
  n1 : PySem.W.findIn K (.ref c4) "made" = some none
  n2 : PySem.W.findIn K (.ref c4) "rows" = some none
end Lv

namespace Lv
open PySem PySem.Spec L2
/-- a def with one default as the top has left it -/
structure TopFnD (K : PySem.W.Frag) (mg : Str → Option Value) (x qual : Str) (st : Stmt) (dv : V) (f : Addr) (fd : FuncData) : Prop where
  fn : FunD K x qual (defArgs st) (defBody st) (defScope st) [dv] [] f fd
  at_ : mg x = some (.ref f)
theorem topfnD {K : PySem.W.Frag} {h : Heap} {mg : Str → Option Value} {x : Str} {st : Stmt} {f dT : Addr} {oc : Value} {od an : Option Addr} {osl : Array (Option Value)} {kV dc pm cd ct u : Value} {dv : V} {dtc : Value} {dtd : Option Addr} {dtn : Nat} {dts : Array (Option Value)} (X : K.In h) (G : h.Ns mainGlobals mg) (r : RelV dv u)
    (a : PySem.W.nsIn K mainGlobals x = some (some (.ref f))) (l : K.lookup f = some ⟨oc, od, .func (PySem.W.fnOf x x (defArgs st) (defBody st) (defScope st) (.ref dT) kV dc pm an cd ct), osl⟩) (lT : K.lookup dT = some ⟨dtc, dtd, .seq #[u] dtn, dts⟩) (c : PySem.W.codeIn K cd x = true) (k : PySem.W.keepIn K (.ref f) = true) :
    TopFnD K mg x x st dv f (PySem.W.fnOf x x (defArgs st) (defBody st) (defScope st) (.ref dT) kV dc pm an cd ct) :=
  ⟨⟨⟨oc, od, .ref dT, kV, dc, pm, an, cd, ct, osl, rfl, l, c, .inr ⟨by simp, dT, _, [u], dtn, rfl, lT, rfl, .cons r .nil⟩, .inl rfl⟩, k⟩, PySem.W.mg_of X G a⟩

/-! ### isinstance of an instance of a class of orders -/
def KND : List Str := ["Order", "ByLetters", "Newest"]
def kindB (c cn : Str) : Option Bool := if KND.contains cn then some (decide (c = cn) || decide (c = "Order")) else none
structure IsO (K : PySem.W.Frag) (C D : Addr) (b : Bool) : Prop where
  cl : Cls K C
  ha : PySem.W.findIn K (.ref C) "__class__" = some (some (.builtin "object.__class__"))
  hm : PySem.W.mroIn K C (.type "object") = some true
  ki : PySem.W.kitOne K (.ref C) (.ref D) = some b
structure IsT (K : PySem.W.Frag) (mg : Str → Option Value) (c : Str) (D : Addr) : Prop where
  ns : PySem.W.nsIn K mainGlobals c = some (some (.ref D))
  at_ : mg c = some (.ref D)
  bs : ExcB K
  one : ∀ cn C b, kindB c cn = some b → PySem.W.nsIn K mainGlobals cn = some (some (.ref C)) → IsO K C D b
theorem jx_isiI {X : Cx} {z : Ent} {pos p p2 : Pos} {c : Str} {D : Addr} {e : Expr} {t : DO} (T : IsT X.K X.mg c D) (hK : z.K = X.K) (hm : X.mg "isinstance" = none) (he : JO X z e t) (hg : Gl X "isinstance" := by rfl) (hgc : Gl X c := by rfl) (hd : (c == ("__debug__" : Str)) = false := by decide)
    (h1 : starEach [e, .Name c p2] X.env = (false, eval e X.env) :: starEach [.Name c p2] X.env := by rfl) (h2 : starEach [.Name c p2] X.env = (false, eval (.Name c p2) X.env) :: starEach [] X.env := by rfl) (hpl : (backTo pos (starEach [.Name c p2] X.env)).any (·.1) = false := by rfl) :
    JX X z (.Call (.Name "isinstance" p) [e, .Name c p2] [] pos) (dIsiI c (kindB c) t) :=
  PE.imp (pe_callB call_isi hg hm bb_isinstance (pa_cons he (pa_cons (pe_glob (v := .ref D) hgc T.at_ rfl hd) pa_nil h2) h1) (by decide) (by decide) h1 hpl) fun σ H Q ⟨δ, w, F, He, P, R, q, k⟩ => by
    refine ⟨δ, w, F, He, _, R, q, fun d w1 q1 x H1 F1 He1 wd1 st1 r1 => ?_⟩
    obtain ⟨a, cn, fs, b, rfl, hw, hb, q1⟩ := q1
    cases r1.dt.refV
    have key : ∃ C dx vs, PySem.W.nsIn z.K mainGlobals cn = some (some (.ref C)) ∧ H1 a = some (.ins C dx vs) := by
      obtain ⟨o, g1, g2, g3⟩ := wd1.at hw
      cases g3 with
      | @ins C dx _ vs _ n h g => exact ⟨C, dx, vs, n, g1⟩
    obtain ⟨C, dx, vs, n, e1⟩ := key
    obtain ⟨cl, ha, hmm, ki⟩ := T.one cn C b hb (by rw [← hK]; exact n)
    exact ⟨.ref a, .ref D, _, _, b, rfl, .own D, .base (.ins e1 cl ha T.bs.hn T.bs.ht hmm), ki, k _ _ _ q1 _ _ _ _ wd1 st1 (.bl b)⟩
theorem ist_of {K : PySem.W.Frag} {mg : Str → Option Value} {c : Str} {D c1 c2 c3 : Addr} {b1 b2 b3 : Bool} (n : PySem.W.nsIn K mainGlobals c = some (some (.ref D))) (m : mg c = some (.ref D)) (B : ExcB K) (ic : PySem.W.isClsIn K D = true) (it : PySem.W.typeIn K (.ref D) = some (.type "type"))
    (n1 : PySem.W.nsIn K mainGlobals "Order" = some (some (.ref c1))) (n2 : PySem.W.nsIn K mainGlobals "ByLetters" = some (some (.ref c2))) (n3 : PySem.W.nsIn K mainGlobals "Newest" = some (some (.ref c3))) (l1 : Cls K c1) (l2 : Cls K c2) (l3 : Cls K c3)
    (h1 : PySem.W.findIn K (.ref c1) "__class__" = some (some (.builtin "object.__class__"))) (h2 : PySem.W.findIn K (.ref c2) "__class__" = some (some (.builtin "object.__class__"))) (h3 : PySem.W.findIn K (.ref c3) "__class__" = some (some (.builtin "object.__class__")))
    (m1 : PySem.W.mroIn K c1 (.type "object") = some true) (m2 : PySem.W.mroIn K c2 (.type "object") = some true) (m3 : PySem.W.mroIn K c3 (.type "object") = some true)
    (k1 : kindB c "Order" = some b1) (k2 : kindB c "ByLetters" = some b2) (k3 : kindB c "Newest" = some b3) (s1 : PySem.W.subIn K (.ref c1) (.ref D) = some b1) (s2 : PySem.W.subIn K (.ref c2) (.ref D) = some b2) (s3 : PySem.W.subIn K (.ref c3) (.ref D) = some b3)
    (r1 : PySem.W.subIn K (.ref c1) (.ref c1) = some true) (r2 : PySem.W.subIn K (.ref c2) (.ref c2) = some true) (r3 : PySem.W.subIn K (.ref c3) (.ref c3) = some true) : IsT K mg c D :=
  ⟨n, m, B, fun cn C b h nC => by
    have hm : cn ∈ KND := by
      unfold kindB at h
      split at h
      · next hc => simpa using hc
      · cases h
    simp only [KND, List.mem_cons, List.not_mem_nil, or_false] at hm
    rcases hm with rfl | rfl | rfl
    · rw [n1] at nC; cases nC; rw [k1] at h; cases h; exact ⟨l1, h1, m1, kitOne_of ic it s1 r1⟩
    · rw [n2] at nC; cases nC; rw [k2] at h; cases h; exact ⟨l2, h2, m2, kitOne_of ic it s2 r2⟩
    · rw [n3] at nC; cases nC; rw [k3] at h; cases h; exact ⟨l3, h3, m3, kitOne_of ic it s3 r3⟩⟩
/-- the rest of a block kept out of sight -/
theorem seq_n {t u : DS} {E : DEnds} {δ : DSt} {w : Om} (h : ∀ N : DSt → Om → Prop, (∀ δ w, u E δ w → N δ w) → t ⟨N, E.rt, E.bk, E.ct⟩ δ w) : dSeq t u E δ w := h _ fun _ _ h => h
theorem range_cut {n x : Nat} {pre post : List Nat} (e : List.range n = pre ++ x :: post) : pre = List.range x ∧ x < n := by
  have h1 : (List.range n)[pre.length]? = some x := by rw [e]; simp
  have hl : pre.length < n := by
    have := congrArg List.length e
    simp at this
    omega
  rw [List.getElem?_range hl] at h1
  cases h1
  refine ⟨?_, hl⟩
  have h2 : (List.range n).take pre.length = pre := by rw [e]; simp
  have h3 : List.range pre.length = pre := by
    rw [← Nat.min_eq_left (Nat.le_of_lt hl), ← List.take_range]
    exact h2
  exact h3.symm
/-- a for over f 0, f 1, .. -/
theorem for_nat {g : DG} {t : DS} {E : DEnds} (f : Nat → D) (n : Nat) (I : Nat → DSt → Om → Prop) {δ : DSt} {w : Om} (h0 : I 0 δ w)
    (hs : ∀ k δ w (N C : DSt → Om → Prop), k < n → I k δ w → (∀ δ' w', I (k + 1) δ' w' → N δ' w') → (∀ δ' w', I (k + 1) δ' w' → C δ' w') → g (f k) δ fun δ1 => t ⟨N, E.rt, E.nx, C⟩ δ1 w)
    (hd : ∀ δ w, I n δ w → E.nx δ w) : dForGo g t E ((List.range n).map f) δ w := by
  refine for_go f (fun pre δ w => I pre.length δ w) (List.range n) h0 (fun pre x post δ w N C e h hN hC => ?_) (fun δ w h => hd δ w (by simpa using h))
  obtain ⟨e1, hx⟩ := range_cut e
  subst e1
  rw [List.length_range] at h
  exact hs x δ w N C hx h (fun δ' w' h' => hN δ' w' (by simpa using h')) (fun δ' w' h' => hC δ' w' (by simpa using h'))
/-- the items of an enumerated list, by their places -/
theorem enum_at {α : Type} (f : α → D) (g : Nat → α) (n : Nat) : enumD (((List.range n).map g).map f) = (List.range n).map fun k : Nat => D.tup [.int (k : Int), f (g k)] := by
  refine List.ext_getElem (by simp [enumD_len]) fun i h1 h2 => ?_
  simp [enumD] at h1 h2
  simp [enumD, h1]
end Lv

namespace Lv
open PySem PySem.Spec L2
/-- the making of TooMany: what its body does is what spTM says -/
theorem tm_read {K : PySem.W.Frag} {C : Addr} {msg : Str} (ox : OexC K C) (n1 : PySem.W.findIn K (.ref C) "made" = some none) (n2 : PySem.W.findIn K (.ref C) "rows" = some none) : ∀ D σ H,
    (∃ (a l : Addr) (y : V) (xs : List V), σ = start ["self", "made", "rows"] [.ref a, y, .ref l] ∧ H a = some (exo a C none) ∧ H l = some (.lst xs) ∧
        ∀ dx p, H dx = none → H p = none → p ≠ dx → D.nx σ (upd (upd (upd (upd H dx (exd dx [("made", y)])) a (exo a C (some dx))) p (.lst xs)) dx (exd dx [("rows", .ref p), ("made", y)]))) →
    tSeq (tDrop (tVeI K (tCons (tVar 0) (tCons (tC (.str msg)) tNil)))) (tSeq (tOst K "made" (tVar 0) (tVar 1)) (tOst K "rows" (tVar 0) (tCB (fun xs H Q => ∃ p ys, xs = [.ref p] ∧ (SqL K H p ys ∨ SqT K H p ys) ∧ ∀ l, H l = none → Q (.ref l) (upd H l (.lst ys))) (tCons (tVar 2) tNil)))) D σ H := by
  rintro D σ H ⟨a, l, y, xs, rfl, ha, hl, q⟩
  have nla : l ≠ a := fun z => by
    rw [z, ha] at hl
    cases hl
  refine ⟨.ref a, rfl, a, C, [.str msg], rfl, by simp, ox, ha, ?_⟩
  refine ⟨y, rfl, .ref a, rfl, a, C, rfl, ox, n1, .inl ⟨ha, fun dx hdx nda => ?_⟩⟩
  have nld : l ≠ dx := fun z => by
    rw [z, hdx] at hl
    cases hl
  refine ⟨.ref l, rfl, l, xs, rfl, .inl (.inl (.inl ?_)), fun p hp => ?_⟩
  · rw [upd_ne nla, upd_ne nld]
    exact hl
  have npa : p ≠ a := fun z => by
    rw [z, upd_same] at hp
    cases hp
  rw [upd_ne npa] at hp
  have npd : p ≠ dx := fun z => by
    rw [z, upd_same] at hp
    cases hp
  rw [upd_ne npd] at hp
  refine ⟨.ref a, rfl, a, C, rfl, ox, n2, .inr ⟨dx, [("made", y)], ?_, ?_, by simp, q dx p hdx hp npd⟩⟩
  · rw [upd_ne (Ne.symm npa), upd_same]
  · rw [upd_ne (Ne.symm npd), upd_ne nda, upd_same]

/-! ### the classes of exceptions, as many of them as there are -/
structure XRowP (K : PySem.W.Frag) (pr : Str → Bool) (cn : Str) (c c1 c2 c3 c4 c5 c0 : Addr) (b1 b2 b3 b4 b5 : Bool) : Prop where
  s1 : pr cn = true → pr "NoWord" = true → PySem.W.subIn K (.ref c) (.ref c1) = some b1
  s2 : pr cn = true → pr "TooLong" = true → PySem.W.subIn K (.ref c) (.ref c2) = some b2
  s3 : pr cn = true → pr "NoOrder" = true → PySem.W.subIn K (.ref c) (.ref c3) = some b3
  s4 : pr cn = true → pr "TooMany" = true → PySem.W.subIn K (.ref c) (.ref c4) = some b4
  s5 : pr cn = true → pr "TooGreat" = true → PySem.W.subIn K (.ref c) (.ref c5) = some b5
  s0 : pr cn = true → pr "YardError" = true → PySem.W.subIn K (.ref c) (.ref c0) = some true
structure XTabP (K : PySem.W.Frag) (pr : Str → Bool) (c1 c2 c3 c4 c5 c0 : Addr) : Prop where
  o1 : pr "NoWord" = true → XOne K "NoWord" c1
  o2 : pr "TooLong" = true → XOne K "TooLong" c2
  o3 : pr "NoOrder" = true → XOne K "NoOrder" c3
  o4 : pr "TooMany" = true → XOne K "TooMany" c4
  o5 : pr "TooGreat" = true → XOne K "TooGreat" c5
  o0 : pr "YardError" = true → XOne K "YardError" c0
  z1 : pr "NoWord" = false → PySem.W.nsIn K mainGlobals "NoWord" = some none
  z2 : pr "TooLong" = false → PySem.W.nsIn K mainGlobals "TooLong" = some none
  z3 : pr "NoOrder" = false → PySem.W.nsIn K mainGlobals "NoOrder" = some none
  z4 : pr "TooMany" = false → PySem.W.nsIn K mainGlobals "TooMany" = some none
  z5 : pr "TooGreat" = false → PySem.W.nsIn K mainGlobals "TooGreat" = some none
  z0 : pr "YardError" = false → PySem.W.nsIn K mainGlobals "YardError" = some none
  r1 : XRowP K pr "NoWord" c1 c1 c2 c3 c4 c5 c0 true false false false false
  r2 : XRowP K pr "TooLong" c2 c1 c2 c3 c4 c5 c0 false true false false false
  r3 : XRowP K pr "NoOrder" c3 c1 c2 c3 c4 c5 c0 false false true false false
  r4 : XRowP K pr "TooMany" c4 c1 c2 c3 c4 c5 c0 false false false true false
  r5 : XRowP K pr "TooGreat" c5 c1 c2 c3 c4 c5 c0 false false false false true
  bs : ExcB K
section
variable {K : PySem.W.Frag} {pr : Str → Bool} {c1 c2 c3 c4 c5 c0 : Addr}
theorem xp_is {cn : Str} {c : Addr} {v : Value} (z : pr cn = false → PySem.W.nsIn K mainGlobals cn = some none) (o : pr cn = true → XOne K cn c) (n : PySem.W.nsIn K mainGlobals cn = some (some v)) : v = .ref c ∧ pr cn = true := by
  cases e : pr cn with
  | false => rw [z e] at n; cases n
  | true => rw [(o e).ns] at n; cases n; exact ⟨rfl, rfl⟩
theorem XTabP.which (T : XTabP K pr c1 c2 c3 c4 c5 c0) {cn : Str} {C : Addr} (h : EXN.contains cn = true) (n : PySem.W.nsIn K mainGlobals cn = some (some (.ref C))) : Which c1 c2 c3 c4 c5 cn C ∧ pr cn = true := by
  have hm : cn ∈ EXN := by simpa using h
  simp only [EXN, List.mem_cons, List.not_mem_nil, or_false] at hm
  rcases hm with rfl | rfl | rfl | rfl | rfl
  · obtain ⟨e, p⟩ := xp_is T.z1 T.o1 n; cases e; exact ⟨.w1, p⟩
  · obtain ⟨e, p⟩ := xp_is T.z2 T.o2 n; cases e; exact ⟨.w2, p⟩
  · obtain ⟨e, p⟩ := xp_is T.z3 T.o3 n; cases e; exact ⟨.w3, p⟩
  · obtain ⟨e, p⟩ := xp_is T.z4 T.o4 n; cases e; exact ⟨.w4, p⟩
  · obtain ⟨e, p⟩ := xp_is T.z5 T.o5 n; cases e; exact ⟨.w5, p⟩
theorem XTabP.which6 (T : XTabP K pr c1 c2 c3 c4 c5 c0) {c : Str} {v : Value} (h : XN.contains c = true) (n : PySem.W.nsIn K mainGlobals c = some (some v)) : ∃ D, v = .ref D ∧ Which6 c1 c2 c3 c4 c5 c0 c D ∧ pr c = true := by
  have hm : c ∈ XN := by simpa using h
  simp only [XN, List.mem_cons, List.not_mem_nil, or_false] at hm
  rcases hm with rfl | rfl | rfl | rfl | rfl | rfl
  · obtain ⟨e, p⟩ := xp_is T.z1 T.o1 n; exact ⟨_, e, .five .w1, p⟩
  · obtain ⟨e, p⟩ := xp_is T.z2 T.o2 n; exact ⟨_, e, .five .w2, p⟩
  · obtain ⟨e, p⟩ := xp_is T.z3 T.o3 n; exact ⟨_, e, .five .w3, p⟩
  · obtain ⟨e, p⟩ := xp_is T.z4 T.o4 n; exact ⟨_, e, .five .w4, p⟩
  · obtain ⟨e, p⟩ := xp_is T.z5 T.o5 n; exact ⟨_, e, .five .w5, p⟩
  · obtain ⟨e, p⟩ := xp_is T.z0 T.o0 n; exact ⟨_, e, .w0, p⟩
theorem XTabP.one (T : XTabP K pr c1 c2 c3 c4 c5 c0) {cn : Str} {C : Addr} (w : Which c1 c2 c3 c4 c5 cn C) (p : pr cn = true) : XOne K cn C := by
  cases w
  · exact T.o1 p
  · exact T.o2 p
  · exact T.o3 p
  · exact T.o4 p
  · exact T.o5 p
theorem XTabP.one6 (T : XTabP K pr c1 c2 c3 c4 c5 c0) {c : Str} {D : Addr} (w : Which6 c1 c2 c3 c4 c5 c0 c D) (p : pr c = true) : XOne K c D := by
  cases w with
  | five w => exact T.one w p
  | w0 => exact T.o0 p
theorem XTabP.sub (T : XTabP K pr c1 c2 c3 c4 c5 c0) {cn c : Str} {C D : Addr} {b : Bool} (w : Which c1 c2 c3 c4 c5 cn C) (p : pr cn = true) (w' : Which6 c1 c2 c3 c4 c5 c0 c D) (p' : pr c = true) (e : subE EXN cn c = some b) : PySem.W.subIn K (.ref C) (.ref D) = some b := by
  have key : ∀ {b' : Bool}, PySem.W.subIn K (.ref C) (.ref D) = some b' → subE EXN cn c = some b' → PySem.W.subIn K (.ref C) (.ref D) = some b := fun h1 h2 => by rw [h2] at e; cases e; exact h1
  cases w <;> cases w' <;> (try rename_i w2; cases w2) <;> first
    | exact key (T.r1.s1 p p') (by decide +kernel) | exact key (T.r1.s2 p p') (by decide +kernel) | exact key (T.r1.s3 p p') (by decide +kernel) | exact key (T.r1.s4 p p') (by decide +kernel) | exact key (T.r1.s5 p p') (by decide +kernel) | exact key (T.r1.s0 p p') (by decide +kernel)
    | exact key (T.r2.s1 p p') (by decide +kernel) | exact key (T.r2.s2 p p') (by decide +kernel) | exact key (T.r2.s3 p p') (by decide +kernel) | exact key (T.r2.s4 p p') (by decide +kernel) | exact key (T.r2.s5 p p') (by decide +kernel) | exact key (T.r2.s0 p p') (by decide +kernel)
    | exact key (T.r3.s1 p p') (by decide +kernel) | exact key (T.r3.s2 p p') (by decide +kernel) | exact key (T.r3.s3 p p') (by decide +kernel) | exact key (T.r3.s4 p p') (by decide +kernel) | exact key (T.r3.s5 p p') (by decide +kernel) | exact key (T.r3.s0 p p') (by decide +kernel)
    | exact key (T.r4.s1 p p') (by decide +kernel) | exact key (T.r4.s2 p p') (by decide +kernel) | exact key (T.r4.s3 p p') (by decide +kernel) | exact key (T.r4.s4 p p') (by decide +kernel) | exact key (T.r4.s5 p p') (by decide +kernel) | exact key (T.r4.s0 p p') (by decide +kernel)
    | exact key (T.r5.s1 p p') (by decide +kernel) | exact key (T.r5.s2 p p') (by decide +kernel) | exact key (T.r5.s3 p p') (by decide +kernel) | exact key (T.r5.s4 p p') (by decide +kernel) | exact key (T.r5.s5 p p') (by decide +kernel) | exact key (T.r5.s0 p p') (by decide +kernel)
theorem XTabP.self (T : XTabP K pr c1 c2 c3 c4 c5 c0) {cn : Str} {C : Addr} (w : Which c1 c2 c3 c4 c5 cn C) (p : pr cn = true) : PySem.W.subIn K (.ref C) (.ref C) = some true := by
  cases w
  · exact T.r1.s1 p p
  · exact T.r2.s2 p p
  · exact T.r3.s3 p p
  · exact T.r4.s4 p p
  · exact T.r5.s5 p p
theorem XTabP.exi (T : XTabP K pr c1 c2 c3 c4 c5 c0) : ExI K EXN XN where
  bs := T.bs
  ty := fun cn C h n => (T.one (T.which h n).1 (T.which h n).2).t
  one := fun cn C c b v e hA n m => by
    obtain ⟨D, rfl, w', p'⟩ := T.which6 hA m
    obtain ⟨w, p⟩ := T.which (subE_mem e) n
    have o := T.one6 w' p'
    exact kitOne_of o.cl o.ty (T.sub w p w' p' e) (T.self w p)
  val := fun cn C h n => by
    obtain ⟨w, p⟩ := T.which h n
    have o := T.one w p
    have e : PySem.W.kitCls K (.ref C) (.type "ValueError") = some true := by
      show (if PySem.W.kitMeta "ValueError" = true then PySem.W.subIn K (.ref C) (.type "ValueError") else none) = some true
      rw [if_pos kitMeta_VE]
      exact o.sv
    unfold PySem.W.kitOne
    split
    · rfl
    · exact e
theorem XTabP.mt (T : XTabP K pr c1 c2 c3 c4 c5 c0) {c : Str} {D : Addr} (w' : Which6 c1 c2 c3 c4 c5 c0 c D) (p' : pr c = true) : ∀ cn C b, subE EXN cn c = some b → PySem.W.nsIn K mainGlobals cn = some (some (.ref C)) → PySem.W.exmOne K (.ref C) (.ref D) = some b := fun cn C b e n => by
  have o := T.one6 w' p'
  obtain ⟨w, p⟩ := T.which (subE_mem e) n
  exact PySem.W.exm_ref o.sb o.hd o.ty (T.sub w p w' p' e)
end
structure XMgP (K : PySem.W.Frag) (mg : Str → Option Value) (pr : Str → Bool) (c1 c2 c3 c4 c5 c0 : Addr) : Prop where
  m1 : pr "NoWord" = true → mg "NoWord" = some (.ref c1)
  m2 : pr "TooLong" = true → mg "TooLong" = some (.ref c2)
  m3 : pr "NoOrder" = true → mg "NoOrder" = some (.ref c3)
  m4 : pr "TooMany" = true → mg "TooMany" = some (.ref c4)
  m5 : pr "TooGreat" = true → mg "TooGreat" = some (.ref c5)
  m0 : pr "YardError" = true → mg "YardError" = some (.ref c0)
  k1 : pr "NoWord" = true → PySem.W.keepIn K (.ref c1) = true
  k2 : pr "TooLong" = true → PySem.W.keepIn K (.ref c2) = true
  k3 : pr "NoOrder" = true → PySem.W.keepIn K (.ref c3) = true
  k5 : pr "TooGreat" = true → PySem.W.keepIn K (.ref c5) = true
  q1 : pr "NoWord" = true → PySem.W.excIn K c1 [.type "ValueError", .type "Exception", .type "BaseException", .type "object"] "ValueError.__new__" = true
  q2 : pr "TooLong" = true → PySem.W.excIn K c2 [.type "ValueError", .type "Exception", .type "BaseException", .type "object"] "ValueError.__new__" = true
  q3 : pr "NoOrder" = true → PySem.W.excIn K c3 [.type "ValueError", .type "Exception", .type "BaseException", .type "object"] "ValueError.__new__" = true
  q5 : pr "TooGreat" = true → PySem.W.excIn K c5 [.type "ValueError", .type "Exception", .type "BaseException", .type "object"] "ValueError.__new__" = true
  n1 : pr "TooMany" = true → PySem.W.findIn K (.ref c4) "made" = some none
  n2 : pr "TooMany" = true → PySem.W.findIn K (.ref c4) "rows" = some none
end Lv

namespace Lv
open PySem PySem.Spec L2
section
variable {X : Cx} {z : Ent}
/-! ### xs.count(i) of a list of numbers -/
def sLcount (d e : D) (P : Bool → D → Prop) : Prop := match d, e with
  | .lst ds, .int k => ∃ ns : List Int, ds = ns.map D.int ∧ P false (.int (ns.count k : Nat))
  | _, _ => False
theorem sem_lcount : SemM1 z (rCntI z.K) sLcount := fun w F He H x y d e P Q wd dx dy q k => by
  unfold sLcount at q
  split at q
  · obtain ⟨ns, rfl, q⟩ := q
    obtain ⟨a, vs, rfl, ha, ra⟩ := dx.lst wd.sf
    have := ra.ints
    subst this
    exact ⟨a, ns, _, rfl, by rw [dy.int], .of ha, res_at wd (.int _) q k⟩
  · exact q.elim
end
end Lv

namespace Lv
open PySem PySem.Spec PyProof.Rows L2
/-! ### d.setdefault(k, x) of a dict with tuples as keys -/
section
variable {X : Cx} {pins : List (Addr × Obj)} {σ : L2.St} {H : Hp} {s : Shared} {a b : Addr} {r : Value} {d : V} {k : List Key} {A : Around} {E : Value → Shared → Prop}
theorem d_setdT {kvs : List (List Key × V)} {Q : Value → Shared → Prop} (hu : A.units + 1 < cLine) (I : Inv X pins σ H s) (e : H a = some (.dT kvs)) (eb : H b = some (.tup (k.map kV))) (rd : RelV d r) (hl : kvs.length < sizeLine)
    (h1 : ∀ v, valV kvs k = some v → ∀ (w' : Value) (s' : Shared), Inv X pins σ H s' → RelV v w' → Q w' s') (h2 : valV kvs k = none → ∀ (w' : Value) (s' : Shared), Inv X pins σ (upd H a (.dT (putK kvs k d))) s' → RelV d w' → Q w' s') :
    wpAny (model X.prog X.w) A (call (.builtin "dict.setdefault") [.ref a, .ref b, r]) Q E s := by
  obtain ⟨z, hd, xs, rel, dd⟩ := dt_of I.hok e
  have hz : xs.length ≤ sizeLine := by rw [← Paired.length rel]; exact z
  have hl2 : (putK kvs k d).length ≤ sizeLine := by have := length_putK kvs k d; omega
  have q := rel.val k
  refine call_setdefault_heap (hsz := hz) (tupleKind_room_in1 hu) (key_of I.hok eb) hd dd (fun p hp => ?_) fun hn h' dd' hs => ?_
  · rw [hp] at q
    cases q0 : valV kvs k with
    | none => rw [q0] at q; exact (show False from q).elim
    | some v0 => rw [q0] at q; exact h1 v0 q0 _ _ (I.tok _) q
  · rw [hn] at q
    cases q0 : valV kvs k with
    | some v0 => rw [q0] at q; exact (show False from q).elim
    | none =>
      obtain ⟨o, es, ep, hq, g2, g3, g4, _, g5⟩ := dd'
      refine h2 q0 _ _ (d_write I (by rw [e]; exact True.intro) hs ⟨o, hq⟩ ⟨hl2, hd, _, (rel.put k eb rd).keeps fun c ys ec => ?_, o, es, ep, hq, g2, g3, g4, g5⟩) rd
      rw [upd_ne (ne_of ec e (fun z => nomatch z))]
      exact ec
end
def tDSetT (td ty tx : TE) : TE := fun σ H Q => td σ H fun x H1 => ∃ a, x = .ref a ∧ IsD H1 a ∧ ty σ H1 fun y H2 => tx σ H2 fun z H3 => ∃ (kvs : List (List Key × V)) (k : List Key) (b : Addr), H3 a = some (.dT kvs) ∧ y = .ref b ∧ H3 b = some (.tup (k.map kV)) ∧ kvs.length < sizeLine ∧
  (∀ v, valV kvs k = some v → Q v H3) ∧ (valV kvs k = none → Q z (upd H3 a (.dT (putK kvs k z))))
section
variable {X : Cx} {o e f : Expr} {td ty tx : TE} {apos cpos : Pos}
theorem pe_dsetT (hu : X.A.units + 1 < cLine) (ho : PE X o td) (he : PE X e ty) (hf : PE X f tx) (m : M2 X o "setdefault" apos e f cpos) : PE X (.Call (.Attribute o "setdefault" apos) [e, f] [] cpos) (tDSetT td ty tx) := by
  refine ⟨fun pins s σ H Q I h => ?_⟩
  refine wpAny_Call_method m.base m.few m.line PySem.F.plainAttrs_dict PySem.F.slot_dict_setdefault PySem.F.type_dict_setdefault (thn (ho.run pins s σ H _ I h) fun u s1 ⟨x, H1, I1, rx, a, ex, d, q1⟩ => ?_)
  subst ex
  obtain rfl : u = Value.ref a := rx
  obtain ⟨t1, t2, _⟩ := isD_at I1 d
  refine ⟨t1, t2, ?_⟩
  rw [m.trees]
  refine Calls.callWith_builtin rfl (Calls.evalArgs_plain (Calls.spliced_cons (thn (he.run pins s1 σ H1 _ I1 q1) fun iv s2 ⟨y, H2, I2, ry, q2⟩ =>
    Calls.spliced_cons (thn (hf.run pins s2 σ H2 _ I2 q2) fun fv s3 ⟨z, H3, I3, rz, kvs, k, b, ea, ey, eb, hl, q3, q4⟩ => Calls.spliced_nil ?_))))
  subst ey
  cases (show iv = Value.ref b from ry)
  exact d_setdT hu I3 ea eb rz hl (fun v hv w' s4 I4 rw' => ⟨v, _, I4, rw', q3 v hv⟩) fun hn w' s4 I4 rw' => ⟨z, _, I4, rw', q4 hn⟩
end
section
variable {X : Cx} {z : Ent} {pos : Pos}
def dSetd (to tk : DO) (tx : DX) : DX := fun δ w Q => to δ w fun d w1 => ∃ a kvs0, d = .ref a ∧ w1 a = some (.dT kvs0) ∧ tk δ w1 fun e w2 => tx δ w2 fun b v w3 => kNm true (fun x w4 => ∃ kvs ks, w4 a = some (.dT kvs) ∧ e = .tup (ks.map kD) ∧ kvs.length < sizeLine ∧ (∀ y, valD kvs ks = some y → Q false y w4) ∧ (valD kvs ks = none → Q false x (updW w4 a (.dT (putD kvs ks x))))) w3 b v
theorem jx_setd {o e f : Expr} {to tk : DO} {tx : DX} {apos cpos : Pos} (hK : z.K = X.K) (hu : X.A.units + 1 < cLine) (ho : JO X z o to) (he : JO X z e tk) (hf : JX X z f tx) (m : M2 X o "setdefault" apos e f cpos := by exact ⟨rfl, rfl, rfl, rfl⟩) : JX X z (.Call (.Attribute o "setdefault" apos) [e, f] [] cpos) (dSetd to tk tx) :=
  PE.imp (pe_dsetT hu ho he hf m) fun σ H Q ⟨δ, w, F, He, P, R, q, k⟩ => by
    refine ⟨δ, w, F, He, _, R, q, fun d w1 q1 x H1 F1 He1 wd1 st1 r1 => ?_⟩
    obtain ⟨a, kvs0, rfl, hw, q1⟩ := q1
    obtain ⟨ob, h1, h2, rv⟩ := wd1.at hw
    cases rv with
    | dT rv =>
      refine ⟨a, r1.dt.refV, .inr ⟨_, .inl h1⟩, δ, w1, F1, He1, _, R.step wd1 st1, q1, fun e w2 q2 y H2 F2 He2 wd2 st2 r2 => ?_⟩
      refine ⟨δ, w2, F2, He2, _, (R.step wd1 st1).step wd2 st2, q2, fun b v w3 q3 u H3 F3 He3 wd3 st3 r3 => ?_⟩
      obtain ⟨y4, w4, F4, He4, ⟨kvs, ks, hw4, he4, hz, qa, qb⟩, wd4, st4, r4, s4⟩ := kNm_use q3 wd3 st3 r3
      subst he4
      obtain ⟨ob4, g1, g2, rv4⟩ := wd4.at hw4
      cases id rv4 with
      | dT rl =>
        obtain ⟨bb, us, rfl, hb, rb⟩ := (r2.step st4).dt.tup wd4.sf
        have := rb.keys
        subst us
        refine ⟨_, ks, bb, g1, rfl, hb, by rw [rl.length]; exact hz, fun v hv => ?_, fun hn => ?_⟩
        · rcases rl.val (k := ks) with ⟨z1, z2⟩ | ⟨u', d', z1, z2, ru⟩
          · rw [z1] at hv; cases hv
          · rw [z1] at hv; cases hv
            exact k _ _ _ (qa _ z2) _ _ _ _ wd4 ((st1.trans st2).trans st4) ru
        · rcases rl.val (k := ks) with ⟨z1, z2⟩ | ⟨u', d', z1, z2, ru⟩
          · exact k _ _ _ (qb z2) _ _ _ _ (wd4.put hw4 g2 rv4 (.dT (rl.put r4))) (((st1.trans st2).trans st4).trans (.put g2 g1)) r4
          · rw [z1] at hn; cases hn
end
end Lv

namespace Lv
open PySem PySem.Spec PyProof.Rows L2
/-! ### for k, v in d.items() of a dict with tuples as keys -/
section
variable {X : Cx} {pins : List (Addr × Obj)} {σ : L2.St} {H : Hp} {s : Shared} {d : Addr} {o : Obj}
theorem frzT2 {kvs : List (List Key × V)} (I : Inv X pins σ H s) (h : H d = some (.frz o (.dT kvs))) :
    (d == sysModules) = false ∧ s.heap.get? d = some o ∧ o.ExactDict ∧ ∃ (es : Array DictEntry) (ep : Nat), o.data = .dict es ep ∧ es.size = kvs.length ∧
      ∀ (i : Nat) (k : List Key) (v : V), kvs[i]? = some (k, v) → ∃ (en : DictEntry) (q : Addr), es[i]? = some en ∧ en.key = .ref q ∧ H q = some (.tup (k.map kV)) ∧ RelV v en.val := by
  obtain ⟨hd, z, hs, xs, pr, o', es, ep, ho, hx, hdt, he, _⟩ := I.hok d _ h
  rw [hd] at ho
  cases ho
  refine ⟨hs, hd, hx, es, ep, hdt, ?_, fun i k v e => ?_⟩
  · have l1 : es.size = xs.length := size_of_entries he
    have l2 : kvs.length = xs.length := Paired.length pr
    omega
  · obtain ⟨b, hb, e1, e2, e3⟩ := paired_get pr e
    have q := entry_at he i
    rw [hb] at q
    exact ⟨_, b.2.1, q, rfl, e2, e3⟩
end
def ItiT (d : Addr) (o : Obj) (kvs : List (List Key × V)) : It :=
  ⟨fun i H => H d = some (.frz o (.dT kvs)) ∧ i < kvs.length, fun i H x H' => ∃ (T q : Addr) (k : List Key) (v : V), kvs[i]? = some (k, v) ∧ x = .ref T ∧ H T = none ∧ H q = some (.tup (k.map kV)) ∧ H' = upd H T (.tup [.ref q, v]), fun i H => H d = some (.frz o (.dT kvs)) ∧ kvs.length ≤ i⟩
section
variable {P : Program} {w : World} {K : PySem.W.Frag} {d : Addr} {o : Obj} {es : Array DictEntry} {ep : Nat}
theorem turn_itemsT {kvs : List (List Key × V)} {elts : List Expr} {kk : Nat} {tpos : Pos} (it : Addr) (hod : o.data = .dict es ep) :
    Turn P w K (.Tuple elts kk tpos) (ItiT d o kvs) [it] it (fun i h => ∃ ok ov, IsItemIter h it d i kvs.length ep ok ov) where
  mem := by simp
  obj := fun i h st b hb => by
    have e : b = it := by simpa using hb
    subst e
    obtain ⟨ok, ov, e⟩ := st
    exact ⟨_, e, fun v z => nomatch z⟩
  keep := fun i h h' st k => let ⟨ok, ov, e⟩ := st; ⟨ok, ov, k it (by simp) _ e⟩
  item := by
    intro X hP hw hK hc i pins s σ H E I hf st hg
    subst hP hw hK
    obtain ⟨hd, hi⟩ := hg
    obtain ⟨hs, hgd, hx, es', ep', hdt, hsz, ent⟩ := frzT2 I hd
    obtain ⟨rfl, rfl⟩ := dict_ep hod hdt
    obtain ⟨⟨k, v⟩, hkv⟩ : ∃ p, kvs[i]? = some p := ⟨kvs[i], List.getElem?_eq_getElem hi⟩
    obtain ⟨en, q, hen, hkey, hq, hv⟩ := ent i k v hkv
    obtain ⟨ok, ov, he⟩ := st
    rw [← hsz] at he
    have hi' : i < es'.size := by omega
    have een : es'[i] = en := by
      have := Array.getElem?_eq_some_iff.mp hen
      exact this.2
    have hlt : it < s.heap.objs.size := Heap.lt_size he
    refine DT.nextI he ⟨o, hgd, hx, hdt⟩ hi' fun h' ho hT hz hk => ?_
    rw [een, hkey] at hT
    refine ⟨_, rfl, wpAny_letOwnedTupleGo_items (s := { s with heap := h' }) ho fun h'' he' sb => ?_⟩
    have hT2 : h''.get? s.heap.objs.size = some { cls := .type "tuple", data := .seq #[.ref q, en.val] } := (sb.2 _ (Nat.ne_of_gt hlt)).trans hT
    have new : ObjOk X.prog X.w (upd H s.heap.objs.size (.tup [.ref q, v])) h'' s.heap.objs.size (.tup [.ref q, v]) :=
      ⟨by show 2 ≤ sizeLine; decide, [.ref q, en.val], .cons rfl (.cons hv .nil), ⟨_, hT2, rfl, _, rfl⟩⟩
    have I1 : Inv X pins σ (upd H s.heap.objs.size (.tup [.ref q, v])) { s with heap := h'' } :=
      I.turnedNew (t' := s.toks) (ch := [it]) (fun b ob hb e => (sb.2 b (by simpa using hb)).trans (hk b ob (by simpa using hb) e)) hf (Nat.le_refl _) new
    refine ⟨.ref s.heap.objs.size, _, I1, rfl, ⟨_, q, k, v, hkv, rfl, I.hok.fresh (Nat.le_refl _), hq, rfl⟩, ⟨es'[i].key, es'[i].val, ?_⟩, fun b hb => ?_⟩
    · rw [← hsz]; exact he'
    · have e : b = it := by simpa using hb
      rw [e, upd_ne (Nat.ne_of_lt hlt)]
      exact (hf it (by simp)).1
  done := by
    intro X hP hw hK hc i pins s σ H E I hf st hg
    subst hP hw hK
    obtain ⟨hd, hi⟩ := hg
    obtain ⟨f0, f1, f2, f3, f4, f5⟩ := hf it (by simp)
    obtain ⟨hs, hgd, hx, es', ep', hdt, hsz, ent⟩ := frzT2 I hd
    obtain ⟨rfl, rfl⟩ := dict_ep hod hdt
    obtain ⟨ok, ov, he⟩ := st
    rw [← hsz] at he
    exact DT.endI (I.ok.hd hc) he ⟨o, hgd, hx, hdt⟩ (by omega) fun h' eb => ⟨rfl, I.turned (t' := s.toks) (fun b ob hb e => eb b ob hb e) f0 f1 f3 f4 f5⟩
  self := fun A i s Q E st h => let ⟨_, _, e⟩ := st; PySem.W.kcp_self e h
end
def iItemsT (td : TE) : TI := fun σ H R => td σ H fun x H1 => ∃ d o kvs, x = .ref d ∧ H1 d = some (.frz o (.dT kvs)) ∧ R (ItiT d o kvs) H1
section
variable {X : Cx} {e : Expr} {td : TE} {apos cpos : Pos}
theorem pi_itemsT {elts : List Expr} {kk : Nat} {tpos : Pos} (he : PE X e td) (hbase : attributeBase e "items" X.env (eval e X.env) = eval e X.env := by rfl) (hline : (apos.endLine == cpos.line) = true := by rfl) :
    PI X (.Tuple elts kk tpos) (.Call (.Attribute e "items" apos) [] [] cpos) (iItemsT td) := by
  refine ⟨fun pins s σ H R I h => ?_⟩
  refine wpAny_Call_method (T := "dict") (id := "dict.items") hbase rfl hline F.plainAttrs_dict F.slot_dict_items F.type_dict_items (thn (he.run pins s σ H _ I h) fun u s1 ⟨x, H1, I1, rx, d, o, kvs, ex, hd, q⟩ => ?_)
  subst ex
  obtain rfl : u = Value.ref d := rx
  obtain ⟨hs, hgd, hx, es, ep, hdt, hsz, ent⟩ := frzT2 I1 hd
  have raw : DT.Raw s1.heap d es ep := ⟨o, hgd, hx, hdt⟩
  refine ⟨raw.typeIs, ?_, ?_⟩
  · exact fun a e => by cases e; exact ⟨o, hgd, hx.2.1⟩
  have I2 : Inv X pins σ H1 { s1 with heap := s1.heap.push { cls := .type "dict_items", data := .fields #[.ref d] } } := I1.kept (t' := s1.toks) fun b ob q => Heap.get?_push_of_some _ q
  have fin : wpAny (model X.prog X.w) X.A (pyIter (.ref s1.heap.objs.size)) (PIE X pins σ (.Tuple elts kk tpos) R) X.xe { s1 with heap := s1.heap.push { cls := .type "dict_items", data := .fields #[.ref d] } } := by
    refine DT.iterI (d := d) ⟨_, Heap.get?_push_size _ rfl, rfl, rfl⟩ (raw.push _) (pi_one (tk := s1.toks) I2 _ (turn_itemsT _ hdt) ⟨.none, .none, ?_⟩ q)
    rw [← hsz]
    exact Heap.get?_push_size _ rfl
  show wpAny _ _ (callWith cpos (.builtin "dict.items") [.ref d] [] []) _ X.xe s1
  exact method_meetsIn F.slot_dict_items F.entry_dict_items rfl (PySem.evalArgs_none ⟨rfl, raw.typeIs, F.args_dict_items_1 _, _, DT.meetsItems (es := es) (ep := ep) hs, raw, fin⟩)
end
section
variable {X : Cx} {z : Ent} {pos : Pos}
def dForItemsT (to : DO) (g : DG) (t : DS) : DS := fun E δ w => to δ w fun d w1 => ∃ a ob vs kvs, d = .ref a ∧ w1 a = some (.fT ob vs kvs) ∧ dForGoN a (.fT ob vs kvs) g t E (kvs.map fun kv => D.tup [.tup (kv.1.map kD), kv.2]) δ w1
theorem js_forItemsT {e : Expr} {elts : List Expr} {kk : Nat} {tpos apos cpos : Pos} {body : List Stmt} {to : DO} {G : TG} {g : DG} {t : DS} (hp : PassesOwn (model X.prog X.w) X.A X.env X.xe) (hc : X.calm = true) (hi : JO X z e to) (hg : PG X (.Tuple elts kk tpos) G) (ok : GOk z G g) (hb : JSs X z body t)
    (hbase : attributeBase e "items" X.env (eval e X.env) = eval e X.env := by rfl) (hline : (apos.endLine == cpos.line) = true := by rfl)
    (hs : ∀ x, foldedSetIterable (.Call (.Attribute e "items" apos) [] [] cpos) X.env x = pure x := by intro _; rfl) : JS X z (.For (.Tuple elts kk tpos) (.Call (.Attribute e "items" apos) [] [] cpos) body [] pos) (dForItemsT to g t) :=
  PS.imp (ps_for hp hc (pi_itemsT hi hbase hline) hg hb hs) fun Dn σ H ⟨δ, w, F, He, E, R, q, cn⟩ => by
    refine ⟨δ, w, F, He, _, R, q, fun d w1 q1 v H1 F1 He1 wd1 st1 r1 => ?_⟩
    obtain ⟨a, ob, vs, kvs, rfl, hw, q1⟩ := q1
    obtain ⟨ob0, h1, h2, rv⟩ := wd1.at hw
    have hv := r1.dt.refV
    subst hv
    cases rv with
    | fT rl =>
      refine ⟨a, ob, vs, rfl, h1, ?_⟩
      have hlen := rl.length
      refine ⟨fun i m σ H => m = vs.length - i ∧ i ≤ vs.length ∧ ∃ δ w F He, Same F1 F ∧ Rel z δ w F He σ H ∧ w a = some (.fT ob vs kvs) ∧ dForGoN a (.fT ob vs kvs) g t E ((List.map (fun kv : List Key × D => D.tup [.tup (kv.1.map kD), kv.2]) kvs).drop i) δ w, ⟨vs.length, by simp, Nat.zero_le _, δ, w1, F1, He1, Same.refl _, R.step wd1 st1, hw, q1⟩, ?_⟩
      rintro i m σ H ⟨rfl, hle, δ, w, F, He, sF, R, hw, q⟩
      obtain ⟨ob', g1, g2, rv⟩ := R.wd.at hw
      cases rv with
      | fT rl =>
        by_cases hlt : i < vs.length
        · refine .inr ⟨⟨g1, hlt⟩, fun σ' H' => ∃ δ w F He, Same F1 F ∧ Rel z δ w F He σ' H' ∧ w a = some (.fT ob vs kvs) ∧ dForGoN a (.fT ob vs kvs) g t E ((List.map (fun kv : List Key × D => D.tup [.tup (kv.1.map kD), kv.2]) kvs).drop (i + 1)) δ w, fun σ' H' h => ⟨vs.length - (i + 1), by omega, rfl, hlt, h⟩, fun x H' y => ?_⟩
          obtain ⟨T, p, k, v, hk, rfl, hT, hp, rfl⟩ := y
          obtain ⟨d, hd, rd⟩ := rl.at hk
          have hi : i < (List.map (fun kv : List Key × D => D.tup [.tup (kv.1.map kD), kv.2]) kvs).length := by simp; omega
          rw [List.drop_eq_getElem_cons hi] at q
          have e1 : (List.map (fun kv : List Key × D => D.tup [.tup (kv.1.map kD), kv.2]) kvs)[i] = .tup [.tup (k.map kD), d] := by
            have := (List.getElem?_eq_some_iff.mp hd).2
            simp [this]
          rw [e1] at q
          obtain ⟨F2, R2, s2, rp⟩ := R.tupF hp (DRs.ofKeys k)
          have hF : F2 T = none := R2.wd.fnone hT
          have hHe : He T = none := R2.wd.henone hT
          have R3 : Rel z δ w (upd F2 T (.tup [.ref p, v])) He σ (upd H T (.tup [.ref p, v])) := R2.step ((R2.wd.alloc hT).freeze upd_same hF hHe) ((Step.alloc hT).freeze hF hT)
          refine ok δ w _ He _ σ (.ref T) _ _ _ R3 (.tup upd_same (.cons (rp.mono (same_upd hF)) (.cons ((rd.mono s2).mono (same_upd hF)) .nil))) q fun δ2 σ2 q2 R4 => ?_
          have sF2 := (sF.trans s2).trans (same_upd (o := .tup [.ref p, v]) hF)
          have s1 := st1.fz.trans sF2
          exact ⟨δ2, w, _, He, _, R4, q2, ⟨fun δ3 w3 F3 He3 σ3 H3 p r s3 => ⟨δ3, w3, F3, He3, sF2.trans s3, r, p.1, p.2⟩, cn.rt, fun δ3 w3 F3 He3 σ3 H3 p r s3 => cn.nx _ _ _ _ _ _ p r (s1.trans s3), fun δ3 w3 F3 He3 σ3 H3 p r s3 => ⟨δ3, w3, F3, He3, sF2.trans s3, r, p.1, p.2⟩⟩⟩
        · have e : i = vs.length := by omega
          subst e
          rw [List.drop_of_length_le (by simp; omega)] at q
          exact .inl ⟨⟨g1, Nat.le_refl _⟩, cn.nx _ _ _ _ _ _ q R (st1.fz.trans sF)⟩
end
end Lv

/-! ### t[:k:-1] of a tuple -/
namespace HT
open PySem PySem.Spec PyProof.Rows PySem.Calls
section
variable {prog : Program} {w : World} {A : Around} {E : Value → Shared → Prop} {s : Shared}
theorem pick_to {α : Type} (L : List α) : ∀ c, c ≤ L.length → (List.range c).filterMap (fun (m : Nat) => L[L.length - 1 - m]?) = (L.drop (L.length - c)).reverse
  | 0, _ => by simp
  | c + 1, h => by
    have hl : L.length - (c + 1) < L.length := by omega
    rw [List.range_succ, List.filterMap_append, pick_to L c (by omega), List.drop_eq_getElem_cons hl, List.reverse_cons, show L.length - (c + 1) + 1 = L.length - c by omega]
    congr 1
    rw [List.filterMap_cons, show L.length - 1 - c = L.length - (c + 1) by omega, List.getElem?_eq_getElem hl]
    rfl
theorem adjust_to {n k : Nat} (hk : k < n) : Builtin.Slice.sliceAdjust none (some (k : Int)) (-1) (n : Int) = ((n : Int) - 1, (k : Int)) := by
  unfold Builtin.Slice.sliceAdjust
  simp only [show ((-1 : Int) < 0) = True from eq_true (by decide), if_true]
  rw [if_neg (show ¬ ((k : Int) < 0) by omega)]
  congr 1
  omega
theorem places_to {n k : Nat} (hk : k < n) : Builtin.Slice.slicePlaces ((n : Int) - 1) (k : Int) (-1) = n - 1 - k := by
  unfold Builtin.Slice.slicePlaces
  have h1 : ¬ ((-1 : Int) > 0) := by omega
  simp only [h1, if_false, show (- -1 : Int) = 1 by decide, Int.ediv_one]
  split <;> omega
theorem sliceApplied_to {sl : Addr} {vl vu vs : Value} {n k : Nat} {Q : Int × Int × Nat → Shared → Prop} (hk : k < n) (hs : s.heap.IsSliceOf sl vl vu vs) (pl : IsPart vl none) (pu : IsPart vu (some (k : Int))) (ps : IsPart vs (some (-1)))
    (h : Q ((n : Int) - 1, -1, n - 1 - k) s) : wpAny (model prog w) A (Builtin.Slice.sliceApplied (.ref sl) (pure (n : Int))) Q E s := by
  obtain ⟨os, hos, hcs, hds⟩ := id hs
  unfold Builtin.Slice.sliceApplied Builtin.Slice.sliceFields
  refine wpAny_bind (wpAny_bind (wpAny_field hos hds (x := vl) rfl (wpAny_bind (wpAny_field hos hds (x := vu) rfl (wpAny_bind (wpAny_field hos hds (x := vs) rfl (wpAny_pure ?_)))))))
  refine wpAny_bind (slicePart_ ps ?_)
  show wpAny _ _ (if ((-1 : Int) == 0) = true then _ else _) _ _ s
  rw [if_neg (by decide)]
  refine wpAny_bind (slicePart_ pl (wpAny_bind (slicePart_ pu (wpAny_bind (wpAny_pure ?_)))))
  show wpAny _ _ (pure ((Builtin.Slice.sliceAdjust none (some (k : Int)) (-1) (n : Int)).1, (-1 : Int), Builtin.Slice.slicePlaces (Builtin.Slice.sliceAdjust none (some (k : Int)) (-1) (n : Int)).1 (Builtin.Slice.sliceAdjust none (some (k : Int)) (-1) (n : Int)).2 (-1))) _ _ s
  rw [adjust_to hk, places_to hk]
  exact wpAny_pure h
theorem getItem_tuple_to {t sl : Addr} {items : Array Value} {vl vu vs : Value} {k : Nat} {Q : Value → Shared → Prop} (hk : k < items.size) (ht : IsTup s.heap t items) (hs : s.heap.IsSliceOf sl vl vu vs) (pl : IsPart vl none) (pu : IsPart vu (some (k : Int))) (ps : IsPart vs (some (-1)))
    (h : Q (.ref s.heap.objs.size) { s with heap := s.heap.push { cls := .type "tuple", data := .seq (items.toList.drop (k + 1)).reverse.toArray } })
    (hsz : items.size ≤ sizeLine) : wpAny (model prog w) A (getItem (.ref t) (.ref sl)) Q E s := by
  have htake : sizeOk (.seq (items.toList.drop (k + 1)).reverse.toArray) := by
    show (items.toList.drop (k + 1)).reverse.toArray.size ≤ sizeLine
    rw [List.size_toArray, List.length_reverse, List.length_drop, Array.length_toList]
    omega
  obtain ⟨os, hos, hcs, hds⟩ := id hs
  have hTs : s.TypeIs (.ref sl) "slice" := ⟨os, hos, hcs⟩
  unfold getItem
  try with_reducible refine wpAny_holding ?_
  first | refine wpAny_bind (wpAny_pure ?_) | skip
  refine wpAny_bind (wpAny_sequenceKey ht.typeIs (by decide) ?_)
  refine wpAny_bind (wpAny_callSpecial?_slot (name := Str.ofString "__getitem__") ht.typeIs PyProof.Rows.slot_tuple_getitem
    (wpAny_call_entry PyProof.Rows.slot_tuple_getitem ht.typeIs entry_tuple_getitem ?_ (args_tuple_getitem _ _)))
  show wpAny _ _ (Builtin.Tuple.tupleItemsOf (.ref t) >>= _) _ _ s
  refine wpAny_bind (tupleItemsOf_ ht ?_)
  refine wpAny_bind (wpAny_typeOf hTs ?_)
  rw [if_pos (by decide)]
  refine wpAny_bind (sliceApplied_to hk hs pl pu ps ?_)
  have hno : ¬ ((((items.size : Int) - 1) == 0 && (-1 : Int) == 1 && (items.size - 1 - k) == items.size) = true) := by
    intro q
    rw [Bool.and_eq_true, Bool.and_eq_true] at q
    exact absurd q.1.2 (by decide)
  show wpAny _ _ (if (((items.size : Int) - 1) == 0 && (-1 : Int) == 1 && (items.size - 1 - k) == items.size) = true then _ else _) _ _ s
  have hpick : ((List.range (items.size - 1 - k)).filterMap fun (m : Nat) => items[(((items.size : Int) - 1) + (m : Int) * (-1)).toNat]?).toArray = (items.toList.drop (k + 1)).reverse.toArray := by
    have e : (fun (m : Nat) => items[(((items.size : Int) - 1) + (m : Int) * (-1)).toNat]?) = fun (m : Nat) => items.toList[items.toList.length - 1 - m]? := by
      funext m
      rw [Array.length_toList, show (((items.size : Int) - 1) + (m : Int) * (-1)).toNat = items.size - 1 - m by omega]
      simp
    rw [e, pick_to items.toList _ (by rw [Array.length_toList]; omega), Array.length_toList, show items.size - (items.size - 1 - k) = k + 1 by omega]
  rw [if_neg hno, hpick]
  first
    | exact wpAny_bind (m := Builtin.Tuple.tupleExact _) (wpAny_newObj_type (wpAny_pure ⟨_, rfl, wpAny_pure h⟩) htake)
    | exact wpAny_bind (m := Builtin.Tuple.tupleExact _) (wpAny_newObj_type (wpAny_bind (wpAny_pure (wpAny_pure ⟨_, rfl, wpAny_pure h⟩))) htake)
    | exact wpAny_bind (wpAny_bind (m := Builtin.Tuple.tupleExact _) (wpAny_newObj_type (wpAny_pure (wpAny_pure ⟨_, rfl, wpAny_pure h⟩)) htake))
    | exact wpAny_bind (wpAny_bind (m := Builtin.Tuple.tupleExact _) (wpAny_newObj_type (wpAny_pure ⟨_, rfl, wpAny_pure h⟩) htake))
end
end HT
namespace Lv
open PySem PySem.Spec L2
section
variable {X : Cx} {z : Ent} {pos : Pos}
open PyProof.Rows in
def tSlB (K : PySem.W.Frag) (te : TE) (th : TO) : TE := fun σ H Q => te σ H fun x H1 => th σ H1 fun u H2 => ∃ (a : Addr) (xs : List V) (k : Nat), x = .ref a ∧ SqT K H2 a xs ∧ u = some (k : Int) ∧ k < xs.length ∧ ∀ p, H2 p = none → Q (.ref p) (upd H2 p (.tup (xs.drop (k + 1)).reverse))
theorem vals_drop {xs : List V} {us : List Value} (r : Vals xs us) : ∀ k, Vals (xs.drop k) (us.drop k) := by
  induction r with
  | nil => intro k; simp; exact .nil
  | cons h t ih =>
    intro k
    cases k with
    | zero => exact .cons h t
    | succ k => exact ih k
open PyProof.Rows in
theorem pe_slB {e hi : Expr} {te : TE} {th : TO} {k : Nat} {p1 p2 p3 pos : Pos} (he : PE X e te) (hh : PO X (some hi) th) : PE X (.Subscript e (.Slice none (some hi) (some (.UnaryOp .USub (.Constant (.int 1) k p1) p2)) p3) pos) (tSlB X.K te th) := by
  refine ⟨fun pins s σ H Q I h => ?_⟩
  refine PyProof.Rows.Subscript_ (thn (he.run pins s σ H _ I h) fun v s1 ⟨x, H1, I1, r1, q1⟩ => ?_)
  have hst : PO X (some (.UnaryOp .USub (.Constant (.int 1) k p1) p2)) (tPart (tUn (rU fun i => .int (-i)) (tC (.int 1)))) := po_some (pe_un un_neg pe_int)
  refine wpAny_Slice (thn (po_none.run pins s1 σ H1 (fun o H2 => o = none ∧ H2 = H1) I1 ⟨rfl, rfl⟩) fun vl s2 ⟨l, H2, I2, pl, el, e2⟩ => ?_)
  subst el e2
  refine thn (hh.run pins s2 σ H2 _ I2 q1) fun vu s3 ⟨u, H3, I3, pu, q3⟩ => ?_
  obtain ⟨a, xs, k', ex, hx, eu, hk, q⟩ := q3
  subst ex eu
  cases r1
  refine thn (hst.run pins s3 σ H3 (fun o H4 => o = some (-1) ∧ H4 = H3) I3 ⟨1, rfl, -1, rfl, rfl, rfl⟩) fun vs s4 ⟨o, H4, I4, ps, eo, e4⟩ => ?_
  subst eo e4
  have I5 : Inv X pins σ H4 { s4 with heap := s4.heap.push { cls := .type "slice", data := .fields #[vl, vu, vs] } } := I4.kept (t' := s4.toks) fun b ob q => Heap.get?_push_of_some _ q
  show wpAny (model X.prog X.w) X.A (subscriptTail e (.Slice none (some hi) (some (.UnaryOp .USub (.Constant (.int 1) k p1) p2)) p3) (.ref a) (.ref s4.heap.objs.size)) (EP X pins σ Q) X.xe { s4 with heap := s4.heap.push { cls := .type "slice", data := .fields #[vl, vu, vs] } }
  obtain ⟨its, r, ht, hz⟩ := I5.tuple hx
  have hlen := r.length
  refine tail_any (ops := [.ref a, .ref s4.heap.objs.size]) ht.typeIs (PyProof.Rows.slot_tuple_getitem.lookup) ?_ (by with_unfolding_all rfl)
  refine HT.getItem_tuple_to (k := k') (by rw [List.size_toArray]; omega) ht (Heap.IsSliceOf.new _ vl vu vs) pl pu ps ?_ (by rw [List.size_toArray]; omega)
  refine ⟨.ref _, _, I5.laid (t' := s4.toks) (o := .tup (xs.drop (k' + 1)).reverse) (fun b ob q => Heap.get?_push_of_some _ q) (Nat.le_refl _) ?_, rfl, q _ (I5.hok.fresh (Nat.le_refl _))⟩
  exact ⟨by rw [List.length_reverse, List.length_drop]; omega, _, (vals_drop r _).reverse, ⟨_, Heap.get?_push_size _ rfl, rfl, _, rfl⟩⟩
def sSlB (d : D) (u : Option Int) (P : Bool → D → Prop) : Prop := match d, u with
  | .tup ds, some i => (0 ≤ i ∧ i < ds.length) ∧ P false (.tup (ds.drop (i.toNat + 1)).reverse)
  | _, _ => False
theorem drs_drop {K : PySem.W.Frag} {F : Hp} : ∀ {vs : List V} {ds : List D}, DRs K F vs ds → ∀ k, DRs K F (vs.drop k) (ds.drop k)
  | _, _, r, 0 => r
  | _, _, .nil, k + 1 => .nil
  | _, _, .cons _ t, k + 1 => drs_drop t k
def dSlB (t : DO) (h : DP) : DX := fun δ w Q => t δ w fun d w1 => h δ w1 fun hi w2 => sSlB (res w2 d) hi fun b d' => Q b d' w2
theorem jx_slB {e hi : Expr} {t : DO} {th : DP} {k : Nat} {p1 p2 p3 : Pos} (hK : z.K = X.K) (he : JO X z e t) (hh : PO X (some hi) (liftP z th)) : JX X z (.Subscript e (.Slice none (some hi) (some (.UnaryOp .USub (.Constant (.int 1) k p1) p2)) p3) pos) (dSlB t th) :=
  PE.imp (pe_slB he hh) fun σ H Q ⟨δ, w, F, He, P, R, q, k⟩ => by
    refine ⟨δ, w, F, He, _, R, q, fun d w1 q1 v H1 F1 He1 wd1 st1 r1 => ?_⟩
    refine ⟨δ, w1, F1, He1, _, R.step wd1 st1, q1, fun o w2 q2 H2 F2 He2 wd2 st2 => ?_⟩
    have r := res_ok wd2.ex wd2.sh (r1.step st2)
    unfold sSlB at q2
    split at q2
    · next ds i hd =>
      rw [hd] at r
      obtain ⟨a, vs, rfl, ha, ra⟩ := r.tup wd2.sf
      obtain ⟨⟨h0, h1⟩, q3⟩ := q2
      refine ⟨a, vs, i.toNat, rfl, .of ha, by rw [Int.toNat_of_nonneg h0], by rw [ra.length]; omega, fun p hp => ?_⟩
      exact res_tup wd2 hp (drs_drop ra _).reverse q3 fun b d' p v H' F' He' wd s' rr => k b d' w2 p v H' F' He' wd ((st1.trans st2).trans s') (rr.base (st1.trans st2))
    · exact q2.elim
end
end Lv

namespace Lv
open PySem PySem.Spec L2
section
variable {X : Cx} {z : Ent}
/-! ### sorted(xs) of a list of numbers -/
def sSorted (d : D) (P : Bool → D → Prop) : Prop := ∃ ns : List Int, d = .lst (ns.map D.int) ∧ ∀ ns' : List Int, ns'.Perm ns → ns'.Pairwise (· ≤ ·) → P true (.lst (ns'.map D.int))
theorem sem_sorted : Sem1 z (fun x H Q => rSortedI z.K [x] H Q) sSorted := fun w F He H x d P Q wd dx q k => by
  obtain ⟨ns, rfl, q⟩ := q
  obtain ⟨a, vs, rfl, ha, ra⟩ := dx.lst wd.sf
  have e := ra.ints
  subst e
  exact ⟨a, ns, rfl, .of ha, fun ns' p h1 h2 hp => res_new wd hp (.lst (DRs.ofInts _)) (q ns' h1 h2) k⟩
end
end Lv

namespace Lv
open PySem PySem.Spec L2
section
variable {X : Cx} {z : Ent}
/-! ### list(d) of a dict with tuples as keys -/
theorem Wd.tupF {K : PySem.W.Frag} {w : Om} {F He H : Hp} {p : Addr} {vs : List V} {ds : List D} (x : Wd K w F He H) (h : H p = some (.tup vs)) (r : DRs K F vs ds) : ∃ F', Wd K w F' He H ∧ Same F F' ∧ Step F He H F' He H ∧ DR K F' (.ref p) (.tup ds) := by
  cases e : F p with
  | some u =>
    have := x.sf _ _ e
    rw [h] at this
    cases this
    exact ⟨F, x, Same.refl _, .refl, .tup e r⟩
  | none =>
    have hE : He p = none := by
      cases ew : w p with
      | none =>
        rcases x.ex.none_ p ew with g | ⟨q, g⟩
        · exact g
        · have := x.sh _ _ g; rw [h] at this; cases this
      | some c =>
        obtain ⟨o, g1, _, rc⟩ := x.at ew
        rw [h] at g1
        cases g1
        cases rc
    refine ⟨upd F p (.tup vs), x.freeze h e hE, same_upd e, ⟨same_upd e, fun b hb => ?_, fun _ h => .inl h, fun _ _ h _ => h, fun _ h => h, fun _ _ h => .inr h⟩, .tup upd_same (r.mono (same_upd e))⟩
    by_cases hbp : b = p
    · subst hbp; exact .inr (.inr ⟨vs, h⟩)
    · rw [upd_ne hbp] at hb; exact .inl hb
theorem keys_in {K : PySem.W.Frag} {w : Om} {F0 He H : Hp} : ∀ {vs : List (List Key × V)} {ds : List (List Key × D)} {bs : List Addr} {F : Hp}, IsKeys H vs bs → DTs K F0 vs ds → Wd K w F He H → ∃ F', Wd K w F' He H ∧ Same F F' ∧ Step F He H F' He H ∧ DRs K F' (bs.map V.ref) (ds.map fun q => .tup (q.1.map kD))
  | [], ds, bs, F, h, r, x => by
    cases h
    cases r
    exact ⟨F, x, Same.refl _, .refl, .nil⟩
  | v :: vs, ds, bs, F, h, r, x => by
    cases h with
    | cons h t =>
      cases r with
      | cons d r =>
        rename_i k v d ds
        obtain ⟨F1, x1, s1, t1, d1⟩ := x.tupF h (DRs.ofKeys k)
        obtain ⟨F2, x2, s2, t2, d2⟩ := keys_in t r x1
        exact ⟨F2, x2, s1.trans s2, t1.trans t2, .cons (d1.mono s2) d2⟩
def sListD (d : D) (P : Bool → D → Prop) : Prop := match d with
  | .dT ds => P true (.lst (ds.map fun q => .tup (q.1.map kD)))
  | d => sList d P
theorem sListD_dT (ds : List (List Key × D)) (P : Bool → D → Prop) : sListD (.dT ds) P = P true (.lst (ds.map fun q => .tup (q.1.map kD))) := rfl
theorem sem_listD : Sem1 z (fun x H Q => (∃ p ys, [x] = [V.ref p] ∧ (SqL z.K H p ys ∨ SqT z.K H p ys) ∧ ∀ l, H l = none → Q (.ref l) (upd H l (.lst ys))) ∨ (∃ d kvs, [x] = [V.ref d] ∧ Rd H d (.dT kvs) ∧ ∀ p bs, H p = none → IsKeys H kvs bs → Q (.ref p) (upd H p (.lst (bs.map V.ref))))) sListD := fun w F He H x d P Q wd dx q k => by
  unfold sListD at q
  split at q
  · obtain ⟨a, vs, rfl, ha, ra⟩ := dx.dT wd.sf
    refine .inr ⟨a, vs, rfl, .of ha, fun p bs hp hk => ?_⟩
    obtain ⟨F2, x2, s2, t2, d2⟩ := keys_in hk ra wd
    exact k true _ q _ _ F2 He (x2.alloc hp) (t2.trans (.alloc hp)) ⟨p, _, rfl, upd_same, x2.fnone hp, x2.henone hp, hp, .lst d2⟩
  · exact .inl (sem_list w F He H x _ P Q wd dx q k)
end
end Lv

namespace Lv
open PySem PySem.Spec L2 SX
/-! ### text * int -/
def repS (a : Str) (n : Nat) : Str := ⟨(List.replicate n a.cps).foldl (· ++ ·) #[]⟩
def rMulS : R2 := fun x y H Q => ∃ a k, x = .str a ∧ y = .int k ∧ -(2 ^ 63) ≤ k ∧ k < 2 ^ 63 ∧ a.length * k.toNat ≤ 1000000 ∧ Q (.str (repS a k.toNat)) H
theorem repS_one (a : Str) : repS a 1 = a := by
  unfold repS
  simp
theorem foldl_app : ∀ (l : List (Array Nat)) (acc : Array Nat), (l.foldl (· ++ ·) acc).toList = acc.toList ++ (l.map Array.toList).flatten
  | [], acc => by simp
  | a :: l, acc => by
    rw [List.foldl_cons, foldl_app l]
    simp
theorem repS_S (u : List Nat) (n : Nat) : repS (S u) n = S (List.replicate n u).flatten := by
  unfold repS
  have h : ((List.replicate n (S u).cps).foldl (· ++ ·) #[]).toList = (List.replicate n u).flatten := by
    rw [foldl_app]
    simp [List.map_replicate, S]
  have : ((List.replicate n (S u).cps).foldl (· ++ ·) #[]) = ((List.replicate n u).flatten).toArray := by
    apply Array.ext'
    rw [h]
  rw [this]
section
variable {X : Cx} {z : Ent}
theorem op_mulS : OpR X (binaryOp .Mult) rMulS := by
  intro pins s σ H x y v u Q I rx ry h
  obtain ⟨a, k, rfl, rfl, h1, h2, hl, q⟩ := h
  obtain ⟨t, rfl⟩ := rx
  obtain ⟨t', rfl⟩ := ry
  refine P.mul_str (by rw [decide_eq_false (by omega), decide_eq_false (by omega)]; rfl) (fun h3 h4 => ?_) (fun h3 h4 => ?_) ?_
  · have : ((a.length * k.toNat : Nat) : Int) = (a.length : Int) * k := by rw [Int.natCast_mul, Int.toNat_of_nonneg (by omega)]
    have := (Int.le_ediv_iff_mul_le (c := k) (a := (a.length : Int)) (b := 2 ^ 63 - 1) (by omega)).mpr (by omega)
    omega
  · unfold Builtin.Str.tooLong
    rw [sizeLine_eq]
    exact decide_eq_false (by omega)
  · split
    · next hn =>
      have e : repS a k.toNat = Str.empty := by rw [show k.toNat = 0 by omega]; rfl
      rw [e] at q
      exact ⟨by decide, .str Str.empty, H, I.tok _, ⟨_, rfl⟩, q⟩
    · split
      · next hn hc =>
        have e : repS a k.toNat = a := by
          simp at hc
          rcases hc with hc | hc
          · rw [show k.toNat = 1 by omega]; exact repS_one a
          · have h0 : a.cps = #[] := Array.eq_empty_of_size_eq_zero hc
            unfold repS
            rw [h0]
            have : ∀ n : Nat, (List.replicate n (#[] : Array Nat)).foldl (· ++ ·) #[] = #[] := fun n => by
              apply Array.ext'
              rw [foldl_app]
              simp [List.map_replicate]
            rw [this, ← h0]
        rw [e] at q
        exact ⟨.str a, H, I, ⟨_, rfl⟩, q⟩
      · have hlen : (repS a k.toNat).length = k.toNat * a.length := by
          show (repS a k.toNat).cps.size = _
          unfold repS
          rw [← Array.length_toList, foldl_app, List.map_replicate, List.length_append, List.length_flatten]
          simp
          rfl
        refine ⟨?_, .str (repS a k.toNat), H, I.tok _, ⟨_, rfl⟩, q⟩
        show (repS a k.toNat).length ≤ sizeLine
        rw [hlen, sizeLine_eq, Nat.mul_comm]
        omega
def sMulS (d e : D) (P : Bool → D → Prop) : Prop := match d, e with
  | .str a, .int k => (-(2 ^ 63) ≤ k ∧ k < 2 ^ 63) ∧ a.length * k.toNat ≤ 1000000 ∧ P false (.str (repS a k.toNat))
  | _, _ => False
theorem sem_mulS : Sem2 z rMulS sMulS := fun w F He H x y d e P Q wd dx dy q k => by
  unfold sMulS at q
  split at q
  · exact ⟨_, _, dx.str, dy.int, q.1.1, q.1.2, q.2.1, res_at wd (.str _) q.2.2 k⟩
  · exact q.elim
theorem sMulS_S (u : List Nat) (k : Int) (P : Bool → D → Prop) : sMulS (.str (S u)) (.int k) P = ((-(2 ^ 63) ≤ k ∧ k < 2 ^ 63) ∧ u.length * k.toNat ≤ 1000000 ∧ P false (.str (S (List.replicate k.toNat u).flatten))) := by
  show ((-(2 ^ 63) ≤ k ∧ k < 2 ^ 63) ∧ (S u).length * k.toNat ≤ 1000000 ∧ P false (.str (repS (S u) k.toNat))) = _
  rw [repS_S, S_len]
end
end Lv

namespace Lv
open PySem PySem.Spec L2
/-! ### a comprehension over a text that stands there -/
theorem fsi_str {x : Str} {j : Nat} {p : Pos} {env : Env} (v : Value) : foldedSetIterable (.Constant (.str x) j p) env v = pure v := rfl
theorem js_setLcV {X : Cx} {z : Ent} {pos : Pos} {i : Nat} {y : Str} {py : Pos} {elt tg iter : Expr} {ifs : List Expr} {scope : Scope} {own : List (Str × Nat)} {it : DI} {G : TG} {g : DG} {tt : DTs_} {te : DX} {spos : Pos} (own' : Bool) (vs : List Nat) (hv : own.map (·.2) = vs) (hc : X.calm = true) (hN : X.N.Nodup) (hy : X.N[i]? = some y) (hyl : X.env.scope.names.lookup y = some .local)
    (hsw : swapsWith (.ListComp elt [⟨tg, iter, ifs, 0⟩] scope pos) (some (.Name y py)) spos.line X.env = pure true) (hi : PI X tg iter (liftI z it)) (ok : BlkOk X.N X.env.scope scope own) (gok : GOkV z vs G g)
    (hg : ∀ (s : Shared) (H : Hp) (C : Addr) (cl : List (Str × Addr)) (fp : List Addr), PG (X.blk s H scope (compEnvC scope cl C X.env) fp) tg G) (ht : ∀ (s : Shared) (H : Hp) (C : Addr) (cl : List (Str × Addr)) (fp : List Addr), PTs (X.blk s H scope (compEnvC scope cl C X.env) fp) ifs (liftT z tt))
    (he : ∀ (s : Shared) (H : Hp) (C : Addr) (cl : List (Str × Addr)) (fp : List Addr), JX (X.blk s H scope (compEnvC scope cl C X.env) fp) z elt te) (hs : ∀ x, foldedSetIterable iter X.env x = pure x) :
    JS X z (.Assign [.Name y py] (.ListComp elt [⟨tg, iter, ifs, 0⟩] scope pos) spos) (dSet own' i (dLc it g tt te vs)) := by
  subst hv
  exact js_setLc own' hc hN hy hyl hsw hi ok gok hg ht he hs
end Lv

namespace My
open PySem PySem.Spec L2 Lv SX
set_option hygiene false
local macro_rules | `(tactic| simp_arith [$xs,*]) => `(tactic| simp -implicitDefEqProofs only [dNext, dSet, dLst, dTup, dNil, dCons, dFor, dRng1_u, dRng2_u, dIt_u, oX, dC, dBin, dUn, dVarR, dVar, dApp, dExt, dUpd0, dPut, dAug, dRet, dRetV, dRetN, dBreak, dCont, dIf, dB_u, dTru_u, dTNot, dTAnd, dTOr, dAndV_u, dOrV_u, dNotV_u, dIfX, dChain_u, dCall, dSl, dNoP, dP_u, dLc, dDrop, dFrz, frzD, dAsg, dDicK, dDicT, gN, gT, gsC, gsN, kB.eq_1, kT.eq_1, kT.eq_2, kT.eq_3, kT.eq_4, kT.eq_5, kT.eq_6, kT.eq_7, kT.eq_8, kAnd.eq_1, kOr.eq_1, kNot.eq_1, kIt.eq_1, kIt.eq_2, kIt.eq_3, kIt.eq_4, kP.eq_1, kR1.eq_1, kR2.eq_1, sAdd.eq_1, sAdd.eq_2, sAdd.eq_3, sAdd.eq_4, sJ2.eq_1, sI2.eq_1, sPow, sLt.eq_1, sLt.eq_2, sLe, sGt, sGe, sMul.eq_1, sMul.eq_2, sMulB.eq_1, sMulB.eq_2, sMulB.eq_3, sLR1.eq_1, sLR2.eq_1, sTR1.eq_1, sTR2.eq_1, sIsBl.eq_1, dZip, kZip.eq_1, dDisp1, dSetN, dConsN, dAppN, dPutN, dFld, dFldS, dFldAug, dMeth, dMake, dGet1, dGet2, dSetd, dInsert, dDPop, dLPop, dLPopAt, dLClear, dLClearT, dEnum, kEnum.eq_1, dEnumT, kEnumT.eq_1, kEnumT.eq_2, dRng3, kR3.eq_1, dForN, dForKeys, dForItems, dForItemsT, dLock, lkE, dBack, kNm_f, kNm_t, nmK_f, nmK_lst, nmK_dK, nmK_dT, isDct_dK, isDct_dT, isDct_fK, isDct_fT, sGetO_K, sGetO_S, sGetO_T, sGetO_fK, sGetO_fT, sIn_K, sIn_fK, sIn_T, sIn_fT, sPutC_lst, sPutC_K, sPutC_S, sPutC_T, keyOf_int, keyOf_str, keysC.eq_1, keysC.eq_2, itemsC.eq_1, rs_ref, rs_non, rs_bl, rs_int, rs_str, rs_ty, rs_lst, rs_tup, rs_dK, rs_dT, rs_scr, rs_wD, rs_iD, rs_lwD, resC_lst, resC_dK, resC_dT, resC_fK, resC_fT, resC_ins, updW_same, putFD.eq_1, putFD.eq_2, isL.eq_1, isL.eq_2, sNeg.eq_1, sLen.eq_1, sLen.eq_2, sLen.eq_3, sLen.eq_4, sLen.eq_5, sLenA_lst, sLenA_tup, sLenA_scr, sLenA_str, sLenA_dK, sLenA_dT, sAbs.eq_1, sMax, sMin, sInt.eq_1, sInt.eq_2, sStr.eq_1, sList.eq_1, sList.eq_2, sList.eq_3, sListD_dT, sTuple.eq_1, sTuple.eq_2, sTuple.eq_3, sIsN, sNotN, sIx.eq_1, sIx.eq_2, sIx.eq_3, sIx.eq_4, sIx.eq_5, sIx.eq_6, sIx.eq_7, sIx.eq_8, sIx.eq_9, sSl.eq_1, sSl.eq_2, sSl.eq_3, sSl.eq_4, sRev.eq_1, sRev.eq_2, sRev.eq_3, sAddI.eq_1, sAddI.eq_2, sPut.eq_1, sPut.eq_2, sPut.eq_3, sPut.eq_4, D.isNon, sEq_ii, sNe_ii, sEq_ww, sNe_ww, sEq_ll, sNe_ll, sIsi_ii, sIsi_ib, sIsi_ll, sIsi_tt, sIsi_ss, sEq_w, sEq_i, sEq_lw, sEq_lw', sEq_lle, sEq_lle', sNe_w, sNe_i, sNe_lle', sNe_lw', sEq_ss, sNe_ss, sEq_bb, sNe_bb, sIn_iw, sIn_ii, sIn_wl, sIn_wl', sSl3.eq_1, sSl3.eq_2, dSl3, dSlB, sSlB.eq_1, isS.eq_1, isL.eq_1, isL.eq_2, isA.eq_1, dM0, dM1, sUpper.eq_1, sLower.eq_1, sStrip1.eq_1, sSfind.eq_1, sScount.eq_1, sSindex.eq_1, sSsplit.eq_1, sSjoin.eq_1, sSjoin.eq_2, fPop_snoc, fPop_snoc', startD, wipeD, List.map_cons, List.map_nil, List.length_cons, List.length_nil, List.length_map, List.cons_append, List.nil_append, List.replicate, List.set_cons_zero, List.set_cons_succ, List.set_nil, List.getElem?_cons_zero, List.getElem?_cons_succ, Bool.true_and, Bool.and_true, Bool.and_false, Bool.false_and, Bool.not_true, Bool.not_false, if_true, if_false, Bool.false_eq_true, reduceIte, and_true, true_and, decide_true, decide_false, not_true, Option.map_none, Option.map_some, Option.getD_none, Option.getD_some, Option.isSome_none, Option.isSome_some, Nat.zero_le, Nat.zero_add, Nat.reduceAdd, Nat.reduceSub, D.scal, Option.some.injEq, exists_eq_left', exists_eq_left, exists_eq', D.int.injEq, D.lst.injEq, D.tup.injEq, D.scr.injEq, D.str.injEq, List.cons.injEq, and_self, $xs,*])
local macro_rules | `(tactic| simp_arith only [$xs,*]) => `(tactic| simp -implicitDefEqProofs only [dNext, dSet, dLst, dTup, dNil, dCons, dFor, dRng1_u, dRng2_u, dIt_u, oX, dC, dBin, dUn, dVarR, dVar, dApp, dExt, dUpd0, dPut, dAug, dRet, dRetV, dRetN, dBreak, dCont, dIf, dB_u, dTru_u, dTNot, dTAnd, dTOr, dAndV_u, dOrV_u, dNotV_u, dIfX, dChain_u, dCall, dSl, dNoP, dP_u, dLc, dDrop, dFrz, frzD, dAsg, dDicK, dDicT, gN, gT, gsC, gsN, kB.eq_1, kT.eq_1, kT.eq_2, kT.eq_3, kT.eq_4, kT.eq_5, kT.eq_6, kT.eq_7, kT.eq_8, kAnd.eq_1, kOr.eq_1, kNot.eq_1, kIt.eq_1, kIt.eq_2, kIt.eq_3, kIt.eq_4, kP.eq_1, kR1.eq_1, kR2.eq_1, sAdd.eq_1, sAdd.eq_2, sAdd.eq_3, sAdd.eq_4, sJ2.eq_1, sI2.eq_1, sPow, sLt.eq_1, sLt.eq_2, sLe, sGt, sGe, sMul.eq_1, sMul.eq_2, sMulB.eq_1, sMulB.eq_2, sMulB.eq_3, sLR1.eq_1, sLR2.eq_1, sTR1.eq_1, sTR2.eq_1, sIsBl.eq_1, dZip, kZip.eq_1, dDisp1, dSetN, dConsN, dAppN, dPutN, dFld, dFldS, dFldAug, dMeth, dMake, dGet1, dGet2, dSetd, dInsert, dDPop, dLPop, dLPopAt, dLClear, dLClearT, dEnum, kEnum.eq_1, dEnumT, kEnumT.eq_1, kEnumT.eq_2, dRng3, kR3.eq_1, dForN, dForKeys, dForItems, dForItemsT, dLock, lkE, dBack, kNm_f, kNm_t, nmK_f, nmK_lst, nmK_dK, nmK_dT, isDct_dK, isDct_dT, isDct_fK, isDct_fT, sGetO_K, sGetO_S, sGetO_T, sGetO_fK, sGetO_fT, sIn_K, sIn_fK, sIn_T, sIn_fT, sPutC_lst, sPutC_K, sPutC_S, sPutC_T, keyOf_int, keyOf_str, keysC.eq_1, keysC.eq_2, itemsC.eq_1, rs_ref, rs_non, rs_bl, rs_int, rs_str, rs_ty, rs_lst, rs_tup, rs_dK, rs_dT, rs_scr, rs_wD, rs_iD, rs_lwD, resC_lst, resC_dK, resC_dT, resC_fK, resC_fT, resC_ins, updW_same, putFD.eq_1, putFD.eq_2, isL.eq_1, isL.eq_2, sNeg.eq_1, sLen.eq_1, sLen.eq_2, sLen.eq_3, sLen.eq_4, sLen.eq_5, sLenA_lst, sLenA_tup, sLenA_scr, sLenA_str, sLenA_dK, sLenA_dT, sAbs.eq_1, sMax, sMin, sInt.eq_1, sInt.eq_2, sStr.eq_1, sList.eq_1, sList.eq_2, sList.eq_3, sListD_dT, sTuple.eq_1, sTuple.eq_2, sTuple.eq_3, sIsN, sNotN, sIx.eq_1, sIx.eq_2, sIx.eq_3, sIx.eq_4, sIx.eq_5, sIx.eq_6, sIx.eq_7, sIx.eq_8, sIx.eq_9, sSl.eq_1, sSl.eq_2, sSl.eq_3, sSl.eq_4, sRev.eq_1, sRev.eq_2, sRev.eq_3, sAddI.eq_1, sAddI.eq_2, sPut.eq_1, sPut.eq_2, sPut.eq_3, sPut.eq_4, D.isNon, sEq_ii, sNe_ii, sEq_ww, sNe_ww, sEq_ll, sNe_ll, sIsi_ii, sIsi_ib, sIsi_ll, sIsi_tt, sIsi_ss, sEq_w, sEq_i, sEq_lw, sEq_lw', sEq_lle, sEq_lle', sNe_w, sNe_i, sNe_lle', sNe_lw', sEq_ss, sNe_ss, sEq_bb, sNe_bb, sIn_iw, sIn_ii, sIn_wl, sIn_wl', sSl3.eq_1, sSl3.eq_2, dSl3, dSlB, sSlB.eq_1, isS.eq_1, isL.eq_1, isL.eq_2, isA.eq_1, dM0, dM1, sUpper.eq_1, sLower.eq_1, sStrip1.eq_1, sSfind.eq_1, sScount.eq_1, sSindex.eq_1, sSsplit.eq_1, sSjoin.eq_1, sSjoin.eq_2, fPop_snoc, fPop_snoc', startD, wipeD, List.map_cons, List.map_nil, List.length_cons, List.length_nil, List.length_map, List.cons_append, List.nil_append, List.replicate, List.set_cons_zero, List.set_cons_succ, List.set_nil, List.getElem?_cons_zero, List.getElem?_cons_succ, Bool.true_and, Bool.and_true, Bool.and_false, Bool.false_and, Bool.not_true, Bool.not_false, if_true, if_false, Bool.false_eq_true, reduceIte, and_true, true_and, decide_true, decide_false, not_true, Option.map_none, Option.map_some, Option.getD_none, Option.getD_some, Option.isSome_none, Option.isSome_some, Nat.zero_le, Nat.zero_add, Nat.reduceAdd, Nat.reduceSub, D.scal, $xs,*])
set_option hygiene true
def backOf (ws : List Int) : List Int := ws.reverse.map fun x => -x
theorem backOf_length (ws : List Int) : (backOf ws).length = ws.length := by simp [backOf]
/-! ### finite maps as lists -/
section
variable {κ β : Type} [DecidableEq κ]
def fget (m : List (κ × β)) (k : κ) : Option β := (m.find? fun q => decide (q.1 = k)).map (·.2)
def fput (m : List (κ × β)) (k : κ) (v : β) : List (κ × β) := if (m.any fun q => decide (q.1 = k)) = true then m.map fun q => if q.1 = k then (q.1, v) else q else m ++ [(k, v)]
def fdrop (m : List (κ × β)) (k : κ) : List (κ × β) := m.filter fun q => decide (q.1 ≠ k)
theorem fget_nil (k : κ) : fget ([] : List (κ × β)) k = none := rfl
theorem fget_cons (i : κ) (y : β) (m : List (κ × β)) (j : κ) : fget ((i, y) :: m) j = if i = j then some y else fget m j := by
  unfold fget
  rw [List.find?_cons]
  by_cases e : i = j <;> simp [e]
theorem fget_app (m ms : List (κ × β)) (j : κ) : fget (m ++ ms) j = (fget m j).or (fget ms j) := by
  induction m with
  | nil => rfl
  | cons q m ih =>
    obtain ⟨i, y⟩ := q
    rw [List.cons_append, fget_cons, fget_cons, ih]
    split <;> rfl
theorem fget_any (m : List (κ × β)) (k : κ) : (m.any fun q => decide (q.1 = k)) = (fget m k).isSome := by
  induction m with
  | nil => rfl
  | cons q m ih =>
    obtain ⟨i, y⟩ := q
    rw [List.any_cons, ih, fget_cons]
    by_cases e : i = k <;> simp [e]
theorem fget_repl (m : List (κ × β)) (k j : κ) (x : β) : fget (m.map fun q => if q.1 = k then (q.1, x) else q) j = if j = k then (fget m k).map (fun _ => x) else fget m j := by
  induction m with
  | nil => rw [List.map_nil, fget_nil, fget_nil]; split <;> rfl
  | cons q m ih =>
    obtain ⟨i, y⟩ := q
    rw [List.map_cons]
    by_cases e : i = k
    · subst e
      rw [if_pos rfl, fget_cons, ih, fget_cons, fget_cons, if_pos rfl]
      by_cases e2 : i = j
      · subst e2; simp
      · rw [if_neg e2, if_neg (fun z => e2 z.symm), if_neg (fun z => e2 z.symm), if_neg e2]
    · rw [if_neg e, fget_cons, ih, fget_cons, fget_cons, if_neg e]
      by_cases e2 : i = j
      · subst e2; rw [if_pos rfl, if_neg e]; simp
      · rw [if_neg e2, if_neg e2]
theorem fget_put (m : List (κ × β)) (k j : κ) (x : β) : fget (fput m k x) j = if j = k then some x else fget m j := by
  unfold fput
  rw [fget_any]
  split
  · next h =>
    rw [fget_repl]
    split
    · obtain ⟨y, hy⟩ := Option.isSome_iff_exists.mp h
      rw [hy]; rfl
    · rfl
  · next h =>
    rw [fget_app, fget_cons, fget_nil]
    have hn : fget m k = none := by simpa using h
    by_cases e : j = k
    · subst e; rw [hn]; simp
    · rw [if_neg (fun z => e z.symm), if_neg e]; simp
theorem fget_drop (m : List (κ × β)) (k j : κ) : fget (fdrop m k) j = if j = k then none else fget m j := by
  unfold fdrop
  induction m with
  | nil => rw [List.filter_nil, fget_nil]; split <;> rfl
  | cons q m ih =>
    obtain ⟨i, y⟩ := q
    rw [List.filter_cons]
    by_cases e : i = k
    · subst e
      simp only [ne_eq, not_true, decide_false, Bool.false_eq_true, if_false]
      rw [ih, fget_cons]
      by_cases e2 : j = i
      · subst e2; simp
      · rw [if_neg e2, if_neg e2, if_neg (fun z => e2 z.symm)]
    · simp only [ne_eq, e, not_false_eq_true, decide_true, if_true]
      rw [fget_cons, ih, fget_cons]
      by_cases e2 : i = j
      · subst e2; rw [if_pos rfl, if_pos rfl, if_neg e]
      · rw [if_neg e2, if_neg e2]
theorem fget_none {m : List (κ × β)} {k : κ} : fget m k = none ↔ k ∉ m.map (·.1) := by
  induction m with
  | nil => simp [fget_nil]
  | cons q m ih =>
    obtain ⟨i, y⟩ := q
    rw [fget_cons, List.map_cons, List.mem_cons]
    by_cases e : i = k
    · subst e; simp
    · have e2 : ¬ k = i := fun z => e z.symm
      rw [if_neg e, ih]
      simp [e2]
theorem fget_mem {m : List (κ × β)} {k : κ} {x : β} (h : fget m k = some x) : (k, x) ∈ m := by
  induction m with
  | nil => cases h
  | cons q m ih =>
    obtain ⟨i, y⟩ := q
    rw [fget_cons] at h
    split at h
    · next e => cases h; subst e; exact List.mem_cons_self
    · exact List.mem_cons_of_mem _ (ih h)
theorem fget_of_mem {m : List (κ × β)} {k : κ} {x : β} (nd : (m.map (·.1)).Nodup) (h : (k, x) ∈ m) : fget m k = some x := by
  induction m with
  | nil => cases h
  | cons q m ih =>
    obtain ⟨i, y⟩ := q
    rw [List.map_cons, List.nodup_cons] at nd
    rw [fget_cons]
    rcases List.mem_cons.mp h with e | e
    · cases e; simp
    · rw [if_neg (fun z => nd.1 (by subst z; exact List.mem_map.mpr ⟨_, e, rfl⟩))]
      exact ih nd.2 e
theorem fkeys_put (m : List (κ × β)) (k : κ) (x : β) : (fput m k x).map (·.1) = if k ∈ m.map (·.1) then m.map (·.1) else m.map (·.1) ++ [k] := by
  unfold fput
  rw [fget_any]
  by_cases h : k ∈ m.map (·.1)
  · have : (fget m k).isSome = true := by
      cases e : fget m k with
      | none => exact absurd h (fget_none.mp e)
      | some y => rfl
    rw [if_pos this, if_pos h, List.map_map]
    congr 1
    funext q
    show (if q.1 = k then (q.1, x) else q).1 = q.1
    split <;> rfl
  · have : ¬ (fget m k).isSome = true := by rw [fget_none.mpr h]; simp
    rw [if_neg this, if_neg h]
    simp
theorem fnodup_put {m : List (κ × β)} (h : (m.map (·.1)).Nodup) (k : κ) (x : β) : ((fput m k x).map (·.1)).Nodup := by
  rw [fkeys_put]
  split
  · exact h
  · next hn =>
    rw [List.nodup_append]
    refine ⟨h, by simp, fun a ha b hb => ?_⟩
    simp at hb
    subst hb
    exact fun e => hn (e ▸ ha)
theorem fnodup_drop {m : List (κ × β)} (h : (m.map (·.1)).Nodup) (k : κ) : ((fdrop m k).map (·.1)).Nodup := by
  unfold fdrop
  exact h.sublist ((List.filter_sublist).map _)
theorem flen_put (m : List (κ × β)) (k : κ) (x : β) : (fput m k x).length ≤ m.length + 1 := by
  unfold fput
  split <;> simp
theorem flen_drop (m : List (κ × β)) (k : κ) : (fdrop m k).length ≤ m.length := List.length_filter_le _ _
/-- such a map as a dict -/
def fD {κ' : Type} (f : κ → κ') (g : β → D) (m : List (κ × β)) : List (κ' × D) := m.map fun q => (f q.1, g q.2)
variable {κ' : Type} [DecidableEq κ'] {f : κ → κ'} {g : β → D}
theorem fD_val (hf : ∀ a b, f a = f b → a = b) (m : List (κ × β)) (k : κ) : valD (fD f g m) (f k) = (fget m k).map g := by
  unfold fD
  induction m with
  | nil => rfl
  | cons q m ih =>
    obtain ⟨i, y⟩ := q
    rw [List.map_cons, valD_cons, fget_cons, ih]
    by_cases e : i = k
    · subst e; simp
    · rw [if_neg e, if_neg (fun z => e (hf _ _ z))]
theorem fD_put (hf : ∀ a b, f a = f b → a = b) (m : List (κ × β)) (k : κ) (v : β) : putD (fD f g m) (f k) (g v) = fD f g (fput m k v) := by
  unfold putD fput
  rw [valD_any, fget_any, fD_val hf]
  have e : ((fget m k).map g).isSome = (fget m k).isSome := by cases fget m k <;> rfl
  rw [e]
  split
  · unfold fD
    rw [List.map_map, List.map_map]
    congr 1
    funext q
    show (if f q.1 = f k then (f q.1, g v) else (f q.1, g q.2)) = (f (if q.1 = k then (q.1, v) else q).1, g (if q.1 = k then (q.1, v) else q).2)
    by_cases h : q.1 = k
    · rw [if_pos h, if_pos (by rw [h])]
    · rw [if_neg h, if_neg (fun z => h (hf _ _ z))]
  · simp [fD]
theorem fD_drop (hf : ∀ a b, f a = f b → a = b) (m : List (κ × β)) (k : κ) : dropD (fD f g m) (f k) = fD f g (fdrop m k) := by
  unfold dropD fdrop fD
  rw [List.filter_map]
  congr 1
  refine List.filter_congr fun q _ => ?_
  show decide (f q.1 ≠ f k) = decide (q.1 ≠ k)
  rw [decide_eq_decide]
  exact ⟨fun h z => h (by rw [z]), fun h z => h (hf _ _ z)⟩
theorem fD_len (m : List (κ × β)) : (fD f g m).length = m.length := by simp [fD]
end
theorem inl_inj (a b : Int) (h : (Sum.inl a : Key) = Sum.inl b) : a = b := Sum.inl.inj h

/-! ### Rooms: what an object holds -/
abbrev Kn := List (Int × Nat)
def kvD (m : Kn) : List (Key × D) := fD (fun s : Int => (Sum.inl s : Key)) (fun n : Nat => D.int n) m
theorem kv_val (m : Kn) (s : Int) : valD (kvD m) (.inl s) = (fget m s).map fun n : Nat => D.int n := fD_val inl_inj m s
theorem kv_put (m : Kn) (s : Int) (n : Nat) : putD (kvD m) (.inl s) (.int n) = kvD (fput m s n) := fD_put inl_inj m s n
theorem kv_drop (m : Kn) (s : Int) : dropD (kvD m) (.inl s) = kvD (fdrop m s) := fD_drop inl_inj m s
theorem kv_len (m : Kn) : (kvD m).length = m.length := fD_len m
structure RS where
  l : Nat
  el : List Nat
  kn : List Kn
  told : List D
def nL (t : List Nat) : D := .lst (t.map fun n : Nat => D.int n)
def rmF (l m : Nat) (e k t : Addr) : List (Str × D) := [("letters", .int l), ("made", .int m), ("elders", .ref e), ("known", .ref k), ("told", .ref t)]
theorem s_lm : (("made" : Str) == "letters") = false := by decide +kernel
theorem s_el : (("elders" : Str) == "letters") = false := by decide +kernel
theorem s_em : (("elders" : Str) == "made") = false := by decide +kernel
theorem s_kl : (("known" : Str) == "letters") = false := by decide +kernel
theorem s_km : (("known" : Str) == "made") = false := by decide +kernel
theorem s_ke : (("known" : Str) == "elders") = false := by decide +kernel
theorem s_tl : (("told" : Str) == "letters") = false := by decide +kernel
theorem s_tm : (("told" : Str) == "made") = false := by decide +kernel
theorem s_te : (("told" : Str) == "elders") = false := by decide +kernel
theorem s_tk : (("told" : Str) == "known") = false := by decide +kernel
theorem rmF_letters (l m : Nat) (e k t : Addr) : (rmF l m e k t).lookup ("letters" : Str) = some (.int l) := by simp [rmF, List.lookup]
theorem rmF_made (l m : Nat) (e k t : Addr) : (rmF l m e k t).lookup ("made" : Str) = some (.int m) := by simp [rmF, List.lookup, s_lm]
theorem rmF_elders (l m : Nat) (e k t : Addr) : (rmF l m e k t).lookup ("elders" : Str) = some (.ref e) := by simp [rmF, List.lookup, s_el, s_em]
theorem rmF_known (l m : Nat) (e k t : Addr) : (rmF l m e k t).lookup ("known" : Str) = some (.ref k) := by simp [rmF, List.lookup, s_kl, s_km, s_ke]
theorem rmF_told (l m : Nat) (e k t : Addr) : (rmF l m e k t).lookup ("told" : Str) = some (.ref t) := by simp [rmF, List.lookup, s_tl, s_tm, s_te, s_tk]
theorem rmF_no {l m : Nat} {e k t : Addr} {f : Str} (h : (f == "letters") = false ∧ (f == "made") = false ∧ (f == "elders") = false ∧ (f == "known") = false ∧ (f == "told") = false) : (rmF l m e k t).lookup f = none := by
  obtain ⟨h1, h2, h3, h4, h5⟩ := h
  simp [rmF, List.lookup, h1, h2, h3, h4, h5]
theorem no_make (l m : Nat) (e k t : Addr) : (rmF l m e k t).lookup ("make" : Str) = none := rmF_no (by decide +kernel)
theorem no_lay (l m : Nat) (e k t : Addr) : (rmF l m e k t).lookup ("lay" : Str) = none := rmF_no (by decide +kernel)
theorem no_tie (l m : Nat) (e k t : Addr) : (rmF l m e k t).lookup ("tie" : Str) = none := rmF_no (by decide +kernel)
theorem no_put (l m : Nat) (e k t : Addr) : (rmF l m e k t).lookup ("put_together" : Str) = none := rmF_no (by decide +kernel)
theorem no_by (l m : Nat) (e k t : Addr) : (rmF l m e k t).lookup ("by" : Str) = none := rmF_no (by decide +kernel)
theorem no_elder (l m : Nat) (e k t : Addr) : (rmF l m e k t).lookup ("elder" : Str) = none := rmF_no (by decide +kernel)
theorem no_standing (l m : Nat) (e k t : Addr) : (rmF l m e k t).lookup ("standing" : Str) = none := rmF_no (by decide +kernel)
theorem no_paper (l m : Nat) (e k t : Addr) : (rmF l m e k t).lookup ("paper" : Str) = none := rmF_no (by decide +kernel)
theorem rmF_putMade (l m m' : Nat) (e k t : Addr) : putFD "made" (.int m') (rmF l m e k t) = rmF l m' e k t := by
  have h : ¬ (("letters" : Str) = "made") := by decide +kernel
  unfold rmF
  rw [putFD, if_neg h, putFD, if_pos rfl]
/-- the parts of an object -/
structure RP where
  e : Addr
  k : Addr
  t : Addr
  ks : List Addr
def RP.fp (r : RP) (p : Addr) : List Addr := p :: r.e :: r.k :: r.t :: r.ks
/-- at p stands a Rooms that holds S -/
structure Rm (w : Om) (p : Addr) (r : RP) (S : RS) : Prop where
  ins : w p = some (.ins "Rooms" (rmF S.l S.el.length r.e r.k r.t))
  el : w r.e = some (.lst (S.el.map fun n : Nat => D.int n))
  kl : w r.k = some (.lst (r.ks.map D.ref))
  td : w r.t = some (.lst S.told)
  kn : ∀ (i : Nat) (a : Addr) (m : Kn), r.ks[i]? = some a → S.kn[i]? = some m → w a = some (.dK (kvD m))
  len : r.ks.length = S.kn.length
  len2 : S.kn.length = S.el.length
  nd : (r.fp p).Nodup
theorem Rm.there {w : Om} {p : Addr} {r : RP} {S : RS} (h : Rm w p r S) : ∀ b ∈ r.fp p, w b ≠ none := by
  intro b hb
  unfold RP.fp at hb
  simp only [List.mem_cons] at hb
  rcases hb with e | e | e | e | e
  · subst e; rw [h.ins]; exact fun z => nomatch z
  · subst e; rw [h.el]; exact fun z => nomatch z
  · subst e; rw [h.kl]; exact fun z => nomatch z
  · subst e; rw [h.td]; exact fun z => nomatch z
  · obtain ⟨i, hi⟩ := List.mem_iff_getElem?.mp e
    have hl := (List.getElem?_eq_some_iff.mp hi).1
    rw [h.kn i b _ hi (List.getElem?_eq_getElem (by rw [← h.len]; exact hl))]
    exact fun z => nomatch z
/-- another world that is the same there -/
theorem Rm.same {w w' : Om} {p : Addr} {r : RP} {S : RS} (h : Rm w p r S) (e : ∀ b ∈ r.fp p, w' b = w b) : Rm w' p r S where
  ins := by rw [e p (by simp [RP.fp])]; exact h.ins
  el := by rw [e r.e (by simp [RP.fp])]; exact h.el
  kl := by rw [e r.k (by simp [RP.fp])]; exact h.kl
  td := by rw [e r.t (by simp [RP.fp])]; exact h.td
  kn := fun i a m hi hm => by rw [e a (by simp [RP.fp, List.mem_of_getElem? hi])]; exact h.kn i a m hi hm
  len := h.len
  len2 := h.len2
  nd := h.nd
/-- what a deed at p does to the rest: nothing -/
structure Fr (w w' : Om) (fp fp' : List Addr) : Prop where
  out : ∀ b, b ∉ fp → w b ≠ none → w' b = w b
  new : ∀ b ∈ fp', b ∈ fp ∨ w b = none
theorem Fr.refl (w : Om) (fp : List Addr) : Fr w w fp fp := ⟨fun _ _ _ => rfl, fun _ h => .inl h⟩
theorem Fr.trans {w w' w'' : Om} {fp fp' fp'' : List Addr} (a : Fr w w' fp fp') (b : Fr w' w'' fp' fp'') : Fr w w'' fp fp'' where
  out := fun c hc hn => by
    have h1 := a.out c hc hn
    have : c ∉ fp' := fun z => (a.new c z).elim hc hn
    rw [b.out c this (by rw [h1]; exact hn), h1]
  new := fun c hc => by
    rcases b.new c hc with h | h
    · exact a.new c h
    · by_cases hf : c ∈ fp
      · exact .inl hf
      · by_cases hn : w c = none
        · exact .inr hn
        · rw [a.out c hf hn] at h; exact absurd h hn
/-- a second object is not touched -/
theorem Fr.other {w w' : Om} {fp fp' : List Addr} (a : Fr w w' fp fp') {p : Addr} {r : RP} {S : RS} (h : Rm w p r S) (d : ∀ b ∈ r.fp p, b ∉ fp) : Rm w' p r S ∧ ∀ b ∈ r.fp p, b ∉ fp' :=
  ⟨h.same fun b hb => a.out b (d b hb) (h.there b hb), fun b hb z => (a.new b z).elim (d b hb) (h.there b hb)⟩
theorem Fr.cell {w w' : Om} {fp fp' : List Addr} (a : Fr w w' fp fp') {b : Addr} {c : Cell} (h : w b = some c) (d : b ∉ fp) : w' b = some c ∧ b ∉ fp' :=
  ⟨by rw [a.out b d (by rw [h]; exact fun z => nomatch z)]; exact h, fun z => (a.new b z).elim d (by rw [h]; exact fun z => nomatch z)⟩
theorem set_kn {α : Type} {l : List α} {i j : Nat} {x y : α} (h : (l.set i x)[j]? = some y) : (i = j ∧ y = x) ∨ (i ≠ j ∧ l[j]? = some y) := get_set h
def newR (room : Nat) (step : Int) (n : Nat) : D := .tup [.str "new", .int room, .int step, .int n]
def RS.mk1 (S : RS) (room : Nat) (step : Int) : RS :=
  { S with el := S.el ++ [S.el.length], kn := S.kn.set room (fput ((S.kn[room]?).getD []) step S.el.length) ++ [[(-step, room)]], told := S.told ++ [newR room step S.el.length] }
def T_Rooms_init : DSp := fun ds w P => ∃ (p : Addr) (l : Nat), ds = [.ref p, .int l] ∧ w p = some (.ins "Rooms" []) ∧ ∀ w' r, Rm w' p r ⟨l, [0], [[]], []⟩ → Fr w w' [p] (r.fp p) → P false .non w'
theorem len_Rooms_init (ds : List D) (w : Om) (P : Bool → D → Om → Prop) (h : T_Rooms_init ds w P) : ds.length = 2 := by first | (have h := h.1; subst h; rfl) | (obtain ⟨rfl, _⟩ := h; rfl) | (obtain ⟨_, rfl, _⟩ := h; rfl) | (obtain ⟨_, _, rfl, _⟩ := h; rfl) | (obtain ⟨_, _, _, rfl, _⟩ := h; rfl) | (obtain ⟨_, _, _, _, rfl, _⟩ := h; rfl) | (obtain ⟨_, _, _, _, _, rfl, _⟩ := h; rfl) | (obtain ⟨_, _, _, _, _, _, rfl, _⟩ := h; rfl) | (obtain ⟨_, _, _, _, _, _, _, rfl, _⟩ := h; rfl) | (obtain ⟨_, _, _, _, _, _, _, _, rfl, _⟩ := h; rfl) | (obtain ⟨_, _, _, _, _, _, _, _, _, rfl, _⟩ := h; rfl) | (obtain ⟨_, _, _, _, _, _, _, _, _, _, rfl, _⟩ := h; rfl) | (obtain ⟨_, _, _, _, _, _, _, _, _, _, _, rfl, _⟩ := h; rfl) | (obtain ⟨_, _, _, _, _, _, _, _, _, _, _, _, rfl, _⟩ := h; rfl) | (obtain ⟨_, _, _, _, _, _, _, _, _, _, _, _, _, rfl, _⟩ := h; rfl)
def b_Rooms_init : DS := (dSeq (dFldS false "Rooms" "letters" (dVarR 0) (dVar 1))
    (dSeq (dFldS false "Rooms" "made" (dVarR 0) (dC (.int 1)))
    (dSeq (dFldS true "Rooms" "elders" (dVarR 0) (dLst (dCons (dC (.int 0)) dNil)))
    (dSeq (dFldS true "Rooms" "known" (dVarR 0) (dLst (dConsN dDicK dNil)))
    (dFldS true "Rooms" "told" (dVarR 0) (dLst dNil))))))
theorem v_Rooms_init (ds : List D) (w : Om) (P : Bool → D → Om → Prop) (h : T_Rooms_init ds w P) : b_Rooms_init { nx := fun _ w => P false .non w, rt := P } (startD ["self", "letters"] ds) w := by
  unfold b_Rooms_init
  obtain ⟨p, l, rfl, hp, q⟩ := h
  have hs := sizeLine_eq
  have n1 : ¬ (("letters" : Str) = "made") := by decide +kernel
  have n2 : ¬ (("letters" : Str) = "elders") := by decide +kernel
  have n3 : ¬ (("made" : Str) = "elders") := by decide +kernel
  have n4 : ¬ (("letters" : Str) = "known") := by decide +kernel
  have n5 : ¬ (("made" : Str) = "known") := by decide +kernel
  have n6 : ¬ (("elders" : Str) = "known") := by decide +kernel
  have n7 : ¬ (("letters" : Str) = "told") := by decide +kernel
  have n8 : ¬ (("made" : Str) = "told") := by decide +kernel
  have n9 : ¬ (("elders" : Str) = "told") := by decide +kernel
  have n10 : ¬ (("known" : Str) = "told") := by decide +kernel
  refine seq_i ?_
  try simp_arith []
  refine ⟨p, [], rfl, hp, by simp [sizeLine_eq], ?_⟩
  refine seq_i ?_
  try simp_arith []
  refine ⟨p, _, rfl, updW_same, by simp, ?_⟩
  rw [updW_twice]
  refine seq_i ?_
  try simp_arith []
  refine ⟨by omega, fun e he => ?_⟩
  have hpe : p ≠ e := fun z => by subst z; rw [updW_same] at he; cases he
  refine ⟨p, _, rfl, by rw [updW_ne hpe]; exact updW_same, by simp [putFD, n1], ?_⟩
  try simp_arith [n1, n2, n3]
  refine seq_i ?_
  try simp_arith []
  intro d0 hd0
  refine ⟨by omega, fun k hk => ?_⟩
  have n0 : p ≠ d0 := fun z => by subst z; simp [updW] at hd0
  have n11 : e ≠ d0 := fun z => by subst z; simp [updW, hpe.symm] at hd0
  have n12 : p ≠ k := fun z => by subst z; simp [updW, n0] at hk
  have n13 : e ≠ k := fun z => by subst z; simp [updW, hpe.symm, n11] at hk
  have n14 : d0 ≠ k := fun z => by subst z; simp [updW] at hk
  refine ⟨p, [("letters", .int l), ("made", .int 1), ("elders", .ref e)], rfl, by simp [updW, n0, n12], by simp, ?_⟩
  try simp_arith [n4, n5, n6]
  intro t ht
  have n15 : p ≠ t := fun z => by subst z; simp [updW] at ht
  have n16 : e ≠ t := fun z => by subst z; simp [updW, hpe.symm, n11, n13] at ht
  have n17 : d0 ≠ t := fun z => by subst z; simp [updW, n0.symm, n14] at ht
  have n18 : k ≠ t := fun z => by subst z; simp [updW, n12.symm] at ht
  refine ⟨p, [("letters", .int l), ("made", .int 1), ("elders", .ref e), ("known", .ref k)], rfl, by simp [updW, n15], by simp, ?_⟩
  try simp_arith [n7, n8, n9, n10]
  have he0 : w e = none := by simpa [updW, hpe.symm] using he
  have hd00 : w d0 = none := by simpa [updW, n0.symm, n11.symm] using hd0
  have hk0 : w k = none := by simpa [updW, n12.symm, n13.symm, n14.symm] using hk
  have ht0 : w t = none := by simpa [updW, n15.symm, n16.symm, n17.symm, n18.symm] using ht
  refine q _ ⟨e, k, t, [d0]⟩ ⟨?_, ?_, ?_, ?_, fun i a m hi hm => ?_, rfl, rfl, ?_⟩ ⟨fun b hb hn => ?_, fun b hb => ?_⟩
  · simp [updW, rmF]
  · simp [updW, hpe.symm, n11, n13, n16]
  · simp [updW, n12.symm, n18]
  · simp [updW, n15.symm]
  · have : i = 0 := by have := (List.getElem?_eq_some_iff.mp hi).1; simpa using this
    subst this
    simp at hi hm
    subst hi hm
    simp [updW, n0.symm, n14, n17, kvD, fD]
  · simp [RP.fp, hpe, n12, n15, n0, n13, n16, n11, n18, n14.symm, n17.symm]
  · simp at hb
    have g1 : b ≠ e := fun z => hn (z ▸ he0)
    have g2 : b ≠ d0 := fun z => hn (z ▸ hd00)
    have g3 : b ≠ k := fun z => hn (z ▸ hk0)
    have g4 : b ≠ t := fun z => hn (z ▸ ht0)
    simp [updW, hb, g1, g2, g3, g4]
  · simp [RP.fp] at hb
    rcases hb with h | h | h | h | h
    · subst h; exact .inl (by simp)
    · subst h; exact .inr he0
    · subst h; exact .inr hk0
    · subst h; exact .inr ht0
    · subst h; exact .inr hd00
/-- a list cell of an object changes: of the elders -/
theorem get_nat {l : List Nat} {i : Nat} (h : i < l.length) : atI (l.map fun n : Nat => D.int n) (i : Int) = some (.int ((l[i]?).getD 0 : Nat)) := by
  rw [atI_f (fun n : Nat => D.int n) (x := l[i]) (by omega) (by rw [Int.toNat_natCast]; exact List.getElem?_eq_getElem h), List.getElem?_eq_getElem h]
  rfl
theorem Rm.ne {w : Om} {p : Addr} {r : RP} {S : RS} (h : Rm w p r S) : p ≠ r.e ∧ p ≠ r.k ∧ p ≠ r.t ∧ p ∉ r.ks ∧ r.e ≠ r.k ∧ r.e ≠ r.t ∧ r.e ∉ r.ks ∧ r.k ≠ r.t ∧ r.k ∉ r.ks ∧ r.t ∉ r.ks ∧ r.ks.Nodup := by
  have nd := h.nd
  simp [RP.fp, List.nodup_cons] at nd
  obtain ⟨⟨a1, a2, a3, a4⟩, ⟨b1, b2, b3⟩, ⟨c1, c2⟩, d1, d2⟩ := nd
  exact ⟨a1, a2, a3, a4, b1, b2, b3, c1, c2, d1, d2⟩
def T_Rooms_by : DSp := fun ds w P => ∃ (p : Addr) (r : RP) (S : RS) (room : Nat) (m : Kn) (step : Int), ds = [.ref p, .int room, .int step] ∧ Rm w p r S ∧ S.kn[room]? = some m ∧ P false (((fget m step).map fun n : Nat => D.int n).getD .non) w
theorem len_Rooms_by (ds : List D) (w : Om) (P : Bool → D → Om → Prop) (h : T_Rooms_by ds w P) : ds.length = 3 := by first | (have h := h.1; subst h; rfl) | (obtain ⟨rfl, _⟩ := h; rfl) | (obtain ⟨_, rfl, _⟩ := h; rfl) | (obtain ⟨_, _, rfl, _⟩ := h; rfl) | (obtain ⟨_, _, _, rfl, _⟩ := h; rfl) | (obtain ⟨_, _, _, _, rfl, _⟩ := h; rfl) | (obtain ⟨_, _, _, _, _, rfl, _⟩ := h; rfl) | (obtain ⟨_, _, _, _, _, _, rfl, _⟩ := h; rfl) | (obtain ⟨_, _, _, _, _, _, _, rfl, _⟩ := h; rfl) | (obtain ⟨_, _, _, _, _, _, _, _, rfl, _⟩ := h; rfl) | (obtain ⟨_, _, _, _, _, _, _, _, _, rfl, _⟩ := h; rfl) | (obtain ⟨_, _, _, _, _, _, _, _, _, _, rfl, _⟩ := h; rfl) | (obtain ⟨_, _, _, _, _, _, _, _, _, _, _, rfl, _⟩ := h; rfl) | (obtain ⟨_, _, _, _, _, _, _, _, _, _, _, _, rfl, _⟩ := h; rfl) | (obtain ⟨_, _, _, _, _, _, _, _, _, _, _, _, _, rfl, _⟩ := h; rfl)
def b_Rooms_by : DS := (dRet (dGet1 (oX (dBin sIx (oX (dFld "Rooms" "known" (dVarR 0))) (dVarR 1))) (dVarR 2)))
theorem v_Rooms_by (ds : List D) (w : Om) (P : Bool → D → Om → Prop) (h : T_Rooms_by ds w P) : b_Rooms_by { nx := fun _ w => P false .non w, rt := P } (startD ["self", "room", "step"] ds) w := by
  unfold b_Rooms_by
  obtain ⟨p, r, S, room, m, step, rfl, R, hm, q⟩ := h
  have hl := (List.getElem?_eq_some_iff.mp hm).1
  obtain ⟨a, ha⟩ : ∃ a, r.ks[room]? = some a := ⟨_, List.getElem?_eq_getElem (by rw [R.len]; exact hl)⟩
  try simp_arith []
  refine ⟨p, _, .ref r.k, rfl, R.ins, rmF_known .., ?_⟩
  try simp_arith [R.kl]
  refine ⟨.ref a, atI_f D.ref (by omega) (by rw [Int.toNat_natCast]; exact ha), ?_⟩
  try simp_arith [R.kn room a m ha hm, kv_val]
  exact q
def T_Rooms_paper : DSp := fun ds w P => ∃ (p : Addr) (r : RP) (S : RS), ds = [.ref p] ∧ Rm w p r S ∧ P true (.lst S.told) w
theorem len_Rooms_paper (ds : List D) (w : Om) (P : Bool → D → Om → Prop) (h : T_Rooms_paper ds w P) : ds.length = 1 := by first | (have h := h.1; subst h; rfl) | (obtain ⟨rfl, _⟩ := h; rfl) | (obtain ⟨_, rfl, _⟩ := h; rfl) | (obtain ⟨_, _, rfl, _⟩ := h; rfl) | (obtain ⟨_, _, _, rfl, _⟩ := h; rfl) | (obtain ⟨_, _, _, _, rfl, _⟩ := h; rfl) | (obtain ⟨_, _, _, _, _, rfl, _⟩ := h; rfl) | (obtain ⟨_, _, _, _, _, _, rfl, _⟩ := h; rfl) | (obtain ⟨_, _, _, _, _, _, _, rfl, _⟩ := h; rfl) | (obtain ⟨_, _, _, _, _, _, _, _, rfl, _⟩ := h; rfl) | (obtain ⟨_, _, _, _, _, _, _, _, _, rfl, _⟩ := h; rfl) | (obtain ⟨_, _, _, _, _, _, _, _, _, _, rfl, _⟩ := h; rfl) | (obtain ⟨_, _, _, _, _, _, _, _, _, _, _, rfl, _⟩ := h; rfl) | (obtain ⟨_, _, _, _, _, _, _, _, _, _, _, _, rfl, _⟩ := h; rfl) | (obtain ⟨_, _, _, _, _, _, _, _, _, _, _, _, _, rfl, _⟩ := h; rfl)
def b_Rooms_paper : DS := (dRet (dUn sList (oX (dFld "Rooms" "told" (dVarR 0)))))
theorem v_Rooms_paper (ds : List D) (w : Om) (P : Bool → D → Om → Prop) (h : T_Rooms_paper ds w P) : b_Rooms_paper { nx := fun _ w => P false .non w, rt := P } (startD ["self"] ds) w := by
  unfold b_Rooms_paper
  obtain ⟨p, r, S, rfl, R, q⟩ := h
  try simp_arith []
  refine ⟨p, _, .ref r.t, rfl, R.ins, rmF_told .., ?_⟩
  try simp_arith [R.td]
  exact q
/-- as elders are told -/
structure ElOk (el : List Nat) : Prop where
  le : ∀ (i v : Nat), el[i]? = some v → v ≤ i
def root (el : List Nat) (r : Nat) : Nat := if h : (el[r]?).getD r < r then root el ((el[r]?).getD r) else r
termination_by r
theorem root_lt {el : List Nat} {r v : Nat} (h : el[r]? = some v) (hv : v < r) : root el r = root el v := by
  rw [root, h]
  simp [hv]
theorem root_eq {el : List Nat} {r : Nat} (h : el[r]? = some r) : root el r = r := by
  rw [root, h]
  simp
def T_Rooms_elder : DSp := fun ds w P => ∃ (p : Addr) (r : RP) (S : RS) (room : Nat), ds = [.ref p, .int room] ∧ Rm w p r S ∧ ElOk S.el ∧ room < S.el.length ∧ P false (.int (root S.el room : Nat)) w
theorem len_Rooms_elder (ds : List D) (w : Om) (P : Bool → D → Om → Prop) (h : T_Rooms_elder ds w P) : ds.length = 2 := by first | (have h := h.1; subst h; rfl) | (obtain ⟨rfl, _⟩ := h; rfl) | (obtain ⟨_, rfl, _⟩ := h; rfl) | (obtain ⟨_, _, rfl, _⟩ := h; rfl) | (obtain ⟨_, _, _, rfl, _⟩ := h; rfl) | (obtain ⟨_, _, _, _, rfl, _⟩ := h; rfl) | (obtain ⟨_, _, _, _, _, rfl, _⟩ := h; rfl) | (obtain ⟨_, _, _, _, _, _, rfl, _⟩ := h; rfl) | (obtain ⟨_, _, _, _, _, _, _, rfl, _⟩ := h; rfl) | (obtain ⟨_, _, _, _, _, _, _, _, rfl, _⟩ := h; rfl) | (obtain ⟨_, _, _, _, _, _, _, _, _, rfl, _⟩ := h; rfl) | (obtain ⟨_, _, _, _, _, _, _, _, _, _, rfl, _⟩ := h; rfl) | (obtain ⟨_, _, _, _, _, _, _, _, _, _, _, rfl, _⟩ := h; rfl) | (obtain ⟨_, _, _, _, _, _, _, _, _, _, _, _, rfl, _⟩ := h; rfl) | (obtain ⟨_, _, _, _, _, _, _, _, _, _, _, _, _, rfl, _⟩ := h; rfl)
def b_Rooms_elder : DS := (dSeq (dWhile (dB (dBin sNe (oX (dBin sIx (oX (dFld "Rooms" "elders" (dVarR 0))) (dVarR 1))) (dVarR 1))) (dSet false 1 (dBin sIx (oX (dFld "Rooms" "elders" (dVarR 0))) (dVarR 1))))
    (dRetV 1))
theorem v_Rooms_elder (ds : List D) (w : Om) (P : Bool → D → Om → Prop) (h : T_Rooms_elder ds w P) : b_Rooms_elder { nx := fun _ w => P false .non w, rt := P } (startD ["self", "room"] ds) w := by
  unfold b_Rooms_elder
  obtain ⟨p, r, S, room, rfl, R, ok, hl, q⟩ := h
  refine seq_cut (fun δ w' => w' = w ∧ δ = [some (false, .ref p), some (false, .int (root S.el room : Nat))]) (fun N h => ?_) ?_
  · refine while_go (α := Nat) (fun a δ w' => w' = w ∧ a < S.el.length ∧ root S.el a = root S.el room ∧ δ = [some (false, .ref p), some (false, .int (a : Nat))]) (fun a => a) ?_ room ⟨rfl, hl, rfl, rfl⟩
    rintro a δ w' ⟨rfl, ha, hr, rfl⟩ N2 hN2
    try simp_arith []
    refine ⟨p, _, .ref r.e, rfl, R.ins, rmF_elders .., ?_⟩
    try simp_arith [R.el]
    refine ⟨_, get_nat ha, ?_⟩
    have hv := List.getElem?_eq_getElem ha
    have hle := ok.le a _ hv
    generalize S.el[a] = v at hv hle
    try simp_arith [hv, Option.getD_some]
    by_cases e : v = a
    · subst e
      refine if_f (by simp) ?_
      rw [root_eq hv] at hr
      rw [← hr] at h
      exact h _ _ ⟨rfl, rfl⟩
    · refine if_t (by simp; omega) ?_
      try simp_arith []
      refine ⟨p, _, .ref r.e, rfl, R.ins, rmF_elders .., ?_⟩
      try simp_arith [R.el]
      refine ⟨_, get_nat ha, ?_⟩
      try simp_arith [hv, Option.getD_some]
      exact hN2 v _ _ ⟨rfl, by omega, by rw [← hr, root_lt hv (by omega)], rfl⟩ (by omega)
  rintro δ w' ⟨rfl, rfl⟩
  try simp_arith []
  exact q
def stands (el : List Nat) : List Nat := (List.range el.length).filter fun r => decide (el[r]? = some r)
def T_Rooms_standing : DSp := fun ds w P => ∃ (p : Addr) (r : RP) (S : RS), ds = [.ref p] ∧ Rm w p r S ∧ S.el.length ≤ 100000 ∧ P true (nL (stands S.el)) w
theorem len_Rooms_standing (ds : List D) (w : Om) (P : Bool → D → Om → Prop) (h : T_Rooms_standing ds w P) : ds.length = 1 := by first | (have h := h.1; subst h; rfl) | (obtain ⟨rfl, _⟩ := h; rfl) | (obtain ⟨_, rfl, _⟩ := h; rfl) | (obtain ⟨_, _, rfl, _⟩ := h; rfl) | (obtain ⟨_, _, _, rfl, _⟩ := h; rfl) | (obtain ⟨_, _, _, _, rfl, _⟩ := h; rfl) | (obtain ⟨_, _, _, _, _, rfl, _⟩ := h; rfl) | (obtain ⟨_, _, _, _, _, _, rfl, _⟩ := h; rfl) | (obtain ⟨_, _, _, _, _, _, _, rfl, _⟩ := h; rfl) | (obtain ⟨_, _, _, _, _, _, _, _, rfl, _⟩ := h; rfl) | (obtain ⟨_, _, _, _, _, _, _, _, _, rfl, _⟩ := h; rfl) | (obtain ⟨_, _, _, _, _, _, _, _, _, _, rfl, _⟩ := h; rfl) | (obtain ⟨_, _, _, _, _, _, _, _, _, _, _, rfl, _⟩ := h; rfl) | (obtain ⟨_, _, _, _, _, _, _, _, _, _, _, _, rfl, _⟩ := h; rfl) | (obtain ⟨_, _, _, _, _, _, _, _, _, _, _, _, _, rfl, _⟩ := h; rfl)
def b_Rooms_standing : DS := (dRet (dLc (dRng1 (oX (dFld "Rooms" "made" (dVarR 0)))) (gN 1) (dB (dBin sEq (oX (dBin sIx (oX (dFld "Rooms" "elders" (dVarR 0))) (dVarR 1))) (dVarR 1))) (dVar 1) [1]))
theorem v_Rooms_standing (ds : List D) (w : Om) (P : Bool → D → Om → Prop) (h : T_Rooms_standing ds w P) : b_Rooms_standing { nx := fun _ w => P false .non w, rt := P } (startD ["self", "room"] ds) w := by
  unfold b_Rooms_standing
  obtain ⟨p, r, S, rfl, R, hl, q⟩ := h
  have hs := sizeLine_eq
  try simp_arith []
  refine ⟨p, _, .int S.el.length, rfl, R.ins, rmF_made .., ?_⟩
  try simp_arith []
  refine ⟨⟨by omega, by omega⟩, ?_⟩
  rw [Int.toNat_natCast]
  unfold rngD
  refine lc_filter (fun k : Nat => D.int (0 + (k : Nat))) (fun k : Nat => D.int k) (fun k : Nat => decide (S.el[k]? = some k)) (List.range S.el.length) (fun k hk P hP => ?_) (fun k hk _ P hP => ?_) [] (by simp; omega) ?_
  · have hk' := List.mem_range.mp hk
    try simp_arith [Int.zero_add]
    refine ⟨p, _, .ref r.e, rfl, R.ins, rmF_elders .., ?_⟩
    try simp_arith [R.el]
    refine ⟨_, get_nat hk', ?_⟩
    try simp_arith []
    have hv := List.getElem?_eq_getElem hk'
    generalize S.el[k] = v at hv
    rw [hv] at hP ⊢
    have e : decide ((v : Int) = (k : Int)) = decide (some v = some k) := by
      rw [decide_eq_decide]
      simp
      omega
    simp only [Option.getD_some, e]
    exact hP
  · try simp_arith [Int.zero_add]
    exact hP _
  · rw [List.nil_append]
    exact q
def T_Rooms_make : DSp := fun ds w P => ∃ (p : Addr) (r : RP) (S : RS) (room : Nat) (m : Kn) (step : Int), ds = [.ref p, .int room, .int step] ∧ Rm w p r S ∧ S.kn[room]? = some m ∧ S.el.length ≤ 100000 ∧ S.told.length ≤ 1000000 ∧ m.length ≤ 1000000 ∧ ∀ w' r', Rm w' p r' (S.mk1 room step) → Fr w w' (r.fp p) (r'.fp p) → P false (.int S.el.length) w'
theorem len_Rooms_make (ds : List D) (w : Om) (P : Bool → D → Om → Prop) (h : T_Rooms_make ds w P) : ds.length = 3 := by first | (have h := h.1; subst h; rfl) | (obtain ⟨rfl, _⟩ := h; rfl) | (obtain ⟨_, rfl, _⟩ := h; rfl) | (obtain ⟨_, _, rfl, _⟩ := h; rfl) | (obtain ⟨_, _, _, rfl, _⟩ := h; rfl) | (obtain ⟨_, _, _, _, rfl, _⟩ := h; rfl) | (obtain ⟨_, _, _, _, _, rfl, _⟩ := h; rfl) | (obtain ⟨_, _, _, _, _, _, rfl, _⟩ := h; rfl) | (obtain ⟨_, _, _, _, _, _, _, rfl, _⟩ := h; rfl) | (obtain ⟨_, _, _, _, _, _, _, _, rfl, _⟩ := h; rfl) | (obtain ⟨_, _, _, _, _, _, _, _, _, rfl, _⟩ := h; rfl) | (obtain ⟨_, _, _, _, _, _, _, _, _, _, rfl, _⟩ := h; rfl) | (obtain ⟨_, _, _, _, _, _, _, _, _, _, _, rfl, _⟩ := h; rfl) | (obtain ⟨_, _, _, _, _, _, _, _, _, _, _, _, rfl, _⟩ := h; rfl) | (obtain ⟨_, _, _, _, _, _, _, _, _, _, _, _, _, rfl, _⟩ := h; rfl)
def b_Rooms_make : DS := (dSeq (dSet false 3 (dFld "Rooms" "made" (dVarR 0)))
    (dSeq (dFldAug "Rooms" "made" (dVarR 0) (oX (dC (.int 1))))
    (dSeq (dAppN false (oX (dFld "Rooms" "elders" (dVarR 0))) (dVar 3))
    (dSeq (dAppN true (oX (dFld "Rooms" "known" (dVarR 0))) (dDisp1 (oX (dUn sNeg (dVarR 2))) (dVar 1)))
    (dSeq (dPutN false (oX (dBin sIx (oX (dFld "Rooms" "known" (dVarR 0))) (dVarR 1))) (dVarR 2) (dVar 3))
    (dSeq (dAppN false (oX (dFld "Rooms" "told" (dVarR 0))) (dTup (dCons (dC (.str "new")) (dCons (dVar 1) (dCons (dVar 2) (dCons (dVar 3) dNil))))))
    (dRetV 3)))))))
theorem v_Rooms_make (ds : List D) (w : Om) (P : Bool → D → Om → Prop) (h : T_Rooms_make ds w P) : b_Rooms_make { nx := fun _ w => P false .non w, rt := P } (startD ["self", "room", "step", "other"] ds) w := by
  unfold b_Rooms_make
  obtain ⟨p, r, S, room, m, step, rfl, R, hm, hl, hlt, hml, q⟩ := h
  have hs := sizeLine_eq
  obtain ⟨npe, npk, npt, npks, nek, net, neks, nkt, nkks, ntks, nks⟩ := R.ne
  have hroom := (List.getElem?_eq_some_iff.mp hm).1
  obtain ⟨a, ha⟩ : ∃ a, r.ks[room]? = some a := ⟨_, List.getElem?_eq_getElem (by rw [R.len]; exact hroom)⟩
  have hac := List.mem_of_getElem? ha
  have nap : a ≠ p := fun z => npks (z ▸ hac)
  have nae : a ≠ r.e := fun z => neks (z ▸ hac)
  have nak : a ≠ r.k := fun z => nkks (z ▸ hac)
  have nat : a ≠ r.t := fun z => ntks (z ▸ hac)
  refine seq_i ?_
  try simp_arith []
  refine ⟨p, _, _, rfl, R.ins, rmF_made .., ?_⟩
  refine seq_i ?_
  try simp_arith []
  refine ⟨p, _, _, rfl, R.ins, rmF_made .., 1, _, rfl, R.ins, by simp [rmF], ?_⟩
  have e1 : putFD (Str.ofString "made") (D.int ((S.el.length : Int) + 1)) (rmF S.l S.el.length r.e r.k r.t) = rmF S.l (S.el.length + 1) r.e r.k r.t := rmF_putMade _ _ (S.el.length + 1) _ _ _
  rw [e1]
  refine seq_i ?_
  try simp_arith []
  refine ⟨p, _, _, rfl, updW_same, rmF_elders .., r.e, _, rfl, by rw [updW_ne npe.symm]; exact R.el, _, by rw [updW_ne npe.symm]; exact R.el, by simp; omega, ?_⟩
  refine seq_i ?_
  try simp_arith []
  have i2 : ∀ c c', updW (updW w p c) r.e c' p = some c := fun c c' => by rw [updW_ne npe]; exact updW_same
  refine ⟨p, _, _, rfl, i2 _ _, rmF_known .., r.k, _, rfl, by rw [updW_ne nek.symm, updW_ne npk.symm]; exact R.kl, fun c hc => ?_⟩
  have ncp : c ≠ p := fun z => by subst z; rw [i2] at hc; cases hc
  have nce : c ≠ r.e := fun z => by subst z; rw [updW_same] at hc; cases hc
  have hcw : w c = none := by rw [updW_ne nce, updW_ne ncp] at hc; exact hc
  have nof : ∀ b ∈ r.fp p, c ≠ b := fun b hb z => R.there b hb (z ▸ hcw)
  have nck : c ≠ r.k := nof _ (by simp [RP.fp])
  have nct : c ≠ r.t := nof _ (by simp [RP.fp])
  have ncks : c ∉ r.ks := fun z => nof c (by simp [RP.fp, z]) rfl
  have nca : c ≠ a := fun z => ncks (z ▸ hac)
  refine ⟨_, by rw [updW_ne nck.symm, updW_ne nek.symm, updW_ne npk.symm]; exact R.kl, by simp [R.len, R.len2]; omega, ?_⟩
  have ekl : r.ks.map D.ref ++ [.ref c] = (r.ks ++ [c]).map D.ref := by simp
  rw [ekl]
  refine seq_i ?_
  try simp_arith []
  have ha2 : (r.ks ++ [c])[room]? = some a := by rw [List.getElem?_append_left (by rw [R.len]; exact hroom)]; exact ha
  refine ⟨p, _, _, rfl, by rw [updW_ne npk, updW_ne ncp.symm]; exact i2 _ _, rmF_known .., ?_⟩
  try simp_arith []
  refine ⟨.ref a, atI_f D.ref (by omega) (by rw [Int.toNat_natCast]; exact ha2), a, rfl, ?_⟩
  have hwa : ∀ c1 c2 c3 c4, updW (updW (updW (updW w p c1) r.e c2) c c3) r.k c4 a = some (.dK (kvD m)) := fun c1 c2 c3 c4 => by rw [updW_ne nak, updW_ne nca.symm, updW_ne nae, updW_ne nap]; exact R.kn room a m ha hm
  rw [hwa]
  try simp_arith []
  rw [kv_put, kv_len]
  refine ⟨by omega, ?_⟩
  refine seq_i ?_
  try simp_arith []
  refine ⟨p, _, _, rfl, by rw [updW_ne nap.symm, updW_ne npk, updW_ne ncp.symm]; exact i2 _ _, rmF_told .., r.t, S.told, rfl, ?_⟩
  have ht : ∀ c1 c2 c3 c4 c5, updW (updW (updW (updW (updW w p c1) r.e c2) c c3) r.k c4) a c5 r.t = some (.lst S.told) := fun c1 c2 c3 c4 c5 => by rw [updW_ne nat.symm, updW_ne nkt.symm, updW_ne nct.symm, updW_ne net.symm, updW_ne npt.symm]; exact R.td
  refine ⟨ht _ _ _ _ _, by omega, S.told, ht _ _ _ _ _, by omega, ?_⟩
  try simp_arith []
  refine q _ ⟨r.e, r.k, r.t, r.ks ++ [c]⟩ ⟨?_, ?_, ?_, ?_, ?_, ?_, ?_, ?_⟩ ⟨?_, ?_⟩
  · rw [updW_ne npt, updW_ne nap.symm, updW_ne npk, updW_ne ncp.symm, updW_ne npe, updW_same]
    simp [RS.mk1]
  · rw [updW_ne net, updW_ne nae.symm, updW_ne nek, updW_ne nce.symm, updW_same]
    simp [RS.mk1]
  · rw [updW_ne nkt, updW_ne nak.symm, updW_same]
  · rw [updW_same]
    simp [RS.mk1, newR]
  · intro i b mm hi hmm
    simp only [RS.mk1, hm, Option.getD_some] at hmm
    by_cases hil : i < r.ks.length
    · have hi' := hi
      rw [List.getElem?_append_left hil] at hi'
      have hbc := List.mem_of_getElem? hi'
      have nbt : b ≠ r.t := fun z => ntks (z ▸ hbc)
      have nbk : b ≠ r.k := fun z => nkks (z ▸ hbc)
      have nbe : b ≠ r.e := fun z => neks (z ▸ hbc)
      have nbp : b ≠ p := fun z => npks (z ▸ hbc)
      have nbc : b ≠ c := fun z => ncks (z ▸ hbc)
      rw [List.getElem?_append_left (by rw [List.length_set, ← R.len]; exact hil)] at hmm
      rw [updW_ne nbt]
      rcases get_set hmm with ⟨e, e2⟩ | ⟨e, e2⟩
      · subst e
        rw [ha] at hi'
        cases hi'
        rw [updW_same, e2]
      · have nba : b ≠ a := fun z => by
          subst z
          obtain ⟨g1, g2⟩ := List.getElem?_eq_some_iff.mp ha
          obtain ⟨g3, g4⟩ := List.getElem?_eq_some_iff.mp hi'
          rcases Nat.lt_trichotomy room i with h | h | h
          · exact List.pairwise_iff_getElem.mp nks room i g1 g3 h (g2.trans g4.symm)
          · exact e h
          · exact List.pairwise_iff_getElem.mp nks i room g3 g1 h (g4.trans g2.symm)
        rw [updW_ne nba, updW_ne nbk, updW_ne nbc, updW_ne nbe, updW_ne nbp]
        exact R.kn i b mm hi' e2
    · have hi0 : i = r.ks.length := by have := (List.getElem?_eq_some_iff.mp hi).1; simp at this; omega
      subst hi0
      simp at hi
      subst hi
      rw [List.getElem?_append_right (by rw [List.length_set, ← R.len]; exact Nat.le_refl _), List.length_set, ← R.len, Nat.sub_self] at hmm
      simp at hmm
      subst hmm
      rw [updW_ne nct, updW_ne nca, updW_ne nck, updW_same]
      simp [kvD, fD]
  · simp [RS.mk1, R.len]
  · simp [RS.mk1, R.len2]
  · have := R.nd
    unfold RP.fp at this ⊢
    simp only [List.nodup_cons, List.mem_cons, List.mem_append, List.mem_singleton, not_or, List.nodup_append] at this ⊢
    refine ⟨⟨npe, npk, npt, npks, ?_⟩, ⟨nek, net, neks, ?_⟩, ⟨nkt, nkks, ?_⟩, ⟨ntks, ?_⟩, nks, by simp, fun x hx y hy z => ncks (by simp at hy; rw [← hy, ← z]; exact hx)⟩
    · simp [ncp.symm]
    · simp [nce.symm]
    · simp [nck.symm]
    · simp [nct.symm]
  · intro b hb hn
    have g : ∀ x ∈ r.fp p, b ≠ x := fun x hx z => hb (z ▸ hx)
    have g5 : b ≠ c := fun z => hn (z ▸ hcw)
    rw [updW_ne (g r.t (by simp [RP.fp])), updW_ne (g a (by simp [RP.fp, hac])), updW_ne (g r.k (by simp [RP.fp])), updW_ne g5, updW_ne (g r.e (by simp [RP.fp])), updW_ne (g p (by simp [RP.fp]))]
  · intro b hb
    simp only [RP.fp, List.mem_cons, List.mem_append, List.mem_singleton] at hb ⊢
    rcases hb with h | h | h | h | h | h
    · exact .inl (.inl h)
    · exact .inl (.inr (.inl h))
    · exact .inl (.inr (.inr (.inl h)))
    · exact .inl (.inr (.inr (.inr (.inl h))))
    · exact .inl (.inr (.inr (.inr (.inr h))))
    · rcases h with h | h
      · subst h; exact .inr hcw
      · cases h
theorem Rm.notT {w : Om} {p : Addr} {r : RP} {S : RS} (h : Rm w p r S) {b : Addr} {kvs : List (List Key × D)} (hb : w b = some (.dT kvs)) : b ∉ r.fp p := fun hm => by
  simp only [RP.fp, List.mem_cons] at hm
  rcases hm with e | e | e | e | e
  · subst e; rw [h.ins] at hb; cases hb
  · subst e; rw [h.el] at hb; cases hb
  · subst e; rw [h.kl] at hb; cases hb
  · subst e; rw [h.td] at hb; cases hb
  · obtain ⟨i, hi⟩ := List.mem_iff_getElem?.mp e
    have hl := (List.getElem?_eq_some_iff.mp hi).1
    rw [h.kn i b _ hi (List.getElem?_eq_getElem (by rw [← h.len]; exact hl))] at hb
    cases hb
mutual
theorem eqv_py : ∀ d : D, PyData.eqv d.py d.py = true
  | .non => by simp [D.py, PyData.eqv]
  | .bl _ => by simp [D.py, PyData.eqv]
  | .int _ => by simp [D.py, PyData.eqv]
  | .str _ => by simp [D.py, PyData.eqv]
  | .lst ds => by simp [D.py, PyData.eqv, eqv_pyAll ds]
  | .tup ds => by simp [D.py, PyData.eqv, eqv_pyAll ds]
  | .ref _ => by simp [D.py, PyData.eqv]
  | .ty _ => by simp [D.py, PyData.eqv]
  | .dK _ => by simp [D.py, PyData.eqv]
  | .dT _ => by simp [D.py, PyData.eqv]
  | .fK _ => by simp [D.py, PyData.eqv]
  | .fT _ => by simp [D.py, PyData.eqv]
  | .exc _ _ => by simp [D.py, PyData.eqv]
  | .cls _ => by simp [D.py, PyData.eqv]
  | .scr ns => by
    simp only [D.py, PyData.eqv]
    induction ns with
    | nil => rfl
    | cons n ns ih => simp [PyData.eqvAll, PyData.eqv, ih]
theorem eqv_pyAll : ∀ ds : List D, PyData.eqvAll (pyAll ds) (pyAll ds) = true
  | [] => rfl
  | d :: ds => by simp [pyAll, PyData.eqvAll, eqv_py d, eqv_pyAll ds]
end
theorem sEq_self {d : D} (h : d.pl = true) (hd : d.py.depth ≤ 64) (P : Bool → D → Prop) : sEq d d P = P false (.bl true) := by
  unfold sEq
  have e : d.eqv d = true := eqv_py d
  rw [e]
  simp [h, hd]
theorem sNe_self {d : D} (h : d.pl = true) (hd : d.py.depth ≤ 64) (P : Bool → D → Prop) : sNe d d P = P false (.bl false) := by
  unfold sNe
  have e : d.eqv d = true := eqv_py d
  rw [e]
  simp [h, hd]
/-- plain data of little depth -/
structure Flat (d : D) (n : Nat) : Prop where
  pl : d.pl = true
  dep : d.py.depth ≤ n
theorem Flat.int (i : Int) (n : Nat) : Flat (.int i) n := ⟨rfl, Nat.zero_le _⟩
theorem Flat.str (i : Str) (n : Nat) : Flat (.str i) n := ⟨rfl, Nat.zero_le _⟩
theorem Flat.all {n : Nat} : ∀ {ds : List D}, (∀ d ∈ ds, Flat d n) → plAll ds = true ∧ PyData.depthAll (pyAll ds) ≤ n
  | [], _ => ⟨rfl, Nat.zero_le _⟩
  | d :: ds, h => by
    obtain ⟨a, b⟩ := Flat.all (ds := ds) fun x hx => h x (List.mem_cons_of_mem _ hx)
    have := h d List.mem_cons_self
    exact ⟨by rw [plAll, this.pl, a]; rfl, by rw [pyAll, PyData.depthAll]; exact Nat.max_le.mpr ⟨this.dep, b⟩⟩
theorem Flat.lst {n : Nat} {ds : List D} (h : ∀ d ∈ ds, Flat d n) : Flat (.lst ds) (n + 1) := ⟨(Flat.all h).1, Nat.succ_le_succ (Flat.all h).2⟩
theorem Flat.tup {n : Nat} {ds : List D} (h : ∀ d ∈ ds, Flat d n) : Flat (.tup ds) (n + 1) := ⟨(Flat.all h).1, Nat.succ_le_succ (Flat.all h).2⟩
theorem Flat.eq {d : D} {n : Nat} (h : Flat d n) (hn : n ≤ 64) (P : Bool → D → Prop) : sEq d d P = P false (.bl true) := sEq_self h.pl (Nat.le_trans h.dep hn) P
theorem Flat.ne {d : D} {n : Nat} (h : Flat d n) (hn : n ≤ 64) (P : Bool → D → Prop) : sNe d d P = P false (.bl false) := sNe_self h.pl (Nat.le_trans h.dep hn) P
theorem newR_flat (a : Nat) (s : Int) (n : Nat) : Flat (newR a s n) 1 := Flat.tup (n := 0) fun d hd => by
  simp at hd
  rcases hd with h | h | h | h <;> subst h
  · exact .str _ _
  · exact .int _ _
  · exact .int _ _
  · exact .int _ _

/-! ### ways told together: the mathematics of laying -/
abbrev Wy := Nat → Int → Nat → Prop
def kv (kn : List Kn) (r : Nat) (s : Int) : Option Nat := fget ((kn[r]?).getD []) s
def gr (kn : List Kn) : Wy := fun r s t => kv kn r s = some t
abbrev Du := Nat × Int × Nat × Nat
def rn (less more x : Nat) : Nat := if x = more then less else x
def ren (less more : Nat) (Q : Wy) : Wy := fun r s t => ∃ a b, Q a s b ∧ rn less more a = r ∧ rn less more b = t
def way (a : Nat) (u : Int) (b : Nat) : Wy := fun r s t => (r = a ∧ s = u ∧ t = b) ∨ (t = a ∧ s = -u ∧ r = b)
def xs (f : Nat → Nat) (ds : List Du) : Wy := fun r s t => ∃ d ∈ ds, way (f d.1) d.2.1 (f d.2.2.2) r s t
theorem way_back {a : Nat} {u : Int} {b r : Nat} {s : Int} {t : Nat} (h : way a u b r s t) : way a u b t (-s) r := by
  rcases h with ⟨h1, h2, h3⟩ | ⟨h1, h2, h3⟩
  · exact .inr ⟨h1, by rw [h2], h3⟩
  · exact .inl ⟨h1, by rw [h2]; omega, h3⟩
theorem way_self {a : Nat} {u : Int} {b : Nat} : way a u b a u b := .inl ⟨rfl, rfl, rfl⟩
theorem way_swap {a : Nat} {u : Int} {b r : Nat} {s : Int} {t : Nat} : way b (-u) a r s t ↔ way a u b r s t := by
  unfold way
  constructor
  · rintro (⟨h1, h2, h3⟩ | ⟨h1, h2, h3⟩)
    · exact .inr ⟨h3, h2, h1⟩
    · exact .inl ⟨h3, by omega, h1⟩
  · rintro (⟨h1, h2, h3⟩ | ⟨h1, h2, h3⟩)
    · exact .inr ⟨h3, by omega, h1⟩
    · exact .inl ⟨h3, h2, h1⟩
theorem ren_way {less more a b : Nat} {u : Int} {r : Nat} {s : Int} {t : Nat} : ren less more (way a u b) r s t ↔ way (rn less more a) u (rn less more b) r s t := by
  constructor
  · rintro ⟨x, y, h, rfl, rfl⟩
    rcases h with ⟨rfl, rfl, rfl⟩ | ⟨rfl, rfl, rfl⟩
    · exact .inl ⟨rfl, rfl, rfl⟩
    · exact .inr ⟨rfl, rfl, rfl⟩
  · rintro (⟨rfl, rfl, rfl⟩ | ⟨rfl, rfl, rfl⟩)
    · exact ⟨a, b, .inl ⟨rfl, rfl, rfl⟩, rfl, rfl⟩
    · exact ⟨b, a, .inr ⟨rfl, rfl, rfl⟩, rfl, rfl⟩
theorem kv_set {kn : List Kn} {a : Nat} (m : Kn) (ha : a < kn.length) (r : Nat) (s : Int) : kv (kn.set a m) r s = if r = a then fget m s else kv kn r s := by
  unfold kv
  by_cases h : r = a
  · subst h
    rw [if_pos rfl, List.getElem?_set_self ha]
    rfl
  · rw [if_neg h, List.getElem?_set_ne (fun z => h z.symm)]
def put2 (kn : List Kn) (room : Nat) (step : Int) (other : Nat) : List Kn :=
  let k1 := kn.set room (fput ((kn[room]?).getD []) step other)
  k1.set other (fput ((k1[other]?).getD []) (-step) room)
theorem kv_put2 {kn : List Kn} {room other : Nat} (hr : room < kn.length) (ho : other < kn.length) (step : Int) (r : Nat) (s : Int) :
    kv (put2 kn room step other) r s = if r = other ∧ s = -step then some room else if r = room ∧ s = step then some other else kv kn r s := by
  unfold put2
  simp only
  rw [kv_set _ (by rw [List.length_set]; exact ho)]
  by_cases h : r = other
  · subst h
    rw [if_pos rfl, fget_put]
    by_cases h2 : s = -step
    · simp [h2]
    · rw [if_neg h2, if_neg (fun z => h2 z.2)]
      exact kv_set _ hr r s |>.trans (by
        by_cases h3 : r = room
        · subst h3
          rw [if_pos rfl, fget_put]
          by_cases h4 : s = step
          · simp [h4]
          · rw [if_neg h4, if_neg (fun z => h4 z.2)]; rfl
        · rw [if_neg h3, if_neg (fun z => h3 z.1)])
  · rw [if_neg h, if_neg (fun z => h z.1), kv_set _ hr]
    by_cases h3 : r = room
    · subst h3
      rw [if_pos rfl, fget_put]
      by_cases h4 : s = step
      · simp [h4]
      · rw [if_neg h4, if_neg (fun z => h4 z.2)]; rfl
    · rw [if_neg h3, if_neg (fun z => h3 z.1)]
def tieF (kn : List Kn) (room : Nat) (step : Int) (other : Nat) : List Kn × List Du :=
  match kv kn room step with
  | some there => (kn, if there = other then [] else [(room, step, there, other)])
  | none => match kv kn other (-step) with
    | some here => (kn, [(other, -step, here, room)])
    | none => (put2 kn room step other, [])
/-- a state in which laying can go on -/
structure Gd (n : Nat) (B : Int) (el : List Nat) (kn : List Kn) : Prop where
  ok : ElOk el
  elen : el.length = n
  klen : kn.length = n
  ends : ∀ r s t, gr kn r s t → el[r]? = some r ∧ el[t]? = some t
  back : ∀ r s t, gr kn r s t → gr kn t (-s) r
  nd : ∀ (r : Nat) (m : Kn), kn[r]? = some m → (m.map (·.1)).Nodup
  bd : ∀ (r : Nat) (m : Kn), kn[r]? = some m → ∀ s ∈ m.map (·.1), -B ≤ s ∧ s ≤ B
theorem stand_lt {el : List Nat} {r v : Nat} (h : el[r]? = some v) : r < el.length := (List.getElem?_eq_some_iff.mp h).1
theorem keys_put {m : Kn} {k : Int} {v : Nat} {s : Int} (h : s ∈ (fput m k v).map (·.1)) : s = k ∨ s ∈ m.map (·.1) := by
  rw [fkeys_put] at h
  split at h
  · exact .inr h
  · rcases List.mem_append.mp h with h | h
    · exact .inr h
    · exact .inl (by simpa using h)
theorem put2_at {kn : List Kn} {room other : Nat} {step : Int} (hr : room < kn.length) (ho : other < kn.length) {r : Nat} {m : Kn} (h : (put2 kn room step other)[r]? = some m) (Pr : Kn → Prop) (h0 : ∀ (i : Nat) (m : Kn), kn[i]? = some m → Pr m) (h1 : ∀ m, Pr m → Pr (fput m step other)) (h2 : ∀ m, Pr m → Pr (fput m (-step) room)) : Pr m := by
  have k1 : ∀ (i : Nat) (m : Kn), (kn.set room (fput ((kn[room]?).getD []) step other))[i]? = some m → Pr m := fun i m h => by
    rcases get_set h with ⟨e, e2⟩ | ⟨e, e2⟩
    · subst e2
      rw [List.getElem?_eq_getElem hr]
      exact h1 _ (h0 room _ (List.getElem?_eq_getElem hr))
    · exact h0 i m e2
  unfold put2 at h
  simp only at h
  rcases get_set h with ⟨e, e2⟩ | ⟨e, e2⟩
  · subst e2
    have ho2 : other < (kn.set room (fput ((kn[room]?).getD []) step other)).length := by rw [List.length_set]; exact ho
    rw [List.getElem?_eq_getElem ho2]
    exact h2 _ (k1 other _ (List.getElem?_eq_getElem ho2))
  · exact k1 r m e2
/-- what one tie does -/
structure TieOk (n : Nat) (B : Int) (el : List Nat) (kn : List Kn) (W : Wy) (kn' : List Kn) (ds : List Du) : Prop where
  gd : Gd n B el kn'
  mono : ∀ r s t, gr kn r s t → gr kn' r s t
  all : ∀ r s t, gr kn' r s t ∨ xs (root el) ds r s t ↔ gr kn r s t ∨ W r s t
  one : ∀ d ∈ ds, gr kn' d.1 d.2.1 d.2.2.1
  st : ∀ d ∈ ds, el[d.1]? = some d.1 ∧ el[d.2.2.1]? = some d.2.2.1 ∧ el[d.2.2.2]? = some d.2.2.2 ∧ -B ≤ d.2.1 ∧ d.2.1 ≤ B
theorem tie_ok {n : Nat} {B : Int} {el : List Nat} {kn : List Kn} (G : Gd n B el kn) {room other : Nat} {step : Int} (hr : el[room]? = some room) (ho : el[other]? = some other) (hs : -B ≤ step ∧ step ≤ B) :
    TieOk n B el kn (way room step other) (tieF kn room step other).1 (tieF kn room step other).2 ∧ (tieF kn room step other).2.length ≤ 1 := by
  have rr := root_eq hr
  have ro := root_eq ho
  have hrl : room < kn.length := by rw [G.klen, ← G.elen]; exact stand_lt hr
  have hol : other < kn.length := by rw [G.klen, ← G.elen]; exact stand_lt ho
  unfold tieF
  cases e1 : kv kn room step with
  | some there =>
    have et := (G.ends room step there e1).2
    by_cases e2 : there = other
    · subst e2
      simp only [if_true]
      refine ⟨⟨G, fun _ _ _ h => h, fun r s t => ?_, fun d hd => (nomatch hd), fun d hd => (nomatch hd)⟩, Nat.zero_le _⟩
      constructor
      · rintro (h | ⟨d, hd, _⟩)
        · exact .inl h
        · cases hd
      · rintro (h | ⟨rfl, rfl, rfl⟩ | ⟨rfl, rfl, rfl⟩)
        · exact .inl h
        · exact .inl e1
        · exact .inl (G.back _ _ _ e1)
    · simp only [if_neg e2]
      refine ⟨⟨G, fun _ _ _ h => h, fun r s t => ?_, fun d hd => ?_, fun d hd => ?_⟩, Nat.le_refl _⟩
      · refine or_congr Iff.rfl ?_
        constructor
        · rintro ⟨d, hd, h⟩
          simp at hd
          subst hd
          simpa only [rr, ro] using h
        · intro h
          exact ⟨(room, step, there, other), by simp, by simpa only [rr, ro] using h⟩
      · simp at hd; subst hd; exact e1
      · simp at hd; subst hd; exact ⟨hr, et, ho, hs⟩
  | none =>
    cases e2 : kv kn other (-step) with
    | some here =>
      have et := (G.ends other (-step) here e2).2
      simp only
      refine ⟨⟨G, fun _ _ _ h => h, fun r s t => ?_, fun d hd => ?_, fun d hd => ?_⟩, Nat.le_refl _⟩
      · refine or_congr Iff.rfl ?_
        constructor
        · rintro ⟨d, hd, h⟩
          simp at hd
          subst hd
          simp only [rr, ro] at h
          exact way_swap.mp h
        · intro h
          exact ⟨(other, -step, here, room), by simp, by simp only [rr, ro]; exact way_swap.mpr h⟩
      · simp at hd; subst hd; exact e2
      · simp at hd; subst hd; exact ⟨ho, et, hr, by simp; omega⟩
    | none =>
      simp only
      have key := kv_put2 hrl hol step
      have gk : ∀ r s t, gr (put2 kn room step other) r s t ↔ gr kn r s t ∨ way room step other r s t := by
        intro r s t
        unfold gr way
        rw [key]
        by_cases h1 : r = other ∧ s = -step
        · rw [if_pos h1]
          obtain ⟨rfl, rfl⟩ := h1
          constructor
          · intro h; cases h; exact .inr (.inr ⟨rfl, rfl, rfl⟩)
          · rintro (h | ⟨h1, h2, h3⟩ | ⟨h1, h2, h3⟩)
            · rw [e2] at h; cases h
            · rw [h3, h1]
            · rw [h1]
        · rw [if_neg h1]
          by_cases h2 : r = room ∧ s = step
          · rw [if_pos h2]
            obtain ⟨rfl, rfl⟩ := h2
            constructor
            · intro h; cases h; exact .inr (.inl ⟨rfl, rfl, rfl⟩)
            · rintro (h | ⟨h1, h2, h3⟩ | ⟨h3, h2, h4⟩)
              · rw [e1] at h; cases h
              · rw [h3]
              · exact absurd ⟨h4, h2⟩ h1
          · rw [if_neg h2]
            constructor
            · exact .inl
            · rintro (h | ⟨h3, h4, h5⟩ | ⟨h3, h4, h5⟩)
              · exact h
              · exact absurd ⟨h3, h4⟩ h2
              · exact absurd ⟨h5, h4⟩ h1
      refine ⟨⟨⟨G.ok, G.elen, by simp [put2, G.klen], fun r s t h => ?_, fun r s t h => ?_, fun r m h => ?_, fun r m h => ?_⟩, fun r s t h => (gk r s t).mpr (.inl h), fun r s t => ?_, fun d hd => (nomatch hd), fun d hd => (nomatch hd)⟩, Nat.zero_le _⟩
      · rcases (gk r s t).mp h with h | ⟨rfl, rfl, rfl⟩ | ⟨rfl, rfl, rfl⟩
        · exact G.ends r s t h
        · exact ⟨hr, ho⟩
        · exact ⟨ho, hr⟩
      · rcases (gk r s t).mp h with h | h
        · exact (gk _ _ _).mpr (.inl (G.back r s t h))
        · exact (gk _ _ _).mpr (.inr (way_back h))
      · exact put2_at hrl hol h (fun m => (m.map (·.1)).Nodup) G.nd (fun m h => fnodup_put h _ _) (fun m h => fnodup_put h _ _)
      · exact put2_at hrl hol h (fun m => ∀ s ∈ m.map (·.1), -B ≤ s ∧ s ≤ B) G.bd (fun m h s hm => (keys_put hm).elim (fun e => e ▸ hs) (h s)) (fun m h s hm => (keys_put hm).elim (fun e => by subst e; omega) (h s))
      · rw [gk]
        constructor
        · rintro (h | ⟨d, hd, _⟩)
          · exact h
          · cases hd
        · exact .inl
def tiesF (f : Nat → Nat) (less : Nat) : List (Int × Nat) → List Kn → List Kn × List Du
  | [], kn => (kn, [])
  | (s, o) :: ws, kn => ((tiesF f less ws (tieF kn less s (f o)).1).1, (tieF kn less s (f o)).2 ++ (tiesF f less ws (tieF kn less s (f o)).1).2)
def wsW (f : Nat → Nat) (less : Nat) (ws : List (Int × Nat)) : Wy := fun r s t => ∃ q ∈ ws, way less q.1 (f q.2) r s t
theorem xs_app {f : Nat → Nat} {ds es : List Du} {r : Nat} {s : Int} {t : Nat} : xs f (ds ++ es) r s t ↔ xs f ds r s t ∨ xs f es r s t := by
  constructor
  · rintro ⟨d, hd, h⟩
    rcases List.mem_append.mp hd with hd | hd
    · exact .inl ⟨d, hd, h⟩
    · exact .inr ⟨d, hd, h⟩
  · rintro (⟨d, hd, h⟩ | ⟨d, hd, h⟩)
    · exact ⟨d, List.mem_append_left _ hd, h⟩
    · exact ⟨d, List.mem_append_right _ hd, h⟩
theorem xs_nil {f : Nat → Nat} {r : Nat} {s : Int} {t : Nat} : ¬ xs f [] r s t := fun ⟨_, h, _⟩ => nomatch h
theorem or_chain {G0 G1 G2 X1 X2 W1 W2 : Prop} (e1 : G1 ∨ X1 ↔ G0 ∨ W1) (e2 : G2 ∨ X2 ↔ G1 ∨ W2) : (G2 ∨ X1 ∨ X2) ↔ (G0 ∨ W1 ∨ W2) := by
  constructor
  · rintro (h | h | h)
    · rcases e2.mp (.inl h) with h | h
      · exact (e1.mp (.inl h)).imp id .inl
      · exact .inr (.inr h)
    · exact (e1.mp (.inr h)).imp id .inl
    · rcases e2.mp (.inr h) with h | h
      · exact (e1.mp (.inl h)).imp id .inl
      · exact .inr (.inr h)
  · rintro (h | h | h)
    · rcases e1.mpr (.inl h) with h | h
      · exact (e2.mpr (.inl h)).imp id .inr
      · exact .inr (.inl h)
    · rcases e1.mpr (.inr h) with h | h
      · exact (e2.mpr (.inl h)).imp id .inr
      · exact .inr (.inl h)
    · exact (e2.mpr (.inr h)).imp id .inr
theorem ties_ok {n : Nat} {B : Int} {el : List Nat} {less : Nat} (hl : el[less]? = some less) : ∀ (ws : List (Int × Nat)) {kn : List Kn}, Gd n B el kn → (∀ q ∈ ws, el[root el q.2]? = some (root el q.2) ∧ -B ≤ q.1 ∧ q.1 ≤ B) →
    TieOk n B el kn (wsW (root el) less ws) (tiesF (root el) less ws kn).1 (tiesF (root el) less ws kn).2 ∧ (tiesF (root el) less ws kn).2.length ≤ ws.length
  | [], kn, G, _ => by
    refine ⟨⟨G, fun _ _ _ h => h, fun r s t => ?_, fun d hd => (nomatch hd), fun d hd => (nomatch hd)⟩, Nat.zero_le _⟩
    constructor
    · rintro (h | h)
      · exact .inl h
      · exact absurd h xs_nil
    · rintro (h | ⟨_, h, _⟩)
      · exact .inl h
      · cases h
  | (s, o) :: ws, kn, G, h => by
    obtain ⟨h1, h2⟩ := h (s, o) List.mem_cons_self
    obtain ⟨a, la⟩ := tie_ok (room := less) (step := s) (other := root el o) G hl h1 h2
    obtain ⟨b, lb⟩ := ties_ok hl ws a.gd fun q hq => h q (List.mem_cons_of_mem _ hq)
    refine ⟨⟨b.gd, fun r s t h => b.mono _ _ _ (a.mono _ _ _ h), fun r u t => ?_, fun d hd => ?_, fun d hd => ?_⟩, by simp [tiesF]; omega⟩
    · show gr (tiesF (root el) less ws _).1 r u t ∨ xs (root el) (_ ++ _) r u t ↔ _
      rw [xs_app]
      have e1 := a.all r u t
      have e2 := b.all r u t
      have e3 : wsW (root el) less ((s, o) :: ws) r u t ↔ way less s (root el o) r u t ∨ wsW (root el) less ws r u t := by
        unfold wsW
        constructor
        · rintro ⟨q, hq, h⟩
          rcases List.mem_cons.mp hq with e | e
          · subst e; exact .inl h
          · exact .inr ⟨q, e, h⟩
        · rintro (h | ⟨q, hq, h⟩)
          · exact ⟨_, List.mem_cons_self, h⟩
          · exact ⟨q, List.mem_cons_of_mem _ hq, h⟩
      rw [e3]
      exact or_chain e1 e2
    · rcases List.mem_append.mp hd with h | h
      · exact b.mono _ _ _ (a.one d h)
      · exact b.one d h
    · rcases List.mem_append.mp hd with h | h
      · exact a.st d h
      · exact b.st d h
def delF (more : Nat) : List (Int × Nat) → List Kn → List Kn
  | [], kn => kn
  | (s, o) :: ws, kn => delF more ws (if o = more then kn else kn.set o (fdrop ((kn[o]?).getD []) (-s)))
theorem delF_len (more : Nat) : ∀ (ws : List (Int × Nat)) (kn : List Kn), (delF more ws kn).length = kn.length
  | [], _ => rfl
  | (s, o) :: ws, kn => by rw [delF, delF_len more ws]; split <;> simp
theorem kv_del (more : Nat) : ∀ (ws : List (Int × Nat)) (kn : List Kn), (∀ q ∈ ws, q.2 < kn.length) → ∀ r s, kv (delF more ws kn) r s = if r ≠ more ∧ (-s, r) ∈ ws then none else kv kn r s
  | [], kn, _, r, s => by simp [delF]
  | (u, o) :: ws, kn, h, r, s => by
    have ho := h _ List.mem_cons_self
    have ih := kv_del more ws (if o = more then kn else kn.set o (fdrop ((kn[o]?).getD []) (-u))) (fun q hq => by
      have := h q (List.mem_cons_of_mem _ hq)
      split
      · exact this
      · rw [List.length_set]; exact this) r s
    rw [delF, ih]
    by_cases e : r ≠ more ∧ (-s, r) ∈ ws
    · rw [if_pos e, if_pos ⟨e.1, List.mem_cons_of_mem _ e.2⟩]
    · rw [if_neg e]
      by_cases e2 : r ≠ more ∧ (-s, r) ∈ (u, o) :: ws
      · rw [if_pos e2]
        have e3 : (-s, r) = (u, o) := by
          rcases List.mem_cons.mp e2.2 with h | h
          · exact h
          · exact absurd ⟨e2.1, h⟩ e
        have e4 : o = r := (congrArg Prod.snd e3).symm
        have e5 : u = -s := (congrArg Prod.fst e3).symm
        subst e4 e5
        rw [if_neg e2.1, kv_set _ ho, if_pos rfl, fget_drop, if_pos (by omega)]
      · rw [if_neg e2]
        split
        · rfl
        · next e3 =>
          rw [kv_set _ ho]
          split
          · next e4 =>
            subst e4
            rw [fget_drop, if_neg (fun z => e2 ⟨e3, by rw [z, Int.neg_neg]; exact List.mem_cons_self⟩)]
            rfl
          · rfl
theorem del_at (more : Nat) (Pr : Kn → Prop) (hd : ∀ m k, Pr m → Pr (fdrop m k)) : ∀ (ws : List (Int × Nat)) (kn : List Kn), (∀ q ∈ ws, q.2 < kn.length) → (∀ (i : Nat) (m : Kn), kn[i]? = some m → Pr m) → ∀ (i : Nat) (m : Kn), (delF more ws kn)[i]? = some m → Pr m
  | [], _, _, h, i, m, e => h i m e
  | (u, o) :: ws, kn, hl, h, i, m, e => by
    have ho := hl _ List.mem_cons_self
    refine del_at more Pr hd ws _ (fun q hq => ?_) (fun j m' hj => ?_) i m e
    · have := hl q (List.mem_cons_of_mem _ hq)
      split
      · exact this
      · rw [List.length_set]; exact this
    · split at hj
      · exact h j m' hj
      · rcases get_set hj with ⟨_, e2⟩ | ⟨_, e2⟩
        · subst e2
          rw [List.getElem?_eq_getElem ho]
          exact hd _ _ (h o _ (List.getElem?_eq_getElem ho))
        · exact h j m' e2
theorem root_le (el : List Nat) : ∀ r, root el r ≤ r := fun r => by
  induction r using Nat.strongRecOn with
  | _ r ih =>
    rw [root]
    split
    · next h => exact Nat.le_trans (ih _ h) (Nat.le_of_lt h)
    · exact Nat.le_refl _
theorem root_st {el : List Nat} (ok : ElOk el) : ∀ r, r < el.length → el[root el r]? = some (root el r) := fun r => by
  induction r using Nat.strongRecOn with
  | _ r ih =>
    intro hr
    have hv := List.getElem?_eq_getElem hr
    have hle := ok.le r _ hv
    generalize el[r] = v at hv hle
    by_cases e : v = r
    · subst e
      rw [root_eq hv]
      exact hv
    · rw [root_lt hv (by omega)]
      exact ih v (by omega) (by omega)
theorem root_set {el : List Nat} (ok : ElOk el) {less more : Nat} (hl : el[less]? = some less) (hm : el[more]? = some more) (h : less < more) : ∀ x, x < el.length → root (el.set more less) x = rn less more (root el x) := fun x => by
  induction x using Nat.strongRecOn with
  | _ x ih =>
    intro hx
    have hv := List.getElem?_eq_getElem hx
    have hle := ok.le x _ hv
    generalize el[x] = v at hv hle
    by_cases e : x = more
    · subst e
      rw [root_lt (el := el.set x less) (v := less) (List.getElem?_set_self hx) h, root_eq (el := el.set x less) (by rw [List.getElem?_set_ne (by omega)]; exact hl), root_eq hm]
      simp [rn]
    · have hs : (el.set more less)[x]? = some v := by rw [List.getElem?_set_ne (fun z => e z.symm)]; exact hv
      by_cases e2 : v = x
      · subst e2
        rw [root_eq hs, root_eq hv]
        simp [rn, e]
      · rw [root_lt hs (by omega), root_lt hv (by omega)]
        exact ih v (by omega) (by omega)
theorem ok_set {el : List Nat} (ok : ElOk el) {less more : Nat} (h : less < more) : ElOk (el.set more less) := ⟨fun i v hv => by
  rcases get_set hv with ⟨e, e2⟩ | ⟨_, e2⟩
  · subst e e2; omega
  · exact ok.le i v e2⟩
theorem st_set {el : List Nat} {less more r : Nat} (h : less < more) (hl : el[less]? = some less) (hr : el[r]? = some r) : (el.set more less)[rn less more r]? = some (rn less more r) := by
  unfold rn
  split
  · rw [List.getElem?_set_ne (by omega)]; exact hl
  · next e => rw [List.getElem?_set_ne (fun z => e z.symm)]; exact hr
def putF (el : List Nat) (kn : List Kn) (less more : Nat) : List Kn × List Du :=
  tiesF (root (el.set more less)) less ((kn[more]?).getD []) (delF more ((kn[more]?).getD []) (kn.set more []))
theorem fget_keys {m : Kn} {s : Int} {t : Nat} (h : (s, t) ∈ m) : s ∈ m.map (·.1) := List.mem_map.mpr ⟨_, h, rfl⟩
theorem gr_mem {n : Nat} {B : Int} {el : List Nat} {kn : List Kn} (G : Gd n B el kn) {r : Nat} (hr : r < n) {s : Int} {t : Nat} : (s, t) ∈ (kn[r]?).getD [] ↔ gr kn r s t := by
  have hl : r < kn.length := by rw [G.klen]; exact hr
  have hg := List.getElem?_eq_getElem hl
  unfold gr kv
  rw [hg]
  constructor
  · intro h
    exact fget_of_mem (G.nd r _ hg) h
  · intro h
    exact fget_mem h
theorem del_ok {n : Nat} {B : Int} {el : List Nat} {kn : List Kn} (G : Gd n B el kn) {less more : Nat} (hl : el[less]? = some less) (hm : el[more]? = some more) (h : less < more) :
    Gd n B (el.set more less) (delF more ((kn[more]?).getD []) (kn.set more [])) := by
  have hmn : more < n := by rw [← G.elen]; exact stand_lt hm
  have hml : more < kn.length := by rw [G.klen]; exact hmn
  have hws : ∀ q, q ∈ (kn[more]?).getD [] ↔ gr kn more q.1 q.2 := fun q => gr_mem G hmn
  have hq2 : ∀ q ∈ (kn[more]?).getD [], q.2 < (kn.set more []).length := fun q hq => by
    rw [List.length_set, G.klen, ← G.elen]
    exact stand_lt (G.ends _ _ _ ((hws q).mp hq)).2
  have k2 : ∀ r s, kv (delF more ((kn[more]?).getD []) (kn.set more [])) r s = if r = more ∨ kv kn r s = some more then none else kv kn r s := fun r s => by
    rw [kv_del more _ _ hq2, kv_set _ hml]
    by_cases e : r = more
    · rw [if_neg (fun z => z.1 e), if_pos e, if_pos (.inl e)]; rfl
    · rw [if_neg e]
      by_cases e2 : kv kn r s = some more
      · rw [if_pos ⟨e, (hws (-s, r)).mpr (G.back _ _ _ e2)⟩, if_pos (.inr e2)]
      · rw [if_neg (fun z => e2 (by have := G.back _ _ _ ((hws (-s, r)).mp z.2); rw [Int.neg_neg] at this; exact this)), if_neg (fun z => z.elim e e2)]
  have g2 : ∀ r s t, gr (delF more ((kn[more]?).getD []) (kn.set more [])) r s t ↔ gr kn r s t ∧ r ≠ more ∧ t ≠ more := fun r s t => by
    unfold gr
    rw [k2]
    constructor
    · intro h
      split at h
      · cases h
      · next e => exact ⟨h, fun z => e (.inl z), fun z => e (.inr (z ▸ h))⟩
    · rintro ⟨h, h1, h2⟩
      rw [if_neg (fun z => z.elim h1 (fun z => by rw [h] at z; exact h2 (Option.some.inj z)))]
      exact h
  have st2 : ∀ r, el[r]? = some r → r ≠ more → (el.set more less)[r]? = some r := fun r hr e => by rw [List.getElem?_set_ne (fun z => e z.symm)]; exact hr
  have G2 : Gd n B (el.set more less) (delF more ((kn[more]?).getD []) (kn.set more [])) := by
    refine ⟨ok_set G.ok h, by simp [G.elen], by simp [delF_len, G.klen], fun r s t hh => ?_, fun r s t hh => ?_, fun r m hh => ?_, fun r m hh => ?_⟩
    · obtain ⟨h1, h2, h3⟩ := (g2 r s t).mp hh
      obtain ⟨h4, h5⟩ := G.ends r s t h1
      exact ⟨st2 r h4 h2, st2 t h5 h3⟩
    · obtain ⟨h1, h2, h3⟩ := (g2 r s t).mp hh
      exact (g2 _ _ _).mpr ⟨G.back r s t h1, h3, h2⟩
    · refine del_at more (fun m => (m.map (·.1)).Nodup) (fun m k h => fnodup_drop h k) _ _ hq2 (fun i m hi => ?_) r m hh
      rcases get_set hi with ⟨_, e2⟩ | ⟨_, e2⟩
      · subst e2; exact List.nodup_nil
      · exact G.nd i m e2
    · refine del_at more (fun m => ∀ s ∈ m.map (·.1), -B ≤ s ∧ s ≤ B) (fun m k h s hs => h s ?_) _ _ hq2 (fun i m hi => ?_) r m hh
      · obtain ⟨q, hq, e⟩ := List.mem_map.mp hs
        exact List.mem_map.mpr ⟨q, (List.mem_filter.mp hq).1, e⟩
      · rcases get_set hi with ⟨_, e2⟩ | ⟨_, e2⟩
        · subst e2; intro s hs; cases hs
        · exact G.bd i m e2
  exact G2
theorem tiesF_snoc (f : Nat → Nat) (less : Nat) (x : Int × Nat) : ∀ (ws : List (Int × Nat)) (kn : List Kn), tiesF f less (ws ++ [x]) kn = ((tieF (tiesF f less ws kn).1 less x.1 (f x.2)).1, (tiesF f less ws kn).2 ++ (tieF (tiesF f less ws kn).1 less x.1 (f x.2)).2)
  | [], kn => by simp [tiesF]
  | (s, o) :: ws, kn => by
    rw [List.cons_append, tiesF, tiesF_snoc f less x ws, tiesF]
    simp
theorem put_ok {n : Nat} {B : Int} {el : List Nat} {kn : List Kn} (G : Gd n B el kn) {less more : Nat} (hl : el[less]? = some less) (hm : el[more]? = some more) (h : less < more) :
    Gd n B (el.set more less) (putF el kn less more).1 ∧ (∀ r s t, gr (putF el kn less more).1 r s t ∨ xs (root (el.set more less)) (putF el kn less more).2 r s t ↔ ren less more (gr kn) r s t) ∧
    (∀ d ∈ (putF el kn less more).2, gr (putF el kn less more).1 d.1 d.2.1 d.2.2.1) ∧ (∀ d ∈ (putF el kn less more).2, (el.set more less)[d.1]? = some d.1 ∧ (el.set more less)[d.2.2.1]? = some d.2.2.1 ∧ (el.set more less)[d.2.2.2]? = some d.2.2.2 ∧ -B ≤ d.2.1 ∧ d.2.1 ≤ B) ∧ (putF el kn less more).2.length ≤ ((kn[more]?).getD []).length := by
  have hmn : more < n := by rw [← G.elen]; exact stand_lt hm
  have hml : more < kn.length := by rw [G.klen]; exact hmn
  have hws : ∀ q, q ∈ (kn[more]?).getD [] ↔ gr kn more q.1 q.2 := fun q => gr_mem G hmn
  have hq2 : ∀ q ∈ (kn[more]?).getD [], q.2 < (kn.set more []).length := fun q hq => by
    rw [List.length_set, G.klen, ← G.elen]
    exact stand_lt (G.ends _ _ _ ((hws q).mp hq)).2
  have k2 : ∀ r s, kv (delF more ((kn[more]?).getD []) (kn.set more [])) r s = if r = more ∨ kv kn r s = some more then none else kv kn r s := fun r s => by
    rw [kv_del more _ _ hq2, kv_set _ hml]
    by_cases e : r = more
    · rw [if_neg (fun z => z.1 e), if_pos e, if_pos (.inl e)]; rfl
    · rw [if_neg e]
      by_cases e2 : kv kn r s = some more
      · rw [if_pos ⟨e, (hws (-s, r)).mpr (G.back _ _ _ e2)⟩, if_pos (.inr e2)]
      · rw [if_neg (fun z => e2 (by have := G.back _ _ _ ((hws (-s, r)).mp z.2); rw [Int.neg_neg] at this; exact this)), if_neg (fun z => z.elim e e2)]
  have g2 : ∀ r s t, gr (delF more ((kn[more]?).getD []) (kn.set more [])) r s t ↔ gr kn r s t ∧ r ≠ more ∧ t ≠ more := fun r s t => by
    unfold gr
    rw [k2]
    constructor
    · intro h
      split at h
      · cases h
      · next e => exact ⟨h, fun z => e (.inl z), fun z => e (.inr (z ▸ h))⟩
    · rintro ⟨h, h1, h2⟩
      rw [if_neg (fun z => z.elim h1 (fun z => by rw [h] at z; exact h2 (Option.some.inj z)))]
      exact h
  have st2 : ∀ r, el[r]? = some r → r ≠ more → (el.set more less)[r]? = some r := fun r hr e => by rw [List.getElem?_set_ne (fun z => e z.symm)]; exact hr
  have G2 : Gd n B (el.set more less) (delF more ((kn[more]?).getD []) (kn.set more [])) := by
    refine ⟨ok_set G.ok h, by simp [G.elen], by simp [delF_len, G.klen], fun r s t hh => ?_, fun r s t hh => ?_, fun r m hh => ?_, fun r m hh => ?_⟩
    · obtain ⟨h1, h2, h3⟩ := (g2 r s t).mp hh
      obtain ⟨h4, h5⟩ := G.ends r s t h1
      exact ⟨st2 r h4 h2, st2 t h5 h3⟩
    · obtain ⟨h1, h2, h3⟩ := (g2 r s t).mp hh
      exact (g2 _ _ _).mpr ⟨G.back r s t h1, h3, h2⟩
    · refine del_at more (fun m => (m.map (·.1)).Nodup) (fun m k h => fnodup_drop h k) _ _ hq2 (fun i m hi => ?_) r m hh
      rcases get_set hi with ⟨_, e2⟩ | ⟨_, e2⟩
      · subst e2; exact List.nodup_nil
      · exact G.nd i m e2
    · refine del_at more (fun m => ∀ s ∈ m.map (·.1), -B ≤ s ∧ s ≤ B) (fun m k h s hs => h s ?_) _ _ hq2 (fun i m hi => ?_) r m hh
      · obtain ⟨q, hq, e⟩ := List.mem_map.mp hs
        exact List.mem_map.mpr ⟨q, (List.mem_filter.mp hq).1, e⟩
      · rcases get_set hi with ⟨_, e2⟩ | ⟨_, e2⟩
        · subst e2; intro s hs; cases hs
        · exact G.bd i m e2
  have hls : (el.set more less)[less]? = some less := st2 less hl (by omega)
  have rts : ∀ r, el[r]? = some r → root (el.set more less) r = rn less more r := fun r hr => by
    rw [root_set G.ok hl hm h r (stand_lt hr), root_eq hr]
  obtain ⟨a, la⟩ := ties_ok hls ((kn[more]?).getD []) G2 fun q hq => by
    have hg := (hws q).mp hq
    have hs := (G.ends _ _ _ hg).2
    refine ⟨root_st (ok_set G.ok h) q.2 (by rw [List.length_set]; exact stand_lt hs), ?_⟩
    rw [List.getElem?_eq_getElem hml] at hq
    exact G.bd more _ (List.getElem?_eq_getElem hml) q.1 (List.mem_map.mpr ⟨q, hq, rfl⟩)
  refine ⟨a.gd, fun r s t => ?_, a.one, a.st, la⟩
  show gr (tiesF _ _ _ _).1 r s t ∨ xs _ (tiesF _ _ _ _).2 r s t ↔ _
  rw [a.all, g2]
  constructor
  · rintro (⟨h1, h2, h3⟩ | ⟨q, hq, hw⟩)
    · exact ⟨r, t, h1, if_neg h2, if_neg h3⟩
    · have hg := (hws q).mp hq
      have hs := (G.ends _ _ _ hg).2
      rw [rts q.2 hs] at hw
      rcases hw with ⟨rfl, rfl, rfl⟩ | ⟨rfl, rfl, rfl⟩
      · exact ⟨more, q.2, hg, if_pos rfl, rfl⟩
      · exact ⟨q.2, more, G.back _ _ _ hg, rfl, if_pos rfl⟩
  · rintro ⟨x, y, hg, rfl, rfl⟩
    obtain ⟨hx, hy⟩ := G.ends _ _ _ hg
    by_cases e1 : x = more
    · subst e1
      refine .inr ⟨(s, y), (hws (s, y)).mpr hg, .inl ⟨if_pos rfl, rfl, ?_⟩⟩
      rw [rts y hy]
    · by_cases e2 : y = more
      · subst e2
        refine .inr ⟨(-s, x), (hws (-s, x)).mpr (G.back _ _ _ hg), .inr ⟨if_pos rfl, by simp, ?_⟩⟩
        rw [rts x hx]
      · refine .inl ⟨?_, ?_, ?_⟩
        · rw [rn, rn, if_neg e1, if_neg e2]; exact hg
        · rw [rn, if_neg e1]; exact e1
        · rw [rn, if_neg e2]; exact e2
/-! ### the row of meetings -/
abbrev Mr := Nat × Int × Nat × Nat
inductive Mt : Wy → List Mr → Wy → (Nat → Nat) → Prop where
  | nil (Q : Wy) : Mt Q [] Q id
  | cons {Q Q' : Wy} {a : Nat} {s : Int} {less more : Nat} {ms : List Mr} {g : Nat → Nat} : Q a s less → Q a s more → less < more → Mt (ren less more Q) ms Q' g → Mt Q ((a, s, less, more) :: ms) Q' (fun x => g (rn less more x))
theorem Mt.snoc {Q Q' : Wy} {ms : List Mr} {g : Nat → Nat} (h : Mt Q ms Q' g) : ∀ {a : Nat} {s : Int} {less more : Nat}, Q' a s less → Q' a s more → less < more → Mt Q (ms ++ [(a, s, less, more)]) (ren less more Q') (fun x => rn less more (g x)) := by
  induction h with
  | nil Q => intro a s less more h1 h2 h3; exact .cons h1 h2 h3 (.nil _)
  | cons k1 k2 k3 _ ih => intro a s less more h1 h2 h3; exact .cons k1 k2 k3 (ih h1 h2 h3)
def Bk (f : Nat → Nat) (kn : List Kn) : List Du → Prop
  | [] => True
  | d :: ds => (gr kn (f d.1) d.2.1 (f d.2.2.1) ∨ xs f ds (f d.1) d.2.1 (f d.2.2.1)) ∧ Bk f kn ds
structure LInv (n : Nat) (B : Int) (Q0 : Wy) (el0 : List Nat) (el : List Nat) (kn : List Kn) (due : List Du) (ms : List Mr) : Prop where
  gd : Gd n B el kn
  bk : Bk (root el) kn due
  st : ∀ d ∈ due, d.1 < n ∧ d.2.2.1 < n ∧ d.2.2.2 < n ∧ -B ≤ d.2.1 ∧ d.2.1 ≤ B
  mt : ∃ g, Mt Q0 ms (fun r s t => gr kn r s t ∨ xs (root el) due r s t) g ∧ ∀ x, x < n → root el x = g (root el0 x)
theorem wy_ext {Q Q' : Wy} (h : ∀ r s t, Q r s t ↔ Q' r s t) : Q = Q' := by
  funext r s t
  exact propext (h r s t)
theorem Bk.one {f : Nat → Nat} {kn : List Kn} : ∀ {ds : List Du}, (∀ d ∈ ds, gr kn (f d.1) d.2.1 (f d.2.2.1)) → Bk f kn ds
  | [], _ => trivial
  | d :: ds, h => ⟨.inl (h d List.mem_cons_self), Bk.one fun e he => h e (List.mem_cons_of_mem _ he)⟩
theorem LInv.start {n : Nat} {B : Int} {el : List Nat} {kn : List Kn} (G : Gd n B el kn) {room other : Nat} {step : Int} (hr : el[room]? = some room) (ho : el[other]? = some other) (hs : -B ≤ step ∧ step ≤ B) :
    LInv n B (fun r s t => gr kn r s t ∨ way room step other r s t) el el (tieF kn room step other).1 (tieF kn room step other).2 [] := by
  obtain ⟨a, la⟩ := tie_ok G hr ho hs
  refine ⟨a.gd, Bk.one fun d hd => ?_, fun d hd => ?_, id, ?_, fun _ _ => rfl⟩
  · obtain ⟨h1, h2, h3, h4⟩ := a.st d hd
    rw [root_eq h1, root_eq h2]
    exact a.one d hd
  · obtain ⟨h1, h2, h3, h4⟩ := a.st d hd
    rw [← G.elen]
    exact ⟨stand_lt h1, stand_lt h2, stand_lt h3, h4⟩
  · rw [wy_ext a.all]
    exact .nil _
theorem xs_back {f : Nat → Nat} {ds : List Du} {r : Nat} {s : Int} {t : Nat} (h : xs f ds r s t) : xs f ds t (-s) r := by
  obtain ⟨d, hd, h⟩ := h
  exact ⟨d, hd, way_back h⟩
theorem LInv.same {n : Nat} {B : Int} {Q0 : Wy} {el0 el : List Nat} {kn : List Kn} {d : Du} {due : List Du} {ms : List Mr} (h : LInv n B Q0 el0 el kn (d :: due) ms) (e : root el d.2.2.1 = root el d.2.2.2) : LInv n B Q0 el0 el kn due ms := by
  refine ⟨h.gd, h.bk.2, fun d hd => h.st d (List.mem_cons_of_mem _ hd), ?_⟩
  obtain ⟨g, hm, hg⟩ := h.mt
  refine ⟨g, ?_, hg⟩
  have : (fun r s t => gr kn r s t ∨ xs (root el) (d :: due) r s t) = fun r s t => gr kn r s t ∨ xs (root el) due r s t := by
    refine wy_ext fun r s t => ?_
    constructor
    · rintro (h1 | ⟨d', hd, hw⟩)
      · exact .inl h1
      · rcases List.mem_cons.mp hd with e2 | e2
        · subst e2
          rw [← e] at hw
          rcases hw with ⟨rfl, rfl, rfl⟩ | ⟨rfl, rfl, rfl⟩
          · exact h.bk.1
          · rcases h.bk.1 with h1 | h1
            · exact .inl (h.gd.back _ _ _ h1)
            · exact .inr (xs_back h1)
        · exact .inr ⟨d', e2, hw⟩
    · rintro (h1 | ⟨d', hd, hw⟩)
      · exact .inl h1
      · exact .inr ⟨d', List.mem_cons_of_mem _ hd, hw⟩
  rw [← this]
  exact hm
theorem ren_or {less more : Nat} {Q R : Wy} {r : Nat} {s : Int} {t : Nat} : ren less more (fun r s t => Q r s t ∨ R r s t) r s t ↔ ren less more Q r s t ∨ ren less more R r s t := by
  constructor
  · rintro ⟨a, b, h | h, e1, e2⟩
    · exact .inl ⟨a, b, h, e1, e2⟩
    · exact .inr ⟨a, b, h, e1, e2⟩
  · rintro (⟨a, b, h, e1, e2⟩ | ⟨a, b, h, e1, e2⟩)
    · exact ⟨a, b, .inl h, e1, e2⟩
    · exact ⟨a, b, .inr h, e1, e2⟩
theorem ren_xs {f g : Nat → Nat} {less more : Nat} {ds : List Du} (h : ∀ d ∈ ds, g d.1 = rn less more (f d.1) ∧ g d.2.2.2 = rn less more (f d.2.2.2)) {r : Nat} {s : Int} {t : Nat} : ren less more (xs f ds) r s t ↔ xs g ds r s t := by
  constructor
  · rintro ⟨a, b, ⟨d, hd, hw⟩, e1, e2⟩
    refine ⟨d, hd, ?_⟩
    obtain ⟨h1, h2⟩ := h d hd
    rw [h1, h2]
    exact ren_way.mp ⟨a, b, hw, e1, e2⟩
  · rintro ⟨d, hd, hw⟩
    obtain ⟨h1, h2⟩ := h d hd
    rw [h1, h2] at hw
    obtain ⟨a, b, hw, e1, e2⟩ := ren_way.mpr hw
    exact ⟨a, b, ⟨d, hd, hw⟩, e1, e2⟩
theorem xs_sub {f : Nat → Nat} {ds es : List Du} (h : ∀ d ∈ ds, d ∈ es) {r : Nat} {s : Int} {t : Nat} (hx : xs f ds r s t) : xs f es r s t := by
  obtain ⟨d, hd, hw⟩ := hx
  exact ⟨d, h d hd, hw⟩
theorem Bk.move {f g : Nat → Nat} {kn kn' : List Kn} {less more : Nat} {new : List Du} (hg : ∀ r s t, ren less more (gr kn) r s t → gr kn' r s t ∨ xs g new r s t) (hn : Bk g kn' new) : ∀ {ds : List Du}, (∀ d ∈ ds, g d.1 = rn less more (f d.1) ∧ g d.2.2.1 = rn less more (f d.2.2.1) ∧ g d.2.2.2 = rn less more (f d.2.2.2)) → Bk f kn ds → Bk g kn' (ds ++ new)
  | [], _, _ => hn
  | d :: ds, h, k => by
    refine ⟨?_, Bk.move hg hn (fun e he => h e (List.mem_cons_of_mem _ he)) k.2⟩
    obtain ⟨h1, h2, _⟩ := h d List.mem_cons_self
    rw [h1, h2]
    rcases k.1 with k1 | k1
    · exact (hg _ _ _ ⟨_, _, k1, rfl, rfl⟩).imp id (xs_sub fun d hd => List.mem_append_right _ hd)
    · exact .inr (xs_sub (fun d hd => List.mem_append_left _ hd) ((ren_xs fun e he => ⟨(h e (List.mem_cons_of_mem _ he)).1, (h e (List.mem_cons_of_mem _ he)).2.2⟩).mp ⟨_, _, k1, rfl, rfl⟩))
theorem LInv.meet {n : Nat} {B : Int} {Q0 : Wy} {el0 el : List Nat} {kn : List Kn} {d : Du} {due : List Du} {ms : List Mr} (h : LInv n B Q0 el0 el kn (d :: due) ms) {less more : Nat} (hlt : less < more)
    (e : (less = root el d.2.2.1 ∧ more = root el d.2.2.2) ∨ (less = root el d.2.2.2 ∧ more = root el d.2.2.1)) :
    LInv n B Q0 el0 (el.set more less) (putF el kn less more).1 (due ++ (putF el kn less more).2) (ms ++ [(root el d.1, d.2.1, less, more)]) := by
  obtain ⟨d1, d2, d3, d4⟩ := h.st d List.mem_cons_self
  have G := h.gd
  have r2 := root_st G.ok d.2.2.1 (by rw [G.elen]; exact d2)
  have r3 := root_st G.ok d.2.2.2 (by rw [G.elen]; exact d3)
  have hl : el[less]? = some less := by rcases e with ⟨e, _⟩ | ⟨e, _⟩ <;> rw [e] <;> assumption
  have hm : el[more]? = some more := by rcases e with ⟨_, e⟩ | ⟨_, e⟩ <;> rw [e] <;> assumption
  have rs := root_set G.ok hl hm hlt
  obtain ⟨p1, p2, p3, p4, p5⟩ := put_ok G hl hm hlt
  have nst : ∀ d ∈ (putF el kn less more).2, d.1 < n ∧ d.2.2.1 < n ∧ d.2.2.2 < n ∧ -B ≤ d.2.1 ∧ d.2.1 ≤ B := fun d hd => by
    obtain ⟨h1, h2, h3, h4⟩ := p4 d hd
    have l1 := stand_lt h1
    have l2 := stand_lt h2
    have l3 := stand_lt h3
    rw [List.length_set, G.elen] at l1 l2 l3
    exact ⟨l1, l2, l3, h4⟩
  have fs : ∀ d ∈ due, root (el.set more less) d.1 = rn less more (root el d.1) ∧ root (el.set more less) d.2.2.1 = rn less more (root el d.2.2.1) ∧ root (el.set more less) d.2.2.2 = rn less more (root el d.2.2.2) := fun d hd => by
    obtain ⟨h1, h2, h3, _⟩ := h.st d (List.mem_cons_of_mem _ hd)
    rw [← G.elen] at h1 h2 h3
    exact ⟨rs _ h1, rs _ h2, rs _ h3⟩
  have hn : Bk (root (el.set more less)) (putF el kn less more).1 (putF el kn less more).2 := Bk.one fun d hd => by
    obtain ⟨h1, h2, _⟩ := p4 d hd
    rw [root_eq h1, root_eq h2]
    exact p3 d hd
  have e12 : rn less more (root el d.2.2.1) = rn less more (root el d.2.2.2) := by
    unfold rn
    rcases e with ⟨e1, e2⟩ | ⟨e1, e2⟩
    · rw [← e1, ← e2]; simp
    · rw [← e1, ← e2]; simp
  refine ⟨p1, Bk.move (f := root el) (kn := kn) (fun r s t h => (p2 r s t).mpr h) hn fs h.bk.2, fun d hd => ?_, ?_⟩
  · rcases List.mem_append.mp hd with hd | hd
    · exact h.st d (List.mem_cons_of_mem _ hd)
    · exact nst d hd
  · obtain ⟨g, hmt, hg⟩ := h.mt
    refine ⟨fun x => rn less more (g x), ?_, fun x hx => by rw [rs x (by rw [G.elen]; exact hx), hg x hx]⟩
    have q1 : (fun r s t => gr kn r s t ∨ xs (root el) (d :: due) r s t) (root el d.1) d.2.1 (root el d.2.2.1) := by
      rcases h.bk.1 with k | k
      · exact .inl k
      · exact .inr (xs_sub (fun e he => List.mem_cons_of_mem _ he) k)
    have q2 : (fun r s t => gr kn r s t ∨ xs (root el) (d :: due) r s t) (root el d.1) d.2.1 (root el d.2.2.2) := .inr ⟨d, List.mem_cons_self, way_self⟩
    have fin : ren less more (fun r s t => gr kn r s t ∨ xs (root el) (d :: due) r s t) = fun r s t => gr (putF el kn less more).1 r s t ∨ xs (root (el.set more less)) (due ++ (putF el kn less more).2) r s t := by
      refine wy_ext fun r s t => ?_
      rw [ren_or, xs_app, ← p2 r s t]
      have hd : ren less more (xs (root el) due) r s t ↔ xs (root (el.set more less)) due r s t := ren_xs fun e he => ⟨(fs e he).1, (fs e he).2.2⟩
      rw [← hd]
      constructor
      · rintro ((h1 | h1) | ⟨a, b, ⟨d', hd', hw⟩, e1, e2⟩)
        · exact .inl h1
        · exact .inr (.inr h1)
        · rcases List.mem_cons.mp hd' with e3 | e3
          · subst e3
            have hw2 := ren_way.mp ⟨a, b, hw, e1, e2⟩
            rw [← e12] at hw2
            have key : ∀ r s t, ren less more (fun r s t => gr kn r s t ∨ xs (root el) due r s t) r s t → gr (putF el kn less more).1 r s t ∨ ren less more (xs (root el) due) r s t ∨ xs (root (el.set more less)) (putF el kn less more).2 r s t := fun r s t k => by
              rcases ren_or.mp k with k | k
              · exact ((p2 r s t).mpr k).imp id .inr
              · exact .inr (.inl k)
            rcases hw2 with ⟨rfl, rfl, rfl⟩ | ⟨rfl, rfl, rfl⟩
            · exact key _ _ _ ⟨_, _, h.bk.1, rfl, rfl⟩
            · refine key _ _ _ ⟨_, _, ?_, rfl, rfl⟩
              rcases h.bk.1 with k | k
              · exact .inl (G.back _ _ _ k)
              · exact .inr (xs_back k)
          · exact .inr (.inl ⟨a, b, ⟨d', e3, hw⟩, e1, e2⟩)
      · rintro (h1 | ⟨a, b, h1, e1, e2⟩ | h1)
        · exact .inl (.inl h1)
        · exact .inr ⟨a, b, xs_sub (fun e he => List.mem_cons_of_mem _ he) h1, e1, e2⟩
        · exact .inl (.inr h1)
    rw [← fin]
    rcases e with ⟨e1, e2⟩ | ⟨e1, e2⟩
    · exact hmt.snoc (by rw [e1]; exact q1) (by rw [e2]; exact q2) hlt
    · exact hmt.snoc (by rw [e1]; exact q2) (by rw [e2]; exact q1) hlt
theorem Mt.le {Q Q' : Wy} {ms : List Mr} {g : Nat → Nat} (h : Mt Q ms Q' g) : ∀ x, g x ≤ x := by
  induction h with
  | nil Q => exact fun x => Nat.le_refl _
  | cons k1 k2 k3 _ ih =>
    intro x
    refine Nat.le_trans (ih _) ?_
    unfold rn
    split <;> omega
/-- how many ways a room can have -/
theorem nodup_len2 {α : Type} [BEq α] [LawfulBEq α] : ∀ {l m : List α}, l.Nodup → (∀ x ∈ l, x ∈ m) → l.length ≤ m.length
  | [], _, _, _ => Nat.zero_le _
  | x :: l, m, h, hs => by
    have hx := hs x List.mem_cons_self
    obtain ⟨h1, h2⟩ := List.nodup_cons.mp h
    have := nodup_len2 (m := m.erase x) h2 fun y hy => (List.mem_erase_of_ne (fun e => by subst e; exact h1 hy)).mpr (hs y (List.mem_cons_of_mem _ hy))
    have hl := List.length_erase_of_mem hx
    have := List.length_pos_of_mem hx
    simp
    omega
theorem keys_count {B : Nat} {l : List Int} (nd : l.Nodup) (h : ∀ s ∈ l, -(B : Int) ≤ s ∧ s ≤ B) : l.length ≤ 2 * B + 1 := by
  have h2 := nodup_len2 (m := (List.range (2 * B + 1)).map fun k : Nat => (k : Int) - B) nd fun s hs => by
    have := h s hs
    refine List.mem_map.mpr ⟨(s + (B : Int)).toNat, List.mem_range.mpr (by omega), by omega⟩
  simpa using h2

/-! ### laying, walked -/
theorem ne_of {x y : Addr} {l : List Addr} (h : x ∉ l) (m : y ∈ l) : x ≠ y := fun z => h (z ▸ m)
theorem delF_snoc (more : Nat) (x : Int × Nat) : ∀ (ws : List (Int × Nat)) (kn : List Kn), delF more (ws ++ [x]) kn = if x.2 = more then delF more ws kn else (delF more ws kn).set x.2 (fdrop (((delF more ws kn)[x.2]?).getD []) (-x.1))
  | [], kn => rfl
  | (s, o) :: ws, kn => by
    rw [List.cons_append, delF, delF_snoc more x ws, delF]
theorem Rm.setKn {w : Om} {p : Addr} {r : RP} {S : RS} (R : Rm w p r S) {i : Nat} {a : Addr} (ha : r.ks[i]? = some a) (m : Kn) : Rm (updW w a (.dK (kvD m))) p r { S with kn := S.kn.set i m } := by
  obtain ⟨npe, npk, npt, npks, nek, net, neks, nkt, nkks, ntks, nks⟩ := R.ne
  have hac := List.mem_of_getElem? ha
  refine ⟨?_, ?_, ?_, ?_, fun j b mm hj hm => ?_, by simp [R.len], by simp [R.len2], R.nd⟩
  · rw [updW_ne (ne_of npks hac)]; exact R.ins
  · rw [updW_ne (ne_of neks hac)]; exact R.el
  · rw [updW_ne (ne_of nkks hac)]; exact R.kl
  · rw [updW_ne (ne_of ntks hac)]; exact R.td
  · rcases get_set hm with ⟨e, e2⟩ | ⟨e, e2⟩
    · subst e e2
      rw [ha] at hj
      cases hj
      exact updW_same
    · rw [updW_ne]
      · exact R.kn j b mm hj e2
      · intro z
        subst z
        obtain ⟨g1, g2⟩ := List.getElem?_eq_some_iff.mp ha
        obtain ⟨g3, g4⟩ := List.getElem?_eq_some_iff.mp hj
        rcases Nat.lt_trichotomy i j with h | h | h
        · exact List.pairwise_iff_getElem.mp nks i j g1 g3 h (g2.trans g4.symm)
        · exact e h
        · exact List.pairwise_iff_getElem.mp nks j i g3 g1 h (g4.trans g2.symm)
theorem Rm.setTold {w : Om} {p : Addr} {r : RP} {S : RS} (R : Rm w p r S) (T : List D) : Rm (updW w r.t (.lst T)) p r { S with told := T } := by
  obtain ⟨npe, npk, npt, npks, nek, net, neks, nkt, nkks, ntks, nks⟩ := R.ne
  refine ⟨?_, ?_, ?_, updW_same, fun j b mm hj hm => ?_, R.len, R.len2, R.nd⟩
  · rw [updW_ne npt]; exact R.ins
  · rw [updW_ne net]; exact R.el
  · rw [updW_ne nkt]; exact R.kl
  · rw [updW_ne (ne_of ntks (List.mem_of_getElem? hj)).symm]; exact R.kn j b mm hj hm
theorem Rm.setEl {w : Om} {p : Addr} {r : RP} {S : RS} (R : Rm w p r S) {E : List Nat} (hE : E.length = S.el.length) : Rm (updW w r.e (.lst (E.map fun n : Nat => D.int n))) p r { S with el := E } := by
  obtain ⟨npe, npk, npt, npks, nek, net, neks, nkt, nkks, ntks, nks⟩ := R.ne
  refine ⟨?_, updW_same, ?_, ?_, fun j b mm hj hm => ?_, R.len, by rw [hE]; exact R.len2, R.nd⟩
  · rw [updW_ne npe]
    show w p = some (.ins "Rooms" (rmF S.l E.length r.e r.k r.t))
    rw [hE]; exact R.ins
  · rw [updW_ne nek.symm]; exact R.kl
  · rw [updW_ne net.symm]; exact R.td
  · rw [updW_ne (ne_of neks (List.mem_of_getElem? hj)).symm]; exact R.kn j b mm hj hm
theorem Rm.newKn {w : Om} {p : Addr} {r : RP} {S : RS} (R : Rm w p r S) {i : Nat} {c : Addr} (hi : i < r.ks.length) (hc : w c = none) (m : Kn) : Rm (updW (updW w c (.dK (kvD m))) r.k (.lst ((r.ks.set i c).map D.ref))) p { r with ks := r.ks.set i c } { S with kn := S.kn.set i m } := by
  obtain ⟨npe, npk, npt, npks, nek, net, neks, nkt, nkks, ntks, nks⟩ := R.ne
  have no : ∀ b ∈ r.fp p, b ≠ c := fun b hb z => R.there b hb (z ▸ hc)
  have npc : p ≠ c := no _ (by simp [RP.fp])
  have nec : r.e ≠ c := no _ (by simp [RP.fp])
  have nkc : r.k ≠ c := no _ (by simp [RP.fp])
  have ntc : r.t ≠ c := no _ (by simp [RP.fp])
  have nsc : c ∉ r.ks := fun z => no c (by simp [RP.fp, z]) rfl
  have mset : ∀ {b}, b ∈ r.ks.set i c → b = c ∨ b ∈ r.ks := fun {b} hb => by
    rcases List.mem_or_eq_of_mem_set hb with h | h
    · exact .inr h
    · exact .inl h
  refine ⟨?_, ?_, updW_same, ?_, fun j b mm hj hm => ?_, by simp [R.len], by simp [R.len2], ?_⟩
  · rw [updW_ne npk, updW_ne npc]; exact R.ins
  · rw [updW_ne nek, updW_ne nec]; exact R.el
  · rw [updW_ne nkt.symm, updW_ne ntc]; exact R.td
  · rcases get_set hj with ⟨e, e2⟩ | ⟨e, e2⟩
    · subst e e2
      rw [updW_ne nkc.symm, updW_same]
      rcases get_set hm with ⟨_, e2⟩ | ⟨e, _⟩
      · rw [e2]
      · exact absurd rfl e
    · have hb := List.mem_of_getElem? e2
      rw [updW_ne (ne_of nkks hb).symm, updW_ne (ne_of nsc hb).symm]
      rcases get_set hm with ⟨e3, _⟩ | ⟨_, e3⟩
      · exact absurd e3 e
      · exact R.kn j b mm e2 e3
  · unfold RP.fp
    simp only [List.nodup_cons, List.mem_cons, not_or]
    refine ⟨⟨npe, npk, npt, fun z => (mset z).elim npc npks⟩, ⟨nek, net, fun z => (mset z).elim nec neks⟩, ⟨nkt, fun z => (mset z).elim nkc nkks⟩, fun z => (mset z).elim ntc ntks, ?_⟩
    rw [List.nodup_iff_pairwise_ne, List.pairwise_iff_getElem]
    intro x y hx hy hxy z
    rw [List.length_set] at hx hy
    rw [List.getElem_set, List.getElem_set] at z
    have nn : ∀ (x : Nat) (hx : x < r.ks.length), r.ks[x] ≠ c := fun x hx z => nsc (z ▸ List.getElem_mem hx)
    split at z
    · split at z
      · omega
      · exact nn _ hy z.symm
    · split at z
      · exact nn _ hx z
      · exact List.pairwise_iff_getElem.mp nks x y hx hy hxy z
theorem Rm.nol {w : Om} {p : Addr} {r : RP} {S : RS} (R : Rm w p r S) {i : Nat} {a : Addr} (h : r.ks[i]? = some a) : a ∈ r.fp p := by simp [RP.fp, List.mem_of_getElem? h]
def duD (d : Du) : D := .tup [.int d.1, .int d.2.1, .int d.2.2.1, .int d.2.2.2]
def T_Rooms_tie : DSp := fun ds w P => ∃ (p : Addr) (r : RP) (S : RS) (room : Nat) (step : Int) (other : Nat) (da : Addr) (due : List Du), ds = [.ref p, .int room, .int step, .int other, .ref da] ∧ Rm w p r S ∧ w da = some (.lst (due.map duD)) ∧ da ∉ r.fp p ∧ room < S.kn.length ∧ other < S.kn.length ∧ due.length ≤ 1000000 ∧ (∀ (i : Nat) (m : Kn), S.kn[i]? = some m → m.length ≤ 1000000) ∧ ∀ w', Rm w' p r { S with kn := (tieF S.kn room step other).1 } → w' da = some (.lst ((due ++ (tieF S.kn room step other).2).map duD)) → (∀ b, b ∉ da :: r.fp p → w' b = w b) → P false .non w'
theorem len_Rooms_tie (ds : List D) (w : Om) (P : Bool → D → Om → Prop) (h : T_Rooms_tie ds w P) : ds.length = 5 := by first | (have h := h.1; subst h; rfl) | (obtain ⟨rfl, _⟩ := h; rfl) | (obtain ⟨_, rfl, _⟩ := h; rfl) | (obtain ⟨_, _, rfl, _⟩ := h; rfl) | (obtain ⟨_, _, _, rfl, _⟩ := h; rfl) | (obtain ⟨_, _, _, _, rfl, _⟩ := h; rfl) | (obtain ⟨_, _, _, _, _, rfl, _⟩ := h; rfl) | (obtain ⟨_, _, _, _, _, _, rfl, _⟩ := h; rfl) | (obtain ⟨_, _, _, _, _, _, _, rfl, _⟩ := h; rfl) | (obtain ⟨_, _, _, _, _, _, _, _, rfl, _⟩ := h; rfl) | (obtain ⟨_, _, _, _, _, _, _, _, _, rfl, _⟩ := h; rfl) | (obtain ⟨_, _, _, _, _, _, _, _, _, _, rfl, _⟩ := h; rfl) | (obtain ⟨_, _, _, _, _, _, _, _, _, _, _, rfl, _⟩ := h; rfl) | (obtain ⟨_, _, _, _, _, _, _, _, _, _, _, _, rfl, _⟩ := h; rfl) | (obtain ⟨_, _, _, _, _, _, _, _, _, _, _, _, _, rfl, _⟩ := h; rfl)
def b_Rooms_tie : DS := (dSeq (dSet false 5 (dGet1 (oX (dBin sIx (oX (dFld "Rooms" "known" (dVarR 0))) (dVarR 1))) (dVarR 2)))
    (dSeq (dIf (dB (dBin sNotN (dVarR 5) (oX (dC .non)))) (dSeq (dIf (dB (dBin sNe (dVarR 5) (dVarR 3))) (dAppN false (dVarR 4) (dTup (dCons (dVar 1) (dCons (dVar 2) (dCons (dVar 5) (dCons (dVar 3) dNil)))))) dNext)
    dRetN) dNext)
    (dSeq (dSet false 6 (dGet1 (oX (dBin sIx (oX (dFld "Rooms" "known" (dVarR 0))) (dVarR 3))) (oX (dUn sNeg (dVarR 2)))))
    (dSeq (dIf (dB (dBin sNotN (dVarR 6) (oX (dC .non)))) (dSeq (dAppN false (dVarR 4) (dTup (dCons (dVar 3) (dCons (dUn sNeg (dVarR 2)) (dCons (dVar 6) (dCons (dVar 1) dNil))))))
    dRetN) dNext)
    (dSeq (dPutN false (oX (dBin sIx (oX (dFld "Rooms" "known" (dVarR 0))) (dVarR 1))) (dVarR 2) (dVar 3))
    (dPutN false (oX (dBin sIx (oX (dFld "Rooms" "known" (dVarR 0))) (dVarR 3))) (oX (dUn sNeg (dVarR 2))) (dVar 1)))))))
theorem v_Rooms_tie (ds : List D) (w : Om) (P : Bool → D → Om → Prop) (h : T_Rooms_tie ds w P) : b_Rooms_tie { nx := fun _ w => P false .non w, rt := P } (startD ["self", "room", "step", "other", "due", "there", "here"] ds) w := by
  unfold b_Rooms_tie
  obtain ⟨p, r, S, room, step, other, da, due, rfl, R, hda, nda, hr, ho, hdl, hml, q⟩ := h
  have hs := sizeLine_eq
  have hm := List.getElem?_eq_getElem hr
  have hm2 := List.getElem?_eq_getElem ho
  generalize S.kn[room] = km at hm
  generalize S.kn[other] = km2 at hm2
  obtain ⟨a, ha⟩ : ∃ a, r.ks[room]? = some a := ⟨_, List.getElem?_eq_getElem (by rw [R.len]; exact hr)⟩
  obtain ⟨a2, ha2⟩ : ∃ a, r.ks[other]? = some a := ⟨_, List.getElem?_eq_getElem (by rw [R.len]; exact ho)⟩
  have k1 : kv S.kn room step = fget km step := by unfold kv; rw [hm]; rfl
  have k2 : kv S.kn other (-step) = fget km2 (-step) := by unfold kv; rw [hm2]; rfl
  have eS : ({ S with kn := S.kn } : RS) = S := rfl
  unfold tieF at q
  rw [k1, k2] at q
  refine seq_i ?_
  try simp_arith []
  refine ⟨p, _, .ref r.k, rfl, R.ins, rmF_known .., ?_⟩
  try simp_arith [R.kl]
  refine ⟨.ref a, atI_f D.ref (by omega) (by rw [Int.toNat_natCast]; exact ha), ?_⟩
  try simp_arith [R.kn room a km ha hm, kv_val]
  cases e1 : fget km step with
  | some there =>
    rw [e1] at q
    simp only at q
    refine seq_i ?_
    try simp_arith [not_true]
    refine seq_i ?_
    try simp_arith [not_true]
    by_cases e2 : there = other
    · rw [if_pos e2] at q
      refine if_f (by simp; omega) ?_
      exact q w R (by simpa using hda) (fun _ _ => rfl)
    · rw [if_neg e2] at q
      refine if_t (by simp; omega) ?_
      try simp_arith []
      refine ⟨_, _, rfl, hda, by omega, _, hda, by simp; omega, ?_⟩
      refine q _ (R.same fun b hb => updW_ne (fun z => nda (z ▸ hb))) ?_ (fun b hb => updW_ne (fun z => hb (by simp [z])))
      rw [updW_same]
      simp [duD]
  | none =>
    rw [e1] at q
    simp only at q
    refine seq_i ?_
    try simp_arith [not_true]
    refine seq_i ?_
    try simp_arith []
    refine ⟨p, _, .ref r.k, rfl, R.ins, rmF_known .., ?_⟩
    try simp_arith [R.kl]
    refine ⟨.ref a2, atI_f D.ref (by omega) (by rw [Int.toNat_natCast]; exact ha2), ?_⟩
    try simp_arith [R.kn other a2 km2 ha2 hm2, kv_val]
    cases e3 : fget km2 (-step) with
    | some here =>
      rw [e3] at q
      simp only at q
      refine seq_i ?_
      try simp_arith [not_true]
      refine ⟨_, _, rfl, hda, by simp; omega, _, hda, by simp; omega, ?_⟩
      refine q _ (R.same fun b hb => updW_ne (fun z => nda (z ▸ hb))) ?_ (fun b hb => updW_ne (fun z => hb (by simp [z])))
      rw [updW_same]
      simp [duD]
    | none =>
      rw [e3] at q
      simp only at q
      refine seq_i ?_
      try simp_arith [not_true]
      refine seq_i ?_
      try simp_arith []
      refine ⟨p, _, .ref r.k, rfl, R.ins, rmF_known .., ?_⟩
      try simp_arith [R.kl]
      refine ⟨.ref a, atI_f D.ref (by omega) (by rw [Int.toNat_natCast]; exact ha), a, rfl, ?_⟩
      try simp_arith [R.kn room a km ha hm]
      rw [kv_put, kv_len]
      have R1 := R.setKn ha (fput km step other)
      have hm3 : (S.kn.set room (fput km step other))[other]? = some ((((S.kn.set room (fput km step other))[other]?)).getD []) := by rw [List.getElem?_eq_getElem (by simpa using ho)]; rfl
      have hl3 := flen_put km step other
      have hl4 := hml room km hm
      refine ⟨by omega, ?_⟩
      try simp_arith []
      refine ⟨p, _, .ref r.k, rfl, R1.ins, rmF_known .., ?_⟩
      try simp_arith [R1.kl]
      refine ⟨.ref a2, atI_f D.ref (by omega) (by rw [Int.toNat_natCast]; exact ha2), a2, rfl, ?_⟩
      try simp_arith [R1.kn other a2 _ ha2 hm3]
      rw [kv_put, kv_len]
      refine ⟨?_, ?_⟩
      · rcases get_set hm3 with ⟨_, e⟩ | ⟨_, e⟩
        · rw [e]; omega
        · have := hml other _ e; omega
      have R2 := R1.setKn ha2 (fput (((S.kn.set room (fput km step other))[other]?).getD []) (-step) room)
      have eP : put2 S.kn room step other = (S.kn.set room (fput km step other)).set other (fput (((S.kn.set room (fput km step other))[other]?).getD []) (-step) room) := by unfold put2; rw [hm]; rfl
      refine q _ ?_ ?_ ?_
      · rw [eP]; exact R2
      · rw [updW_ne (ne_of nda (R.nol ha2)), updW_ne (ne_of nda (R.nol ha))]
        simpa using hda
      · intro b hb
        simp only [List.mem_cons, not_or] at hb
        rw [updW_ne (ne_of hb.2 (R.nol ha2)), updW_ne (ne_of hb.2 (R.nol ha))]
def T_Rooms_put_together : DSp := fun ds w P => ∃ (p : Addr) (r : RP) (S : RS) (less more : Nat) (da : Addr) (due : List Du) (n B : Nat), ds = [.ref p, .int less, .int more, .ref da] ∧ Rm w p r S ∧ Gd n B S.el S.kn ∧ B ≤ 1000 ∧ n ≤ 100000 ∧ S.el[less]? = some less ∧ S.el[more]? = some more ∧ less < more ∧ w da = some (.lst (due.map duD)) ∧ da ∉ r.fp p ∧ due.length ≤ 900000 ∧ ∀ w' r', Rm w' p r' { S with el := S.el.set more less, kn := (putF S.el S.kn less more).1 } → w' da = some (.lst ((due ++ (putF S.el S.kn less more).2).map duD)) → Fr w w' (da :: r.fp p) (da :: r'.fp p) → da ∉ r'.fp p → P false .non w'
theorem len_Rooms_put_together (ds : List D) (w : Om) (P : Bool → D → Om → Prop) (h : T_Rooms_put_together ds w P) : ds.length = 4 := by first | (have h := h.1; subst h; rfl) | (obtain ⟨rfl, _⟩ := h; rfl) | (obtain ⟨_, rfl, _⟩ := h; rfl) | (obtain ⟨_, _, rfl, _⟩ := h; rfl) | (obtain ⟨_, _, _, rfl, _⟩ := h; rfl) | (obtain ⟨_, _, _, _, rfl, _⟩ := h; rfl) | (obtain ⟨_, _, _, _, _, rfl, _⟩ := h; rfl) | (obtain ⟨_, _, _, _, _, _, rfl, _⟩ := h; rfl) | (obtain ⟨_, _, _, _, _, _, _, rfl, _⟩ := h; rfl) | (obtain ⟨_, _, _, _, _, _, _, _, rfl, _⟩ := h; rfl) | (obtain ⟨_, _, _, _, _, _, _, _, _, rfl, _⟩ := h; rfl) | (obtain ⟨_, _, _, _, _, _, _, _, _, _, rfl, _⟩ := h; rfl) | (obtain ⟨_, _, _, _, _, _, _, _, _, _, _, rfl, _⟩ := h; rfl) | (obtain ⟨_, _, _, _, _, _, _, _, _, _, _, _, rfl, _⟩ := h; rfl) | (obtain ⟨_, _, _, _, _, _, _, _, _, _, _, _, _, rfl, _⟩ := h; rfl)
def b_Rooms_put_together : DS := (dSeq (dSet false 4 (dBin sIx (oX (dFld "Rooms" "known" (dVarR 0))) (dVarR 2)))
    (dSeq (dPutN true (oX (dFld "Rooms" "known" (dVarR 0))) (dVarR 2) dDicK)
    (dSeq (dPutN false (oX (dFld "Rooms" "elders" (dVarR 0))) (dVarR 2) (dVar 1))
    (dSeq (dLock (dForItems (dVarR 4) (gT 2 (gsC (gN 5) (gsC (gN 6) gsN))) (dIf (dB (dBin sNe (dVarR 6) (dVarR 2))) (dDrop (dDPop (oX (dBin sIx (oX (dFld "Rooms" "known" (dVarR 0))) (dVarR 6))) (oX (dUn sNeg (dVarR 5))))) dNext)))
    (dLock (dForItems (dVarR 4) (gT 2 (gsC (gN 5) (gsC (gN 6) gsN))) (dDrop (dMeth "Rooms" "tie" T_Rooms_tie (dVarR 0) (dCons (dVar 1) (dCons (dVar 5) (dConsN (dMeth "Rooms" "elder" T_Rooms_elder (dVarR 0) (dCons (dVar 6) dNil)) (dCons (dVar 3) dNil))))))))))))
theorem v_Rooms_put_together (ds : List D) (w : Om) (P : Bool → D → Om → Prop) (h : T_Rooms_put_together ds w P) : b_Rooms_put_together { nx := fun _ w => P false .non w, rt := P } (startD ["self", "less", "more", "due", "ways", "step", "other"] ds) w := by
  unfold b_Rooms_put_together
  obtain ⟨p, r, S, less, more, da, due, n, B, rfl, R, G, hB, hn, hl, hm, hlt, hda, nda, hdl, q⟩ := h
  have hs := sizeLine_eq
  have hmn : more < n := by rw [← G.elen]; exact stand_lt hm
  have hmk : more < S.kn.length := by rw [G.klen]; exact hmn
  obtain ⟨a, ha⟩ : ∃ a, r.ks[more]? = some a := ⟨_, List.getElem?_eq_getElem (by rw [R.len]; exact hmk)⟩
  have hws := List.getElem?_eq_getElem hmk
  generalize S.kn[more] = ws at hws
  have hwa := R.kn more a ws ha hws
  refine seq_i ?_
  try simp_arith []
  refine ⟨p, _, .ref r.k, rfl, R.ins, rmF_known .., ?_⟩
  try simp_arith [R.kl]
  refine ⟨.ref a, atI_f D.ref (by omega) (by rw [Int.toNat_natCast]; exact ha), ?_⟩
  refine seq_i ?_
  try simp_arith []
  intro c hc
  have nc : ∀ b ∈ r.fp p, b ≠ c := fun b hb z => R.there b hb (z ▸ hc)
  have nca : a ≠ c := nc a (R.nol ha)
  have ncd : da ≠ c := fun z => by rw [z, hc] at hda; cases hda
  obtain ⟨npe, npk, npt, npks, nek, net, neks, nkt, nkks, ntks, nks⟩ := R.ne
  refine ⟨p, _, .ref r.k, rfl, updW_new R.ins hc, rmF_known .., r.k, rfl, ?_⟩
  rw [updW_new R.kl hc]
  have hik : more < r.ks.length := by rw [R.len]; exact hmk
  refine ⟨more, ixN_nat (by simpa using hik), ?_⟩
  have R1 := R.newKn hik hc []
  have eK : (kvD [] : List (Key × D)) = [] := rfl
  rw [eK] at R1
  rw [show (r.ks.map D.ref).set more (D.ref c) = (r.ks.set more c).map D.ref from by rw [List.map_set]]
  refine seq_i ?_
  try simp_arith []
  refine ⟨p, _, .ref r.e, rfl, R1.ins, rmF_elders .., r.e, rfl, ?_⟩
  rw [R1.el]
  refine ⟨more, ixN_nat (by simpa [G.elen] using hmn), ?_⟩
  rw [show (S.el.map fun n : Nat => D.int n).set more (D.int less) = (S.el.set more less).map fun n : Nat => D.int n from by rw [List.map_set]]
  have R2 : Rm (updW (updW (updW w c (.dK [])) r.k (.lst ((r.ks.set more c).map D.ref))) r.e (.lst ((S.el.set more less).map fun n : Nat => D.int n))) p { r with ks := r.ks.set more c } { S with el := S.el.set more less, kn := S.kn.set more [] } := R1.setEl (E := S.el.set more less) (by simp)
  have out : ∀ b, b ∉ r.fp p → b ≠ c → updW (updW (updW w c (.dK [])) r.k (.lst ((r.ks.set more c).map D.ref))) r.e (.lst ((S.el.set more less).map fun n : Nat => D.int n)) b = w b := fun b hb hbc => by
    rw [updW_ne (fun z => hb (by simp [RP.fp, z])), updW_ne (fun z => hb (by simp [RP.fp, z])), updW_ne hbc]
  have ata : updW (updW (updW w c (.dK [])) r.k (.lst ((r.ks.set more c).map D.ref))) r.e (.lst ((S.el.set more less).map fun n : Nat => D.int n)) a = some (.dK (kvD ws)) := by
    rw [updW_ne (ne_of neks (List.mem_of_getElem? ha)).symm, updW_ne (ne_of nkks (List.mem_of_getElem? ha)).symm, updW_ne nca]
    exact hwa
  obtain ⟨w2, hw2⟩ : ∃ w2, updW (updW (updW w c (.dK [])) r.k (.lst ((r.ks.set more c).map D.ref))) r.e (.lst ((S.el.set more less).map fun n : Nat => D.int n)) = w2 := ⟨_, rfl⟩
  rw [hw2] at R2 out ata
  dsimp only
  rw [hw2]
  have nfa : a ∉ RP.fp { r with ks := r.ks.set more c } p := by
    have hac := List.mem_of_getElem? ha
    simp only [RP.fp, List.mem_cons, not_or]
    refine ⟨(ne_of npks hac).symm, (ne_of neks hac).symm, (ne_of nkks hac).symm, (ne_of ntks hac).symm, fun z => ?_⟩
    obtain ⟨j, hj⟩ := List.mem_iff_getElem?.mp z
    rcases get_set hj with ⟨_, e⟩ | ⟨e, e2⟩
    · exact nca e
    · obtain ⟨g1, g2⟩ := List.getElem?_eq_some_iff.mp ha
      obtain ⟨g3, g4⟩ := List.getElem?_eq_some_iff.mp e2
      rcases Nat.lt_trichotomy more j with h | h | h
      · exact List.pairwise_iff_getElem.mp nks more j g1 g3 h (g2.trans g4.symm)
      · exact e h
      · exact List.pairwise_iff_getElem.mp nks j more g3 g1 h (g4.trans g2.symm)
  have fpsub : ∀ b, b ∈ RP.fp { r with ks := r.ks.set more c } p → b = c ∨ b ∈ r.fp p := fun b hb => by
    simp only [RP.fp, List.mem_cons] at hb ⊢
    rcases hb with h | h | h | h | h
    · exact .inr (.inl h)
    · exact .inr (.inr (.inl h))
    · exact .inr (.inr (.inr (.inl h)))
    · exact .inr (.inr (.inr (.inr (.inl h))))
    · rcases List.mem_or_eq_of_mem_set h with h | h
      · exact .inr (.inr (.inr (.inr (.inr h))))
      · exact .inl h
  have nda1 : da ∉ RP.fp { r with ks := r.ks.set more c } p := fun z => (fpsub da z).elim ncd nda
  have nad : a ≠ da := (ne_of nda (R.nol ha)).symm
  have hda2 : w2 da = some (.lst (due.map duD)) := (out da nda ncd).trans hda
  generalize { r with ks := r.ks.set more c } = r1 at R2 nfa fpsub nda1
  have gws : ∀ q ∈ ws, gr S.kn more q.1 q.2 := fun q hq => (gr_mem G hmn).mp (by rw [hws]; exact hq)
  have ndw := G.nd more ws hws
  refine seq_cut (fun δ w3 => Rm w3 p r1 { S with el := S.el.set more less, kn := delF more ws (S.kn.set more []) } ∧ w3 a = some (.dK (kvD ws)) ∧ (∀ b, b ∉ r1.fp p → b ≠ a → w3 b = w2 b) ∧ ∃ j5 j6, δ = [some (false, .ref p), some (false, .int less), some (false, .int more), some (false, .ref da), some (false, .ref a), j5, j6]) (fun N hN => ?_) ?_
  · try simp_arith []
    refine ⟨a, .inl ⟨_, ata, fun ob vs => ?_⟩⟩
    refine ⟨a, _, _, rfl, updW_same, rfl, ?_⟩
    rw [show (kvD ws).map (fun kv => D.tup [kD kv.1, kv.2]) = ws.map fun q => D.tup [.int q.1, .int q.2] from by simp [kvD, fD, kD]]
    refine forN_go (fun q : Int × Nat => D.tup [.int q.1, .int q.2]) (fun pre δ w3 => Rm w3 p r1 { S with el := S.el.set more less, kn := delF more pre (S.kn.set more []) } ∧ w3 a = some (.fK ob vs (kvD ws)) ∧ (∀ b, b ∉ r1.fp p → b ≠ a → w3 b = w2 b) ∧ ∃ j5 j6, δ = [some (false, .ref p), some (false, .int less), some (false, .int more), some (false, .ref da), some (false, .ref a), j5, j6]) ws ⟨R2.same fun b hb => updW_ne (fun z => nfa (z ▸ hb)), updW_same, fun b _ hb => updW_ne hb, none, none, rfl⟩ ?_ ?_
    · rintro pre x post δ w3 N3 C3 e ⟨R3, at3, out3, j5, j6, rfl⟩ hN3 hC3
      have hx := gws x (by rw [e]; simp)
      have hxo : x.2 < S.kn.length := by rw [G.klen, ← G.elen]; exact stand_lt (G.ends _ _ _ hx).2
      have eD : delF more (pre ++ [x]) (S.kn.set more []) = if x.2 = more then delF more pre (S.kn.set more []) else (delF more pre (S.kn.set more [])).set x.2 (fdrop (((delF more pre (S.kn.set more []))[x.2]?).getD []) (-x.1)) := delF_snoc _ _ _ _
      try simp_arith []
      by_cases e2 : x.2 = more
      · refine if_f (by simp; omega) ?_
        rw [if_pos e2] at eD
        exact hN3 _ _ at3 ⟨by rw [eD]; exact R3, at3, out3, _, _, rfl⟩
      · refine if_t (by simp; omega) ?_
        rw [if_neg e2] at eD
        have hb : x.2 < r1.ks.length := by rw [R2.len]; simpa using hxo
        have hbg := List.getElem?_eq_getElem hb
        generalize r1.ks[x.2] = b at hbg
        have hml : x.2 < (delF more pre (S.kn.set more [])).length := by rw [delF_len]; simpa using hxo
        have hmg := List.getElem?_eq_getElem hml
        have hq2 : ∀ q ∈ pre, q.2 < (S.kn.set more []).length := fun q hq => by
          rw [List.length_set, G.klen, ← G.elen]
          exact stand_lt (G.ends _ _ _ (gws q (by rw [e]; simp [hq]))).2
        have hval : kv (delF more pre (S.kn.set more [])) x.2 (-x.1) = some more := by
          rw [kv_del more pre _ hq2, if_neg, kv_set _ hmk, if_neg e2]
          · exact G.back _ _ _ hx
          · rintro ⟨_, hin⟩
            rw [e, List.map_append, List.nodup_append] at ndw
            exact ndw.2.2 x.1 (List.mem_map.mpr ⟨_, hin, by simp⟩) x.1 (by simp) rfl
        unfold kv at hval
        rw [hmg] at hval eD
        generalize (delF more pre (S.kn.set more []))[x.2] = mm at hmg hval eD
        have hw3 := R3.kn x.2 b mm hbg hmg
        refine ⟨p, _, .ref r1.k, rfl, R3.ins, rmF_known .., ?_⟩
        try simp_arith [R3.kl]
        refine ⟨.ref b, atI_f D.ref (by omega) (by rw [Int.toNat_natCast]; exact hbg), b, _, rfl, hw3, _, _, .int more, hw3, rfl, ?_, ?_⟩
        · rw [kv_val]
          have hval' : fget mm (-x.1) = some more := hval
          rw [hval']
          rfl
        · rw [kv_drop]
          have nba : b ≠ a := fun z => nfa (z ▸ R3.nol hbg)
          refine hN3 _ _ (by rw [updW_ne nba.symm]; exact at3) ⟨by rw [eD]; exact R3.setKn hbg _, by rw [updW_ne nba.symm]; exact at3, fun b' hb' hb2 => ?_, _, _, rfl⟩
          rw [updW_ne (ne_of hb' (R3.nol hbg))]
          exact out3 b' hb' hb2
    · rintro δ w3 ⟨R3, at3, out3, j5, j6, rfl⟩
      refine ⟨at3, hN _ _ ⟨R3.same fun b hb => updW_ne (fun z => nfa (z ▸ hb)), updW_same, fun b hb hb2 => ?_, _, _, rfl⟩⟩
      rw [updW_ne hb2]
      exact out3 b hb hb2
  rintro δ w3 ⟨R3, at3, out3, j5, j6, rfl⟩
  have hw' : (S.kn[more]?).getD [] = ws := by rw [hws]; rfl
  have G2 := del_ok G hl hm hlt
  rw [hw'] at G2
  have hls : (S.el.set more less)[less]? = some less := by rw [List.getElem?_set_ne (by omega)]; exact hl
  have hwl : ws.length ≤ 2 * B + 1 := by simpa using keys_count ndw (G.bd more ws hws)
  have hda3 : w3 da = some (.lst (due.map duD)) := (out3 da nda1 nad.symm).trans hda2
  have eF : putF S.el S.kn less more = tiesF (root (S.el.set more less)) less ws (delF more ws (S.kn.set more [])) := by unfold putF; rw [hw']
  rw [eF] at q
  generalize delF more ws (S.kn.set more []) = kn2 at R3 G2 q
  try simp_arith []
  refine ⟨a, .inl ⟨_, at3, fun ob vs => ?_⟩⟩
  refine ⟨a, _, _, rfl, updW_same, rfl, ?_⟩
  rw [show (kvD ws).map (fun kv => D.tup [kD kv.1, kv.2]) = ws.map fun q => D.tup [.int q.1, .int q.2] from by simp [kvD, fD, kD]]
  refine forN_go (fun q : Int × Nat => D.tup [.int q.1, .int q.2]) (fun pre δ w4 => Rm w4 p r1 { S with el := S.el.set more less, kn := (tiesF (root (S.el.set more less)) less pre kn2).1 } ∧ w4 a = some (.fK ob vs (kvD ws)) ∧ w4 da = some (.lst ((due ++ (tiesF (root (S.el.set more less)) less pre kn2).2).map duD)) ∧ (∀ b, b ∉ r1.fp p → b ≠ a → b ≠ da → w4 b = w2 b) ∧ ∃ j5 j6, δ = [some (false, .ref p), some (false, .int less), some (false, .int more), some (false, .ref da), some (false, .ref a), j5, j6]) ws ⟨R3.same fun b hb => updW_ne (fun z => nfa (z ▸ hb)), updW_same, ?_, fun b hb hb2 _ => ?_, _, _, rfl⟩ ?_ ?_
  · rw [updW_ne nad.symm]; simpa [tiesF] using hda3
  · rw [updW_ne hb2]; exact out3 b hb hb2
  · rintro pre x post δ w4 N4 C4 e ⟨R4, at4, da4, out4, j5, j6, rfl⟩ hN4 hC4
    have hx := gws x (by rw [e]; simp)
    have hxe := (G.ends _ _ _ hx).2
    have hxl := stand_lt hxe
    have hpl : pre.length ≤ 2 * B + 1 := by rw [e] at hwl; simp at hwl; omega
    obtain ⟨T, hT⟩ := ties_ok hls pre G2 fun q hq => by
      have hg := gws q (by rw [e]; simp [hq])
      refine ⟨root_st (ok_set G.ok hlt) q.2 (by rw [List.length_set]; exact stand_lt (G.ends _ _ _ hg).2), G.bd more ws hws q.1 (List.mem_map.mpr ⟨q, by rw [e]; simp [hq], rfl⟩)⟩
    have hro := root_st (ok_set G.ok hlt) x.2 (by rw [List.length_set]; exact hxl)
    have hrol := stand_lt hro
    rw [List.length_set, G.elen] at hrol
    have eT := tiesF_snoc (root (S.el.set more less)) less x pre kn2
    try simp_arith []
    refine ⟨p, _, rfl, R4.ins, no_tie .., p, _, rfl, R4.ins, no_elder .., p, r1, _, x.2, rfl, R4, ok_set G.ok hlt, by simpa using hxl, ?_⟩
    try simp_arith []
    refine ⟨p, r1, _, less, x.1, root (S.el.set more less) x.2, da, _, rfl, R4, da4, nda1, ?_, ?_, ?_, ?_, fun w' R' da' out' => ?_⟩
    · show less < (tiesF _ _ _ _).1.length
      rw [T.gd.klen]; omega
    · show root _ x.2 < (tiesF _ _ _ _).1.length
      rw [T.gd.klen]; exact hrol
    · rw [List.length_append]; omega
    · intro i m hi
      have := keys_count (T.gd.nd i m hi) (T.gd.bd i m hi)
      rw [List.length_map] at this
      omega
    · refine hN4 _ _ ?_ ⟨?_, ?_, ?_, fun b hb hb2 hb3 => ?_, _, _, rfl⟩
      · rw [out' a (by simp only [List.mem_cons, not_or]; exact ⟨nad, nfa⟩)]; exact at4
      · rw [eT]; exact R'
      · rw [out' a (by simp only [List.mem_cons, not_or]; exact ⟨nad, nfa⟩)]; exact at4
      · rw [eT, da', List.append_assoc]
      · rw [out' b (by simp only [List.mem_cons, not_or]; exact ⟨hb3, hb⟩)]; exact out4 b hb hb2 hb3
  · rintro δ w4 ⟨R4, at4, da4, out4, j5, j6, rfl⟩
    refine ⟨at4, q _ r1 (R4.same fun b hb => updW_ne (fun z => nfa (z ▸ hb))) (by rw [updW_ne nad.symm]; exact da4) ⟨fun b hb hn => ?_, fun b hb => ?_⟩ nda1⟩
    · simp only [List.mem_cons, not_or] at hb
      have hbc : b ≠ c := fun z => hn (z ▸ hc)
      have hba : b ≠ a := fun z => hb.2 (z ▸ R.nol ha)
      rw [updW_ne hba, out4 b (fun z => (fpsub b z).elim hbc hb.2) hba hb.1]
      exact out b hb.2 hbc
    · simp only [List.mem_cons] at hb ⊢
      rcases hb with h | h
      · exact .inl (.inl h)
      · rcases fpsub b h with h | h
        · subst h; exact .inr hc
        · exact .inl (.inr h)
theorem stands_nd (el : List Nat) : (stands el).Nodup := List.nodup_range.sublist List.filter_sublist
theorem mem_stands {el : List Nat} {r : Nat} : r ∈ stands el ↔ el[r]? = some r := by
  unfold stands
  rw [List.mem_filter, List.mem_range, decide_eq_true_iff]
  exact ⟨fun h => h.2, fun h => ⟨stand_lt h, h⟩⟩
theorem stands_le (el : List Nat) : (stands el).length ≤ el.length := by
  have := List.length_filter_le (fun r => decide (el[r]? = some r)) (List.range el.length)
  simpa [stands] using this
theorem stands_set {el : List Nat} {less more : Nat} (hm : el[more]? = some more) (h : less < more) : (stands (el.set more less)).length + 1 ≤ (stands el).length := by
  have := nodup_len2 (l := more :: stands (el.set more less)) (m := stands el) (List.nodup_cons.mpr ⟨fun z => ?_, stands_nd _⟩) fun x hx => ?_
  · simpa using this
  · rw [mem_stands, List.getElem?_set_self (stand_lt hm)] at z
    have := Option.some.inj z
    omega
  · rcases List.mem_cons.mp hx with e | e
    · rw [e]; exact mem_stands.mpr hm
    · rw [mem_stands] at e ⊢
      rcases get_set e with ⟨e1, e2⟩ | ⟨_, e2⟩
      · omega
      · exact e2
theorem stands_set2 {el : List Nat} {less more : Nat} (hm : el[more]? = some more) (h : less < more) : (stands (el.set more less)).length + 1 = (stands el).length := by
  have h1 := stands_set hm h
  have h2 := nodup_len2 (l := stands el) (m := more :: stands (el.set more less)) (stands_nd _) fun x hx => by
    by_cases e : x = more
    · rw [e]; exact List.mem_cons_self
    · refine List.mem_cons_of_mem _ (mem_stands.mpr ?_)
      rw [List.getElem?_set_ne (fun z => e z.symm)]
      exact mem_stands.mp hx
  rw [List.length_cons] at h2
  omega
def mtD (m : Mr) : D := .tup [.str "meet", .int m.1, .int m.2.1, .int m.2.2.1, .int m.2.2.2]
structure LayOk (n B : Nat) (S S' : RS) (room : Nat) (step : Int) (other : Nat) (row : D) : Prop where
  l : S'.l = S.l
  gd : Gd n B S'.el S'.kn
  mt : ∃ ms g, Mt (fun r s t => gr S.kn r s t ∨ way room step other r s t) ms (gr S'.kn) g ∧ (∀ x, x < n → root S'.el x = g (root S.el x)) ∧ S'.told = S.told ++ row :: ms.map mtD ∧ ms.length ≤ n ∧ ms.length + (stands S'.el).length = (stands S.el).length
def T_Rooms_lay : DSp := fun ds w P => ∃ (p : Addr) (r : RP) (S : RS) (room : Nat) (step : Int) (other : Nat) (row : D) (n B : Nat), ds = [.ref p, .int room, .int step, .int other, row] ∧ Rm w p r S ∧ Gd n B S.el S.kn ∧ B ≤ 1000 ∧ n ≤ 100000 ∧ n * (2 * B + 1) ≤ 800000 ∧ S.told.length ≤ 1000000 ∧ S.el[room]? = some room ∧ S.el[other]? = some other ∧ -(B : Int) ≤ step ∧ step ≤ B ∧ ∀ w' r' S', Rm w' p r' S' → LayOk n B S S' room step other row → Fr w w' (r.fp p) (r'.fp p) → P false .non w'
theorem len_Rooms_lay (ds : List D) (w : Om) (P : Bool → D → Om → Prop) (h : T_Rooms_lay ds w P) : ds.length = 5 := by first | (have h := h.1; subst h; rfl) | (obtain ⟨rfl, _⟩ := h; rfl) | (obtain ⟨_, rfl, _⟩ := h; rfl) | (obtain ⟨_, _, rfl, _⟩ := h; rfl) | (obtain ⟨_, _, _, rfl, _⟩ := h; rfl) | (obtain ⟨_, _, _, _, rfl, _⟩ := h; rfl) | (obtain ⟨_, _, _, _, _, rfl, _⟩ := h; rfl) | (obtain ⟨_, _, _, _, _, _, rfl, _⟩ := h; rfl) | (obtain ⟨_, _, _, _, _, _, _, rfl, _⟩ := h; rfl) | (obtain ⟨_, _, _, _, _, _, _, _, rfl, _⟩ := h; rfl) | (obtain ⟨_, _, _, _, _, _, _, _, _, rfl, _⟩ := h; rfl) | (obtain ⟨_, _, _, _, _, _, _, _, _, _, rfl, _⟩ := h; rfl) | (obtain ⟨_, _, _, _, _, _, _, _, _, _, _, rfl, _⟩ := h; rfl) | (obtain ⟨_, _, _, _, _, _, _, _, _, _, _, _, rfl, _⟩ := h; rfl) | (obtain ⟨_, _, _, _, _, _, _, _, _, _, _, _, _, rfl, _⟩ := h; rfl)
def b_Rooms_lay : DS := (dSeq (dAppN false (oX (dFld "Rooms" "told" (dVarR 0))) (dVar 4))
    (dSeq (dSetN 5 (dLst dNil))
    (dSeq (dDrop (dMeth "Rooms" "tie" T_Rooms_tie (dVarR 0) (dCons (dVar 1) (dCons (dVar 2) (dCons (dVar 3) (dCons (dVar 5) dNil))))))
    (dWhile (dTru (dVarR 5)) (dSeq (dAsg (dLPopAt (dVarR 5) (oX (dC (.int 0)))) (gT 4 (gsC (gN 1) (gsC (gN 2) (gsC (gN 6) (gsC (gN 7) gsN))))))
    (dSeq (dSet false 8 (dBin sMin (oX (dMeth "Rooms" "elder" T_Rooms_elder (dVarR 0) (dCons (dVar 6) dNil))) (oX (dMeth "Rooms" "elder" T_Rooms_elder (dVarR 0) (dCons (dVar 7) dNil)))))
    (dSeq (dSet false 9 (dBin sMax (oX (dMeth "Rooms" "elder" T_Rooms_elder (dVarR 0) (dCons (dVar 6) dNil))) (oX (dMeth "Rooms" "elder" T_Rooms_elder (dVarR 0) (dCons (dVar 7) dNil)))))
    (dIf (dB (dBin sLt (dVarR 8) (dVarR 9))) (dSeq (dAppN false (oX (dFld "Rooms" "told" (dVarR 0))) (dTup (dCons (dC (.str "meet")) (dCons (dMeth "Rooms" "elder" T_Rooms_elder (dVarR 0) (dCons (dVar 1) dNil)) (dCons (dVar 2) (dCons (dVar 8) (dCons (dVar 9) dNil)))))))
    (dDrop (dMeth "Rooms" "put_together" T_Rooms_put_together (dVarR 0) (dCons (dVar 8) (dCons (dVar 9) (dCons (dVar 5) dNil)))))) dNext))))))))
theorem v_Rooms_lay (ds : List D) (w : Om) (P : Bool → D → Om → Prop) (h : T_Rooms_lay ds w P) : b_Rooms_lay { nx := fun _ w => P false .non w, rt := P } (startD ["self", "room", "step", "other", "row", "due", "one", "two", "less", "more"] ds) w := by
  unfold b_Rooms_lay
  obtain ⟨p, r, S, room, step, other, row, n, B, rfl, R, G, hB, hn, hnB, htl, hr, ho, hb1, hb2, q⟩ := h
  have hs := sizeLine_eq
  have hrl : room < S.kn.length := by rw [G.klen, ← G.elen]; exact stand_lt hr
  have hol : other < S.kn.length := by rw [G.klen, ← G.elen]; exact stand_lt ho
  refine seq_i ?_
  try simp_arith []
  refine ⟨p, _, .ref r.t, rfl, R.ins, rmF_told .., r.t, S.told, rfl, R.td, S.told, R.td, by omega, ?_⟩
  have R1 := R.setTold (S.told ++ [row])
  refine seq_i ?_
  try simp_arith []
  intro da hda
  have hda0 := none_upd hda
  have nda : da ∉ r.fp p := fun z => R1.there da z hda
  have R2 := R1.same (w' := updW (updW w r.t (.lst (S.told ++ [row]))) da (.lst [])) fun b hb => updW_ne (fun z => nda (z ▸ hb))
  have F2 : Fr w (updW (updW w r.t (.lst (S.told ++ [row]))) da (.lst [])) (r.fp p) (da :: r.fp p) := ⟨fun b hb hn => by
    have e1 : b ≠ da := fun z => hn (z ▸ hda0.1)
    rw [updW_ne e1, updW_ne (fun z => hb (by simp [RP.fp, z]))], fun b hb => by
    rcases List.mem_cons.mp hb with h | h
    · subst h; exact .inr hda0.1
    · exact .inl h⟩
  have da2 : updW (updW w r.t (.lst (S.told ++ [row]))) da (.lst []) da = some (.lst []) := updW_same
  generalize updW (updW w r.t (.lst (S.told ++ [row]))) da (.lst []) = w2 at R2 F2 da2 ⊢
  refine seq_i ?_
  try simp_arith []
  have hkc : ∀ (i : Nat) (m : Kn), S.kn[i]? = some m → m.length ≤ 1000000 := fun i m hi => by
    have := keys_count (G.nd i m hi) (G.bd i m hi)
    rw [List.length_map] at this
    omega
  refine ⟨p, _, rfl, R2.ins, no_tie .., p, r, _, room, step, other, da, [], rfl, R2, da2, nda, hrl, hol, by simp, hkc, fun w3 R3 da3 out3 => ?_⟩
  have L0 := LInv.start G hr ho ⟨hb1, hb2⟩
  obtain ⟨_, hT1⟩ := tie_ok G hr ho ⟨hb1, hb2⟩
  have F3 : Fr w w3 (r.fp p) (da :: r.fp p) := ⟨fun b hb hn => by
    have e1 : b ≠ da := fun z => hn (z ▸ hda0.1)
    rw [out3 b (by simp only [List.mem_cons, not_or]; exact ⟨e1, hb⟩)]
    exact F2.out b hb hn, F2.new⟩
  have hst := stands_le S.el
  rw [G.elen] at hst
  show dWhile _ _ _ _ _
  refine while_go (α := List Nat × List Kn × List Du × List Mr × RP) (fun x δ w4 => LInv n B (fun r s t => gr S.kn r s t ∨ way room step other r s t) S.el x.1 x.2.1 x.2.2.1 x.2.2.2.1 ∧ Rm w4 p x.2.2.2.2 { S with el := x.1, kn := x.2.1, told := S.told ++ row :: x.2.2.2.1.map mtD } ∧ w4 da = some (.lst (x.2.2.1.map duD)) ∧ da ∉ x.2.2.2.2.fp p ∧ x.2.2.2.1.length + (stands x.1).length = (stands S.el).length ∧ x.2.2.1.length + (stands x.1).length * (2 * B + 1) ≤ 1 + n * (2 * B + 1) ∧ Fr w w4 (r.fp p) (da :: x.2.2.2.2.fp p) ∧ ∃ j1 j2 j6 j7 j8 j9, δ = [some (false, .ref p), j1, j2, some (false, .int other), some (false, row), some (false, .ref da), j6, j7, j8, j9]) (fun x => x.2.2.1.length + (stands x.1).length * (2 * B + 1)) ?_ (S.el, (tieF S.kn room step other).1, (tieF S.kn room step other).2, [], r) ⟨L0, R3, by simpa using da3, nda, by simp, ?_, F3, _, _, _, _, _, _, rfl⟩
  · rintro ⟨el, kn, due, ms, r'⟩ δ w4 ⟨L, R4, da4, nda4, hms, hphi, F4, j1, j2, j6, j7, j8, j9, rfl⟩ N hN
    simp only at L R4 da4 nda4 hms hphi F4 hN ⊢
    try simp_arith [da4]
    cases due with
    | nil =>
      refine if_f (by simp) ?_
      obtain ⟨g, hg, hg2⟩ := L.mt
      have eQ : (fun r s t => gr kn r s t ∨ xs (root el) [] r s t) = gr kn := wy_ext fun r s t => ⟨fun h => h.elim id (fun z => absurd z xs_nil), .inl⟩
      rw [eQ] at hg
      exact q w4 r' _ R4 ⟨rfl, L.gd, ms, g, hg, hg2, rfl, by omega, hms⟩ ⟨F4.out, fun b hb => F4.new b (List.mem_cons_of_mem _ hb)⟩
    | cons d due =>
      refine if_t (by simp) ?_
      obtain ⟨d1, d2, d3, d4, d5⟩ := L.st d List.mem_cons_self
      have Gd4 := L.gd
      have hnn : due.length + 1 ≤ 900000 := by
        have : (stands el).length * (2 * B + 1) ≥ 0 := Nat.zero_le _
        simp at hphi
        omega
      refine seq_i ?_
      try simp_arith []
      refine ⟨da, _, rfl, da4, _, 0, 0, _, rfl, da4, ⟨by omega, by omega⟩, ixN_nat (i := 0) (by simp), rfl, ?_⟩
      try simp_arith [duD, List.eraseIdx]
      have R5 := R4.same (w' := updW w4 da (.lst (due.map duD))) fun b hb => updW_ne (fun z => nda4 (z ▸ hb))
      have da5 : updW w4 da (.lst (due.map duD)) da = some (.lst (due.map duD)) := updW_same
      have F5 : Fr w (updW w4 da (.lst (due.map duD))) (r.fp p) (da :: r'.fp p) := ⟨fun b hb hn => by
        have e1 : b ≠ da := fun z => hn (z ▸ hda0.1)
        rw [updW_ne e1]
        exact F4.out b hb hn, F4.new⟩
      have hrx : ∀ x, x < n → (root el x) < n ∧ el[root el x]? = some (root el x) := fun x hx => by
        have h1 := root_st Gd4.ok x (by rw [Gd4.elen]; exact hx)
        exact ⟨by rw [← Gd4.elen]; exact stand_lt h1, h1⟩
      generalize updW w4 da (.lst (due.map duD)) = w5 at R5 da5 F5 ⊢
      have okl := Gd4.ok
      have x2 : d.2.2.1 < el.length := by rw [Gd4.elen]; exact d2
      have x3 : d.2.2.2 < el.length := by rw [Gd4.elen]; exact d3
      have x1 : d.1 < el.length := by rw [Gd4.elen]; exact d1
      refine seq_i ?_
      try simp_arith []
      refine ⟨p, _, rfl, R5.ins, no_elder .., p, r', _, d.2.2.1, rfl, R5, okl, x2, ?_⟩
      try simp_arith []
      refine ⟨p, _, rfl, R5.ins, no_elder .., p, r', _, d.2.2.2, rfl, R5, okl, x3, ?_⟩
      try simp_arith []
      refine seq_i ?_
      try simp_arith []
      refine ⟨p, _, rfl, R5.ins, no_elder .., p, r', _, d.2.2.1, rfl, R5, okl, x2, ?_⟩
      try simp_arith []
      refine ⟨p, _, rfl, R5.ins, no_elder .., p, r', _, d.2.2.2, rfl, R5, okl, x3, ?_⟩
      try simp_arith []
      by_cases he : root el d.2.2.1 = root el d.2.2.2
      · rw [he]
        refine if_f (by simp) ?_
        refine hN (el, kn, due, ms, r') _ _ ⟨L.same he, R5, da5, nda4, hms, ?_, F5, _, _, _, _, _, _, rfl⟩ ?_
        · simp only [List.length_cons] at hphi ⊢; omega
        · simp only [List.length_cons]; omega
      · obtain ⟨less, more, hlt, hlm, h8, h9⟩ : ∃ less more : Nat, less < more ∧ ((less = root el d.2.2.1 ∧ more = root el d.2.2.2) ∨ (less = root el d.2.2.2 ∧ more = root el d.2.2.1)) ∧ ((if ((root el d.2.2.2 : Nat) : Int) < (root el d.2.2.1 : Nat) then ((root el d.2.2.2 : Nat) : Int) else (root el d.2.2.1 : Nat)) = less) ∧ ((if ((root el d.2.2.2 : Nat) : Int) > (root el d.2.2.1 : Nat) then ((root el d.2.2.2 : Nat) : Int) else (root el d.2.2.1 : Nat)) = more) := by
          by_cases hl : root el d.2.2.1 < root el d.2.2.2
          · exact ⟨_, _, hl, .inl ⟨rfl, rfl⟩, by rw [if_neg (by omega)], by rw [if_pos (by omega)]⟩
          · exact ⟨root el d.2.2.2, root el d.2.2.1, by omega, .inr ⟨rfl, rfl⟩, by rw [if_pos (by omega)], by rw [if_neg (by omega)]⟩
        rw [h8, h9]
        refine if_t (by simp; omega) ?_
        have hmore : el[more]? = some more := by rcases hlm with ⟨_, e⟩ | ⟨_, e⟩ <;> rw [e] <;> exact root_st okl _ (by assumption)
        have hless : el[less]? = some less := by rcases hlm with ⟨e, _⟩ | ⟨e, _⟩ <;> rw [e] <;> exact root_st okl _ (by assumption)
        have hsts2 := stands_set2 hmore hlt
        have hsts := stands_set hmore hlt
        refine seq_i ?_
        try simp_arith []
        refine ⟨p, _, .ref r'.t, rfl, R5.ins, rmF_told .., r'.t, _, rfl, R5.td, p, _, rfl, R5.ins, no_elder .., p, r', _, d.1, rfl, R5, okl, x1, ?_⟩
        try simp_arith []
        refine ⟨by omega, _, R5.td, by simp; omega, ?_⟩
        have R6 := R5.setTold ((S.told ++ row :: ms.map mtD) ++ [mtD (root el d.1, d.2.1, less, more)])
        have ndt : da ≠ r'.t := fun z => nda4 (by simp [RP.fp, z])
        have da6 : updW w5 r'.t (.lst ((S.told ++ row :: ms.map mtD) ++ [mtD (root el d.1, d.2.1, less, more)])) da = some (.lst (due.map duD)) := by rw [updW_ne ndt]; exact da5
        have F6 : Fr w (updW w5 r'.t (.lst ((S.told ++ row :: ms.map mtD) ++ [mtD (root el d.1, d.2.1, less, more)]))) (r.fp p) (da :: r'.fp p) := ⟨fun b hb hn => by
          have e1 : b ≠ r'.t := fun z => by
            rcases F5.new b (by simp [RP.fp, z]) with h | h
            · exact hb h
            · exact hn h
          rw [updW_ne e1]
          exact F5.out b hb hn, F5.new⟩
        simp only [mtD] at R6 da6 F6
        generalize updW w5 r'.t _ = w6 at R6 da6 F6 ⊢
        try simp_arith []
        refine ⟨p, _, rfl, R6.ins, no_put .., p, r', _, less, more, da, due, n, B, rfl, R6, Gd4, hB, hn, hless, hmore, hlt, da6, nda4, by omega, fun w7 r7 R7 da7 F7 nda7 => ?_⟩
        try simp_arith []
        obtain ⟨_, _, _, _, p5⟩ := put_ok Gd4 hless hmore hlt
        have hmk : more < kn.length := by rw [Gd4.klen, ← Gd4.elen]; exact stand_lt hmore
        have hmg := List.getElem?_eq_getElem hmk
        have hkl : ((kn[more]?).getD []).length ≤ 2 * B + 1 := by
          rw [hmg]
          simpa using keys_count (Gd4.nd more _ hmg) (Gd4.bd more _ hmg)
        have hmul := Nat.mul_le_mul_right (2 * B + 1) hsts
        rw [Nat.add_mul, Nat.one_mul] at hmul
        have hph : (due ++ (putF el kn less more).2).length + (stands (el.set more less)).length * (2 * B + 1) + 1 ≤ (due.length + 1) + (stands el).length * (2 * B + 1) := by
          rw [List.length_append]
          omega
        have hA : (due ++ (putF el kn less more).2).length + (stands (el.set more less)).length * (2 * B + 1) ≤ 1 + n * (2 * B + 1) := by
          simp only [List.length_cons] at hphi
          omega
        have hB2 : (due ++ (putF el kn less more).2).length + (stands (el.set more less)).length * (2 * B + 1) < (d :: due).length + (stands el).length * (2 * B + 1) := by
          rw [List.length_cons]
          omega
        refine hN (el.set more less, (putF el kn less more).1, due ++ (putF el kn less more).2, ms ++ [(root el d.1, d.2.1, less, more)], r7) _ _ ⟨L.meet hlt hlm, ?_, da7, nda7, ?_, ?_, F6.trans F7, _, _, _, _, _, _, rfl⟩ ?_
        · have eT : (S.told ++ row :: ms.map mtD) ++ [D.tup [.str "meet", .int (root el d.1 : Nat), .int d.2.1, .int less, .int more]] = S.told ++ row :: (ms ++ [(root el d.1, d.2.1, less, more)]).map mtD := by simp [mtD]
          have R8 := R7
          simp only at R8
          rw [eT] at R8
          exact R8
        · show (ms ++ [_]).length + _ = _
          rw [List.length_append]
          show ms.length + 1 + (stands (el.set more less)).length = _
          omega
        · exact hA
        · exact hB2
  · have := Nat.mul_le_mul_right (2 * B + 1) hst
    simp only
    omega

/-! ### sets of ways, as dicts with three numbers to a key -/
abbrev Wt := Nat × Int × Nat
abbrev Wm3 := List (Wt × Unit)
def wtK (q : Wt) : List Key := tk3 q.1 q.2.1 q.2.2
def wtD (m : Wm3) : List (List Key × D) := fD wtK (fun _ : Unit => D.bl true) m
theorem wtK_inj (a b : Wt) (h : wtK a = wtK b) : a = b := by
  unfold wtK tk3 at h
  simp at h
  exact Prod.ext (by omega) (Prod.ext h.2.1 (by omega))
theorem wt_val (m : Wm3) (q : Wt) : valD (wtD m) (tk3 q.1 q.2.1 q.2.2) = (fget m q).map fun _ => D.bl true := fD_val wtK_inj m q
theorem wt_put (m : Wm3) (q : Wt) : putD (wtD m) (tk3 q.1 q.2.1 q.2.2) (.bl true) = wtD (fput m q ()) := fD_put wtK_inj m q ()
theorem wt_len (m : Wm3) : (wtD m).length = m.length := fD_len m
theorem wt_keys (m : Wm3) : (wtD m).map (fun kv => D.tup (kv.1.map kD)) = m.map fun q => D.tup [.int q.1.1, .int q.1.2.1, .int q.1.2.2] := by
  simp [wtD, fD, wtK, tk3, kD]
def WQ (m : Wm3) (Q : Wy) : Prop := ∀ a s b, fget m (a, s, b) = some () ↔ Q a s b
theorem WQ.mem {m : Wm3} {Q : Wy} (h : WQ m Q) {a : Nat} {s : Int} {b : Nat} (nd : (m.map (·.1)).Nodup) (hm : ((a, s, b), ()) ∈ m) : Q a s b := (h a s b).mp (fget_of_mem nd hm)
theorem fget_unit {m : Wm3} {q : Wt} : fget m q = some () ∨ fget m q = none := by
  cases fget m q with
  | none => exact .inr rfl
  | some u => exact .inl rfl
theorem WQ.put {m : Wm3} {Q : Wy} (h : WQ m Q) (q : Wt) : WQ (fput m q ()) (fun a s b => Q a s b ∨ (a, s, b) = q) := fun a s b => by
  rw [fget_put]
  split
  · next e => exact ⟨fun _ => .inr e, fun _ => rfl⟩
  · next e => exact ⟨fun z => .inl ((h a s b).mp z), fun z => z.elim (h a s b).mpr (fun z => absurd z e)⟩
theorem WQ.way {m : Wm3} {Q : Wy} (h : WQ m Q) (room : Nat) (step : Int) (other : Nat) : WQ (fput (fput m (room, step, other) ()) (other, -step, room) ()) (fun r s t => Q r s t ∨ way room step other r s t) := fun a s b => by
  rw [((h.put (room, step, other)).put (other, -step, room)) a s b]
  unfold My.way
  simp only [Prod.mk.injEq]
  constructor
  · rintro ((h | ⟨h1, h2, h3⟩) | ⟨h1, h2, h3⟩)
    · exact .inl h
    · exact .inr (.inl ⟨h1, h2, h3⟩)
    · exact .inr (.inr ⟨h3, h2, h1⟩)
  · rintro (h | ⟨h1, h2, h3⟩ | ⟨h1, h2, h3⟩)
    · exact .inl (.inl h)
    · exact .inl (.inr ⟨h1, h2, h3⟩)
    · exact .inr ⟨h3, h2, h1⟩
theorem nL_flat (l : List Nat) : Flat (nL l) 1 := Flat.lst (n := 0) fun d hd => by obtain ⟨x, _, rfl⟩ := List.mem_map.mp hd; exact .int _ _
def renQ (less more : Nat) (q : Wt) : Wt := (rn less more q.1, q.2.1, rn less more q.2.2)
def turnF (less more : Nat) : List (Wt × Unit) → Wm3 → Wm3
  | [], m => m
  | q :: qs, m => turnF less more qs (fput m (renQ less more q.1) ())
theorem turnF_snoc (less more : Nat) (x : Wt × Unit) : ∀ (qs : List (Wt × Unit)) (m : Wm3), turnF less more (qs ++ [x]) m = fput (turnF less more qs m) (renQ less more x.1) ()
  | [], m => rfl
  | q :: qs, m => by rw [List.cons_append, turnF, turnF_snoc less more x qs, turnF]
theorem turnF_get (less more : Nat) : ∀ (qs : List (Wt × Unit)) (m : Wm3) (k : Wt), fget (turnF less more qs m) k = some () ↔ fget m k = some () ∨ ∃ q ∈ qs, renQ less more q.1 = k
  | [], m, k => by simp [turnF]
  | q :: qs, m, k => by
    rw [turnF, turnF_get less more qs, fget_put]
    constructor
    · rintro (h | ⟨q', hq, h⟩)
      · split at h
        · next e => exact .inr ⟨q, List.mem_cons_self, e.symm⟩
        · exact .inl h
      · exact .inr ⟨q', List.mem_cons_of_mem _ hq, h⟩
    · rintro (h | ⟨q', hq, h⟩)
      · left
        split
        · rfl
        · exact h
      · rcases List.mem_cons.mp hq with e | e
        · subst e
          left
          rw [if_pos h.symm]
        · exact .inr ⟨q', e, h⟩
theorem turnF_nd (less more : Nat) : ∀ (qs : List (Wt × Unit)) (m : Wm3), (m.map (·.1)).Nodup → ((turnF less more qs m).map (·.1)).Nodup
  | [], _, h => h
  | q :: qs, m, h => turnF_nd less more qs _ (fnodup_put h _ _)
theorem turnF_len (less more : Nat) : ∀ (qs : List (Wt × Unit)) (m : Wm3), (turnF less more qs m).length ≤ m.length + qs.length
  | [], _ => Nat.le_refl _
  | q :: qs, m => by
    have := turnF_len less more qs (fput m (renQ less more q.1) ())
    have h2 := flen_put m (renQ less more q.1) ()
    rw [turnF, List.length_cons]
    omega
theorem WQ.turn {m : Wm3} {Q : Wy} (h : WQ m Q) (nd : (m.map (·.1)).Nodup) (less more : Nat) : WQ (turnF less more m []) (ren less more Q) := fun a s b => by
  rw [turnF_get]
  constructor
  · rintro (h1 | ⟨⟨⟨x, u, y⟩, _⟩, hq, e⟩)
    · cases h1
    · simp only [renQ, Prod.mk.injEq] at e
      obtain ⟨rfl, rfl, rfl⟩ := e
      exact ⟨x, y, h.mem nd hq, rfl, rfl⟩
  · rintro ⟨x, y, hq, rfl, rfl⟩
    exact .inr ⟨((x, s, y), ()), fget_mem ((h x s y).mpr hq), rfl⟩
theorem mk_ok {n : Nat} {B : Int} {S : RS} (G : Gd n B S.el S.kn) {room : Nat} {step : Int} (hr : S.el[room]? = some room) (ho : kv S.kn room step = none) (hs : -B ≤ step ∧ step ≤ B) :
    Gd (n + 1) B (S.mk1 room step).el (S.mk1 room step).kn ∧ (∀ r s t, gr (S.mk1 room step).kn r s t ↔ gr S.kn r s t ∨ way room step n r s t) ∧ (∀ x, x < n → root (S.mk1 room step).el x = root S.el x) ∧ root (S.mk1 room step).el n = n := by
  have hrn : room < n := by rw [← G.elen]; exact stand_lt hr
  have hrl : room < S.kn.length := by rw [G.klen]; exact hrn
  have hgl := List.getElem?_eq_getElem hrl
  have enn : S.el.length = n := G.elen
  have el' : (S.mk1 room step).el = S.el ++ [n] := by simp [RS.mk1, enn]
  have kn' : (S.mk1 room step).kn = S.kn.set room (fput ((S.kn[room]?).getD []) step n) ++ [[(-step, room)]] := by simp [RS.mk1, enn]
  have st1 : ∀ x v, S.el[x]? = some v → (S.el ++ [n])[x]? = some v := fun x v h => by rw [List.getElem?_append_left (stand_lt h)]; exact h
  have stn : (S.el ++ [n])[n]? = some n := by rw [List.getElem?_append_right (by omega), enn, Nat.sub_self]; rfl
  have kk : ∀ r s, kv (S.kn.set room (fput ((S.kn[room]?).getD []) step n) ++ [[(-step, room)]]) r s = if r = n ∧ s = -step then some room else if r = room ∧ s = step then some n else kv S.kn r s := fun r s => by
    by_cases h1 : r < n
    · have : kv (S.kn.set room (fput ((S.kn[room]?).getD []) step n) ++ [[(-step, room)]]) r s = kv (S.kn.set room (fput ((S.kn[room]?).getD []) step n)) r s := by
        unfold kv; rw [List.getElem?_append_left (by rw [List.length_set, G.klen]; exact h1)]
      have hn1 : ¬ (r = n ∧ s = -step) := fun z => by omega
      rw [this, kv_set _ hrl, if_neg hn1]
      by_cases h2 : r = room
      · subst h2
        rw [if_pos rfl, fget_put]
        by_cases h3 : s = step
        · simp [h3]
        · rw [if_neg h3, if_neg (fun z => h3 z.2)]; rfl
      · rw [if_neg h2, if_neg (fun z => h2 z.1)]
    · by_cases h2 : r = n
      · subst h2
        have : kv (S.kn.set room (fput ((S.kn[room]?).getD []) step r) ++ [[(-step, room)]]) r s = fget [(-step, room)] s := by
          unfold kv; rw [List.getElem?_append_right (by rw [List.length_set, G.klen]; omega), List.length_set, G.klen, Nat.sub_self]; rfl
        have h4 : kv S.kn r s = none := by unfold kv; rw [List.getElem?_eq_none (by rw [G.klen]; omega)]; rfl
        rw [this, fget_cons, fget_nil, h4]
        by_cases h3 : s = -step
        · rw [if_pos h3.symm, if_pos ⟨rfl, h3⟩]
        · rw [if_neg (fun z => h3 z.symm), if_neg (fun z => h3 z.2), if_neg (fun z => by omega)]
      · have h3 : kv (S.kn.set room (fput ((S.kn[room]?).getD []) step n) ++ [[(-step, room)]]) r s = none := by
          unfold kv; rw [List.getElem?_eq_none (by simp [G.klen]; omega)]; rfl
        have h4 : kv S.kn r s = none := by unfold kv; rw [List.getElem?_eq_none (by rw [G.klen]; omega)]; rfl
        rw [h3, h4, if_neg (fun z => h2 z.1), if_neg (fun z => by omega)]
  have gg : ∀ r s t, gr (S.mk1 room step).kn r s t ↔ gr S.kn r s t ∨ way room step n r s t := fun r s t => by
    unfold gr way
    rw [kn', kk]
    by_cases h1 : r = n ∧ s = -step
    · obtain ⟨rfl, rfl⟩ := h1
      have h4 : kv S.kn r (-step) = none := by unfold kv; rw [List.getElem?_eq_none (by rw [G.klen]; omega)]; rfl
      rw [if_pos ⟨rfl, rfl⟩, h4]
      constructor
      · intro h; cases h; exact .inr (.inr ⟨rfl, rfl, rfl⟩)
      · rintro (h | ⟨h1, _, _⟩ | ⟨h1, _, _⟩)
        · cases h
        · omega
        · rw [h1]
    · rw [if_neg h1]
      by_cases h2 : r = room ∧ s = step
      · obtain ⟨rfl, rfl⟩ := h2
        rw [if_pos ⟨rfl, rfl⟩, ho]
        constructor
        · intro h; cases h; exact .inr (.inl ⟨rfl, rfl, rfl⟩)
        · rintro (h | ⟨_, _, h⟩ | ⟨_, h2, h3⟩)
          · cases h
          · rw [h]
          · exact absurd ⟨h3, h2⟩ h1
      · rw [if_neg h2]
        constructor
        · exact .inl
        · rintro (h | ⟨h3, h4, _⟩ | ⟨_, h4, h5⟩)
          · exact h
          · exact absurd ⟨h3, h4⟩ h2
          · exact absurd ⟨h5, h4⟩ h1
  have ok' : ElOk (S.el ++ [n]) := ⟨fun i v h => by
    by_cases hi : i < S.el.length
    · rw [List.getElem?_append_left hi] at h; exact G.ok.le i v h
    · have : i = n := by have := stand_lt h; simp at this; omega
      subst this
      rw [stn] at h; cases h; exact Nat.le_refl _⟩
  have rt : ∀ x, x < n → root (S.el ++ [n]) x = root S.el x := fun x => by
    induction x using Nat.strongRecOn with
    | _ x ih =>
      intro hx
      have hv := List.getElem?_eq_getElem (show x < S.el.length by omega)
      have hle := G.ok.le x _ hv
      generalize S.el[x] = v at hv hle
      by_cases e : v = x
      · subst e; rw [root_eq hv, root_eq (st1 _ _ hv)]
      · rw [root_lt hv (by omega), root_lt (st1 _ _ hv) (by omega)]; exact ih v (by omega) (by omega)
  refine ⟨⟨by rw [el']; exact ok', by rw [el']; simp [enn], by rw [kn']; simp [G.klen], fun r s t h => ?_, fun r s t h => ?_, fun r m h => ?_, fun r m h => ?_⟩, gg, fun x hx => by rw [el']; exact rt x hx, by rw [el']; exact root_eq stn⟩
  · rw [el']
    rcases (gg r s t).mp h with h | ⟨rfl, rfl, rfl⟩ | ⟨rfl, rfl, rfl⟩
    · exact ⟨st1 _ _ (G.ends r s t h).1, st1 _ _ (G.ends r s t h).2⟩
    · exact ⟨st1 _ _ hr, stn⟩
    · exact ⟨stn, st1 _ _ hr⟩
  · rcases (gg r s t).mp h with h | h
    · exact (gg _ _ _).mpr (.inl (G.back r s t h))
    · exact (gg _ _ _).mpr (.inr (way_back h))
  · have key : ∀ (i : Nat) (m : Kn), (S.kn.set room (fput ((S.kn[room]?).getD []) step n) ++ [[(-step, room)]])[i]? = some m → (∃ m0, S.kn[room]? = some m0 ∧ m = fput m0 step n) ∨ S.kn[i]? = some m ∨ m = [(-step, room)] := fun i m h => by
      by_cases hi : i < S.kn.length
      · rw [List.getElem?_append_left (by rw [List.length_set]; exact hi)] at h
        rcases get_set h with ⟨_, e⟩ | ⟨_, e⟩
        · exact .inl ⟨_, hgl, by rw [e, hgl]; rfl⟩
        · exact .inr (.inl e)
      · have hh := List.mem_of_getElem? h
        rw [List.getElem?_append_right (by rw [List.length_set]; omega)] at h
        have := List.mem_of_getElem? h
        exact .inr (.inr (by simpa using this))
    rw [kn'] at h
    rcases key r m h with ⟨m0, h0, rfl⟩ | h | rfl
    · exact fnodup_put (G.nd _ _ h0) _ _
    · exact G.nd r m h
    · simp
  · have key : ∀ (i : Nat) (m : Kn), (S.kn.set room (fput ((S.kn[room]?).getD []) step n) ++ [[(-step, room)]])[i]? = some m → (∃ m0, S.kn[room]? = some m0 ∧ m = fput m0 step n) ∨ S.kn[i]? = some m ∨ m = [(-step, room)] := fun i m h => by
      by_cases hi : i < S.kn.length
      · rw [List.getElem?_append_left (by rw [List.length_set]; exact hi)] at h
        rcases get_set h with ⟨_, e⟩ | ⟨_, e⟩
        · exact .inl ⟨_, hgl, by rw [e, hgl]; rfl⟩
        · exact .inr (.inl e)
      · rw [List.getElem?_append_right (by rw [List.length_set]; omega)] at h
        have := List.mem_of_getElem? h
        exact .inr (.inr (by simpa using this))
    rw [kn'] at h
    intro s hsm
    rcases key r m h with ⟨m0, h0, rfl⟩ | h | rfl
    · exact (keys_put hsm).elim (fun e => e ▸ hs) (G.bd _ _ h0 s)
    · exact G.bd r m h s hsm
    · simp at hsm; subst hsm; omega

/-! ### what the laws of rooms share -/
theorem fput_none {κ β : Type} [DecidableEq κ] {m : List (κ × β)} {k : κ} (v : β) (h : fget m k = none) : fput m k v = m ++ [(k, v)] := by
  unfold fput
  rw [fget_any, h]
  rfl
def seenD (pre : List (Wt × Unit)) : List (List Key × D) := fD (fun q : Nat × Int => pk q.1 q.2) (fun _ : Unit => D.bl true) (pre.map fun q => ((q.1.1, q.1.2.1), ()))
theorem pkK_inj (a b : Nat × Int) (h : pk a.1 a.2 = pk b.1 b.2) : a = b := by
  obtain ⟨h1, h2⟩ := pk_inj.mp h
  exact Prod.ext (by omega) h2
/-! ### counting the ways -/
def cnt2 (kn : List Kn) (r : Nat) (s : Int) : Option Wt := (kv kn r s).map fun t => (r, s, t)
def cnt1 (kn : List Kn) (r : Nat) (k : Nat) : List Wt := [((k : Int) + 1), -((k : Int) + 1)].filterMap (cnt2 kn r)
def cnt (kn : List Kn) (l : Nat) (r : Nat) : List Wt := (List.range l).flatMap (cnt1 kn r)
def cntA (el : List Nat) (kn : List Kn) (l : Nat) (n : Nat) : List Wt := (List.range n).flatMap fun r => if el[r]? = some r then cnt kn l r else []
theorem mem_cnt1 {kn : List Kn} {r k : Nat} {q : Wt} : q ∈ cnt1 kn r k ↔ q.1 = r ∧ (q.2.1 = (k : Int) + 1 ∨ q.2.1 = -((k : Int) + 1)) ∧ kv kn r q.2.1 = some q.2.2 := by
  unfold cnt1
  rw [List.mem_filterMap]
  constructor
  · rintro ⟨s, hs, h⟩
    unfold cnt2 at h
    cases e : kv kn r s with
    | none => rw [e] at h; cases h
    | some t =>
      rw [e] at h
      cases h
      simp at hs
      exact ⟨rfl, by simpa using hs, e⟩
  · rintro ⟨rfl, h, e⟩
    refine ⟨q.2.1, by simpa using h, ?_⟩
    unfold cnt2
    rw [e]
    rfl
theorem mem_cnt {kn : List Kn} {l r : Nat} {q : Wt} : q ∈ cnt kn l r ↔ q.1 = r ∧ (∃ k, k < l ∧ (q.2.1 = (k : Int) + 1 ∨ q.2.1 = -((k : Int) + 1))) ∧ kv kn r q.2.1 = some q.2.2 := by
  unfold cnt
  simp only [List.mem_flatMap, List.mem_range, mem_cnt1]
  constructor
  · rintro ⟨k, hk, h1, h2, h3⟩
    exact ⟨h1, ⟨k, hk, h2⟩, h3⟩
  · rintro ⟨h1, ⟨k, hk, h2⟩, h3⟩
    exact ⟨k, hk, h1, h2, h3⟩
theorem cnt1_nd (kn : List Kn) (r k : Nat) : (cnt1 kn r k).Nodup := by
  unfold cnt1
  have hne : ((k : Int) + 1) ≠ -((k : Int) + 1) := by omega
  simp only [List.filterMap_cons, List.filterMap_nil]
  unfold cnt2
  cases kv kn r ((k : Int) + 1) <;> cases kv kn r (-((k : Int) + 1)) <;> simp
  omega
theorem cntA_nd (el : List Nat) (kn : List Kn) (l n : Nat) : (cntA el kn l n).Nodup := by
  unfold cntA List.Nodup
  rw [List.pairwise_flatMap]
  refine ⟨fun r hr => ?_, ?_⟩
  · split
    · unfold cnt
      rw [List.pairwise_flatMap]
      refine ⟨fun k hk => cnt1_nd kn r k, ?_⟩
      refine List.Pairwise.imp (R := fun a b => a ≠ b) (fun {a b} hab x hx y hy e => ?_) List.nodup_range
      subst e
      have h1 := (mem_cnt1.mp hx).2.1
      have h2 := (mem_cnt1.mp hy).2.1
      omega
    · exact List.Pairwise.nil
  · refine List.Pairwise.imp (R := fun a b => a ≠ b) (fun {a b} hab x hx y hy e => ?_) List.nodup_range
    subst e
    split at hx
    · split at hy
      · exact hab ((mem_cnt.mp hx).1.symm.trans (mem_cnt.mp hy).1)
      · cases hy
    · cases hx
theorem cnt_all {n l : Nat} {el : List Nat} {kn : List Kn} (G : Gd n l el kn) (nz : ∀ r s t, gr kn r s t → s ≠ 0) {m : Wm3} (hQ : WQ m (gr kn)) (nd : (m.map (·.1)).Nodup) : (cntA el kn l n).length = m.length := by
  have key : ∀ q : Wt, q ∈ cntA el kn l n ↔ q ∈ m.map (·.1) := fun q => by
    have e1 : q ∈ m.map (·.1) ↔ gr kn q.1 q.2.1 q.2.2 := by
      rw [← hQ]
      constructor
      · intro h
        obtain ⟨x, hx, e⟩ := List.mem_map.mp h
        rw [← e]
        exact fget_of_mem nd hx
      · intro h
        exact List.mem_map.mpr ⟨_, fget_mem h, rfl⟩
    rw [e1]
    unfold cntA
    rw [List.mem_flatMap]
    constructor
    · rintro ⟨r, hr, h⟩
      split at h
      · obtain ⟨rfl, _, h3⟩ := mem_cnt.mp h
        exact h3
      · cases h
    · intro h
      have he := (G.ends _ _ _ h).1
      refine ⟨q.1, List.mem_range.mpr (by rw [← G.elen]; exact stand_lt he), ?_⟩
      rw [if_pos he]
      refine mem_cnt.mpr ⟨rfl, ?_, h⟩
      have hn := nz _ _ _ h
      have hl : q.1 < kn.length := by rw [G.klen, ← G.elen]; exact stand_lt he
      have hb := G.bd q.1 _ (List.getElem?_eq_getElem hl) q.2.1 (by
        have hm := (gr_mem G (show q.1 < n by rw [← G.klen]; exact hl)).mpr h
        rw [List.getElem?_eq_getElem hl] at hm
        exact List.mem_map.mpr ⟨_, hm, rfl⟩)
      exact ⟨q.2.1.natAbs - 1, by omega, by omega⟩
  have h1 := nodup_len2 (cntA_nd el kn l n) fun q hq => (key q).mp hq
  have h2 := nodup_len2 nd fun q hq => (key q).mpr hq
  rw [List.length_map] at h1 h2
  omega
theorem els_stand {n : Nat} {B : Int} {el : List Nat} {kn : List Kn} (G : Gd n B el kn) {k : Nat} (hk : k < n) : root el k = k ↔ el[k]? = some k := by
  constructor
  · intro h
    have := root_st G.ok k (by rw [G.elen]; exact hk)
    rw [h] at this
    exact this
  · exact root_eq
theorem els_at {n : Nat} {el : List Nat} {k : Nat} (hk : k < n) : atI (((List.range n).map (root el)).map fun n : Nat => D.int n) (k : Int) = some (.int (root el k : Nat)) := by
  rw [get_nat (by simpa using hk), List.getElem?_map, List.getElem?_range hk]
  rfl
theorem Mt.steps {Q Q' : Wy} {ms : List Mr} {g : Nat → Nat} (h : Mt Q ms Q' g) : ∀ r s t, Q' r s t → ∃ r' t', Q r' s t' := by
  induction h with
  | nil Q => exact fun r s t h => ⟨r, t, h⟩
  | cons k1 k2 k3 _ ih =>
    intro r s t h
    obtain ⟨r', t', a, b, h2, _, _⟩ := ih r s t h
    exact ⟨a, b, h2⟩
theorem mtD_flat (x : Mr) : Flat (mtD x) 1 := Flat.tup (n := 0) fun d hd => by
  simp at hd
  rcases hd with h | h | h | h | h <;> subst h
  · exact .str _ _
  · exact .int _ _
  · exact .int _ _
  · exact .int _ _
  · exact .int _ _
theorem pick {st : List Nat} (h : st ≠ []) (y : Int) : ∃ v ∈ st, atI (st.map fun n : Nat => D.int n) (y % (st.length : Int)) = some (.int v) := by
  have hl : 0 < st.length := List.length_pos_iff.mpr h
  have hb := mod_bd y (j := (st.length : Int)) (by omega)
  obtain ⟨i, hi⟩ : ∃ i : Nat, y % (st.length : Int) = (i : Int) := ⟨(y % (st.length : Int)).toNat, by omega⟩
  have hil : i < st.length := by omega
  refine ⟨st[i], List.getElem_mem hil, ?_⟩
  rw [hi, get_nat hil, List.getElem?_eq_getElem hil]
  rfl
theorem pick_last {st : List Nat} (h : st ≠ []) : ∃ v ∈ st, atI (st.map fun n : Nat => D.int n) (-1) = some (.int v) := by
  obtain ⟨pre, x, e⟩ : ∃ pre x, st = pre ++ [x] := ⟨st.dropLast, st.getLast h, (List.dropLast_concat_getLast h).symm⟩
  refine ⟨x, by rw [e]; simp, ?_⟩
  rw [e, List.map_append]
  exact atI_lastD _ _
theorem sEq_plain {d e : D} {b : Bool} (h1 : d.pl = true) (h2 : e.pl = true) (h3 : e.py.depth ≤ 64) (hb : d.eqv e = b) (Q : Bool → D → Prop) : sEq d e Q = Q false (.bl b) := by
  unfold sEq
  rw [hb]
  simp [h1, h2, h3]
theorem gr0 {r : Nat} {s : Int} {t : Nat} (h : gr [[]] r s t) : False := by
  unfold gr kv at h
  cases r <;> cases h
theorem stands_comp {n : Nat} {B : Int} {el : List Nat} {kn : List Kn} (G : Gd n B el kn) : (((List.range n).filter fun k : Nat => decide (el[k]? = some k)).map fun k : Nat => D.int k) = (stands el).map fun n : Nat => D.int n := by
  unfold stands; rw [G.elen]
structure St (w : Om) (p : Addr) (r : RP) (S : RS) (a : Addr) (m : Wm3) (l n : Nat) : Prop where
  R : Rm w p r S
  G : Gd n l S.el S.kn
  na : a ∉ r.fp p
  ha : w a = some (.dT (wtD m))
  hQ : WQ m (gr S.kn)
  nd : (m.map (·.1)).Nodup
  nz : ∀ r s t, gr S.kn r s t → s ≠ 0
  fl : ∀ d ∈ S.told, Flat d 3
theorem St.mono {w w' : Om} {p : Addr} {r : RP} {S : RS} {a : Addr} {m : Wm3} {l n : Nat} (I : St w p r S a m l n) (h : ∀ b, w b ≠ none → w' b = w b) : St w' p r S a m l n :=
  ⟨I.R.same fun b hb => h b (I.R.there b hb), I.G, I.na, by rw [h a (by rw [I.ha]; exact fun z => nomatch z)]; exact I.ha, I.hQ, I.nd, I.nz, I.fl⟩
/-- a row that the asker gives -/
structure DueOk (d : D) (b : Bool) : Prop where
  fl : Flat d 2
  tup : ∃ xs, d = .tup xs ∧ ∀ Q : Bool → D → Prop, sEq (.tup (cutD xs none (some 1))) (.tup [.str "new"]) Q = Q false (.bl b)
theorem due1 (n : Nat) : DueOk (.tup [.str "said", .int n]) false := ⟨Flat.tup (n := 1) fun d hd => by
  simp at hd
  rcases hd with h | h <;> subst h
  · exact .str _ _
  · exact .int _ _, _, rfl, fun Q => sEq_plain (by rfl) (by rfl) (by decide) (by first | rfl | decide +kernel | simp [D.eqv, D.py, pyAll, PyData.eqv, PyData.eqvAll]) Q⟩
theorem due2 (n : Nat) (i : Int) : DueOk (.tup [.int n, .int i, .str "new", .int 0]) false := ⟨Flat.tup (n := 1) fun d hd => by
  simp at hd
  rcases hd with h | h | h | h <;> subst h
  · exact .int _ _
  · exact .int _ _
  · exact .str _ _
  · exact .int _ _, _, rfl, fun Q => sEq_plain (by rfl) (by rfl) (by decide) (by first | rfl | decide +kernel | simp [D.eqv, D.py, pyAll, PyData.eqv, PyData.eqvAll]) Q⟩
theorem due3 : DueOk (.tup [.str "meet", .int 0]) false := ⟨Flat.tup (n := 1) fun d hd => by
  simp at hd
  rcases hd with h | h <;> subst h
  · exact .str _ _
  · exact .int _ _, _, rfl, fun Q => sEq_plain (by rfl) (by rfl) (by decide) (by first | rfl | decide +kernel | simp [D.eqv, D.py, pyAll, PyData.eqv, PyData.eqvAll]) Q⟩
theorem due4 : DueOk (.tup []) false := ⟨Flat.tup (n := 1) fun d hd => (nomatch hd), _, rfl, fun Q => sEq_plain (by rfl) (by rfl) (by decide) (by first | rfl | decide +kernel | simp [D.eqv, D.py, pyAll, PyData.eqv, PyData.eqvAll]) Q⟩
theorem due5 (room : Nat) (s : Int) (n : Nat) : DueOk (newR room s n) true := ⟨⟨(newR_flat _ _ _).pl, Nat.le_trans (newR_flat _ _ _).dep (by omega)⟩, _, rfl, fun Q => sEq_plain (by rfl) (by rfl) (by decide) (by first | rfl | decide +kernel | simp [D.eqv, D.py, pyAll, PyData.eqv, PyData.eqvAll]) Q⟩

/-! ### putting together ends in one way -/
theorem Mt.img {Q Q' : Wy} {ms : List Mr} {g : Nat → Nat} (h : Mt Q ms Q' g) : ∀ r s t, Q' r s t ↔ ∃ a b, Q a s b ∧ g a = r ∧ g b = t := by
  induction h with
  | nil Q => exact fun r s t => ⟨fun h => ⟨r, t, h, rfl, rfl⟩, fun ⟨a, b, h, e1, e2⟩ => by cases e1; cases e2; exact h⟩
  | @cons Q Q' a0 s0 less more ms g k1 k2 k3 _ ih =>
    intro r s t
    rw [ih]
    constructor
    · rintro ⟨x, y, ⟨a, b, hq, rfl, rfl⟩, e1, e2⟩
      exact ⟨a, b, hq, e1, e2⟩
    · rintro ⟨a, b, hq, e1, e2⟩
      exact ⟨_, _, ⟨a, b, hq, rfl, rfl⟩, e1, e2⟩
theorem sNe_plain {d e : D} {b : Bool} (h1 : d.pl = true) (h2 : e.pl = true) (h3 : e.py.depth ≤ 64) (hb : d.eqv e = !b) (Q : Bool → D → Prop) : sNe d e Q = Q false (.bl b) := by
  unfold sNe
  rw [hb]
  simp [h1, h2, h3]
def Det (Q : Wy) : Prop := ∀ r s t t', Q r s t → Q r s t' → t = t'
theorem Mt.forced {Q Q' : Wy} {ms : List Mr} {g : Nat → Nat} (h : Mt Q ms Q' g) : ∀ f : Nat → Nat, (∀ a a' s b b', Q a s b → Q a' s b' → f a = f a' → f b = f b') → ∀ x, f (g x) = f x := by
  induction h with
  | nil Q => exact fun f _ x => rfl
  | @cons Q Q' a s less more ms g k1 k2 k3 _ ih =>
    intro f hf x
    have e : f less = f more := hf _ _ _ _ _ k1 k2 rfl
    have er : ∀ y, f (rn less more y) = f y := fun y => by
      unfold rn
      split
      · next h => rw [h, e]
      · rfl
    rw [ih f (fun a a' s b b' h1 h2 h3 => ?_) (rn less more x), er]
    obtain ⟨a1, b1, q1, rfl, rfl⟩ := h1
    obtain ⟨a2, b2, q2, rfl, rfl⟩ := h2
    rw [er, er] at h3 ⊢
    exact hf _ _ _ _ _ q1 q2 h3
theorem Mt.unique {Q Q1 Q2 : Wy} {ms1 ms2 : List Mr} {g1 g2 : Nat → Nat} (h1 : Mt Q ms1 Q1 g1) (h2 : Mt Q ms2 Q2 g2) (d1 : Det Q1) (d2 : Det Q2) : g1 = g2 ∧ Q1 = Q2 := by
  have cong : ∀ {Q' : Wy} {ms : List Mr} {g : Nat → Nat}, Mt Q ms Q' g → Det Q' → ∀ a a' s b b', Q a s b → Q a' s b' → g a = g a' → g b = g b' := fun {Q' ms g} h d a a' s b b' q1 q2 e =>
    d (g a) s _ _ ((h.img _ _ _).mpr ⟨a, b, q1, rfl, rfl⟩) ((h.img _ _ _).mpr ⟨a', b', q2, e.symm, rfl⟩)
  have e1 := h1.forced g2 (cong h2 d2)
  have e2 := h2.forced g1 (cong h1 d1)
  have eg : g1 = g2 := by
    funext x
    refine Nat.le_antisymm ?_ ?_
    · rw [← e2 x]; exact h1.le _
    · rw [← e1 x]; exact h2.le _
  refine ⟨eg, wy_ext fun r s t => ?_⟩
  rw [h1.img, h2.img, eg]
theorem det_gr (kn : List Kn) : Det (gr kn) := fun _ _ _ _ h1 h2 => Option.some.inj (h1.symm.trans h2)
theorem sum_map_le {f : Nat → Nat} (h : ∀ x, f x ≤ x) : ∀ l : List Nat, (l.map f).sum ≤ l.sum
  | [] => Nat.le_refl _
  | x :: l => by
    have := sum_map_le h l
    have := h x
    simp
    omega
theorem sum_map_lt {f : Nat → Nat} (h : ∀ x, f x ≤ x) {y : Nat} (hy : f y < y) : ∀ {l : List Nat}, y ∈ l → (l.map f).sum < l.sum
  | x :: l, hm => by
    have h1 := sum_map_le h l
    have h2 := h x
    rcases List.mem_cons.mp hm with e | e
    · subst e
      simp
      omega
    · have := sum_map_lt h hy e
      simp
      omega

/-! ### words walked in known ways -/
theorem codNat : Codec (fun n : Nat => D.int n) 0 := ⟨fun _ => rfl, fun _ => Nat.le_refl _, fun a b => by simp [D.py, PyData.eqv]; omega⟩
theorem sNe_nats (a b : List Nat) (P : Bool → D → Prop) : sNe (.lst (a.map fun n : Nat => D.int n)) (.lst (b.map fun n : Nat => D.int n)) P = P false (.bl (!decide (a = b))) := codNat.lst.sNe (by decide) a b P
theorem sEq_nats (a b : List Nat) (P : Bool → D → Prop) : sEq (.lst (a.map fun n : Nat => D.int n)) (.lst (b.map fun n : Nat => D.int n)) P = P false (.bl (decide (a = b))) := codNat.lst.sEq (by decide) a b P
theorem sIn_nats (neg : Bool) (a : Nat) (as : List Nat) (P : Bool → D → Prop) : sIn neg (.int a) (.lst (as.map fun n : Nat => D.int n)) P = P false (.bl (if neg then !decide (a ∈ as) else decide (a ∈ as))) := codNat.sInL (by decide) neg a as P
def wk (kn : List Kn) (r : Nat) : List Int → List Nat
  | [] => [r]
  | s :: ws => match kv kn r s with
    | none => [r]
    | some t => r :: wk kn t ws
theorem wk_none {kn : List Kn} {r : Nat} {s : Int} {ws : List Int} (h : kv kn r s = none) : wk kn r (s :: ws) = [r] := by rw [wk, h]
theorem wk_some {kn : List Kn} {r t : Nat} {s : Int} {ws : List Int} (h : kv kn r s = some t) : wk kn r (s :: ws) = r :: wk kn t ws := by rw [wk, h]
theorem wk_len (kn : List Kn) : ∀ (ws : List Int) (r : Nat), 1 ≤ (wk kn r ws).length ∧ (wk kn r ws).length ≤ ws.length + 1
  | [], r => by simp [wk]
  | s :: ws, r => by
    cases h : kv kn r s with
    | none => rw [wk_none h]; simp
    | some t =>
      have := wk_len kn ws t
      rw [wk_some h]
      simp
      omega
theorem wk_0 (kn : List Kn) (r : Nat) (ws : List Int) : (wk kn r ws)[0]? = some r := by
  cases ws with
  | nil => rfl
  | cons s ws =>
    cases h : kv kn r s with
    | none => rw [wk_none h]; rfl
    | some t => rw [wk_some h]; rfl
theorem wk_step (kn : List Kn) : ∀ (ws : List Int) (r i a b : Nat) (s : Int), (wk kn r ws)[i]? = some a → (wk kn r ws)[i + 1]? = some b → ws[i]? = some s → kv kn a s = some b
  | [], r, i, a, b, s, h1, h2, _ => by simp [wk] at h2
  | x :: ws, r, i, a, b, s, h1, h2, h3 => by
    cases h : kv kn r x with
    | none => rw [wk_none h] at h2; simp at h2
    | some t =>
      rw [wk_some h] at h1 h2
      cases i with
      | zero =>
        simp at h1 h2 h3
        rw [wk_0] at h2
        subst h1 h3
        rw [h, ← Option.some.inj h2]
      | succ i =>
        simp at h1 h2 h3
        exact wk_step kn ws t i a b s h1 (by simpa using h2) h3
theorem wk_stop (kn : List Kn) : ∀ (ws : List Int) (r k a : Nat) (s : Int), (wk kn r ws).length = k + 1 → (wk kn r ws)[k]? = some a → ws[k]? = some s → kv kn a s = none
  | [], r, k, a, s, _, _, h3 => by simp at h3
  | x :: ws, r, k, a, s, h1, h2, h3 => by
    cases h : kv kn r x with
    | none =>
      rw [wk_none h] at h1 h2
      simp at h1
      subst h1
      simp at h2 h3
      subst h2 h3
      exact h
    | some t =>
      rw [wk_some h] at h1 h2
      cases k with
      | zero =>
        have := (wk_len kn ws t).1
        rw [List.length_cons] at h1
        omega
      | succ k =>
        simp at h1 h2 h3
        exact wk_stop kn ws t k a s h1 h2 h3
theorem wk_max (kn : List Kn) : ∀ (k : Nat) (ws : List Int) (f : Nat → Nat), k ≤ ws.length → (∀ i s, i < k → ws[i]? = some s → kv kn (f i) s = some (f (i + 1))) → k < (wk kn (f 0) ws).length ∧ ∀ i, i ≤ k → (wk kn (f 0) ws)[i]? = some (f i)
  | 0, ws, f, _, _ => ⟨(wk_len kn ws (f 0)).1, fun i hi => by
      have : i = 0 := by omega
      subst this
      exact wk_0 kn (f 0) ws⟩
  | k + 1, [], f, h, _ => by simp at h
  | k + 1, s :: ws, f, h, hs => by
    have h0 := hs 0 s (by omega) rfl
    obtain ⟨h1, h2⟩ := wk_max kn k ws (fun i => f (i + 1)) (by simpa using h) fun i x hi hx => hs (i + 1) x (by omega) (by simpa using hx)
    rw [wk_some h0]
    refine ⟨by simp; exact h1, fun i hi => ?_⟩
    cases i with
    | zero => rfl
    | succ i => simpa using h2 i (by omega)
theorem wk_lt {kn : List Kn} {n : Nat} (hk : ∀ r s t, kv kn r s = some t → t < n) : ∀ (ws : List Int) (r : Nat), r < n → ∀ x ∈ wk kn r ws, x < n
  | [], r, hr, x, hx => by simp [wk] at hx; omega
  | s :: ws, r, hr, x, hx => by
    cases h : kv kn r s with
    | none => rw [wk_none h] at hx; simp at hx; omega
    | some t =>
      rw [wk_some h] at hx
      rcases List.mem_cons.mp hx with e | e
      · omega
      · exact wk_lt hk ws t (hk _ _ _ h) x e
theorem wk_st {n : Nat} {B : Int} {el : List Nat} {kn : List Kn} (G : Gd n B el kn) : ∀ (ws : List Int) (r : Nat), el[r]? = some r → ∀ x ∈ wk kn r ws, el[x]? = some x
  | [], r, hr, x, hx => by simp [wk] at hx; subst hx; exact hr
  | s :: ws, r, hr, x, hx => by
    cases h : kv kn r s with
    | none => rw [wk_none h] at hx; simp at hx; subst hx; exact hr
    | some t =>
      rw [wk_some h] at hx
      rcases List.mem_cons.mp hx with e | e
      · subst e; exact hr
      · exact wk_st G ws t (G.ends _ _ _ h).2 x e
def bkW (ws : List Int) : List Int := (ws.map fun x => -x).reverse
theorem bkW_len (ws : List Int) : (bkW ws).length = ws.length := by simp [bkW]
/-- a word goes round from a room, or stops ahead of an open way at both ends -/
def Rounded (kn : List Kn) (u : List Int) (room : Nat) : Prop :=
  ((wk kn room u).length = u.length + 1 ∧ (wk kn room u)[u.length]? = some room) ∨ ((wk kn room u).length ≤ u.length ∧ (wk kn room (bkW (u.drop (wk kn room u).length))).length ≤ u.length - (wk kn room u).length)
/-- a path by which a rule tells a way -/
structure RR (el : List Nat) (kn : List Kn) (u : List Int) (room : Nat) (path : List Nat) (k : Nat) : Prop where
  len : path.length = u.length + 1
  lt : k < u.length
  p0 : path[0]? = some room
  pl : path[u.length]? = some room
  st : ∀ x ∈ path, el[x]? = some x
  ways : ∀ i s a b, i ≠ k → u[i]? = some s → path[i]? = some a → path[i + 1]? = some b → gr kn a s b
  new : ∀ s a b, u[k]? = some s → path[k]? = some a → path[k + 1]? = some b → ¬ gr kn a s b
theorem rr_full {n : Nat} {B : Int} {el : List Nat} {kn : List Kn} (G : Gd n B el kn) {u : List Int} {room e : Nat} (hr : el[room]? = some room) (hl : (wk kn room u).length = u.length + 1) (he : (wk kn room u)[u.length]? = some e) (hne : e ≠ room) :
    1 ≤ u.length ∧ RR el kn u room ((wk kn room u).set u.length room) (u.length - 1) := by
  have h1 : 1 ≤ u.length := by
    cases u with
    | nil => simp [wk] at he; omega
    | cons s u => simp
  have hset : ∀ i, ((wk kn room u).set u.length room)[i]? = if i = u.length then some room else (wk kn room u)[i]? := fun i => by
    rw [List.getElem?_set]
    by_cases h : u.length = i
    · subst h; simp; omega
    · have : ¬ i = u.length := fun z => h z.symm
      simp [h, this]
  refine ⟨h1, ⟨by simp [hl], by omega, ?_, ?_, ?_, ?_, ?_⟩⟩
  · rw [hset, if_neg (by omega)]
    exact wk_0 kn room u
  · rw [hset, if_pos rfl]
  · intro x hx
    rcases List.mem_or_eq_of_mem_set hx with h | h
    · exact wk_st G u room hr x h
    · rw [h]; exact hr
  · intro i s a b hi hs ha hb
    have hil := (List.getElem?_eq_some_iff.mp hs).1
    rw [hset, if_neg (by omega)] at ha hb
    exact wk_step kn u room i a b s ha hb hs
  · intro s a b hs ha hb hg
    rw [hset, if_neg (by omega)] at ha
    rw [hset, if_pos (by omega)] at hb
    have h2 := wk_step kn u room (u.length - 1) a e s ha (by rw [show u.length - 1 + 1 = u.length by omega]; exact he) hs
    have : some e = some b := h2.symm.trans hg
    exact hne (Option.some.inj (this.trans hb.symm))
theorem rr_gap {n : Nat} {B : Int} {el : List Nat} {kn : List Kn} (G : Gd n B el kn) {u : List Int} {room k : Nat} (hr : el[room]? = some room) (hl : (wk kn room u).length = k + 1) (hk : k < u.length)
    (ht : (wk kn room (bkW (u.drop (k + 1)))).length = u.length - (k + 1) + 1) : RR el kn u room (wk kn room u ++ (wk kn room (bkW (u.drop (k + 1)))).reverse) k := by
  have hbl : (bkW (u.drop (k + 1))).length = u.length - (k + 1) := by rw [bkW_len, List.length_drop]
  have hleft : ∀ i, i ≤ k → (wk kn room u ++ (wk kn room (bkW (u.drop (k + 1)))).reverse)[i]? = (wk kn room u)[i]? := fun i hi => List.getElem?_append_left (by omega)
  have hright : ∀ i, k < i → i ≤ u.length → (wk kn room u ++ (wk kn room (bkW (u.drop (k + 1)))).reverse)[i]? = (wk kn room (bkW (u.drop (k + 1))))[u.length - i]? := fun i hi hi2 => by
    rw [List.getElem?_append_right (by omega), List.getElem?_reverse (by omega), ht, hl]
    congr 1
    omega
  have hbw : ∀ j s, j < u.length - (k + 1) → u[u.length - 1 - j]? = some s → (bkW (u.drop (k + 1)))[j]? = some (-s) := fun j s hj hs => by
    unfold bkW
    rw [List.getElem?_reverse (by simp; omega), List.length_map, List.length_drop, List.getElem?_map, List.getElem?_drop, show k + 1 + (u.length - (k + 1) - 1 - j) = u.length - 1 - j by omega, hs]
    rfl
  refine ⟨by simp [hl, ht]; omega, hk, ?_, ?_, ?_, ?_, ?_⟩
  · rw [hleft 0 (by omega)]
    exact wk_0 kn room u
  · rw [hright u.length hk (by omega), Nat.sub_self]
    exact wk_0 kn room _
  · intro x hx
    rcases List.mem_append.mp hx with h | h
    · exact wk_st G u room hr x h
    · exact wk_st G _ room hr x (List.mem_reverse.mp h)
  · intro i s a b hi hs ha hb
    have hil := (List.getElem?_eq_some_iff.mp hs).1
    by_cases h : i < k
    · rw [hleft i (by omega)] at ha
      rw [hleft (i + 1) (by omega)] at hb
      exact wk_step kn u room i a b s ha hb hs
    · rw [hright i (by omega) (by omega)] at ha
      rw [hright (i + 1) (by omega) (by omega)] at hb
      have h2 := wk_step kn (bkW (u.drop (k + 1))) room (u.length - (i + 1)) b a (-s) hb (by rw [show u.length - (i + 1) + 1 = u.length - i by omega]; exact ha) (hbw _ s (by omega) (by rw [show u.length - 1 - (u.length - (i + 1)) = i by omega]; exact hs))
      have h3 := G.back _ _ _ h2
      rwa [Int.neg_neg] at h3
  · intro s a b hs ha hb hg
    rw [hleft k (by omega)] at ha
    have := wk_stop kn u room k a s hl ha hs
    rw [show kv kn a s = some b from hg] at this
    cases this
/-! ### how much there is still to do -/
def allW (kn : List Kn) (n : Nat) : List Wt := (List.range n).flatMap fun r => ((kn[r]?).getD []).map fun q => (r, q.1, q.2)
theorem allW_succ (kn : List Kn) (n : Nat) : allW kn (n + 1) = allW kn n ++ ((kn[n]?).getD []).map fun q => (n, q.1, q.2) := by
  unfold allW
  rw [List.range_succ, List.flatMap_append]
  simp
theorem mem_allW {kn : List Kn} {n : Nat} {q : Wt} : q ∈ allW kn n ↔ q.1 < n ∧ (q.2.1, q.2.2) ∈ (kn[q.1]?).getD [] := by
  unfold allW
  constructor
  · intro h
    obtain ⟨r, hr, h⟩ := List.mem_flatMap.mp h
    obtain ⟨p, hp, rfl⟩ := List.mem_map.mp h
    exact ⟨List.mem_range.mp hr, hp⟩
  · rintro ⟨h1, h2⟩
    exact List.mem_flatMap.mpr ⟨q.1, List.mem_range.mpr h1, List.mem_map.mpr ⟨_, h2, rfl⟩⟩
theorem at_nd {n : Nat} {B : Int} {el : List Nat} {kn : List Kn} (G : Gd n B el kn) (r : Nat) : (((kn[r]?).getD []).map (·.1)).Nodup := by
  cases h : kn[r]? with
  | none => simp
  | some m => exact G.nd r m h
theorem allW_nd {n : Nat} {B : Int} {el : List Nat} {kn : List Kn} (G : Gd n B el kn) : ∀ k, (allW kn k).Nodup
  | 0 => by simp [allW]
  | k + 1 => by
    rw [allW_succ]
    refine List.nodup_append.mpr ⟨allW_nd G k, ?_, fun q hq q' hq' e => ?_⟩
    · have h1 := at_nd G k
      refine List.Pairwise.map _ ?_ (List.Pairwise.of_map (S := fun a b => a ≠ b) _ (fun a b h e => h (congrArg _ e)) h1)
      intro x y h e
      simp at e
      exact h (Prod.ext e.1 e.2)
    · subst e
      have h1 := (mem_allW.mp hq).1
      obtain ⟨p, _, rfl⟩ := List.mem_map.mp hq'
      exact absurd h1 (by simp)
theorem allW_len {n B : Nat} {el : List Nat} {kn : List Kn} (G : Gd n B el kn) : ∀ k, (allW kn k).length ≤ k * (2 * B + 1)
  | 0 => by simp [allW]
  | k + 1 => by
    rw [allW_succ, List.length_append, List.length_map, Nat.succ_mul]
    have h1 := allW_len G k
    have h2 : ((kn[k]?).getD []).length ≤ 2 * B + 1 := by
      cases h : kn[k]? with
      | none => simp
      | some m =>
        have := keys_count (G.nd k m h) (G.bd k m h)
        rw [List.length_map] at this
        exact this
    omega
def mu (X n : Nat) (S : RS) : Nat := (stands S.el).length * (X + 1) + (X - (allW S.kn n).length)
def psi (X n : Nat) (S : RS) : Nat := S.told.length + (stands S.el).length + mu X n S
theorem lay_mu {n B X : Nat} {S S' : RS} {a b : Nat} {s : Int} {row : D} (G : Gd n B S.el S.kn) (hX : n * (2 * B + 1) ≤ X) (h : LayOk n B S S' a s b row) (ha : a < n) (hn : ¬ gr S.kn a s b) : mu X n S' < mu X n S ∧ psi X n S' ≤ psi X n S := by
  obtain ⟨ms, g, hm, _, ht, hml, hst⟩ := h.mt
  have hl : S'.told.length = S.told.length + 1 + ms.length := by rw [ht]; simp; omega
  have h1 := allW_len G n
  have h2 := allW_len h.gd n
  have hmu : mu X n S' < mu X n S := by
    unfold mu
    cases ms with
    | nil =>
      have e : gr S'.kn = fun r s' t => gr S.kn r s' t ∨ way a s b r s' t := by
        generalize gr S'.kn = Q' at hm
        cases hm
        rfl
      have hst : (stands S'.el).length = (stands S.el).length := by simpa using hst
      have hsub := nodup_len2 (l := (a, s, b) :: allW S.kn n) (m := allW S'.kn n) (List.nodup_cons.mpr ⟨fun hin => hn ((gr_mem G ha).mp (mem_allW.mp hin).2), allW_nd G n⟩) fun q hq => by
        have hq' : q.1 < n ∧ gr S'.kn q.1 q.2.1 q.2.2 := by
          rcases List.mem_cons.mp hq with h | h
          · subst h
            exact ⟨ha, by rw [e]; exact .inr (.inl ⟨rfl, rfl, rfl⟩)⟩
          · have h3 := mem_allW.mp h
            exact ⟨h3.1, by rw [e]; exact .inl ((gr_mem G h3.1).mp h3.2)⟩
        exact mem_allW.mpr ⟨hq'.1, (gr_mem h.gd hq'.1).mpr hq'.2⟩
      rw [hst]
      simp at hsub
      omega
    | cons m ms =>
      simp at hst
      have h3 : ((stands S'.el).length + 1) * (X + 1) ≤ (stands S.el).length * (X + 1) := Nat.mul_le_mul_right _ (by omega)
      rw [Nat.succ_mul] at h3
      omega
  refine ⟨hmu, ?_⟩
  unfold psi
  omega
/-! ### closing -/
def ruleR (which : Nat) (path : List Nat) (k : Nat) : D := .tup [.str "rule", .int which, .tup (path.map fun n : Nat => D.int n), .int k]
def okW (rules part : List (List Int)) (which : Nat) (u : List Int) (room : Nat) : Prop := (rules ++ part)[which]? = some u ∧ (rules.length ≤ which → room = 0)
inductive Cl (n B : Nat) (rules part : List (List Int)) : RS → RS → Prop
  | refl (S : RS) : Cl n B rules part S S
  | step {S S1 S2 : RS} {which : Nat} {u : List Int} {room k : Nat} {path : List Nat} {a b : Nat} {s : Int} : Cl n B rules part S S1 → okW rules part which u room → S1.el[room]? = some room → RR S1.el S1.kn u room path k → path[k]? = some a → u[k]? = some s → path[k + 1]? = some b → LayOk n B S1 S2 a s b (ruleR which path k) → Cl n B rules part S S2
def Closed (rules part : List (List Int)) (S : RS) : Prop := ∀ which u room, okW rules part which u room → S.el[room]? = some room → Rounded S.kn u room
def wlD (b : Bool) (ws : List Int) : D := if b then .lst (ws.map D.int) else .tup (ws.map D.int)
def T_path_of : DSp := fun ds w P => ∃ (p : Addr) (r : RP) (S : RS) (room : Nat) (bb : Bool) (ws : List Int), ds = [.ref p, .int room, wlD bb ws] ∧ Rm w p r S ∧ room < S.kn.length ∧ (∀ r s t, kv S.kn r s = some t → t < S.kn.length) ∧ ws.length ≤ 10000 ∧ P true (nL (wk S.kn room ws)) w
theorem len_path_of (ds : List D) (w : Om) (P : Bool → D → Om → Prop) (h : T_path_of ds w P) : ds.length = 3 := by first | (have h := h.1; subst h; rfl) | (obtain ⟨rfl, _⟩ := h; rfl) | (obtain ⟨_, rfl, _⟩ := h; rfl) | (obtain ⟨_, _, rfl, _⟩ := h; rfl) | (obtain ⟨_, _, _, rfl, _⟩ := h; rfl) | (obtain ⟨_, _, _, _, rfl, _⟩ := h; rfl) | (obtain ⟨_, _, _, _, _, rfl, _⟩ := h; rfl) | (obtain ⟨_, _, _, _, _, _, rfl, _⟩ := h; rfl) | (obtain ⟨_, _, _, _, _, _, _, rfl, _⟩ := h; rfl) | (obtain ⟨_, _, _, _, _, _, _, _, rfl, _⟩ := h; rfl) | (obtain ⟨_, _, _, _, _, _, _, _, _, rfl, _⟩ := h; rfl) | (obtain ⟨_, _, _, _, _, _, _, _, _, _, rfl, _⟩ := h; rfl) | (obtain ⟨_, _, _, _, _, _, _, _, _, _, _, rfl, _⟩ := h; rfl) | (obtain ⟨_, _, _, _, _, _, _, _, _, _, _, _, rfl, _⟩ := h; rfl) | (obtain ⟨_, _, _, _, _, _, _, _, _, _, _, _, _, rfl, _⟩ := h; rfl)
def b_path_of : DS := (dSeq (dSet true 3 (dLst (dCons (dVar 1) dNil)))
    (dSeq (dFor (dIt (dVar 2)) (gN 4) (dSeq (dSet false 5 (dMeth "Rooms" "by" T_Rooms_by (dVarR 0) (dCons (dBin sIx (dVarR 3) (oX (dUn sNeg (oX (dC (.int 1)))))) (dCons (dVar 4) dNil))))
    (dSeq (dIf (dB (dBin sIsN (dVarR 5) (oX (dC .non)))) dBreak dNext)
    (dApp 3 (dVar 5)))))
    (dRetV 3)))
theorem v_path_of (ds : List D) (w : Om) (P : Bool → D → Om → Prop) (h : T_path_of ds w P) : b_path_of { nx := fun _ w => P false .non w, rt := P } (startD ["rooms", "room", "word", "path", "step", "other"] ds) w := by
  unfold b_path_of
  obtain ⟨p, r, S, room, bb, ws, rfl, R, hr, hlt, hwl, q⟩ := h
  have hs := sizeLine_eq
  refine seq_n fun N hN => ?_
  try simp_arith []
  refine ⟨by omega, hN _ _ ?_⟩
  refine seq_cut (fun δ w2 => w2 = w ∧ ∃ j4 j5, δ = [some (false, .ref p), some (false, .int room), some (false, wlD bb ws), some (true, nL (wk S.kn room ws)), j4, j5]) (fun N hN => ?_) ?_
  · have go : dForGo (gN 4) (dSeq (dSet false 5 (dMeth "Rooms" "by" T_Rooms_by (dVarR 0) (dCons (dBin sIx (dVarR 3) (oX (dUn sNeg (oX (dC (.int 1)))))) (dCons (dVar 4) dNil)))) (dSeq (dIf (dB (dBin sIsN (dVarR 5) (oX (dC .non)))) dBreak dNext) (dApp 3 (dVar 5)))) ⟨N, P, fun _ _ => False, fun _ _ => False⟩ (ws.map D.int) [some (false, .ref p), some (false, .int room), some (false, wlD bb ws), some (true, .lst [.int room]), none, none] w := by
      refine for_go D.int (fun pre δ w2 => w2 = w ∧ ∃ (acc : List Nat) (rm : Nat) (post : List Int) (j4 j5 : Option (Bool × D)), ws = pre ++ post ∧ acc.length ≤ pre.length ∧ rm < S.kn.length ∧ wk S.kn room ws = acc ++ wk S.kn rm post ∧ δ = [some (false, .ref p), some (false, .int room), some (false, wlD bb ws), some (true, nL (acc ++ [rm])), j4, j5]) ws ⟨rfl, [], room, ws, none, none, rfl, by simp, hr, rfl, rfl⟩ ?_ ?_
      · rintro pre x post δ w2 N2 C2 e ⟨rfl, acc, rm, post', j4, j5, e', hal, hrm, hgo, rfl⟩ hN2 hC2
        have ep : post' = x :: post := List.append_cancel_left (e'.symm.trans e)
        have hpl : pre.length + post.length + 1 = ws.length := by rw [e]; simp; omega
        subst ep
        obtain ⟨km, hkm⟩ : ∃ km, S.kn[rm]? = some km := ⟨_, List.getElem?_eq_getElem hrm⟩
        have ekv : kv S.kn rm x = fget km x := by unfold kv; rw [hkm]; rfl
        try simp_arith []
        refine seq_n fun N3 hN3 => ?_
        try simp_arith [nL]
        refine ⟨p, _, rfl, R.ins, no_by .., .int rm, by rw [List.map_append, List.map_cons, List.map_nil]; exact atI_lastD _ _, p, r, S, rm, km, x, rfl, R, hkm, hN3 _ _ ?_⟩
        cases e5 : fget km x with
        | none =>
          rw [wk_none (ekv.trans e5)] at hgo
          refine seq_n fun N3 hN3 => ?_
          try simp_arith []
          exact hN _ _ ⟨rfl, _, _, by rw [hgo]; rfl⟩
        | some t =>
          rw [wk_some (ekv.trans e5)] at hgo
          refine seq_n fun N3 hN3 => ?_
          try simp_arith []
          refine hN3 _ _ ?_
          try simp_arith []
          refine ⟨by simp; omega, hN2 _ _ ⟨rfl, acc ++ [rm], t, post, _, _, by rw [e]; simp, by simp; omega, hlt _ _ _ (ekv.trans e5), by rw [hgo]; simp, by simp [nL]; exact ⟨rfl, rfl⟩⟩⟩
      · rintro δ w2 ⟨rfl, acc, rm, post', j4, j5, e', hal, hrm, hgo, rfl⟩
        have ep : post' = [] := by
          have := congrArg List.length e'
          rw [List.length_append] at this
          exact List.length_eq_zero_iff.mp (by omega)
        subst ep
        exact hN _ _ ⟨rfl, _, _, by rw [hgo]; rfl⟩
    cases bb with
    | false =>
      try simp_arith [wlD]
      exact go
    | true =>
      try simp_arith [wlD]
      exact go
  rintro δ w2 ⟨rfl, j4, j5, rfl⟩
  try simp_arith []
  exact q
def T_scan : DSp := fun ds w P => ∃ (p : Addr) (r : RP) (S : RS) (which : Nat) (u : List Int) (room n B : Nat), ds = [.ref p, .int which, wD u, .int room] ∧ Rm w p r S ∧ Gd n B S.el S.kn ∧ B ≤ 1000 ∧ n ≤ 100000 ∧ n * (2 * B + 1) ≤ 800000 ∧ S.told.length ≤ 1000000 ∧ S.el[room]? = some room ∧ (∀ s ∈ u, -(B : Int) ≤ s ∧ s ≤ B) ∧ u.length ≤ 9000 ∧ (Rounded S.kn u room → P false (.bl false) w) ∧ ∀ w' r' S' path k a b s, RR S.el S.kn u room path k → path[k]? = some a → u[k]? = some s → path[k + 1]? = some b → Rm w' p r' S' → LayOk n B S S' a s b (ruleR which path k) → Fr w w' (r.fp p) (r'.fp p) → P false (.bl true) w'
theorem len_scan (ds : List D) (w : Om) (P : Bool → D → Om → Prop) (h : T_scan ds w P) : ds.length = 4 := by first | (have h := h.1; subst h; rfl) | (obtain ⟨rfl, _⟩ := h; rfl) | (obtain ⟨_, rfl, _⟩ := h; rfl) | (obtain ⟨_, _, rfl, _⟩ := h; rfl) | (obtain ⟨_, _, _, rfl, _⟩ := h; rfl) | (obtain ⟨_, _, _, _, rfl, _⟩ := h; rfl) | (obtain ⟨_, _, _, _, _, rfl, _⟩ := h; rfl) | (obtain ⟨_, _, _, _, _, _, rfl, _⟩ := h; rfl) | (obtain ⟨_, _, _, _, _, _, _, rfl, _⟩ := h; rfl) | (obtain ⟨_, _, _, _, _, _, _, _, rfl, _⟩ := h; rfl) | (obtain ⟨_, _, _, _, _, _, _, _, _, rfl, _⟩ := h; rfl) | (obtain ⟨_, _, _, _, _, _, _, _, _, _, rfl, _⟩ := h; rfl) | (obtain ⟨_, _, _, _, _, _, _, _, _, _, _, rfl, _⟩ := h; rfl) | (obtain ⟨_, _, _, _, _, _, _, _, _, _, _, _, rfl, _⟩ := h; rfl) | (obtain ⟨_, _, _, _, _, _, _, _, _, _, _, _, _, rfl, _⟩ := h; rfl)
def b_scan : DS := (dSeq (dSet true 4 (dCall T_path_of (dCons (dVar 0) (dCons (dVar 3) (dCons (dVar 2) dNil)))))
    (dSeq (dSet false 5 (dBin sSub (oX (dUn sLenA (dVarR 4))) (oX (dC (.int 1)))))
    (dSeq (dIf (dB (dBin sEq (dVarR 5) (oX (dUn sLenA (dVarR 2))))) (dSeq (dIf (dB (dBin sEq (oX (dBin sIx (dVarR 4) (oX (dUn sNeg (oX (dC (.int 1))))))) (dVarR 3))) (dRet (dC (.bl false))) dNext)
    (dSeq (dAug 5 sSub (oX (dC (.int 1))))
    (dPut 4 (oX (dUn sNeg (oX (dC (.int 1))))) (dVar 3)))) (dSeq (dSet false 6 (dLc (dIt (dSl (dVarR 2) (dP (oX (dBin sAdd (dVarR 5) (oX (dC (.int 1)))))) dNoP)) (gN 8) dYes (dUn sNeg (dVarR 8)) [8]))
    (dSeq (dSet false 7 (dCall T_path_of (dCons (dVar 0) (dCons (dVar 3) (dCons (dUn sRev (dVarR 6)) dNil)))))
    (dSeq (dIf (dB (dBin sLe (oX (dUn sLenA (dVarR 7))) (oX (dUn sLenA (dVarR 6))))) (dRet (dC (.bl false))) dNext)
    (dSet true 4 (dBin sAdd (dVarR 4) (oX (dUn sRev (dVarR 7)))))))))
    (dSeq (dDrop (dMeth "Rooms" "lay" T_Rooms_lay (dVarR 0) (dCons (dBin sIx (dVarR 4) (dVarR 5)) (dCons (dBin sIx (dVarR 2) (dVarR 5)) (dCons (dBin sIx (dVarR 4) (oX (dBin sAdd (dVarR 5) (oX (dC (.int 1)))))) (dCons (dTup (dCons (dC (.str "rule")) (dCons (dVar 1) (dCons (dUn sTuple (dVarR 4)) (dCons (dVar 5) dNil))))) dNil))))))
    (dRet (dC (.bl true)))))))
theorem v_scan (ds : List D) (w : Om) (P : Bool → D → Om → Prop) (h : T_scan ds w P) : b_scan { nx := fun _ w => P false .non w, rt := P } (startD ["rooms", "which", "word", "room", "path", "at", "rest", "tail", "step"] ds) w := by
  unfold b_scan
  obtain ⟨p, r, S, which, u, room, n, B, rfl, R, G, hB, hn, hnB, htl, hr, hu, hul, q0, q1⟩ := h
  have hs := sizeLine_eq
  have hkl : S.kn.length = n := G.klen
  have hrl : room < S.kn.length := by rw [hkl, ← G.elen]; exact stand_lt hr
  have hlt : ∀ r s t, kv S.kn r s = some t → t < S.kn.length := fun r s t h => by rw [hkl, ← G.elen]; exact stand_lt (G.ends r s t h).2
  have hw1 := wk_len S.kn u room
  refine seq_n fun N hN => ?_
  try simp_arith []
  refine ⟨p, r, S, room, false, u, rfl, R, hrl, hlt, by omega, hN _ _ ?_⟩
  refine seq_n fun N hN => ?_
  try simp_arith [nL]
  refine hN _ _ ?_
  refine seq_cut (fun δ w2 => w2 = w ∧ ∃ (path : List Nat) (k : Nat) (j6 j7 j8 : Option (Bool × D)), RR S.el S.kn u room path k ∧ δ = [some (false, .ref p), some (false, .int which), some (false, wD u), some (false, .int room), some (true, nL path), some (false, .int k), j6, j7, j8]) (fun N hN => ?_) ?_
  · rw [show wD u = .tup (u.map D.int) from rfl]
    try simp_arith []
    by_cases hfull : (wk S.kn room u).length = u.length + 1
    · refine if_t (by simp; omega) ?_
      obtain ⟨e, he⟩ : ∃ e, (wk S.kn room u)[u.length]? = some e := ⟨_, List.getElem?_eq_getElem (by omega)⟩
      have ee : wk S.kn room u = (wk S.kn room u).dropLast ++ [e] := by
        have hne : wk S.kn room u ≠ [] := fun z => by rw [z] at hw1; simp at hw1
        have h1 := (List.dropLast_concat_getLast hne).symm
        have h2 : (wk S.kn room u).getLast hne = e := by
          rw [List.getLast_eq_getElem]
          have := (List.getElem?_eq_some_iff.mp he).2
          rw [← this]
          congr 1
          omega
        rw [h2] at h1
        exact h1
      have hat : atI ((wk S.kn room u).map fun n : Nat => D.int n) (-1) = some (.int e) := by
        rw [ee, List.map_append, List.map_cons, List.map_nil]
        exact atI_lastD _ _
      refine seq_n fun N2 hN2 => ?_
      try simp_arith []
      refine ⟨_, hat, ?_⟩
      try simp_arith []
      by_cases hroom : e = room
      · refine if_t (by simp [hroom]) ?_
        exact q0 (.inl ⟨hfull, by rw [he, hroom]⟩)
      · obtain ⟨h1, rr⟩ := rr_full G hr hfull he hroom
        refine if_f (by simp; omega) (hN2 _ _ ?_)
        refine seq_n fun N3 hN3 => ?_
        try simp_arith []
        refine hN3 _ _ ?_
        try simp_arith []
        refine ⟨u.length, by unfold ixN; simp; omega, hN _ _ ⟨rfl, (wk S.kn room u).set u.length room, u.length - 1, none, none, none, rr, ?_⟩⟩
        simp [nL, wD, List.map_set]
        omega
    · refine if_f (by simp; omega) ?_
      obtain ⟨k, hk⟩ : ∃ k, (wk S.kn room u).length = k + 1 := ⟨(wk S.kn room u).length - 1, by omega⟩
      have hkl2 : k < u.length := by omega
      refine seq_n fun N2 hN2 => ?_
      try simp_arith []
      rw [show ((wk S.kn room u).length : Int) - 1 + 1 = ((k + 1 : Nat) : Int) by omega, cutD_map, (cutD_at u (k := ((k + 1 : Nat) : Int)) (by omega) (by omega)).2, Int.toNat_natCast]
      refine lc_map D.int (fun x : Int => D.int (-x)) (u.drop (k + 1)) (fun y hy P hP => ?_) [] (by simp; omega) ?_
      · try simp_arith []
        exact hP _
      rw [List.nil_append]
      refine hN2 _ _ ?_
      have e1 : ((u.drop (k + 1)).map fun x : Int => D.int (-x)).reverse = (bkW (u.drop (k + 1))).map D.int := by simp [bkW, Function.comp_def, List.map_reverse]
      have hbl := bkW_len (u.drop (k + 1))
      rw [List.length_drop] at hbl
      have hw2 := wk_len S.kn (bkW (u.drop (k + 1))) room
      refine seq_n fun N2 hN2 => ?_
      try simp_arith []
      rw [e1]
      refine ⟨p, r, S, room, true, bkW (u.drop (k + 1)), rfl, R, hrl, hlt, by omega, hN2 _ _ ?_⟩
      refine seq_n fun N2 hN2 => ?_
      try simp_arith [nL]
      by_cases hle : (wk S.kn room (bkW (u.drop (k + 1)))).length ≤ u.length - (k + 1)
      · refine if_t (by simp; omega) ?_
        exact q0 (.inr ⟨by omega, by rw [hk]; exact hle⟩)
      · have rr := rr_gap G hr hk hkl2 (by omega)
        refine if_f (by simp; omega) (hN2 _ _ ?_)
        try simp_arith []
        refine ⟨by rw [List.length_reverse, List.length_map]; omega, hN _ _ ⟨rfl, _, k, some (false, .lst ((u.drop (k + 1)).map fun x : Int => D.int (-x))), some (false, .lst ((wk S.kn room (bkW (u.drop (k + 1)))).map fun n : Nat => D.int n)), none, rr, ?_⟩⟩
        rw [show ((wk S.kn room u).length : Int) - 1 = (k : Int) by omega]
        simp [nL, wD]
  rintro δ w2 ⟨rfl, path, k, j6, j7, j8, rr, rfl⟩
  have hk := rr.lt
  have hpl := rr.len
  obtain ⟨a, ha⟩ : ∃ a, path[k]? = some a := ⟨_, List.getElem?_eq_getElem (by omega)⟩
  obtain ⟨b, hb⟩ : ∃ b, path[k + 1]? = some b := ⟨_, List.getElem?_eq_getElem (by omega)⟩
  obtain ⟨s, hsu⟩ : ∃ s, u[k]? = some s := ⟨_, List.getElem?_eq_getElem hk⟩
  refine seq_n fun N hN => ?_
  try simp_arith [nL, wD]
  have hm := hu s (List.mem_of_getElem? hsu)
  have hast := rr.st a (List.mem_of_getElem? ha)
  have hbst := rr.st b (List.mem_of_getElem? hb)
  refine ⟨p, _, rfl, R.ins, no_lay .., _, atI_f (fun n : Nat => D.int n) (by omega) (by rw [Int.toNat_natCast]; exact ha), _, atI_f D.int (by omega) (by rw [Int.toNat_natCast]; exact hsu), _, atI_f (fun n : Nat => D.int n) (by omega) (by rw [show ((k : Int) + 1).toNat = k + 1 by omega]; exact hb), by omega, p, r, S, a, s, b, _, n, B, rfl, R, G, hB, hn, hnB, htl, hast, hbst, hm.1, hm.2, fun w3 r3 S3 R3 L3 F3 => hN _ _ ?_⟩
  try simp_arith []
  exact q1 w3 r3 S3 path k a b s rr ha hsu hb R3 L3 F3
theorem if2 {a b : Prop} [Decidable a] [Decidable b] {C E : Prop} (h : ¬ (a ∧ b)) (e : E) : if a then (if b then C else E) else E := by
  split
  · split
    · next h1 h2 => exact absurd ⟨h1, h2⟩ h
    · exact e
  · exact e
theorem enum_w (ws : List (List Int)) : enumD (ws.map wD) = (List.range ws.length).map fun k : Nat => D.tup [.int (k : Int), wD ((ws[k]?).getD [])] := by
  refine List.ext_getElem (by simp [enumD_len]) fun i h1 h2 => ?_
  simp [enumD] at h1 h2
  simp [enumD, h1]
def T_close : DSp := fun ds w P => ∃ (p : Addr) (r : RP) (S : RS) (rules part : List (List Int)) (n B X : Nat), ds = [.ref p, lwD rules, lwD part] ∧ Rm w p r S ∧ Gd n B S.el S.kn ∧ B ≤ 1000 ∧ n ≤ 100000 ∧ n * (2 * B + 1) ≤ X ∧ X ≤ 800000 ∧ psi X n S ≤ 1000000 ∧ rules.length + part.length ≤ 1000 ∧ (∀ u ∈ rules ++ part, u.length ≤ 9000 ∧ ∀ s ∈ u, -(B : Int) ≤ s ∧ s ≤ B) ∧ ∀ w' r' S', Rm w' p r' S' → Gd n B S'.el S'.kn → Cl n B rules part S S' → Closed rules part S' → psi X n S' ≤ psi X n S → Fr w w' (r.fp p) (r'.fp p) → P false .non w'
theorem len_close (ds : List D) (w : Om) (P : Bool → D → Om → Prop) (h : T_close ds w P) : ds.length = 3 := by first | (have h := h.1; subst h; rfl) | (obtain ⟨rfl, _⟩ := h; rfl) | (obtain ⟨_, rfl, _⟩ := h; rfl) | (obtain ⟨_, _, rfl, _⟩ := h; rfl) | (obtain ⟨_, _, _, rfl, _⟩ := h; rfl) | (obtain ⟨_, _, _, _, rfl, _⟩ := h; rfl) | (obtain ⟨_, _, _, _, _, rfl, _⟩ := h; rfl) | (obtain ⟨_, _, _, _, _, _, rfl, _⟩ := h; rfl) | (obtain ⟨_, _, _, _, _, _, _, rfl, _⟩ := h; rfl) | (obtain ⟨_, _, _, _, _, _, _, _, rfl, _⟩ := h; rfl) | (obtain ⟨_, _, _, _, _, _, _, _, _, rfl, _⟩ := h; rfl) | (obtain ⟨_, _, _, _, _, _, _, _, _, _, rfl, _⟩ := h; rfl) | (obtain ⟨_, _, _, _, _, _, _, _, _, _, _, rfl, _⟩ := h; rfl) | (obtain ⟨_, _, _, _, _, _, _, _, _, _, _, _, rfl, _⟩ := h; rfl) | (obtain ⟨_, _, _, _, _, _, _, _, _, _, _, _, _, rfl, _⟩ := h; rfl)
def b_close : DS := (dSeq (dSet false 3 (dBin sAdd (oX (dUn sList (dVarR 1))) (oX (dUn sList (dVarR 2)))))
    (dSeq (dSet false 4 (dC (.bl true)))
    (dWhile (dTru (dVarR 4)) (dSeq (dSet false 4 (dC (.bl false)))
    (dFor (dIt (dMeth "Rooms" "standing" T_Rooms_standing (dVarR 0) dNil)) (gN 5) (dFor (dEnumT (dCons (dVar 3) dNil)) (gT 2 (gsC (gN 6) (gsC (gN 7) gsN))) (dSeq (dIf (dTOr (dTAnd (dB (dBin sGt (dVarR 5) (oX (dC (.int 0))))) (dB (dBin sGe (dVarR 6) (oX (dUn sLenA (dVarR 1)))))) (dB (dBin sNe (oX (dMeth "Rooms" "elder" T_Rooms_elder (dVarR 0) (dCons (dVar 5) dNil))) (dVarR 5)))) dCont dNext)
    (dIf (dTru (oX (dCall T_scan (dCons (dVar 0) (dCons (dVar 6) (dCons (dVar 7) (dCons (dVar 5) dNil))))))) (dSet false 4 (dC (.bl true))) dNext))))))))
theorem v_close (ds : List D) (w : Om) (P : Bool → D → Om → Prop) (h : T_close ds w P) : b_close { nx := fun _ w => P false .non w, rt := P } (startD ["rooms", "rules", "part", "words", "busy", "room", "which", "word"] ds) w := by
  unfold b_close
  obtain ⟨p, r, S, rules, part, n, B, X, rfl, R, G, hB, hn, hX, hX2, hpsi, hwl, hws, q⟩ := h
  have hs := sizeLine_eq
  refine seq_n fun N hN => ?_
  try simp_arith [lwD]
  refine ⟨by omega, hN _ _ ?_⟩
  rw [← List.map_append]
  refine seq_n fun N hN => ?_
  try simp_arith []
  refine hN _ _ ?_
  generalize hW : rules ++ part = W at *
  have hWl : W.length = rules.length + part.length := by rw [← hW]; simp
  refine while_go (fun (m : Nat) δ w2 => ∃ (r1 : RP) (S1 : RS) (bz : Bool) (j5 j6 j7 : Option (Bool × D)), Rm w2 p r1 S1 ∧ Gd n B S1.el S1.kn ∧ Cl n B rules part S S1 ∧ psi X n S1 ≤ psi X n S ∧ Fr w w2 (r.fp p) (r1.fp p) ∧ m = (if bz then mu X n S1 + 1 else 0) ∧ (bz = false → Closed rules part S1) ∧ δ = [some (false, .ref p), some (false, lwD rules), some (false, lwD part), some (false, lwD W), some (false, .bl bz), j5, j6, j7]) (fun m => m) ?_ (mu X n S + 1) ⟨r, S, true, none, none, none, R, G, .refl S, Nat.le_refl _, .refl _ _, rfl, fun z => (nomatch z), rfl⟩
  rintro m δ w2 ⟨r1, S1, bz, j5, j6, j7, R1, G1, C1, hp1, F1, rfl, hcl, rfl⟩ N2 hN2
  cases bz with
  | false =>
    try simp_arith []
    exact q _ _ _ R1 G1 C1 (hcl rfl) hp1 F1
  | true =>
    try simp_arith []
    refine seq_n fun N3 hN3 => ?_
    try simp_arith []
    refine hN3 _ _ ?_
    try simp_arith []
    refine ⟨p, _, rfl, R1.ins, no_standing .., p, r1, S1, rfl, R1, by rw [G1.elen]; omega, ?_⟩
    try simp_arith [nL]
    refine for_go (fun k : Nat => D.int k) (fun pre δ w3 => ∃ (r2 : RP) (S2 : RS) (bz : Bool) (j5 j6 j7 : Option (Bool × D)), Rm w3 p r2 S2 ∧ Gd n B S2.el S2.kn ∧ Cl n B rules part S S2 ∧ psi X n S2 ≤ psi X n S ∧ Fr w w3 (r.fp p) (r2.fp p) ∧ mu X n S2 ≤ mu X n S1 ∧ (bz = true → mu X n S2 < mu X n S1) ∧ (bz = false → S2 = S1 ∧ ∀ room ∈ pre, ∀ which u, okW rules part which u room → Rounded S1.kn u room) ∧ δ = [some (false, .ref p), some (false, lwD rules), some (false, lwD part), some (false, lwD W), some (false, .bl bz), j5, j6, j7]) (stands S1.el) ⟨r1, S1, false, _, _, _, R1, G1, C1, hp1, F1, Nat.le_refl _, fun z => (nomatch z), fun _ => ⟨rfl, fun room hr => (nomatch hr)⟩, rfl⟩ ?_ ?_
    · rintro pre room post δ w3 N4 C4 e ⟨r2, S2, bz, j5, j6, j7, R2, G2, C2, hp2, F2, hmu, hbt, hbf, rfl⟩ hN4 hC4
      have hrst := mem_stands.mp (show room ∈ stands S1.el by rw [e]; simp)
      try simp_arith [lwD]
      rw [enum_w]
      refine for_go (fun k : Nat => D.tup [.int (k : Int), wD ((W[k]?).getD [])]) (fun pre2 δ w3 => ∃ (r2 : RP) (S2 : RS) (bz : Bool) (j6 j7 : Option (Bool × D)), Rm w3 p r2 S2 ∧ Gd n B S2.el S2.kn ∧ Cl n B rules part S S2 ∧ psi X n S2 ≤ psi X n S ∧ Fr w w3 (r.fp p) (r2.fp p) ∧ mu X n S2 ≤ mu X n S1 ∧ (bz = true → mu X n S2 < mu X n S1) ∧ (bz = false → S2 = S1 ∧ (∀ room ∈ pre, ∀ which u, okW rules part which u room → Rounded S1.kn u room) ∧ ∀ which u, which < pre2.length → okW rules part which u room → Rounded S1.kn u room) ∧ δ = [some (false, .ref p), some (false, lwD rules), some (false, lwD part), some (false, lwD W), some (false, .bl bz), some (false, .int room), j6, j7]) _ ⟨r2, S2, bz, _, _, R2, G2, C2, hp2, F2, hmu, hbt, fun z => ⟨(hbf z).1, (hbf z).2, fun which u h => by simp at h⟩, rfl⟩ ?_ ?_
      · rintro pre2 wh post2 δ w3 N5 C5 e2 ⟨r2, S2, bz, j6, j7, R2, G2, C2, hp2, F2, hmu, hbt, hbf, rfl⟩ hN5 hC5
        have hwh : wh < W.length := List.mem_range.mp (by rw [e2]; simp)
        have hap : pre2.length = wh := by
          have h1 : (List.range W.length)[pre2.length]? = some wh := by rw [e2]; simp
          have h2 := (List.getElem?_eq_some_iff.mp h1).1
          rw [List.getElem?_range (by simpa using h2)] at h1
          exact Option.some.inj h1
        rw [hap] at hbf
        have hu := List.getElem?_eq_getElem hwh
        generalize W[wh]'hwh = u at hu
        rw [hu]
        have hul := hws u (List.mem_of_getElem? hu)
        have hpl2 : ∀ w' : Nat, w' < (pre2 ++ [wh]).length ↔ w' < wh ∨ w' = wh := fun w' => by simp; omega
        have skip : (bz = false → ∀ u', okW rules part wh u' room → Rounded S1.kn u' room) → ∃ (r2' : RP) (S2' : RS) (bz' : Bool) (j6 j7 : Option (Bool × D)), Rm w3 p r2' S2' ∧ Gd n B S2'.el S2'.kn ∧ Cl n B rules part S S2' ∧ psi X n S2' ≤ psi X n S ∧ Fr w w3 (r.fp p) (r2'.fp p) ∧ mu X n S2' ≤ mu X n S1 ∧ (bz' = true → mu X n S2' < mu X n S1) ∧ (bz' = false → S2' = S1 ∧ (∀ room ∈ pre, ∀ which u, okW rules part which u room → Rounded S1.kn u room) ∧ ∀ which u, which < (pre2 ++ [wh]).length → okW rules part which u room → Rounded S1.kn u room) ∧ [some (false, .ref p), some (false, lwD rules), some (false, lwD part), some (false, lwD W), some (false, .bl bz), some (false, .int room), some (false, .int wh), some (false, wD u)] = [some (false, .ref p), some (false, lwD rules), some (false, lwD part), some (false, lwD W), some (false, .bl bz'), some (false, .int room), j6, j7] := fun hh => ⟨r2, S2, bz, _, _, R2, G2, C2, hp2, F2, hmu, hbt, fun z => ⟨(hbf z).1, (hbf z).2.1, fun which u' h1 h2 => by
          rcases (hpl2 which).mp h1 with h3 | h3
          · exact (hbf z).2.2 which u' h3 h2
          · subst h3; exact hh z u' h2⟩, rfl⟩
        try simp_arith []
        refine seq_n fun N6 hN6 => ?_
        try simp_arith [lwD]
        by_cases hA : 0 < room ∧ rules.length ≤ wh
        · refine if_t (by simp; omega) (if_t (by simp; omega) (hC5 _ _ (skip fun z u' h => absurd (h.2 hA.2) (by omega))))
        refine if2 (by simp; omega) ?_
        refine ⟨p, _, rfl, R2.ins, no_elder .., p, r2, S2, room, rfl, R2, G2.ok, by rw [G2.elen, ← G1.elen]; exact stand_lt hrst, ?_⟩
        have hrn : room < n := by rw [← G1.elen]; exact stand_lt hrst
        try simp_arith []
        by_cases hroot : root S2.el room = room
        · have hst2 := (els_stand G2 hrn).mp hroot
          refine if_f (by simp [hroot]) (hN6 _ _ ?_)
          have htold : S2.told.length ≤ 1000000 := by unfold psi at hp2 hpsi; omega
          try simp_arith []
          refine ⟨p, r2, S2, wh, u, room, n, B, rfl, R2, G2, hB, hn, by omega, htold, hst2, hul.2, hul.1, fun hrd => ?_, fun w4 r4 S4 path k a b s rr ha hsu hb R4 L4 F4 => ?_⟩
          · try simp_arith []
            refine hN5 _ _ (skip fun z u' h => ?_)
            have hu' : u' = u := by
              have h1 := h.1
              rw [hW, hu] at h1
              exact (Option.some.inj h1).symm
            subst hu'
            rw [← (hbf z).1]
            exact hrd
          · try simp_arith []
            have han : a < n := by rw [← G2.elen]; exact stand_lt (rr.st a (List.mem_of_getElem? ha))
            obtain ⟨hm1, hm2⟩ := lay_mu G2 hX L4 han (rr.new s a b hsu ha hb)
            exact hN5 _ _ ⟨r4, S4, true, _, _, R4, L4.gd, .step C2 ⟨by rw [hW]; exact hu, fun z => by omega⟩ hst2 rr ha hsu hb L4, Nat.le_trans hm2 hp2, F2.trans F4, by omega, fun _ => by omega, fun z => (nomatch z), rfl⟩
        · refine if_t (by simp; omega) (hC5 _ _ (skip fun z u' h => ?_))
          rw [(hbf z).1] at hroot
          exact absurd (root_eq hrst) hroot
      · rintro δ w3 ⟨r2, S2, bz, j6, j7, R2, G2, C2, hp2, F2, hmu, hbt, hbf, rfl⟩
        rw [List.length_range] at hbf
        refine hN4 _ _ ⟨r2, S2, bz, _, _, _, R2, G2, C2, hp2, F2, hmu, hbt, fun z => ⟨(hbf z).1, fun room' hr' which u h => ?_⟩, rfl⟩
        rcases List.mem_append.mp hr' with h1 | h1
        · exact (hbf z).2.1 room' h1 which u h
        · simp at h1
          subst h1
          have := (List.getElem?_eq_some_iff.mp h.1).1
          rw [hW] at this
          exact (hbf z).2.2 which u this h
    · rintro δ w3 ⟨r2, S2, bz, j5, j6, j7, R2, G2, C2, hp2, F2, hmu, hbt, hbf, rfl⟩
      refine hN2 (if bz then mu X n S2 + 1 else 0) _ _ ⟨r2, S2, bz, j5, j6, j7, R2, G2, C2, hp2, F2, rfl, fun z => ?_, rfl⟩ ?_
      · obtain ⟨e, hh⟩ := hbf z
        subst e
        exact fun which u room h1 h2 => hh room (mem_stands.mpr h2) which u h1
      · cases bz with
        | false => simp
        | true => have := hbt rfl; simp; omega

/-! ### closing ends in one way -/
theorem cutD_sub {α : Type} {ns : List α} {lo hi : Option Int} {x : α} (h : x ∈ cutD ns lo hi) : x ∈ ns := by
  unfold cutD at h
  exact List.mem_of_mem_drop (List.mem_of_mem_take h)
theorem okW_mem {rules part : List (List Int)} {u : List Int} {room : Nat} : (∃ which, okW rules part which u room) ↔ u ∈ rules ∨ (u ∈ part ∧ room = 0) := by
  constructor
  · rintro ⟨which, h1, h2⟩
    by_cases h : which < rules.length
    · rw [List.getElem?_append_left h] at h1
      exact .inl (List.mem_of_getElem? h1)
    · rw [List.getElem?_append_right (by omega)] at h1
      exact .inr ⟨List.mem_of_getElem? h1, h2 (by omega)⟩
  · rintro (h | ⟨h, e⟩)
    · obtain ⟨i, hi⟩ := List.getElem?_of_mem h
      have := (List.getElem?_eq_some_iff.mp hi).1
      exact ⟨i, by rw [List.getElem?_append_left this]; exact hi, fun z => by omega⟩
    · obtain ⟨i, hi⟩ := List.getElem?_of_mem h
      exact ⟨rules.length + i, by rw [List.getElem?_append_right (by omega), show rules.length + i - rules.length = i by omega]; exact hi, fun _ => e⟩
theorem closed_way {n : Nat} {B : Int} {el : List Nat} {kn : List Kn} (G : Gd n B el kn) {u : List Int} {k : Nat} {F : Nat → Nat} (hk : k < u.length) (hw : ∀ i s, i ≠ k → u[i]? = some s → gr kn (F i) s (F (i + 1))) (hend : F u.length = F 0) (hr : Rounded kn u (F 0)) {s : Int} (hs : u[k]? = some s) : gr kn (F k) s (F (k + 1)) := by
  obtain ⟨m1, m2⟩ := wk_max kn k u F (by omega) fun i s hi hs => hw i s (by omega) hs
  rcases hr with ⟨h1, h2⟩ | ⟨h1, h2⟩
  · have back : ∀ d, d ≤ u.length - (k + 1) → (wk kn (F 0) u)[u.length - d]? = some (F (u.length - d)) := fun d => by
      induction d with
      | zero => intro _; rw [Nat.sub_zero, hend]; exact h2
      | succ d ih =>
        intro hd
        have ih := ih (by omega)
        have hi : u.length - (d + 1) < u.length := by omega
        obtain ⟨a, ha⟩ : ∃ a, (wk kn (F 0) u)[u.length - (d + 1)]? = some a := ⟨_, List.getElem?_eq_getElem (by omega)⟩
        obtain ⟨x, hx⟩ : ∃ x, u[u.length - (d + 1)]? = some x := ⟨_, List.getElem?_eq_getElem hi⟩
        have e1 : u.length - (d + 1) + 1 = u.length - d := by omega
        have h3 := G.back _ _ _ (wk_step kn u (F 0) (u.length - (d + 1)) a (F (u.length - d)) x ha (by rw [e1]; exact ih) hx)
        have h4 := G.back _ _ _ (hw (u.length - (d + 1)) x (by omega) hx)
        rw [e1] at h4
        have : some a = some (F (u.length - (d + 1))) := h3.symm.trans h4
        rw [ha, this]
    have hb := back (u.length - (k + 1)) (by omega)
    rw [show u.length - (u.length - (k + 1)) = k + 1 by omega] at hb
    exact wk_step kn u (F 0) k (F k) (F (k + 1)) s (m2 k (by omega)) hb hs
  · obtain ⟨m, hm⟩ : ∃ m, (wk kn (F 0) u).length = m + 1 := ⟨(wk kn (F 0) u).length - 1, by omega⟩
    rw [hm] at h1 h2 m1
    have hbl := bkW_len (u.drop (m + 1))
    rw [List.length_drop] at hbl
    have h3 := wk_max kn (u.length - (m + 1)) (bkW (u.drop (m + 1))) (fun i => F (u.length - i)) (by omega) fun i x hi hx => by
      unfold bkW at hx
      rw [List.getElem?_reverse (by simp; omega), List.length_map, List.length_drop, List.getElem?_map, List.getElem?_drop, show m + 1 + (u.length - (m + 1) - 1 - i) = u.length - (i + 1) by omega] at hx
      obtain ⟨y, hy⟩ : ∃ y, u[u.length - (i + 1)]? = some y := ⟨_, List.getElem?_eq_getElem (by omega)⟩
      rw [hy] at hx
      have hx : -y = x := by simpa using hx
      subst hx
      have h4 := G.back _ _ _ (hw (u.length - (i + 1)) y (by omega) hy)
      rw [show u.length - (i + 1) + 1 = u.length - i by omega] at h4
      exact h4
    have h4 := h3.1
    simp only [Nat.sub_zero] at h4
    rw [hend] at h4
    omega
theorem cl_into {n B : Nat} {rules part rules' part' : List (List Int)} {S S1 T : RS} (cl : Cl n B rules part S S1) (G0 : Gd n B S.el S.kn) (GT : Gd n B T.el T.kn) (cT : Closed rules' part' T) (sub : ∀ u room, (u ∈ rules ∨ (u ∈ part ∧ room = 0)) → u ∈ rules' ∨ (u ∈ part' ∧ room = 0))
    (hstart : ∀ r s t, gr S.kn r s t → gr T.kn (root T.el r) s (root T.el t)) (hroot : ∀ x, x < n → root T.el (root S.el x) = root T.el x) :
    (∀ r s t, gr S1.kn r s t → gr T.kn (root T.el r) s (root T.el t)) ∧ (∀ x, x < n → root T.el (root S1.el x) = root T.el x) ∧ Gd n B S1.el S1.kn := by
  induction cl with
  | refl => exact ⟨hstart, hroot, G0⟩
  | @step S1 S2 which u room k path a b s _ hok hst rr ha hsu hb L ih =>
    obtain ⟨i1, i2, G1⟩ := ih
    have rn : room < n := by rw [← G1.elen]; exact stand_lt hst
    have hT0 : room = 0 → root T.el room = 0 := fun e => by subst e; have := root_le T.el 0; omega
    have hTst : T.el[root T.el room]? = some (root T.el room) := root_st GT.ok room (by rw [GT.elen]; exact rn)
    have hR : Rounded T.kn u (root T.el room) := by
      have h1 := sub u room (okW_mem.mp ⟨which, hok⟩)
      have h2 : u ∈ rules' ∨ (u ∈ part' ∧ root T.el room = 0) := h1.imp id fun ⟨x, y⟩ => ⟨x, hT0 y⟩
      obtain ⟨w', hw'⟩ := okW_mem.mpr h2
      exact cT w' u _ hw' hTst
    have hF : ∀ (i x : Nat), path[i]? = some x → root T.el ((path[i]?).getD 0) = root T.el x := fun i x h => by rw [h]; rfl
    have key : gr T.kn (root T.el ((path[k]?).getD 0)) s (root T.el ((path[k + 1]?).getD 0)) := by
      refine closed_way (F := fun i => root T.el ((path[i]?).getD 0)) GT rr.lt (fun i x hi hx => ?_) ?_ ?_ hsu
      · have hil := (List.getElem?_eq_some_iff.mp hx).1
        obtain ⟨c, hc⟩ : ∃ c, path[i]? = some c := ⟨_, List.getElem?_eq_getElem (by rw [rr.len]; omega)⟩
        obtain ⟨d, hd⟩ : ∃ d, path[i + 1]? = some d := ⟨_, List.getElem?_eq_getElem (by rw [rr.len]; omega)⟩
        rw [hF i c hc, hF (i + 1) d hd]
        exact i1 _ _ _ (rr.ways i x c d hi hx hc hd)
      · rw [hF _ _ rr.pl, hF _ _ rr.p0]
      · rw [hF _ _ rr.p0]
        exact hR
    rw [hF k a ha, hF (k + 1) b hb] at key
    obtain ⟨ms, g, hm, hg, _, _, _⟩ := L.mt
    have hQ : ∀ r s' t, (gr S1.kn r s' t ∨ way a s b r s' t) → gr T.kn (root T.el r) s' (root T.el t) := fun r s' t h => by
      rcases h with h | ⟨rfl, rfl, rfl⟩ | ⟨rfl, rfl, rfl⟩
      · exact i1 _ _ _ h
      · exact key
      · exact GT.back _ _ _ key
    have hfg := hm.forced (root T.el) fun c c' s' d d' h1 h2 e => by
      have q1 := hQ _ _ _ h1
      have q2 := hQ _ _ _ h2
      rw [e] at q1
      exact Option.some.inj (q1.symm.trans q2)
    refine ⟨fun r s' t h => ?_, fun x hx => ?_, L.gd⟩
    · obtain ⟨c, d, h1, rfl, rfl⟩ := (hm.img r s' t).mp h
      rw [hfg, hfg]
      exact hQ _ _ _ h1
    · rw [hg x hx, hfg, i2 x hx]
theorem cl_img {n B : Nat} {rules part : List (List Int)} {S T : RS} (cl : Cl n B rules part S T) (G0 : Gd n B S.el S.kn) : Gd n B T.el T.kn ∧ (∀ r s t, gr S.kn r s t → gr T.kn (root T.el r) s (root T.el t)) ∧ ∀ x, x < n → root T.el (root S.el x) = root T.el x := by
  induction cl with
  | refl =>
    refine ⟨G0, fun r s t h => ?_, fun x hx => ?_⟩
    · obtain ⟨h1, h2⟩ := G0.ends r s t h
      rw [root_eq h1, root_eq h2]
      exact h
    · exact root_eq (root_st G0.ok x (by rw [G0.elen]; exact hx))
  | @step S1 S2 which u room k path a b s _ hok hst rr ha hsu hb L ih =>
    obtain ⟨G1, i1, i2⟩ := ih
    obtain ⟨ms, g, hm, hg, _, _, _⟩ := L.mt
    refine ⟨L.gd, fun r s' t h => ?_, fun x hx => ?_⟩
    · obtain ⟨h1, h2⟩ := G0.ends r s' t h
      rw [hg r (by rw [← G0.elen]; exact stand_lt h1), hg t (by rw [← G0.elen]; exact stand_lt h2)]
      exact (hm.img _ _ _).mpr ⟨_, _, .inl (i1 _ _ _ h), rfl, rfl⟩
    · have h1 : root S.el x < n := Nat.lt_of_le_of_lt (root_le _ _) hx
      rw [hg _ h1, hg x hx, i2 x hx]
theorem Cl.trans_img {n : Nat} {S T U : RS} {B : Nat} (G0 : Gd n B S.el S.kn) (a1 : ∀ r s t, gr S.kn r s t → gr T.kn (root T.el r) s (root T.el t)) (a2 : ∀ x, x < n → root T.el (root S.el x) = root T.el x) (b1 : ∀ r s t, gr T.kn r s t → gr U.kn (root U.el r) s (root U.el t)) (b2 : ∀ x, x < n → root U.el (root T.el x) = root U.el x) :
    (∀ r s t, gr S.kn r s t → gr U.kn (root U.el r) s (root U.el t)) ∧ ∀ x, x < n → root U.el (root S.el x) = root U.el x := by
  refine ⟨fun r s t h => ?_, fun x hx => ?_⟩
  · obtain ⟨h1, h2⟩ := G0.ends r s t h
    have hr : r < n := by rw [← G0.elen]; exact stand_lt h1
    have ht : t < n := by rw [← G0.elen]; exact stand_lt h2
    have := b1 _ _ _ (a1 _ _ _ h)
    rw [b2 r hr, b2 t ht] at this
    exact this
  · have h1 : root S.el x < n := Nat.lt_of_le_of_lt (root_le _ _) hx
    rw [← b2 _ h1, a2 x hx, b2 x hx]
theorem one_end {n B : Nat} {T1 T2 : RS} (G1 : Gd n B T1.el T1.kn) (G2 : Gd n B T2.el T2.kn) (a1 : ∀ r s t, gr T1.kn r s t → gr T2.kn (root T2.el r) s (root T2.el t)) (a2 : ∀ x, x < n → root T2.el (root T1.el x) = root T2.el x) (b1 : ∀ r s t, gr T2.kn r s t → gr T1.kn (root T1.el r) s (root T1.el t)) (b2 : ∀ x, x < n → root T1.el (root T2.el x) = root T1.el x) :
    (∀ x, x < n → root T1.el x = root T2.el x) ∧ ∀ r s t, gr T1.kn r s t ↔ gr T2.kn r s t := by
  have e : ∀ x, x < n → root T1.el x = root T2.el x := fun x hx => by
    have h1 := root_le T2.el (root T1.el x)
    have h2 := root_le T1.el (root T2.el x)
    rw [a2 x hx] at h1
    rw [b2 x hx] at h2
    omega
  refine ⟨e, fun r s t => ⟨fun h => ?_, fun h => ?_⟩⟩
  · obtain ⟨h1, h2⟩ := G1.ends r s t h
    have := a1 r s t h
    rw [← e r (by rw [← G1.elen]; exact stand_lt h1), ← e t (by rw [← G1.elen]; exact stand_lt h2), root_eq h1, root_eq h2] at this
    exact this
  · obtain ⟨h1, h2⟩ := G2.ends r s t h
    have := b1 r s t h
    rw [e r (by rw [← G2.elen]; exact stand_lt h1), e t (by rw [← G2.elen]; exact stand_lt h2), root_eq h1, root_eq h2] at this
    exact this
theorem Mt.det {Q Q' : Wy} {ms : List Mr} {g : Nat → Nat} (h : Mt Q ms Q' g) (d : Det Q) : ms = [] ∧ Q' = Q ∧ g = id := by
  cases h with
  | nil => exact ⟨rfl, rfl, rfl⟩
  | cons k1 k2 k3 _ => exact absurd (d _ _ _ _ k1 k2) (by omega)
/-- what stands in S leads in U as U has it -/
structure Rel_ (n : Nat) (S U : RS) : Prop where
  g : ∀ r s t, gr S.kn r s t → gr U.kn (root U.el r) s (root U.el t)
  r : ∀ x, x < n → root U.el (root S.el x) = root U.el x
theorem el_range {n : Nat} {B : Int} {el : List Nat} {kn : List Kn} (G : Gd n B el kn) (h : ∀ x, x < n → root el x = x) : el = List.range n := by
  refine List.ext_getElem (by rw [G.elen, List.length_range]) fun i h1 h2 => ?_
  have hi : i < n := by rw [← G.elen]; exact h1
  have := (els_stand G hi).mp (h i hi)
  rw [List.getElem?_eq_getElem h1] at this
  rw [List.getElem_range]
  exact Option.some.inj this
theorem root_range {n x : Nat} (h : x < n) : root (List.range n) x = x := root_eq (by rw [List.getElem?_range h])
theorem det_way {kn : List Kn} {a b : Nat} {s : Int} (h1 : kv kn a s = none) (h2 : kv kn b (-s) = none) : Det (fun r s' t => gr kn r s' t ∨ way a s b r s' t) := fun r s' t t' q1 q2 => by
  have no1 : ∀ t, ¬ gr kn a s t := fun t h => by rw [show kv kn a s = some t from h] at h1; cases h1
  have no2 : ∀ t, ¬ gr kn b (-s) t := fun t h => by rw [show kv kn b (-s) = some t from h] at h2; cases h2
  rcases q1 with q1 | ⟨e1, e2, e3⟩ | ⟨e1, e2, e3⟩ <;> rcases q2 with q2 | ⟨f1, f2, f3⟩ | ⟨f1, f2, f3⟩
  · exact det_gr kn _ _ _ _ q1 q2
  · subst f1 f2 f3; exact absurd q1 (no1 _)
  · subst f1 f2 f3; exact absurd q1 (no2 _)
  · subst e1 e2 e3; exact absurd q2 (no1 _)
  · omega
  · omega
  · subst e1 e2 e3; exact absurd q2 (no2 _)
  · omega
  · omega

theorem gd0 (l : Nat) : Gd 1 l [0] [[]] where
  ok := ⟨fun i v h => by
    have := (List.getElem?_eq_some_iff.mp h).1
    simp at this
    subst this
    simp at h
    omega⟩
  elen := rfl
  klen := rfl
  ends := fun r s t h => (gr0 h).elim
  back := fun r s t h => (gr0 h).elim
  nd := fun r m h => by
    have := (List.getElem?_eq_some_iff.mp h).1
    simp at this
    subst this
    simp at h
    subst h
    simp
  bd := fun r m h s hs => by
    have := (List.getElem?_eq_some_iff.mp h).1
    simp at this
    subst this
    simp at h
    subst h
    simp at hs

/-! SPLIT -/
/-! ### turns of points, as lists -/
theorem nodup_len {α : Type} [BEq α] [LawfulBEq α] : ∀ {l m : List α}, l.Nodup → (∀ x ∈ l, x ∈ m) → l.length ≤ m.length
  | [], _, _, _ => Nat.zero_le _
  | a :: l, m, h, hs => by
    have ha : a ∈ m := hs a List.mem_cons_self
    have h2 := List.nodup_cons.mp h
    have : l.length ≤ (m.erase a).length := nodup_len h2.2 fun x hx => by
      have hne : x ≠ a := fun e => h2.1 (e ▸ hx)
      exact (List.mem_erase_of_ne hne).mpr (hs x (List.mem_cons_of_mem _ hx))
    rw [List.length_erase_of_mem ha] at this
    have := List.length_pos_of_mem ha
    simp
    omega
theorem nodup_fst {α : Type} {a : List α} (hd : a.Nodup) {c : α} {i : Nat} (h : a[i]? = some c) : ∀ j, j < i → a[j]? ≠ some c := by
  intro j hj h2
  obtain ⟨h1a, h1b⟩ := List.getElem?_eq_some_iff.mp h
  obtain ⟨h3a, h3b⟩ := List.getElem?_eq_some_iff.mp h2
  exact List.pairwise_iff_getElem.mp hd j i h3a h1a hj (h3b.trans h1b.symm)
theorem nodup_same {α : Type} {a : List α} (hd : a.Nodup) {c : α} {i j : Nat} (h : a[i]? = some c) (h2 : a[j]? = some c) : i = j := by
  rcases Nat.lt_trichotomy i j with hlt | heq | hgt
  · exact absurd h (nodup_fst hd h2 i hlt)
  · exact heq
  · exact absurd h2 (nodup_fst hd h j hgt)
structure Pm (p : Nat) (t : List Nat) : Prop where
  len : t.length = p
  lt : ∀ x ∈ t, x < p
  nd : t.Nodup
def ap (t : List Nat) (x : Nat) : Nat := (t[x]?).getD 0
def app (t s : List Nat) : List Nat := s.map (ap t)
theorem ap_lt {p : Nat} {t : List Nat} (h : Pm p t) {x : Nat} (hx : x < p) : ap t x < p := by
  unfold ap
  rw [List.getElem?_eq_getElem (by rw [h.len]; exact hx)]
  exact h.lt _ (List.getElem_mem _)
theorem ap_get {p : Nat} {t : List Nat} (h : Pm p t) {x : Nat} (hx : x < p) : t[x]? = some (ap t x) := by
  unfold ap
  rw [List.getElem?_eq_getElem (by rw [h.len]; exact hx)]
  rfl
theorem ap_inj {p : Nat} {t : List Nat} (h : Pm p t) {x y : Nat} (hx : x < p) (hy : y < p) (e : ap t x = ap t y) : x = y := by
  have h1 := ap_get h hx
  have h2 := ap_get h hy
  rw [e] at h1
  rcases Nat.lt_trichotomy x y with hlt | heq | hgt
  · exact absurd h1 (nodup_first h.nd h2 x hlt)
  · exact heq
  · exact absurd h2 (nodup_first h.nd h1 y hgt)
theorem ap_sur {p : Nat} {t : List Nat} (h : Pm p t) {y : Nat} (hy : y < p) : ∃ x, x < p ∧ ap t x = y := by
  have hm : y ∈ t := Classical.byContradiction fun hn => by
    have := nodup_len (l := y :: t) (m := List.range p) (List.nodup_cons.mpr ⟨hn, h.nd⟩) (fun x hx => by
      rcases List.mem_cons.mp hx with e | e
      · subst e; exact List.mem_range.mpr hy
      · exact List.mem_range.mpr (h.lt x e))
    rw [List.length_range, List.length_cons, h.len] at this
    omega
  obtain ⟨x, hx, e⟩ := List.mem_iff_getElem.mp hm
  refine ⟨x, by rw [← h.len]; exact hx, ?_⟩
  unfold ap
  rw [List.getElem?_eq_getElem hx, e]
  rfl
theorem pm_of {p : Nat} {t : List Nat} (hl : t.length = p) (hlt : ∀ x, x < p → ap t x < p) (hinj : ∀ x y, x < p → y < p → ap t x = ap t y → x = y) : Pm p t := by
  have hg : ∀ i (hi : i < t.length), ap t i = t[i] := fun i hi => by unfold ap; rw [List.getElem?_eq_getElem hi]; rfl
  refine ⟨hl, fun x hx => ?_, List.pairwise_iff_getElem.mpr fun i j hi hj hij e => ?_⟩
  · obtain ⟨i, hi, e⟩ := List.mem_iff_getElem.mp hx
    rw [← e, ← hg i hi]
    exact hlt i (by omega)
  · have := hinj i j (by omega) (by omega) (by rw [hg i hi, hg j hj, e])
    omega
theorem pm_ext {p : Nat} {s t : List Nat} (hs : s.length = p) (ht : t.length = p) (h : ∀ x, x < p → ap s x = ap t x) : s = t := by
  refine List.ext_getElem (by omega) fun i h1 h2 => ?_
  have := h i (by omega)
  unfold ap at this
  rw [List.getElem?_eq_getElem h1, List.getElem?_eq_getElem h2] at this
  exact this
theorem ap_app {p : Nat} {s t : List Nat} (hs : s.length = p) {x : Nat} (hx : x < p) : ap (app t s) x = ap t (ap s x) := by
  unfold app ap
  rw [List.getElem?_map, List.getElem?_eq_getElem (by omega)]
  rfl
theorem app_len (t s : List Nat) : (app t s).length = s.length := by simp [app]
theorem pm_app {p : Nat} {s t : List Nat} (ht : Pm p t) (hs : Pm p s) : Pm p (app t s) := by
  refine pm_of (by rw [app_len, hs.len]) (fun x hx => ?_) (fun x y hx hy e => ?_)
  · rw [ap_app hs.len hx]; exact ap_lt ht (ap_lt hs hx)
  · rw [ap_app hs.len hx, ap_app hs.len hy] at e
    exact ap_inj hs hx hy (ap_inj ht (ap_lt hs hx) (ap_lt hs hy) e)
def idP (p : Nat) : List Nat := List.range p
theorem ap_id {p x : Nat} (hx : x < p) : ap (idP p) x = x := by
  unfold ap idP
  rw [List.getElem?_range hx]
  rfl
theorem pm_id (p : Nat) : Pm p (idP p) := ⟨by simp [idP], fun x hx => List.mem_range.mp hx, List.nodup_range⟩
theorem app_id {p : Nat} {t : List Nat} (ht : Pm p t) : app t (idP p) = t := pm_ext (by rw [app_len]; simp [idP]) ht.len fun x hx => by rw [ap_app (by simp [idP]) hx, ap_id hx]
theorem id_app {p : Nat} {s : List Nat} (hs : Pm p s) : app (idP p) s = s := pm_ext (by rw [app_len, hs.len]) hs.len fun x hx => by rw [ap_app hs.len hx, ap_id (ap_lt hs hx)]
theorem app_assoc {p : Nat} {r s t : List Nat} (hr : Pm p r) (hs : Pm p s) : app t (app s r) = app (app t s) r := pm_ext (by rw [app_len, app_len, hr.len]) (by rw [app_len, hr.len]) fun x hx => by
  rw [ap_app (by rw [app_len, hr.len]) hx, ap_app hr.len hx, ap_app hr.len hx, ap_app hs.len (ap_lt hr hx)]
/-- u undoes t -/
def Inv_ (p : Nat) (t u : List Nat) : Prop := u.length = p ∧ ∀ x, x < p → ap u (ap t x) = x
theorem inv_pm {p : Nat} {t u : List Nat} (ht : Pm p t) (h : Inv_ p t u) : Pm p u := by
  refine pm_of h.1 (fun y hy => ?_) (fun x y hx hy e => ?_)
  · obtain ⟨x, hx, rfl⟩ := ap_sur ht hy
    rw [h.2 x hx]; exact hx
  · obtain ⟨a, ha, rfl⟩ := ap_sur ht hx
    obtain ⟨b, hb, rfl⟩ := ap_sur ht hy
    rw [h.2 a ha, h.2 b hb] at e
    rw [e]
theorem inv_uniq {p : Nat} {t u v : List Nat} (ht : Pm p t) (h : Inv_ p t u) (g : Inv_ p t v) : u = v := pm_ext h.1 g.1 fun y hy => by
  obtain ⟨x, hx, rfl⟩ := ap_sur ht hy
  rw [h.2 x hx, g.2 x hx]
theorem inv_sym {p : Nat} {t u : List Nat} (ht : Pm p t) (h : Inv_ p t u) : Inv_ p u t := ⟨ht.len, fun y hy => by
  obtain ⟨x, hx, rfl⟩ := ap_sur ht hy
  rw [h.2 x hx]⟩
theorem inv_app {p : Nat} {t u s : List Nat} (ht : Pm p t) (h : Inv_ p t u) (hs : Pm p s) : app u (app t s) = s := pm_ext (by rw [app_len, app_len, hs.len]) hs.len fun x hx => by
  rw [ap_app (by rw [app_len, hs.len]) hx, ap_app hs.len hx, h.2 _ (ap_lt hs hx)]
/-- the one that undoes t -/
def invP (t : List Nat) : List Nat := (List.range t.length).map fun y => (t.idxOf? y).getD 0
theorem invP_inv {p : Nat} {t : List Nat} (ht : Pm p t) : Inv_ p t (invP t) := by
  refine ⟨by simp [invP, ht.len], fun x hx => ?_⟩
  have hy := ap_lt ht hx
  have hg := ap_get ht hx
  unfold invP
  rw [ap, List.getElem?_map, List.getElem?_range (by rw [ht.len]; exact hy)]
  have : t.idxOf? (ap t x) = some x := by
    rw [List.idxOf?, List.findIdx?_eq_some_iff_getElem]
    obtain ⟨h1, h2⟩ := List.getElem?_eq_some_iff.mp hg
    refine ⟨h1, by simp [h2], fun j hj => ?_⟩
    have := nodup_first ht.nd hg j hj
    rw [List.getElem?_eq_getElem (by omega)] at this
    simpa using fun e => this (by rw [e])
  show ((some _).map _ : Option Nat).getD 0 = x
  simp [this]
theorem pm_inv {p : Nat} {t : List Nat} (ht : Pm p t) : Pm p (invP t) := inv_pm ht (invP_inv ht)
/-- a step's turn, a word's -/
def tn (ts : List (List Nat)) (x : Int) : List Nat := if x < 0 then invP ((ts[x.natAbs - 1]?).getD []) else (ts[x.natAbs - 1]?).getD []
def thr (ts : List (List Nat)) (s : List Nat) (w : List Int) : List Nat := w.foldl (fun s x => app (tn ts x) s) s
structure Tns (p : Nat) (ts : List (List Nat)) : Prop where
  pm : ∀ t ∈ ts, Pm p t
def StT (n : Nat) (w : List Int) : Prop := ∀ x ∈ w, x ≠ 0 ∧ x.natAbs ≤ n
theorem tn_pm {p : Nat} {ts : List (List Nat)} (h : Tns p ts) {x : Int} (hx : x ≠ 0 ∧ x.natAbs ≤ ts.length) : Pm p (tn ts x) := by
  have hl : x.natAbs - 1 < ts.length := by omega
  have := h.pm _ (List.getElem_mem hl)
  unfold tn
  rw [List.getElem?_eq_getElem hl]
  split
  · exact pm_inv this
  · exact this
theorem thr_pm {p : Nat} {ts : List (List Nat)} (h : Tns p ts) : ∀ {w : List Int} {s : List Nat}, StT ts.length w → Pm p s → Pm p (thr ts s w)
  | [], _, _, hs => hs
  | x :: w, s, hw, hs => thr_pm h (w := w) (fun y hy => hw y (List.mem_cons_of_mem _ hy)) (pm_app (tn_pm h (hw x List.mem_cons_self)) hs)
theorem thr_app (ts : List (List Nat)) (s : List Nat) (a b : List Int) : thr ts s (a ++ b) = thr ts (thr ts s a) b := by simp [thr]
theorem thr_id {p : Nat} {ts : List (List Nat)} (h : Tns p ts) : ∀ {w : List Int} {s : List Nat}, StT ts.length w → Pm p s → thr ts s w = app (thr ts (idP p) w) s := by
  intro w
  have key : ∀ (w : List Int) (r s : List Nat), StT ts.length w → Pm p r → Pm p s → thr ts (app r s) w = app (thr ts r w) s := by
    intro w
    induction w with
    | nil => intro r s _ _ _; rfl
    | cons x w ih =>
      intro r s hw hr hs
      have hx := tn_pm h (hw x List.mem_cons_self)
      show thr ts (app (tn ts x) (app r s)) w = app (thr ts (app (tn ts x) r) w) s
      rw [app_assoc hs hr]
      exact ih _ _ (fun y hy => hw y (List.mem_cons_of_mem _ hy)) (pm_app hx hr) hs
  intro s hw hs
  have := key w (idP p) s hw (pm_id p) hs
  rwa [id_app hs] at this
theorem tn_neg {p : Nat} {ts : List (List Nat)} (h : Tns p ts) {x : Int} (hx : x ≠ 0 ∧ x.natAbs ≤ ts.length) : Inv_ p (tn ts x) (tn ts (-x)) := by
  have hl : x.natAbs - 1 < ts.length := by omega
  have ht := h.pm _ (List.getElem_mem hl)
  unfold tn
  rw [Int.natAbs_neg, List.getElem?_eq_getElem hl]
  by_cases hn : x < 0
  · rw [if_pos hn, if_neg (by omega)]
    exact inv_sym ht (invP_inv ht)
  · rw [if_neg hn, if_pos (by omega)]
    exact invP_inv ht
theorem thr_back {p : Nat} {ts : List (List Nat)} (h : Tns p ts) : ∀ {w : List Int} {s : List Nat}, StT ts.length w → Pm p s → thr ts (thr ts s w) (backOf w) = s
  | [], _, _, _ => rfl
  | x :: w, s, hw, hs => by
    have hx := hw x List.mem_cons_self
    have e : backOf (x :: w) = backOf w ++ [-x] := by simp [backOf]
    rw [e, thr_app]
    show thr ts (thr ts (thr ts (app (tn ts x) s) w) (backOf w)) [-x] = s
    rw [thr_back h (fun y hy => hw y (List.mem_cons_of_mem _ hy)) (pm_app (tn_pm h hx) hs)]
    exact inv_app (tn_pm h hx) (tn_neg h hx) hs
theorem st_back {n : Nat} {w : List Int} (h : StT n w) : StT n (backOf w) := fun x hx => by
  unfold backOf at hx
  obtain ⟨y, hy, rfl⟩ := List.mem_map.mp hx
  have := h y (List.mem_reverse.mp hy)
  exact ⟨by omega, by omega⟩
/-- a word's back is what undoes the word -/
theorem thr_inv {p : Nat} {ts : List (List Nat)} (h : Tns p ts) {w : List Int} (hw : StT ts.length w) : thr ts (idP p) (backOf w) = invP (thr ts (idP p) w) := by
  have hp := thr_pm h hw (pm_id p)
  refine inv_uniq hp ⟨(thr_pm h (st_back hw) (pm_id p)).len, fun x hx => ?_⟩ (invP_inv hp)
  have := thr_back h hw (pm_id p)
  rw [thr_id h (st_back hw) hp] at this
  have h2 := congrArg (fun l => ap l x) this
  rwa [ap_app hp.len hx, ap_id hx] at h2
/-! ### tables of turns -/
def nD (l : List Nat) : D := .tup (l.map fun n : Nat => D.int n)
theorem codN : CodecI (fun n : Nat => D.int n) 0 := ⟨⟨fun _ => rfl, fun _ => Nat.le_refl _, fun a b => by simp [D.py, PyData.eqv]; omega⟩, fun _ => rfl⟩
theorem codnD : CodecI nD 1 := codN.tup
theorem codnL : CodecI nL 1 := codN.lst
theorem rng_id (p : Nat) : D.tup (rngD 0 ((p : Int) - 0).toNat) = nD (idP p) := by
  unfold nD idP rngD
  rw [show ((p : Int) - 0).toNat = p by omega]
  simp
theorem rng_idL (p : Nat) : D.lst (rngD 0 ((p : Int) - 0).toNat) = nL (idP p) := by
  unfold nL idP rngD
  rw [show ((p : Int) - 0).toNat = p by omega]
  simp
theorem atI_n {l : List Nat} {k : Nat} (h : k < l.length) : atI (l.map fun n : Nat => D.int n) (k : Int) = some (.int (ap l k)) := by
  refine atI_f (fun n : Nat => D.int n) (by omega) ?_
  rw [Int.toNat_natCast]
  unfold ap
  rw [List.getElem?_eq_getElem h]
  rfl
def tk (ts : List (List Nat)) (k : Nat) : List Nat := if k % 2 = 1 then invP ((ts[k / 2]?).getD []) else (ts[k / 2]?).getD []
def spot (x : Int) : Nat := if x < 0 then 2 * (x.natAbs - 1) + 1 else 2 * (x.natAbs - 1)
theorem tk_spot (ts : List (List Nat)) (x : Int) : tk ts (spot x) = tn ts x := by
  unfold tk spot tn
  split
  · rw [if_pos (by omega), show (2 * (x.natAbs - 1) + 1) / 2 = x.natAbs - 1 by omega]
  · rw [if_neg (by omega), show (2 * (x.natAbs - 1)) / 2 = x.natAbs - 1 by omega]
theorem tk_pm {p : Nat} {ts : List (List Nat)} (h : Tns p ts) {k : Nat} (hk : k < 2 * ts.length) : Pm p (tk ts k) := by
  have hl : k / 2 < ts.length := by omega
  have := h.pm _ (List.getElem_mem hl)
  unfold tk
  rw [List.getElem?_eq_getElem hl]
  split
  · exact pm_inv this
  · exact this
/-- a row of the table: where each sign leads from s -/
def RowOk (ts : List (List Nat)) (come : List (List Nat)) (s : List Nat) (n : Nat) (r : List Nat) : Prop := r.length = n ∧ ∀ k, k < n → come[ap r k]? = some (app (tk ts k) s)
theorem RowOk.more {ts come : List (List Nat)} {s : List Nat} {n : Nat} {r : List Nat} (h : RowOk ts come s n r) (e : List (List Nat)) : RowOk ts (come ++ e) s n r := ⟨h.1, fun k hk => by
  have := h.2 k hk
  rw [List.getElem?_append_left (List.getElem?_eq_some_iff.mp this).1]
  exact this⟩
theorem ap_snoc {r : List Nat} {j k : Nat} (hk : k < r.length) : ap (r ++ [j]) k = ap r k := by
  unfold ap
  rw [List.getElem?_append_left hk]
theorem ap_last (r : List Nat) (j : Nat) : ap (r ++ [j]) r.length = j := by
  unfold ap
  simp
structure Come (p : Nat) (come : List (List Nat)) : Prop where
  c0 : come[0]? = some (idP p)
  pm : ∀ s ∈ come, Pm p s
  nd : come.Nodup
structure Tbl (p : Nat) (ts come tab : List (List Nat)) : Prop extends Come p come where
  len : tab.length = come.length
  row : ∀ (i : Nat) (s : List Nat), come[i]? = some s → ∃ r : List Nat, tab[i]? = some r ∧ RowOk ts come s (2 * ts.length) r
/-- all lists of n points -/
def allL (p : Nat) : Nat → List (List Nat)
  | 0 => [[]]
  | n + 1 => (List.range p).flatMap fun x => (allL p n).map (x :: ·)
theorem allL_mem {p : Nat} : ∀ {n : Nat} {l : List Nat}, l.length = n → (∀ x ∈ l, x < p) → l ∈ allL p n
  | 0, l, h, _ => by
    have : l = [] := List.length_eq_zero_iff.mp h
    subst this
    simp [allL]
  | n + 1, x :: l, h, hx => by
    unfold allL
    rw [List.mem_flatMap]
    refine ⟨x, List.mem_range.mpr (hx x List.mem_cons_self), List.mem_map.mpr ⟨l, allL_mem (by simpa using h) fun y hy => hx y (List.mem_cons_of_mem _ hy), rfl⟩⟩
theorem all_len {p : Nat} (h : p ≤ 4) : (allL p p).length ≤ 256 := by
  have : p = 0 ∨ p = 1 ∨ p = 2 ∨ p = 3 ∨ p = 4 := by omega
  rcases this with e | e | e | e | e <;> subst e <;> decide +kernel
theorem come_len {p : Nat} (h : p ≤ 4) {come : List (List Nat)} (nd : come.Nodup) (pm : ∀ s ∈ come, Pm p s) : come.length ≤ 256 :=
  Nat.le_trans (nodup_len nd fun s hs => allL_mem (pm s hs).len (pm s hs).lt) (all_len h)

def rot (p c : Nat) : List Nat := (List.range p).map fun i => (i + c) % p
theorem ap_rot {p c x : Nat} (hx : x < p) : ap (rot p c) x = (x + c) % p := by
  unfold ap rot
  rw [List.getElem?_map, List.getElem?_range hx]
  rfl
theorem rot_get {p c i : Nat} (h : i < (rot p c).length) : (rot p c)[i] = (i + c) % p := by simp [rot]
theorem rot_len (p c : Nat) : (rot p c).length = p := by simp [rot]
theorem mod_cases {a p : Nat} (h : a < 2 * p) : (a < p ∧ a % p = a) ∨ (p ≤ a ∧ a % p = a - p) := by
  by_cases h2 : a < p
  · exact .inl ⟨h2, Nat.mod_eq_of_lt h2⟩
  · refine .inr ⟨by omega, ?_⟩
    rw [Nat.mod_eq_sub_mod (by omega), Nat.mod_eq_of_lt (by omega)]
theorem rot_pm {p c : Nat} (hc : c < p) : Pm p (rot p c) := pm_of (rot_len p c) (fun x hx => by rw [ap_rot hx]; exact Nat.mod_lt _ (by omega)) fun x y hx hy e => by
  rw [ap_rot hx, ap_rot hy] at e
  rcases mod_cases (a := x + c) (p := p) (by omega) with ⟨a, b⟩ | ⟨a, b⟩ <;> rcases mod_cases (a := y + c) (p := p) (by omega) with ⟨a', b'⟩ | ⟨a', b'⟩ <;> omega

/-! ### steps in their order -/
def stp (k : Nat) : Int := if k % 2 = 0 then ((k / 2 : Nat) : Int) + 1 else -(((k / 2 : Nat) : Int) + 1)
theorem stp_ok {k l : Nat} (h : k < 2 * l) : stp k ≠ 0 ∧ (stp k).natAbs ≤ l := by
  unfold stp
  split <;> omega
def stepsL (l : Nat) : List Int := (List.range (2 * l)).map stp
theorem stepsL_succ (l : Nat) : stepsL (l + 1) = stepsL l ++ [(l : Int) + 1, -((l : Int) + 1)] := by
  have e1 : stp (2 * l) = (l : Int) + 1 := by unfold stp; rw [if_pos (by omega)]; omega
  have e2 : stp (2 * l + 1) = -((l : Int) + 1) := by unfold stp; rw [if_neg (by omega)]; omega
  unfold stepsL
  rw [show 2 * (l + 1) = (2 * l + 1) + 1 by omega, List.range_succ, List.range_succ, List.map_append, List.map_append, List.append_assoc]
  simp only [List.map_cons, List.map_nil, e1, e2]
  rfl
theorem stepsL_len (l : Nat) : (stepsL l).length = 2 * l := by simp [stepsL]

theorem stp_spot (k : Nat) : spot (stp k) = k := by
  unfold spot stp
  split
  · rw [if_neg (by omega)]; omega
  · rw [if_pos (by omega)]; omega
def lead (tab : List (List Nat)) (r : Nat) (w : List Int) : Nat := w.foldl (fun r x => ap ((tab[r]?).getD []) (spot x)) r
theorem lead_snoc (tab : List (List Nat)) (r : Nat) (w : List Int) (x : Int) : lead tab r (w ++ [x]) = ap ((tab[lead tab r w]?).getD []) (spot x) := by simp [lead]
structure GT (n l : Nat) (tab : List (List Nat)) : Prop where
  len : tab.length = n
  n1 : 1 ≤ n
  nb : n ≤ 5000
  lb : l ≤ 500
  row : ∀ r ∈ tab, r.length = 2 * l ∧ ∀ x ∈ r, x < n
  reach : ∀ j, 0 < j → j < n → ∃ i k, i < j ∧ k < 2 * l ∧ ap ((tab[i]?).getD []) k = j
theorem row_ap (r : List Nat) : r = (List.range r.length).map (ap r) := by
  refine List.ext_getElem (by simp) fun i h1 h2 => ?_
  simp [ap, h1]
theorem GT.get {n l : Nat} {tab : List (List Nat)} (g : GT n l tab) {i : Nat} (h : i < n) : ∃ r, tab[i]? = some r ∧ (tab[i]?).getD [] = r ∧ r.length = 2 * l ∧ ∀ k, k < 2 * l → ap r k < n := by
  have hl : i < tab.length := by rw [g.len]; exact h
  have := g.row _ (List.getElem_mem hl)
  refine ⟨tab[i], List.getElem?_eq_getElem hl, by rw [List.getElem?_eq_getElem hl]; rfl, this.1, fun k hk => ?_⟩
  have hk' : k < tab[i].length := by rw [this.1]; exact hk
  unfold ap
  rw [List.getElem?_eq_getElem hk']
  exact this.2 _ (List.getElem_mem hk')
theorem lead_lt {n l : Nat} {tab : List (List Nat)} (g : GT n l tab) : ∀ {w : List Int} {r : Nat}, r < n → StT l w → lead tab r w < n
  | [], _, h, _ => h
  | x :: w, r, h, hw => by
    have hx := hw x List.mem_cons_self
    obtain ⟨q, _, e, _, hq⟩ := g.get h
    show lead tab (ap ((tab[r]?).getD []) (spot x)) w < n
    rw [e]
    exact lead_lt g (w := w) (hq _ (by unfold spot; split <;> omega)) fun y hy => hw y (List.mem_cons_of_mem _ hy)
abbrev Wly := List (Nat × List Int)
def wlyD (L : Wly) : D := .dK (L.map fun q => (Sum.inl (q.1 : Int), wD q.2))
def wv (L : Wly) (r : Nat) : Option (List Int) := (L.find? fun q => decide (q.1 = r)).map (·.2)
theorem wv_val (L : Wly) (r : Nat) : valD (L.map fun q => ((Sum.inl (q.1 : Int) : Key), wD q.2)) (.inl (r : Int)) = (wv L r).map wD := by
  unfold valD wv
  induction L with
  | nil => rfl
  | cons q L ih =>
    rw [List.map_cons, List.find?_cons, List.find?_cons]
    by_cases h : q.1 = r
    · simp [h]
    · have : ¬ ((Sum.inl (q.1 : Int) : Key) = Sum.inl (r : Int)) := fun e => h (by have := Sum.inl.inj e; omega)
      simp only [h, this, decide_false]
      exact ih
theorem wv_mem {L : Wly} {r : Nat} {w : List Int} (h : wv L r = some w) : (r, w) ∈ L := by
  unfold wv at h
  cases e : L.find? fun q => decide (q.1 = r) with
  | none => rw [e] at h; cases h
  | some q =>
    rw [e] at h
    have h1 := List.find?_some e
    have h2 := List.mem_of_find?_eq_some e
    simp at h1
    cases h
    rw [← h1]
    exact h2
theorem wv_none {L : Wly} {r : Nat} : wv L r = none ↔ r ∉ L.map (·.1) := by
  unfold wv
  rw [Option.map_eq_none_iff, List.find?_eq_none]
  simp
  constructor
  · intro h x hx
    exact h r x hx rfl
  · intro h a b hab e
    subst e
    exact h b hab
theorem put_new {L : Wly} {r : Nat} (w : List Int) (h : wv L r = none) : putD (L.map fun q => ((Sum.inl (q.1 : Int) : Key), wD q.2)) (.inl (r : Int)) (wD w) = (L ++ [(r, w)]).map fun q => ((Sum.inl (q.1 : Int) : Key), wD q.2) := by
  have hn := wv_none.mp h
  unfold putD
  rw [if_neg]
  · simp
  · simp
    intro a b hab e
    have : a = r := by omega
    subst this
    exact hn (List.mem_map.mpr ⟨(a, b), hab, rfl⟩)
structure WlOk (n l : Nat) (tab : List (List Nat)) (L : Wly) : Prop where
  nd : (L.map (·.1)).Nodup
  c0 : L[0]? = some (0, [])
  ok : ∀ q ∈ L, q.1 < n ∧ lead tab 0 q.2 = q.1 ∧ StT l q.2 ∧ q.2.length < L.length
theorem WlOk.len {n l : Nat} {tab : List (List Nat)} {L : Wly} (h : WlOk n l tab L) : L.length ≤ n := by
  have := nodup_len (m := List.range n) h.nd fun x hx => by
    obtain ⟨q, hq, rfl⟩ := List.mem_map.mp hx
    exact List.mem_range.mpr (h.ok q hq).1
  simpa using this
/-- closed: every room there -/
theorem WlOk.full {n l : Nat} {tab : List (List Nat)} {L : Wly} (g : GT n l tab) (h : WlOk n l tab L) (hc : ∀ r ∈ L.map (·.1), ∀ k, k < 2 * l → ap ((tab[r]?).getD []) k ∈ L.map (·.1)) : ∀ r, r < n → r ∈ L.map (·.1) := by
  intro r
  induction r using Nat.strongRecOn with
  | _ r ih =>
    intro hr
    by_cases h0 : r = 0
    · subst h0
      exact List.mem_map.mpr ⟨(0, []), List.mem_of_getElem? h.c0, rfl⟩
    · obtain ⟨i, k, hi, hk, e⟩ := g.reach r (by omega) hr
      rw [← e]
      exact hc i (ih i hi (by omega)) k hk

def T_steps_of : DSp := fun ds w P => ∃ l : Nat, ds = [.int l] ∧ l ≤ 500 ∧ P true (iD (stepsL l)) w
theorem len_steps_of (ds : List D) (w : Om) (P : Bool → D → Om → Prop) (h : T_steps_of ds w P) : ds.length = 1 := by first | (have h := h.1; subst h; rfl) | (obtain ⟨rfl, _⟩ := h; rfl) | (obtain ⟨_, rfl, _⟩ := h; rfl) | (obtain ⟨_, _, rfl, _⟩ := h; rfl) | (obtain ⟨_, _, _, rfl, _⟩ := h; rfl) | (obtain ⟨_, _, _, _, rfl, _⟩ := h; rfl) | (obtain ⟨_, _, _, _, _, rfl, _⟩ := h; rfl) | (obtain ⟨_, _, _, _, _, _, rfl, _⟩ := h; rfl) | (obtain ⟨_, _, _, _, _, _, _, rfl, _⟩ := h; rfl) | (obtain ⟨_, _, _, _, _, _, _, _, rfl, _⟩ := h; rfl) | (obtain ⟨_, _, _, _, _, _, _, _, _, rfl, _⟩ := h; rfl) | (obtain ⟨_, _, _, _, _, _, _, _, _, _, rfl, _⟩ := h; rfl) | (obtain ⟨_, _, _, _, _, _, _, _, _, _, _, rfl, _⟩ := h; rfl) | (obtain ⟨_, _, _, _, _, _, _, _, _, _, _, _, rfl, _⟩ := h; rfl) | (obtain ⟨_, _, _, _, _, _, _, _, _, _, _, _, _, rfl, _⟩ := h; rfl)
def b_steps_of : DS := (dSeq (dSet true 1 (dLst dNil))
    (dSeq (dFor (dRng2 (oX (dC (.int 1))) (oX (dBin sAdd (dVarR 0) (oX (dC (.int 1)))))) (gN 2) (dSeq (dApp 1 (dVar 2))
    (dApp 1 (dUn sNeg (dVarR 2)))))
    (dRetV 1)))
theorem v_steps_of (ds : List D) (w : Om) (P : Bool → D → Om → Prop) (h : T_steps_of ds w P) : b_steps_of { nx := fun _ w => P false .non w, rt := P } (startD ["letters", "steps", "letter"] ds) w := by
  unfold b_steps_of
  obtain ⟨l, rfl, hl, q⟩ := h
  refine seq_i ?_
  try simp_arith only []
  refine seq_i ?_
  try simp_arith only []
  refine ⟨by omega, ?_⟩
  refine for_rng 1 _ (fun k δ w' => w' = w ∧ ∃ j, δ = [some (false, .int l), some (true, iD (stepsL k)), j]) ⟨rfl, none, rfl⟩ ?_ ?_
  · rintro k δ w' N C hk ⟨rfl, j, rfl⟩ hN hC
    have hl := stepsL_len k
    have hs := sizeLine_eq
    refine seq_i ?_
    try simp_arith only []
    try simp_arith [iD]
    refine ⟨by omega, by simp; omega, hN _ _ ⟨rfl, some (false, .int (1 + k)), ?_⟩⟩
    rw [stepsL_succ]
    simp [iD, Int.add_comm]
  · rintro δ w' ⟨rfl, j, rfl⟩
    try simp_arith []
    have e : ((l : Int) + 1 - 1).toNat = l := by omega
    rw [e]
    exact q

/-! ### gaps, and which is the first one -/
def gapRow (kn : List Kn) (r : Nat) (k : Nat) : Option (Nat × Nat) := if kv kn r (stp k) = none then some (r, k) else none
def gapsR (kn : List Kn) (r m : Nat) : List (Nat × Nat) := (List.range m).filterMap (gapRow kn r)
def gapsL (kn : List Kn) (l : Nat) (st : List Nat) : List (Nat × Nat) := st.flatMap fun r => gapsR kn r (2 * l)
theorem gapsR_succ (kn : List Kn) (r m : Nat) : gapsR kn r (m + 1) = gapsR kn r m ++ (gapRow kn r m).toList := by
  unfold gapsR
  rw [List.range_succ, List.filterMap_append]
  congr 1
def rkO (c : Str) (x : Nat × Nat) : List Int := if c = "ByLetters" then [(x.2 : Int), (x.1 : Int)] else if c = "Newest" then [-(x.1 : Int), (x.2 : Int)] else [(x.1 : Int), (x.2 : Int)]
def pickO (c : Str) (a : Option (Nat × Nat)) (x : Nat × Nat) : Option (Nat × Nat) := match a with
  | none => some x
  | some y => if HT.lexLt (rkO c x) (rkO c y) = true then some x else some y
def bestO (c : Str) (gs : List (Nat × Nat)) : Option (Nat × Nat) := gs.foldl (pickO c) none
theorem bestO_append (c : Str) (gs hs : List (Nat × Nat)) : bestO c (gs ++ hs) = hs.foldl (pickO c) (bestO c gs) := List.foldl_append ..
def gapD : Option (Nat × Nat) → D
  | none => .non
  | some x => .tup [.int (x.1 : Int), .int (stp x.2)]
def rkD (c : Str) : Option (Nat × Nat) → D
  | none => .non
  | some x => .tup ((rkO c x).map D.int)
theorem nl_o : ¬ (("Order" : Str) = "ByLetters") := by decide +kernel
theorem nn_o : ¬ (("Order" : Str) = "Newest") := by decide +kernel
theorem nl_n : ¬ (("Newest" : Str) = "ByLetters") := by decide +kernel
theorem rkO_o (x : Nat × Nat) : rkO "Order" x = [(x.1 : Int), (x.2 : Int)] := by unfold rkO; rw [if_neg nl_o, if_neg nn_o]
theorem rkO_l (x : Nat × Nat) : rkO "ByLetters" x = [(x.2 : Int), (x.1 : Int)] := by unfold rkO; rw [if_pos rfl]
theorem rkO_n (x : Nat × Nat) : rkO "Newest" x = [-(x.1 : Int), (x.2 : Int)] := by unfold rkO; rw [if_neg nl_n, if_pos rfl]
def T_Order_mark : DSp := fun ds w P => ∃ (a : Addr) (x : Nat × Nat), ds = [.ref a, .int (x.1 : Nat), .int (x.2 : Nat)] ∧ P false (.tup ((rkO "Order" x).map D.int)) w
theorem len_Order_mark (ds : List D) (w : Om) (P : Bool → D → Om → Prop) (h : T_Order_mark ds w P) : ds.length = 3 := by first | (have h := h.1; subst h; rfl) | (obtain ⟨rfl, _⟩ := h; rfl) | (obtain ⟨_, rfl, _⟩ := h; rfl) | (obtain ⟨_, _, rfl, _⟩ := h; rfl) | (obtain ⟨_, _, _, rfl, _⟩ := h; rfl) | (obtain ⟨_, _, _, _, rfl, _⟩ := h; rfl) | (obtain ⟨_, _, _, _, _, rfl, _⟩ := h; rfl) | (obtain ⟨_, _, _, _, _, _, rfl, _⟩ := h; rfl) | (obtain ⟨_, _, _, _, _, _, _, rfl, _⟩ := h; rfl) | (obtain ⟨_, _, _, _, _, _, _, _, rfl, _⟩ := h; rfl) | (obtain ⟨_, _, _, _, _, _, _, _, _, rfl, _⟩ := h; rfl) | (obtain ⟨_, _, _, _, _, _, _, _, _, _, rfl, _⟩ := h; rfl) | (obtain ⟨_, _, _, _, _, _, _, _, _, _, _, rfl, _⟩ := h; rfl) | (obtain ⟨_, _, _, _, _, _, _, _, _, _, _, _, rfl, _⟩ := h; rfl) | (obtain ⟨_, _, _, _, _, _, _, _, _, _, _, _, _, rfl, _⟩ := h; rfl)
def b_Order_mark : DS := (dRet (dTup (dCons (dVar 1) (dCons (dVar 2) dNil))))
theorem v_Order_mark (ds : List D) (w : Om) (P : Bool → D → Om → Prop) (h : T_Order_mark ds w P) : b_Order_mark { nx := fun _ w => P false .non w, rt := P } (startD ["self", "room", "place"] ds) w := by
  unfold b_Order_mark
  obtain ⟨a, x, rfl, q⟩ := h
  rw [rkO_o] at q
  have hs := sizeLine_eq
  try simp_arith []
  exact ⟨by omega, q⟩
def T_ByLetters_mark : DSp := fun ds w P => ∃ (a : Addr) (x : Nat × Nat), ds = [.ref a, .int (x.1 : Nat), .int (x.2 : Nat)] ∧ P false (.tup ((rkO "ByLetters" x).map D.int)) w
theorem len_ByLetters_mark (ds : List D) (w : Om) (P : Bool → D → Om → Prop) (h : T_ByLetters_mark ds w P) : ds.length = 3 := by first | (have h := h.1; subst h; rfl) | (obtain ⟨rfl, _⟩ := h; rfl) | (obtain ⟨_, rfl, _⟩ := h; rfl) | (obtain ⟨_, _, rfl, _⟩ := h; rfl) | (obtain ⟨_, _, _, rfl, _⟩ := h; rfl) | (obtain ⟨_, _, _, _, rfl, _⟩ := h; rfl) | (obtain ⟨_, _, _, _, _, rfl, _⟩ := h; rfl) | (obtain ⟨_, _, _, _, _, _, rfl, _⟩ := h; rfl) | (obtain ⟨_, _, _, _, _, _, _, rfl, _⟩ := h; rfl) | (obtain ⟨_, _, _, _, _, _, _, _, rfl, _⟩ := h; rfl) | (obtain ⟨_, _, _, _, _, _, _, _, _, rfl, _⟩ := h; rfl) | (obtain ⟨_, _, _, _, _, _, _, _, _, _, rfl, _⟩ := h; rfl) | (obtain ⟨_, _, _, _, _, _, _, _, _, _, _, rfl, _⟩ := h; rfl) | (obtain ⟨_, _, _, _, _, _, _, _, _, _, _, _, rfl, _⟩ := h; rfl) | (obtain ⟨_, _, _, _, _, _, _, _, _, _, _, _, _, rfl, _⟩ := h; rfl)
def b_ByLetters_mark : DS := (dRet (dTup (dCons (dVar 2) (dCons (dVar 1) dNil))))
theorem v_ByLetters_mark (ds : List D) (w : Om) (P : Bool → D → Om → Prop) (h : T_ByLetters_mark ds w P) : b_ByLetters_mark { nx := fun _ w => P false .non w, rt := P } (startD ["self", "room", "place"] ds) w := by
  unfold b_ByLetters_mark
  obtain ⟨a, x, rfl, q⟩ := h
  rw [rkO_l] at q
  have hs := sizeLine_eq
  try simp_arith []
  exact ⟨by omega, q⟩
def T_Newest_mark : DSp := fun ds w P => ∃ (a : Addr) (x : Nat × Nat), ds = [.ref a, .int (x.1 : Nat), .int (x.2 : Nat)] ∧ P false (.tup ((rkO "Newest" x).map D.int)) w
theorem len_Newest_mark (ds : List D) (w : Om) (P : Bool → D → Om → Prop) (h : T_Newest_mark ds w P) : ds.length = 3 := by first | (have h := h.1; subst h; rfl) | (obtain ⟨rfl, _⟩ := h; rfl) | (obtain ⟨_, rfl, _⟩ := h; rfl) | (obtain ⟨_, _, rfl, _⟩ := h; rfl) | (obtain ⟨_, _, _, rfl, _⟩ := h; rfl) | (obtain ⟨_, _, _, _, rfl, _⟩ := h; rfl) | (obtain ⟨_, _, _, _, _, rfl, _⟩ := h; rfl) | (obtain ⟨_, _, _, _, _, _, rfl, _⟩ := h; rfl) | (obtain ⟨_, _, _, _, _, _, _, rfl, _⟩ := h; rfl) | (obtain ⟨_, _, _, _, _, _, _, _, rfl, _⟩ := h; rfl) | (obtain ⟨_, _, _, _, _, _, _, _, _, rfl, _⟩ := h; rfl) | (obtain ⟨_, _, _, _, _, _, _, _, _, _, rfl, _⟩ := h; rfl) | (obtain ⟨_, _, _, _, _, _, _, _, _, _, _, rfl, _⟩ := h; rfl) | (obtain ⟨_, _, _, _, _, _, _, _, _, _, _, _, rfl, _⟩ := h; rfl) | (obtain ⟨_, _, _, _, _, _, _, _, _, _, _, _, _, rfl, _⟩ := h; rfl)
def b_Newest_mark : DS := (dRet (dTup (dCons (dUn sNeg (dVarR 1)) (dCons (dVar 2) dNil))))
theorem v_Newest_mark (ds : List D) (w : Om) (P : Bool → D → Om → Prop) (h : T_Newest_mark ds w P) : b_Newest_mark { nx := fun _ w => P false .non w, rt := P } (startD ["self", "room", "place"] ds) w := by
  unfold b_Newest_mark
  obtain ⟨a, x, rfl, q⟩ := h
  rw [rkO_n] at q
  have hs := sizeLine_eq
  try simp_arith []
  exact ⟨by omega, q⟩
def T_Order_gap : Str → DSp := fun cn ds w P => ∃ (o p : Addr) (r : RP) (S : RS) (n : Nat), ds = [.ref o, .ref p] ∧ (cn = "Order" ∨ cn = "ByLetters" ∨ cn = "Newest") ∧ w o = some (.ins cn []) ∧ Rm w p r S ∧ Gd n S.l S.el S.kn ∧ n ≤ 100000 ∧ S.l ≤ 500 ∧ P false (gapD (bestO cn (gapsL S.kn S.l (stands S.el)))) w
theorem len_Order_gap (cn : Str) (ds : List D) (w : Om) (P : Bool → D → Om → Prop) (h : (T_Order_gap cn) ds w P) : ds.length = 2 := by first | (have h := h.1; subst h; rfl) | (obtain ⟨rfl, _⟩ := h; rfl) | (obtain ⟨_, rfl, _⟩ := h; rfl) | (obtain ⟨_, _, rfl, _⟩ := h; rfl) | (obtain ⟨_, _, _, rfl, _⟩ := h; rfl) | (obtain ⟨_, _, _, _, rfl, _⟩ := h; rfl) | (obtain ⟨_, _, _, _, _, rfl, _⟩ := h; rfl) | (obtain ⟨_, _, _, _, _, _, rfl, _⟩ := h; rfl) | (obtain ⟨_, _, _, _, _, _, _, rfl, _⟩ := h; rfl) | (obtain ⟨_, _, _, _, _, _, _, _, rfl, _⟩ := h; rfl) | (obtain ⟨_, _, _, _, _, _, _, _, _, rfl, _⟩ := h; rfl) | (obtain ⟨_, _, _, _, _, _, _, _, _, _, rfl, _⟩ := h; rfl) | (obtain ⟨_, _, _, _, _, _, _, _, _, _, _, rfl, _⟩ := h; rfl) | (obtain ⟨_, _, _, _, _, _, _, _, _, _, _, _, rfl, _⟩ := h; rfl) | (obtain ⟨_, _, _, _, _, _, _, _, _, _, _, _, _, rfl, _⟩ := h; rfl)
def b_Order_gap : DS := (dSeq (dSet false 2 (dC .non))
    (dSeq (dSet false 3 (dC .non))
    (dSeq (dFor (dIt (dMeth "Rooms" "standing" T_Rooms_standing (dVarR 1) dNil)) (gN 4) (dFor (dEnumT (dCons (dCall T_steps_of (dCons (dFld "Rooms" "letters" (dVarR 1)) dNil)) dNil)) (gT 2 (gsC (gN 5) (gsC (gN 6) gsN))) (dSeq (dIf (dB (dBin sNotN (oX (dMeth "Rooms" "by" T_Rooms_by (dVarR 1) (dCons (dVar 4) (dCons (dVar 6) dNil)))) (oX (dC .non)))) dCont dNext)
    (dSeq (dSet false 7 (dOrX (dMeth "Order" "mark" T_Order_mark (dVarR 0) (dCons (dVar 4) (dCons (dVar 5) dNil))) (dOrX (dMeth "ByLetters" "mark" T_ByLetters_mark (dVarR 0) (dCons (dVar 4) (dCons (dVar 5) dNil))) (dMeth "Newest" "mark" T_Newest_mark (dVarR 0) (dCons (dVar 4) (dCons (dVar 5) dNil))))))
    (dIf (dTOr (dB (dBin sIsN (dVarR 2) (oX (dC .non)))) (dB (dBin sLt (dVarR 7) (dVarR 3)))) (dSeq (dSet false 2 (dTup (dCons (dVar 4) (dCons (dVar 6) dNil))))
    (dSet false 3 (dVar 7))) dNext)))))
    (dRetV 2))))
theorem v_Order_gap (cn : Str) (ds : List D) (w : Om) (P : Bool → D → Om → Prop) (h : (T_Order_gap cn) ds w P) : b_Order_gap { nx := fun _ w => P false .non w, rt := P } (startD ["self", "rooms", "first", "least", "room", "place", "step", "rank"] ds) w := by
  unfold b_Order_gap
  obtain ⟨o, p, r, S, n, rfl, hc, ho, R, G, hn, hl, q⟩ := h
  have hs := sizeLine_eq
  refine seq_n fun N hN => ?_
  try simp_arith []
  refine hN _ _ ?_
  refine seq_n fun N hN => ?_
  try simp_arith []
  refine hN _ _ ?_
  refine seq_cut (fun δ w2 => w2 = w ∧ ∃ j3 j4 j5 j6 j7, δ = [some (false, .ref o), some (false, .ref p), some (false, gapD (bestO cn (gapsL S.kn S.l (stands S.el)))), j3, j4, j5, j6, j7]) (fun N hN => ?_) ?_
  · try simp_arith []
    refine ⟨p, _, rfl, R.ins, rfl, p, r, S, rfl, R, by rw [G.elen]; omega, ?_⟩
    try simp_arith [nL]
    refine for_go (fun n : Nat => D.int n) (fun pre δ w2 => w2 = w ∧ ∃ j4 j5 j6 j7, δ = [some (false, .ref o), some (false, .ref p), some (false, gapD (bestO cn (gapsL S.kn S.l pre))), some (false, rkD cn (bestO cn (gapsL S.kn S.l pre))), j4, j5, j6, j7]) (stands S.el) ⟨rfl, none, none, none, none, rfl⟩ ?_ ?_
    · rintro pre x post δ w2 N2 C2 e ⟨rfl, j4, j5, j6, j7, rfl⟩ hN2 hC2
      have hxs : x ∈ stands S.el := by rw [e]; simp
      have hxl : x < S.kn.length := by
        unfold stands at hxs
        rw [G.klen, ← G.elen]
        exact List.mem_range.mp (List.mem_filter.mp hxs).1
      obtain ⟨km, hkm⟩ : ∃ km, S.kn[x]? = some km := ⟨_, List.getElem?_eq_getElem hxl⟩
      have ekv : ∀ s, kv S.kn x s = fget km s := fun s => by unfold kv; rw [hkm]; rfl
      try simp_arith []
      refine ⟨p, _, .int S.l, rfl, R.ins, rmF_letters .., S.l, rfl, hl, ?_⟩
      try simp_arith [iD]
      rw [show (stepsL S.l).map D.int = ((List.range (2 * S.l)).map stp).map D.int from rfl, enum_at]
      refine for_nat (fun k : Nat => D.tup [.int (k : Int), .int (stp k)]) _ (fun m δ w3 => w3 = w2 ∧ ∃ j5 j6 j7, δ = [some (false, .ref o), some (false, .ref p), some (false, gapD (bestO cn (gapsL S.kn S.l pre ++ gapsR S.kn x m))), some (false, rkD cn (bestO cn (gapsL S.kn S.l pre ++ gapsR S.kn x m))), some (false, .int x), j5, j6, j7]) ⟨rfl, j5, j6, j7, by simp [gapsR]⟩ ?_ ?_
      · rintro k δ w3 N3 C3 hk ⟨rfl, j5, j6, j7, rfl⟩ hN3 hC3
        rw [gapsR_succ, ← List.append_assoc] at hN3 hC3
        generalize gapsL S.kn S.l pre ++ gapsR S.kn x k = gs at hN3 hC3
        try simp_arith []
        refine seq_n fun N4 hN4 => ?_
        try simp_arith []
        refine ⟨p, _, rfl, R.ins, no_by .., p, r, S, x, km, stp k, rfl, R, hkm, ?_⟩
        rw [← ekv]
        cases hkv : kv S.kn x (stp k) with
        | some t =>
          have e0 : gapRow S.kn x k = none := by unfold gapRow; rw [hkv]; rfl
          rw [e0] at hC3
          try simp_arith []
          exact hC3 _ _ ⟨rfl, some (false, .int (k : Int)), some (false, .int (stp k)), j7, by simp⟩
        | none =>
          have e0 : gapRow S.kn x k = some (x, k) := by unfold gapRow; rw [if_pos hkv]
          rw [e0] at hN3
          have e1 : bestO cn (gs ++ (some (x, k)).toList) = pickO cn (bestO cn gs) (x, k) := by rw [bestO_append]; rfl
          rw [e1] at hN3
          try simp_arith []
          refine hN4 _ _ ?_
          refine seq_cut (fun δ w4 => w4 = w3 ∧ δ = [some (false, .ref o), some (false, .ref p), some (false, gapD (bestO cn gs)), some (false, rkD cn (bestO cn gs)), some (false, .int x), some (false, .int k), some (false, .int (stp k)), some (false, .tup ((rkO cn (x, k)).map D.int))]) (fun N5 hN5 => ?_) ?_
          · try simp_arith [dOrX]
            rcases hc with rfl | rfl | rfl
            · exact .inl ⟨o, _, rfl, ho, rfl, o, (x, k), rfl, hN5 _ _ ⟨rfl, rfl⟩⟩
            · exact .inr (.inl ⟨o, _, rfl, ho, rfl, o, (x, k), rfl, hN5 _ _ ⟨rfl, rfl⟩⟩)
            · exact .inr (.inr ⟨o, _, rfl, ho, rfl, o, (x, k), rfl, hN5 _ _ ⟨rfl, rfl⟩⟩)
          rintro δ w4 ⟨rfl, rfl⟩
          cases hb : bestO cn gs with
          | none =>
            rw [hb] at hN3
            try simp_arith [gapD, rkD]
            exact ⟨by first | omega | (simp; omega) | (simp at *; omega), hN3 _ _ ⟨rfl, _, _, _, rfl⟩⟩
          | some y =>
            rw [hb] at hN3
            try simp_arith [gapD, rkD]
            refine ⟨_, _, toInts_map _, toInts_map _, ?_⟩
            unfold pickO at hN3
            dsimp only at hN3
            split
            · next h => rw [if_pos h] at hN3; exact ⟨by first | omega | (simp; omega) | (simp at *; omega), hN3 _ _ ⟨rfl, _, _, _, rfl⟩⟩
            · next h => rw [if_neg h] at hN3; exact hN3 _ _ ⟨rfl, _, _, _, rfl⟩
      · rintro δ w3 ⟨rfl, j5, j6, j7, rfl⟩
        have e0 : gapsL S.kn S.l (pre ++ [x]) = gapsL S.kn S.l pre ++ gapsR S.kn x (2 * S.l) := by simp [gapsL]
        rw [e0] at hN2
        exact hN2 _ _ ⟨rfl, _, _, _, _, rfl⟩
    · rintro δ w2 ⟨rfl, j4, j5, j6, j7, rfl⟩
      exact hN _ _ ⟨rfl, _, _, _, _, _, rfl⟩
  rintro δ w2 ⟨rfl, j3, j4, j5, j6, j7, rfl⟩
  try simp_arith []
  exact q
def T_order_by : DSpX := fun ds w P Px => ∃ x : Str, ds = [.str x] ∧ (x = "rooms" → ∀ a, w a = none → P false (.ref a) (updW w a (.ins "Order" []))) ∧ (x = "letters" → ∀ a, w a = none → P false (.ref a) (updW w a (.ins "ByLetters" []))) ∧ (x = "newest" → ∀ a, w a = none → P false (.ref a) (updW w a (.ins "Newest" []))) ∧ (x ≠ "rooms" → x ≠ "letters" → x ≠ "newest" → Px "NoOrder" [] w)
theorem len_order_by (ds : List D) (w : Om) (P : Bool → D → Om → Prop) (Px : Str → List (Str × D) → Om → Prop) (h : T_order_by ds w P Px) : ds.length = 1 := by first | (have h := h.1; subst h; rfl) | (obtain ⟨rfl, _⟩ := h; rfl) | (obtain ⟨_, rfl, _⟩ := h; rfl) | (obtain ⟨_, _, rfl, _⟩ := h; rfl) | (obtain ⟨_, _, _, rfl, _⟩ := h; rfl) | (obtain ⟨_, _, _, _, rfl, _⟩ := h; rfl) | (obtain ⟨_, _, _, _, _, rfl, _⟩ := h; rfl) | (obtain ⟨_, _, _, _, _, _, rfl, _⟩ := h; rfl) | (obtain ⟨_, _, _, _, _, _, _, rfl, _⟩ := h; rfl) | (obtain ⟨_, _, _, _, _, _, _, _, rfl, _⟩ := h; rfl) | (obtain ⟨_, _, _, _, _, _, _, _, _, rfl, _⟩ := h; rfl) | (obtain ⟨_, _, _, _, _, _, _, _, _, _, rfl, _⟩ := h; rfl) | (obtain ⟨_, _, _, _, _, _, _, _, _, _, _, rfl, _⟩ := h; rfl) | (obtain ⟨_, _, _, _, _, _, _, _, _, _, _, _, rfl, _⟩ := h; rfl) | (obtain ⟨_, _, _, _, _, _, _, _, _, _, _, _, _, rfl, _⟩ := h; rfl)
def b_order_by (x : DXK) : DS := (dSeq (dIf (dB (dBin sEq (dVarR 0) (oX (dC (.str "rooms"))))) (dRet (dNew "Order")) dNext)
    (dSeq (dIf (dB (dBin sEq (dVarR 0) (oX (dC (.str "letters"))))) (dRet (dNew "ByLetters")) dNext)
    (dSeq (dIf (dB (dBin sEq (dVarR 0) (oX (dC (.str "newest"))))) (dRet (dNew "Newest")) dNext)
    (dRaise "NoOrder" x))))
theorem v_order_by (ds : List D) (w : Om) (P : Bool → D → Om → Prop) (Px : Str → List (Str × D) → Om → Prop) (h : T_order_by ds w P Px) : b_order_by (xDef Px) { nx := fun _ w => P false .non w, rt := P } (startD ["name"] ds) w := by
  unfold b_order_by
  obtain ⟨x, rfl, q1, q2, q3, q4⟩ := h
  refine seq_n fun N hN => ?_
  try simp_arith [dNew]
  refine if_join (fun e => q1 (of_decide_eq_true e)) (fun n1 => hN _ _ ?_)
  refine seq_n fun N2 hN2 => ?_
  try simp_arith [dNew]
  refine if_join (fun e => q2 (of_decide_eq_true e)) (fun n2 => hN2 _ _ ?_)
  refine seq_n fun N3 hN3 => ?_
  try simp_arith [dNew]
  refine if_join (fun e => q3 (of_decide_eq_true e)) (fun n3 => hN3 _ _ ?_)
  exact q4 (fun e => n1 (decide_eq_true e)) (fun e => n2 (decide_eq_true e)) (fun e => n3 (decide_eq_true e))

/-! ### numbered by first coming -/
def grow (st : Nat → Nat → Nat) (x : Nat) (c : List Nat) (k : Nat) : List Nat := if st x k ∈ c then c else c ++ [st x k]
def growK (st : Nat → Nat → Nat) (x : Nat) (c : List Nat) (n : Nat) : List Nat := (List.range n).foldl (grow st x) c
def bfN (st : Nat → Nat → Nat) (m : Nat) : Nat → List Nat → List Nat
  | 0, c => c
  | i + 1, c => match (bfN st m i c)[i]? with
    | some x => growK st x (bfN st m i c) m
    | none => bfN st m i c
structure Bfs (st : Nat → Nat → Nat) (m f : Nat) (come : List Nat) : Prop where
  eq : bfN st m come.length [f] = come
theorem growK_succ (st : Nat → Nat → Nat) (x : Nat) (c : List Nat) (n : Nat) : growK st x c (n + 1) = grow st x (growK st x c n) n := by
  unfold growK
  rw [List.range_succ, List.foldl_append]
  rfl
theorem grow_pre (st : Nat → Nat → Nat) (x : Nat) (c : List Nat) (k : Nat) : ∃ t, grow st x c k = c ++ t := by
  unfold grow
  split
  · exact ⟨[], by simp⟩
  · exact ⟨_, rfl⟩
theorem growK_pre (st : Nat → Nat → Nat) (x : Nat) (c : List Nat) : ∀ n, ∃ t, growK st x c n = c ++ t
  | 0 => ⟨[], by simp [growK]⟩
  | n + 1 => by
    obtain ⟨t, ht⟩ := growK_pre st x c n
    obtain ⟨u, hu⟩ := grow_pre st x (growK st x c n) n
    rw [growK_succ, hu, ht]
    exact ⟨t ++ u, by simp⟩
theorem growK_mem (st : Nat → Nat → Nat) (x : Nat) (c : List Nat) : ∀ n k, k < n → st x k ∈ growK st x c n
  | 0, _, h => absurd h (by omega)
  | n + 1, k, h => by
    rw [growK_succ]
    obtain ⟨u, hu⟩ := grow_pre st x (growK st x c n) n
    by_cases e : k = n
    · subst e
      unfold grow
      split
      · assumption
      · simp
    · rw [hu]
      exact List.mem_append_left _ (growK_mem st x c n k (by omega))
theorem grow_nd {st : Nat → Nat → Nat} {x : Nat} {c : List Nat} {k : Nat} (h : c.Nodup) : (grow st x c k).Nodup := by
  unfold grow
  split
  · exact h
  · next hn =>
    refine List.nodup_append.mpr ⟨h, by simp, ?_⟩
    intro a ha b hb
    simp at hb
    subst hb
    exact fun e => hn (e ▸ ha)
theorem growK_nd {st : Nat → Nat → Nat} {x : Nat} {c : List Nat} (h : c.Nodup) : ∀ n, (growK st x c n).Nodup
  | 0 => by simpa [growK] using h
  | n + 1 => by rw [growK_succ]; exact grow_nd (growK_nd h n)
theorem bfN_pre1 (st : Nat → Nat → Nat) (m i : Nat) (c : List Nat) : ∃ t, bfN st m (i + 1) c = bfN st m i c ++ t := by
  rw [bfN]
  split
  · exact growK_pre ..
  · exact ⟨[], by simp⟩
theorem bfN_pre (st : Nat → Nat → Nat) (m i : Nat) (c : List Nat) : ∀ d, ∃ t, bfN st m (i + d) c = bfN st m i c ++ t
  | 0 => ⟨[], by simp⟩
  | d + 1 => by
    obtain ⟨t, ht⟩ := bfN_pre st m i c d
    obtain ⟨u, hu⟩ := bfN_pre1 st m (i + d) c
    exact ⟨t ++ u, by rw [show i + (d + 1) = i + d + 1 by omega, hu, ht]; simp⟩
theorem bfN_nd {st : Nat → Nat → Nat} {m : Nat} {c : List Nat} (h : c.Nodup) : ∀ i, (bfN st m i c).Nodup
  | 0 => h
  | i + 1 => by
    rw [bfN]
    split
    · exact growK_nd (bfN_nd h i) m
    · exact bfN_nd h i
/-- where the list is no longer than the turns it stays -/
theorem bfN_stop {st : Nat → Nat → Nat} {m i : Nat} {c : List Nat} (h : (bfN st m i c).length ≤ i) : ∀ d, bfN st m (i + d) c = bfN st m i c
  | 0 => rfl
  | d + 1 => by
    have ih := bfN_stop h d
    rw [show i + (d + 1) = i + d + 1 by omega, bfN, ih, List.getElem?_eq_none (by omega)]
theorem Bfs.uniq {st : Nat → Nat → Nat} {m f : Nat} {c1 c2 : List Nat} (h1 : Bfs st m f c1) (h2 : Bfs st m f c2) : c1 = c2 := by
  have key : ∀ {a b : List Nat}, Bfs st m f a → Bfs st m f b → a.length ≤ b.length → a = b := fun {a b} ha hb hl => by
    have e := bfN_stop (st := st) (m := m) (i := a.length) (c := [f]) (by rw [ha.eq]; exact Nat.le_refl _) (b.length - a.length)
    rw [show a.length + (b.length - a.length) = b.length by omega, hb.eq, ha.eq] at e
    exact e.symm
  rcases Nat.le_total c1.length c2.length with h | h
  · exact key h1 h2 h
  · exact (key h2 h1 h).symm
theorem Bfs.nd {st : Nat → Nat → Nat} {m f : Nat} {come : List Nat} (h : Bfs st m f come) : come.Nodup := by
  rw [← h.eq]; exact bfN_nd (by simp) _
theorem Bfs.at {st : Nat → Nat → Nat} {m f : Nat} {come : List Nat} (h : Bfs st m f come) {i : Nat} (hi : i < come.length) : (bfN st m i [f])[i]? = come[i]? := by
  obtain ⟨t, ht⟩ := bfN_pre st m i [f] (come.length - i)
  rw [show i + (come.length - i) = come.length by omega, h.eq] at ht
  have hl : i < (bfN st m i [f]).length := by
    refine Classical.byContradiction fun hn => ?_
    have e := bfN_stop (st := st) (m := m) (i := i) (c := [f]) (by omega) (come.length - i)
    rw [show i + (come.length - i) = come.length by omega, h.eq] at e
    rw [← e] at hn
    omega
  rw [ht, List.getElem?_append_left hl]
theorem Bfs.c0 {st : Nat → Nat → Nat} {m f : Nat} {come : List Nat} (h : Bfs st m f come) : come[0]? = some f := by
  obtain ⟨t, ht⟩ := bfN_pre st m 0 [f] come.length
  rw [Nat.zero_add, h.eq] at ht
  rw [ht]
  rfl
theorem Bfs.pos {st : Nat → Nat → Nat} {m f : Nat} {come : List Nat} (h : Bfs st m f come) : 0 < come.length := (List.getElem?_eq_some_iff.mp h.c0).1
theorem Bfs.closed {st : Nat → Nat → Nat} {m f : Nat} {come : List Nat} (h : Bfs st m f come) {x : Nat} (hx : x ∈ come) {k : Nat} (hk : k < m) : st x k ∈ come := by
  obtain ⟨i, hi⟩ := List.getElem?_of_mem hx
  have hil := (List.getElem?_eq_some_iff.mp hi).1
  have e := h.at hil
  obtain ⟨t, ht⟩ := bfN_pre st m (i + 1) [f] (come.length - (i + 1))
  rw [show i + 1 + (come.length - (i + 1)) = come.length by omega, h.eq] at ht
  rw [ht]
  refine List.mem_append_left _ ?_
  rw [bfN, e, hi]
  exact growK_mem st x _ m k hk
/-- each but the first is come to from an earlier one -/
def Rch (st : Nat → Nat → Nat) (m : Nat) (c : List Nat) : Prop := ∀ j, 0 < j → j < c.length → ∃ i x k, i < j ∧ k < m ∧ c[i]? = some x ∧ c[j]? = some (st x k)
theorem grow_rch {st : Nat → Nat → Nat} {m : Nat} {c : List Nat} (h : Rch st m c) {i x : Nat} (hi : c[i]? = some x) {k : Nat} (hk : k < m) : Rch st m (grow st x c k) := by
  unfold grow
  split
  · exact h
  · intro j h0 hj
    simp at hj
    have hil := (List.getElem?_eq_some_iff.mp hi).1
    by_cases hj2 : j < c.length
    · obtain ⟨i', x', k', a, b, e1, e2⟩ := h j h0 hj2
      exact ⟨i', x', k', a, b, by rw [List.getElem?_append_left (by omega)]; exact e1, by rw [List.getElem?_append_left hj2]; exact e2⟩
    · have e : j = c.length := by omega
      subst e
      exact ⟨i, x, k, hil, hk, by rw [List.getElem?_append_left hil]; exact hi, by simp⟩
theorem growK_rch {st : Nat → Nat → Nat} {m : Nat} {c : List Nat} (h : Rch st m c) {i x : Nat} (hi : c[i]? = some x) : ∀ n, n ≤ m → Rch st m (growK st x c n)
  | 0, _ => by simpa [growK] using h
  | n + 1, hn => by
    rw [growK_succ]
    obtain ⟨t, ht⟩ := growK_pre st x c n
    refine grow_rch (growK_rch h hi n (by omega)) (i := i) ?_ (by omega)
    rw [ht, List.getElem?_append_left (List.getElem?_eq_some_iff.mp hi).1]
    exact hi
theorem bfN_rch {st : Nat → Nat → Nat} {m f : Nat} : ∀ i, Rch st m (bfN st m i [f])
  | 0 => fun j h0 hj => by simp [bfN] at hj; omega
  | i + 1 => by
    rw [bfN]
    split
    · next x hx => exact growK_rch (bfN_rch i) hx m (Nat.le_refl _)
    · exact bfN_rch i
theorem Bfs.rch {st : Nat → Nat → Nat} {m f : Nat} {come : List Nat} (h : Bfs st m f come) : Rch st m come := by
  have := bfN_rch (st := st) (m := m) (f := f) come.length
  rw [h.eq] at this
  exact this
theorem growK_all {st : Nat → Nat → Nat} {x : Nat} {Dm : Nat → Prop} {c : List Nat} (hc : ∀ y ∈ c, Dm y) : ∀ n, (∀ k, k < n → Dm (st x k)) → ∀ y ∈ growK st x c n, Dm y
  | 0, _ => hc
  | n + 1, h => by
    rw [growK_succ]
    unfold grow
    split
    · exact growK_all hc n fun k hk => h k (by omega)
    · intro y hy
      rcases List.mem_append.mp hy with hy | hy
      · exact growK_all hc n (fun k hk => h k (by omega)) y hy
      · simp at hy
        subst hy
        exact h n (by omega)
/-- another walk that goes alike -/
theorem growK_map {st st' : Nat → Nat → Nat} {φ : Nat → Nat} {Dm : Nat → Prop} {m : Nat} (inj : ∀ x y, Dm x → Dm y → φ x = φ y → x = y) (cl : ∀ x k, Dm x → k < m → Dm (st x k)) (hφ : ∀ x k, Dm x → k < m → φ (st x k) = st' (φ x) k) {x : Nat} (hx : Dm x) {c : List Nat} (hc : ∀ y ∈ c, Dm y) :
    ∀ n, n ≤ m → growK st' (φ x) (c.map φ) n = (growK st x c n).map φ ∧ ∀ y ∈ growK st x c n, Dm y
  | 0, _ => ⟨rfl, hc⟩
  | n + 1, hn => by
    obtain ⟨i1, i2⟩ := growK_map inj cl hφ hx hc n (by omega)
    rw [growK_succ, growK_succ, i1]
    unfold grow
    have e : (st' (φ x) n ∈ (growK st x c n).map φ) ↔ st x n ∈ growK st x c n := by
      rw [← hφ x n hx (by omega), List.mem_map]
      constructor
      · rintro ⟨y, hy, e⟩
        have := inj _ _ (i2 y hy) (cl x n hx (by omega)) e
        subst this
        exact hy
      · exact fun h => ⟨_, h, rfl⟩
    by_cases h : st x n ∈ growK st x c n
    · rw [if_pos h, if_pos (e.mpr h)]
      exact ⟨rfl, i2⟩
    · rw [if_neg h, if_neg (fun z => h (e.mp z))]
      refine ⟨by rw [List.map_append, ← hφ x n hx (by omega)]; rfl, fun y hy => ?_⟩
      rcases List.mem_append.mp hy with hy | hy
      · exact i2 y hy
      · simp at hy
        subst hy
        exact cl x n hx (by omega)
theorem bfN_map {st st' : Nat → Nat → Nat} {φ : Nat → Nat} {Dm : Nat → Prop} {m f : Nat} (inj : ∀ x y, Dm x → Dm y → φ x = φ y → x = y) (cl : ∀ x k, Dm x → k < m → Dm (st x k)) (hφ : ∀ x k, Dm x → k < m → φ (st x k) = st' (φ x) k) (hf : Dm f) :
    ∀ i, bfN st' m i [φ f] = (bfN st m i [f]).map φ ∧ ∀ y ∈ bfN st m i [f], Dm y
  | 0 => ⟨rfl, fun y hy => by simp [bfN] at hy; subst hy; exact hf⟩
  | i + 1 => by
    obtain ⟨i1, i2⟩ := bfN_map inj cl hφ hf i
    rw [bfN, bfN, i1, List.getElem?_map]
    cases e : (bfN st m i [f])[i]? with
    | none => exact ⟨rfl, i2⟩
    | some x => exact growK_map inj cl hφ (i2 x (List.mem_of_getElem? e)) i2 m (Nat.le_refl _)
theorem Bfs.map {st st' : Nat → Nat → Nat} {φ : Nat → Nat} {Dm : Nat → Prop} {m f : Nat} {come : List Nat} (h : Bfs st m f come) (inj : ∀ x y, Dm x → Dm y → φ x = φ y → x = y) (cl : ∀ x k, Dm x → k < m → Dm (st x k)) (hφ : ∀ x k, Dm x → k < m → φ (st x k) = st' (φ x) k) (hf : Dm f) : Bfs st' m (φ f) (come.map φ) ∧ ∀ y ∈ come, Dm y := by
  obtain ⟨h1, h2⟩ := bfN_map inj cl hφ hf come.length
  rw [h.eq] at h1 h2
  exact ⟨⟨by rw [List.length_map]; exact h1⟩, h2⟩
def tabF (st : Nat → Nat → Nat) (m : Nat) (come : List Nat) : List (List Nat) := come.map fun x => (List.range m).map fun k => come.idxOf (st x k)
theorem idxOf_map {φ : Nat → Nat} {Dm : Nat → Prop} (inj : ∀ x y, Dm x → Dm y → φ x = φ y → x = y) {y : Nat} (hy : Dm y) : ∀ {c : List Nat}, (∀ x ∈ c, Dm x) → (c.map φ).idxOf (φ y) = c.idxOf y
  | [], _ => rfl
  | x :: c, h => by
    rw [List.map_cons, List.idxOf_cons, List.idxOf_cons, idxOf_map inj hy fun z hz => h z (List.mem_cons_of_mem _ hz)]
    by_cases e : x = y
    · have e1 : (x == y) = true := by rw [e]; exact beq_self_eq_true _
      have e2 : (φ x == φ y) = true := by rw [e]; exact beq_self_eq_true _
      rw [e1, e2] <;> rfl
    · have e2 : φ x ≠ φ y := fun z => e (inj _ _ (h x List.mem_cons_self) hy z)
      have e1 : (x == y) = false := beq_eq_false_iff_ne.mpr e
      have e3 : (φ x == φ y) = false := beq_eq_false_iff_ne.mpr e2
      rw [e1, e3]
theorem tabF_map {st st' : Nat → Nat → Nat} {φ : Nat → Nat} {Dm : Nat → Prop} {m : Nat} {come : List Nat} (inj : ∀ x y, Dm x → Dm y → φ x = φ y → x = y) (cl : ∀ x k, Dm x → k < m → Dm (st x k)) (hφ : ∀ x k, Dm x → k < m → φ (st x k) = st' (φ x) k) (hc : ∀ y ∈ come, Dm y) : tabF st' m (come.map φ) = tabF st m come := by
  unfold tabF
  rw [List.map_map]
  refine List.map_congr_left fun x hx => ?_
  refine List.map_congr_left fun k hk => ?_
  have hk := List.mem_range.mp hk
  rw [← hφ x k (hc x hx) hk]
  exact idxOf_map inj (cl x k (hc x hx) hk) hc
theorem tabF_len (st : Nat → Nat → Nat) (m : Nat) (come : List Nat) : (tabF st m come).length = come.length := by simp [tabF]
theorem tabF_row {st : Nat → Nat → Nat} {m : Nat} {come : List Nat} {i x : Nat} (h : come[i]? = some x) : (tabF st m come)[i]? = some ((List.range m).map fun k => come.idxOf (st x k)) := by
  unfold tabF
  rw [List.getElem?_map, h]
  rfl
theorem idxOf_at {c : List Nat} {y : Nat} (h : y ∈ c) : c[c.idxOf y]? = some y ∧ c.idxOf y < c.length := by
  have hl := List.idxOf_lt_length_iff.mpr h
  exact ⟨by rw [List.getElem?_eq_getElem hl, List.getElem_idxOf], hl⟩
theorem idxOf_nd {c : List Nat} (nd : c.Nodup) {i y : Nat} (h : c[i]? = some y) : c.idxOf y = i := by
  obtain ⟨hi, e⟩ := List.getElem?_eq_some_iff.mp h
  have h2 := idxOf_at (List.mem_of_getElem? h)
  have h3 := (List.getElem?_eq_some_iff.mp h2.1).2
  exact (List.getElem_inj nd).mp (h3.trans e.symm)

def stK (kn : List Kn) (x k : Nat) : Nat := (kv kn x (stp k)).getD 0
def numK (come : List Nat) : List (Key × D) := come.zipIdx.map fun q => (Sum.inl (q.1 : Int), .int (q.2 : Nat))
theorem numK_snoc (come : List Nat) (x : Nat) : numK (come ++ [x]) = numK come ++ [(Sum.inl (x : Int), .int (come.length : Nat))] := by
  unfold numK
  rw [List.zipIdx_append, List.map_append]
  simp
theorem numK_len (come : List Nat) : (numK come).length = come.length := by simp [numK]
theorem numK_val (x : Nat) : ∀ (come : List Nat) (k : Nat), valD (((come.zipIdx k).map fun q => ((Sum.inl (q.1 : Int) : Key), D.int (q.2 : Nat)))) (.inl (x : Int)) = if x ∈ come then some (.int ((come.idxOf x + k : Nat) : Int)) else none
  | [], k => by simp [valD]
  | y :: come, k => by
    have ih := numK_val x come (k + 1)
    unfold valD at ih ⊢
    rw [List.zipIdx_cons, List.map_cons, List.find?_cons]
    by_cases e : y = x
    · subst e
      simp
    · have e1 : decide ((Sum.inl (y : Int) : Key) = Sum.inl (x : Int)) = false := decide_eq_false fun z => e (by have := Sum.inl.inj z; omega)
      simp only [e1]
      rw [ih]
      have e2 : (x ∈ y :: come) ↔ x ∈ come := by simp [Ne.symm e]
      by_cases hm : x ∈ come
      · rw [if_pos hm, if_pos (e2.mpr hm), List.idxOf_cons]
        have : (y == x) = false := by simpa using e
        simp [this]
        omega
      · rw [if_neg hm, if_neg (fun z => hm (e2.mp z))]
theorem numK_at (come : List Nat) (x : Nat) : valD (numK come) (.inl (x : Int)) = if x ∈ come then some (.int (come.idxOf x : Nat)) else none := by
  have := numK_val x come 0
  rw [Nat.add_zero] at this
  exact this
theorem numK_put {come : List Nat} {x : Nat} (h : x ∉ come) : putD (numK come) (.inl (x : Int)) (.int (come.length : Nat)) = numK (come ++ [x]) := by
  rw [numK_snoc]
  unfold putD
  rw [if_neg]
  intro z
  obtain ⟨q, hq, e⟩ := List.any_eq_true.mp z
  unfold numK at hq
  obtain ⟨p, hp, rfl⟩ := List.mem_map.mp hq
  have e1 := of_decide_eq_true e
  have e2 := Sum.inl.inj e1
  have : p.1 = x := by omega
  subst this
  exact h (List.fst_mem_of_mem_zipIdx hp)
def tabD (t : List (List Nat)) : D := .lst (t.map nL)
def T_numbered : DSp := fun ds w P => ∃ (p : Addr) (r : RP) (S : RS) (n : Nat), ds = [.ref p] ∧ Rm w p r S ∧ Gd n S.l S.el S.kn ∧ 1 ≤ n ∧ n ≤ 10000 ∧ S.l ≤ 500 ∧ (∀ x, S.el[x]? = some x → ∀ k, k < 2 * S.l → ∃ t, kv S.kn x (stp k) = some t) ∧ ∀ come : List Nat, Bfs (stK S.kn) (2 * S.l) 0 come → (∀ x ∈ come, S.el[x]? = some x) → P true (tabD (tabF (stK S.kn) (2 * S.l) come)) w
theorem len_numbered (ds : List D) (w : Om) (P : Bool → D → Om → Prop) (h : T_numbered ds w P) : ds.length = 1 := by first | (have h := h.1; subst h; rfl) | (obtain ⟨rfl, _⟩ := h; rfl) | (obtain ⟨_, rfl, _⟩ := h; rfl) | (obtain ⟨_, _, rfl, _⟩ := h; rfl) | (obtain ⟨_, _, _, rfl, _⟩ := h; rfl) | (obtain ⟨_, _, _, _, rfl, _⟩ := h; rfl) | (obtain ⟨_, _, _, _, _, rfl, _⟩ := h; rfl) | (obtain ⟨_, _, _, _, _, _, rfl, _⟩ := h; rfl) | (obtain ⟨_, _, _, _, _, _, _, rfl, _⟩ := h; rfl) | (obtain ⟨_, _, _, _, _, _, _, _, rfl, _⟩ := h; rfl) | (obtain ⟨_, _, _, _, _, _, _, _, _, rfl, _⟩ := h; rfl) | (obtain ⟨_, _, _, _, _, _, _, _, _, _, rfl, _⟩ := h; rfl) | (obtain ⟨_, _, _, _, _, _, _, _, _, _, _, rfl, _⟩ := h; rfl) | (obtain ⟨_, _, _, _, _, _, _, _, _, _, _, _, rfl, _⟩ := h; rfl) | (obtain ⟨_, _, _, _, _, _, _, _, _, _, _, _, _, rfl, _⟩ := h; rfl)
def b_numbered : DS := (dSeq (dSet false 1 (dCall T_steps_of (dCons (dFld "Rooms" "letters" (dVarR 0)) dNil)))
    (dSeq (dSet true 2 (dDisp1 (oX (dC (.int 0))) (dC (.int 0))))
    (dSeq (dSet true 3 (dLst (dCons (dC (.int 0)) dNil)))
    (dSeq (dSet false 4 (dC (.int 0)))
    (dSeq (dWhile (dB (dBin sLt (dVarR 4) (oX (dUn sLenA (dVarR 3))))) (dSeq (dFor (dIt (dVar 1)) (gN 5) (dSeq (dSet false 6 (dMeth "Rooms" "by" T_Rooms_by (dVarR 0) (dCons (dBin sIx (dVarR 3) (dVarR 4)) (dCons (dVar 5) dNil))))
    (dIf (dB (dBin (sIn true) (dVarR 6) (dVarR 2))) (dSeq (dPut 2 (dVarR 6) (dUn sLenA (dVarR 3)))
    (dApp 3 (dVar 6))) dNext)))
    (dAug 4 sAddI (oX (dC (.int 1))))))
    (dSeq (dSet true 7 (dLst dNil))
    (dSeq (dFrz 3 (dFor (dIt (dVar 3)) (gN 8) (dApp 7 (dLc (dIt (dVar 1)) (gN 5) dYes (dBin sIx (dVarR 2) (oX (dMeth "Rooms" "by" T_Rooms_by (dVarR 0) (dCons (dVar 8) (dCons (dVar 5) dNil))))) [5]))))
    (dRetV 7))))))))
theorem v_numbered (ds : List D) (w : Om) (P : Bool → D → Om → Prop) (h : T_numbered ds w P) : b_numbered { nx := fun _ w => P false .non w, rt := P } (startD ["rooms", "steps", "numbers", "come", "at", "step", "other", "table", "room"] ds) w := by
  unfold b_numbered
  obtain ⟨p, r, S, n, rfl, R, G, hn1, hn, hl, hc, q⟩ := h
  have hs := sizeLine_eq
  have h00 : S.el[0]? = some 0 := by
    have h0 := List.getElem?_eq_getElem (show 0 < S.el.length by rw [G.elen]; omega)
    have := G.ok.le 0 _ h0
    rw [h0]
    congr 1
    omega
  refine seq_n fun N hN => ?_
  try simp_arith []
  refine ⟨p, _, .int S.l, rfl, R.ins, rmF_letters .., S.l, rfl, hl, hN _ _ ?_⟩
  refine seq_n fun N hN => ?_
  try simp_arith []
  refine hN _ _ ?_
  refine seq_n fun N hN => ?_
  try simp_arith []
  refine ⟨by first | omega | (simp; omega) | (simp at *; omega), hN _ _ ?_⟩
  refine seq_n fun N hN => ?_
  try simp_arith []
  refine hN _ _ ?_
  have hstn : ∀ {x : Nat}, S.el[x]? = some x → x < n := fun {x} hx => by rw [← G.elen]; exact stand_lt hx
  have step : ∀ {x k : Nat}, S.el[x]? = some x → k < 2 * S.l → kv S.kn x (stp k) = some (stK S.kn x k) ∧ S.el[stK S.kn x k]? = some (stK S.kn x k) := fun {x k} hx hk => by
    obtain ⟨t, ht⟩ := hc x hx k hk
    have e : stK S.kn x k = t := by unfold stK; rw [ht]; rfl
    rw [e]
    exact ⟨ht, (G.ends x _ t ht).2⟩
  refine seq_cut (fun δ w2 => w2 = w ∧ ∃ come j4 j5 j6 j7 j8, Bfs (stK S.kn) (2 * S.l) 0 come ∧ (∀ x ∈ come, S.el[x]? = some x) ∧ δ = [some (false, .ref p), some (false, iD (stepsL S.l)), some (true, .dK (numK come)), some (true, nL come), j4, j5, j6, j7, j8]) (fun N hN => ?_) ?_
  · refine while_go (α := Nat) (fun i δ w2 => w2 = w ∧ ∃ come j5 j6 j7 j8, come = bfN (stK S.kn) (2 * S.l) i [0] ∧ i ≤ come.length ∧ (∀ x ∈ come, S.el[x]? = some x) ∧ δ = [some (false, .ref p), some (false, iD (stepsL S.l)), some (true, .dK (numK come)), some (true, nL come), some (false, .int i), j5, j6, j7, j8]) (fun i => n - i) ?_ 0 ⟨rfl, [0], none, none, none, none, rfl, by simp, fun x hx => by simp at hx; subst hx; exact h00, rfl⟩
    rintro i δ w2 ⟨rfl, come, j5, j6, j7, j8, hcome, hil, hst, rfl⟩ N2 hN2
    have hnd : come.Nodup := by rw [hcome]; exact bfN_nd (by simp) _
    have hcl : come.length ≤ n := by
      have := nodup_len2 (m := List.range n) hnd fun x hx => List.mem_range.mpr (hstn (hst x hx))
      simpa using this
    try simp_arith [nL]
    refine if_join (fun hlt => ?_) (fun hge => ?_)
    · have hlt : i < come.length := by
        have := of_decide_eq_true hlt
        omega
      obtain ⟨x, hx⟩ : ∃ x, come[i]? = some x := ⟨_, List.getElem?_eq_getElem hlt⟩
      have hxs := hst x (List.mem_of_getElem? hx)
      obtain ⟨km, hkm⟩ : ∃ km, S.kn[x]? = some km := ⟨_, List.getElem?_eq_getElem (by rw [G.klen]; exact hstn hxs)⟩
      have ekv : ∀ s, kv S.kn x s = fget km s := fun s => by unfold kv; rw [hkm]; rfl
      refine seq_cut (fun δ w3 => w3 = w2 ∧ ∃ j5 j6, δ = [some (false, .ref p), some (false, iD (stepsL S.l)), some (true, .dK (numK (growK (stK S.kn) x come (2 * S.l)))), some (true, nL (growK (stK S.kn) x come (2 * S.l))), some (false, .int i), j5, j6, j7, j8]) (fun N3 hN3 => ?_) ?_
      · try simp_arith [iD]
        rw [show (stepsL S.l).map D.int = (List.range (2 * S.l)).map (fun k => D.int (stp k)) by unfold stepsL; rw [List.map_map]; rfl]
        refine for_nat (fun k : Nat => D.int (stp k)) _ (fun k δ w3 => w3 = w2 ∧ ∃ j5 j6, δ = [some (false, .ref p), some (false, iD (stepsL S.l)), some (true, .dK (numK (growK (stK S.kn) x come k))), some (true, nL (growK (stK S.kn) x come k)), some (false, .int i), j5, j6, j7, j8]) ⟨rfl, j5, j6, by unfold iD stepsL; rw [List.map_map]; rfl⟩ ?_ ?_
        · rintro k δ w3 N4 C4 hk ⟨rfl, j5, j6, rfl⟩ hN4 hC4
          obtain ⟨t, ht⟩ := growK_pre (stK S.kn) x come k
          have hx2 : (growK (stK S.kn) x come k)[i]? = some x := by rw [ht, List.getElem?_append_left hlt]; exact hx
          have hnd2 := growK_nd (st := stK S.kn) (x := x) hnd k
          have hcst := growK_all (st := stK S.kn) (x := x) (Dm := fun y => S.el[y]? = some y) hst k fun k' hk' => (step hxs (by omega)).2
          rw [growK_succ] at hN4
          generalize growK (stK S.kn) x come k = c at hN4 hx2 hnd2 hcst
          obtain ⟨e1, e2⟩ := step hxs hk
          refine seq_n fun N5 hN5 => ?_
          try simp_arith [nL]
          refine ⟨p, _, rfl, R.ins, no_by .., .int x, atI_f (fun n : Nat => D.int n) (by omega) (by rw [Int.toNat_natCast]; exact hx2), p, r, S, x, km, stp k, rfl, R, hkm, ?_⟩
          rw [← ekv, e1]
          try simp_arith []
          refine hN5 _ _ ?_
          try simp_arith [nL, numK_at]
          unfold grow at hN4
          by_cases hm : stK S.kn x k ∈ c
          · rw [if_pos hm] at hN4 ⊢
            try simp_arith []
            exact hN4 _ _ ⟨rfl, _, _, rfl⟩
          · rw [if_neg hm] at hN4 ⊢
            refine if_t rfl ?_
            refine seq_n fun N6 hN6 => ?_
            try simp_arith []
            have hcl2 : c.length ≤ n := by
              have := nodup_len2 (m := List.range n) hnd2 fun y hy => List.mem_range.mpr (hstn (hcst y hy))
              simpa using this
            refine ⟨by rw [numK_len]; omega, ?_⟩
            rw [numK_put hm]
            refine hN6 _ _ ?_
            try simp_arith []
            exact ⟨by omega, hN4 _ _ ⟨rfl, _, _, by simp [nL]; exact ⟨rfl, rfl⟩⟩⟩
        · rintro δ w3 ⟨rfl, j5, j6, rfl⟩
          exact hN3 _ _ ⟨rfl, j5, j6, rfl⟩
      rintro δ w3 ⟨rfl, j5, j6, rfl⟩
      try simp_arith []
      obtain ⟨t, ht⟩ := growK_pre (stK S.kn) x come (2 * S.l)
      refine hN2 (i + 1) _ _ ⟨rfl, _, _, _, _, _, ?_, by rw [ht]; simp; omega, growK_all hst _ fun k hk => (step hxs hk).2, rfl⟩ (by omega)
      rw [bfN, ← hcome, hx]
    · have hge : come.length ≤ i := by
        have := of_decide_eq_false (Bool.eq_false_iff.mpr hge)
        omega
      refine hN _ _ ⟨rfl, come, _, _, _, _, _, ⟨?_⟩, hst, rfl⟩
      rw [show come.length = i by omega]
      exact hcome.symm
  rintro δ w2 ⟨rfl, come, j4, j5, j6, j7, j8, B, hst, rfl⟩
  refine seq_n fun N hN => ?_
  try simp_arith []
  refine hN _ _ ?_
  have hcl : come.length ≤ n := by
    have := nodup_len2 (m := List.range n) B.nd fun x hx => List.mem_range.mpr (hstn (hst x hx))
    simpa using this
  refine seq_cut (fun δ w3 => w3 = w2 ∧ ∃ j3 j5 j8, δ = [some (false, .ref p), some (false, iD (stepsL S.l)), some (true, .dK (numK come)), j3, j4, j5, j6, some (true, tabD (tabF (stK S.kn) (2 * S.l) come)), j8]) (fun N hN => ?_) ?_
  · try simp_arith [nL]
    refine for_go (fun n : Nat => D.int n) (fun pre δ w3 => w3 = w2 ∧ ∃ j3 j5 j8, δ = [some (false, .ref p), some (false, iD (stepsL S.l)), some (true, .dK (numK come)), j3, j4, j5, j6, some (true, .lst (pre.map fun x => nL ((List.range (2 * S.l)).map fun k => come.idxOf (stK S.kn x k)))), j8]) come ⟨rfl, _, _, _, rfl⟩ ?_ ?_
    · rintro pre x post δ w3 N2 C2 e ⟨rfl, j3, j5, j8, rfl⟩ hN2 hC2
      have hxm : x ∈ come := by rw [e]; simp
      have hxs := hst x hxm
      have hpl : pre.length < come.length := by rw [e]; simp
      obtain ⟨km, hkm⟩ : ∃ km, S.kn[x]? = some km := ⟨_, List.getElem?_eq_getElem (by rw [G.klen]; exact hstn hxs)⟩
      have ekv : ∀ s, kv S.kn x s = fget km s := fun s => by unfold kv; rw [hkm]; rfl
      try simp_arith [iD]
      refine lc_map D.int (fun s : Int => D.int ((come.idxOf ((kv S.kn x s).getD 0) : Nat) : Int)) (stepsL S.l) (fun s hsm P2 hP2 => ?_) [] (by rw [stepsL_len]; simp; omega) ?_
      · unfold stepsL at hsm
        obtain ⟨k, hk, rfl⟩ := List.mem_map.mp hsm
        have hk := List.mem_range.mp hk
        obtain ⟨e1, e2⟩ := step hxs hk
        have hm : stK S.kn x k ∈ come := B.closed hxm hk
        try simp_arith []
        refine ⟨p, _, rfl, R.ins, no_by .., p, r, S, x, km, stp k, rfl, R, hkm, ?_⟩
        rw [← ekv, e1]
        try simp_arith []
        refine ⟨.int (come.idxOf (stK S.kn x k) : Nat), by rw [numK_at, if_pos hm], ?_⟩
        exact hP2 _
      · have e9 : (stepsL S.l).map (fun s : Int => D.int ((come.idxOf ((kv S.kn x s).getD 0) : Nat) : Int)) = ((List.range (2 * S.l)).map fun k => come.idxOf (stK S.kn x k)).map fun n : Nat => D.int n := by
          unfold stepsL
          rw [List.map_map, List.map_map]
          rfl
        rw [e9]
        exact ⟨by omega, hN2 _ _ ⟨rfl, _, _, _, by simp [nL]; repeat' (first | rfl | refine And.intro ?_ ?_)⟩⟩
    · rintro δ w3 ⟨rfl, j3, j5, j8, rfl⟩
      exact hN _ _ ⟨rfl, _, _, _, by unfold tabD tabF; rw [List.map_map]; rfl⟩
  rintro δ w3 ⟨rfl, j3, j5, j8, rfl⟩
  try simp_arith []
  exact q come B hst

def T_Lcell_at : DSp := fun ds w P => ∃ (ns : List Int) (k : Int), ds = [.scr ns, .int k] ∧ 0 ≤ k ∧ k ≤ 1000 ∧ ∀ x : Int, P false (.int x) w
theorem len_Lcell_at (ds : List D) (w : Om) (P : Bool → D → Om → Prop) (h : T_Lcell_at ds w P) : ds.length = 2 := by first | (have h := h.1; subst h; rfl) | (obtain ⟨rfl, _⟩ := h; rfl) | (obtain ⟨_, rfl, _⟩ := h; rfl) | (obtain ⟨_, _, rfl, _⟩ := h; rfl) | (obtain ⟨_, _, _, rfl, _⟩ := h; rfl) | (obtain ⟨_, _, _, _, rfl, _⟩ := h; rfl) | (obtain ⟨_, _, _, _, _, rfl, _⟩ := h; rfl) | (obtain ⟨_, _, _, _, _, _, rfl, _⟩ := h; rfl) | (obtain ⟨_, _, _, _, _, _, _, rfl, _⟩ := h; rfl) | (obtain ⟨_, _, _, _, _, _, _, _, rfl, _⟩ := h; rfl) | (obtain ⟨_, _, _, _, _, _, _, _, _, rfl, _⟩ := h; rfl) | (obtain ⟨_, _, _, _, _, _, _, _, _, _, rfl, _⟩ := h; rfl) | (obtain ⟨_, _, _, _, _, _, _, _, _, _, _, rfl, _⟩ := h; rfl) | (obtain ⟨_, _, _, _, _, _, _, _, _, _, _, _, rfl, _⟩ := h; rfl) | (obtain ⟨_, _, _, _, _, _, _, _, _, _, _, _, _, rfl, _⟩ := h; rfl)
def b_Lcell_at : DS := (dSeq (dIf (dB (dBin sLt (dVarR 1) (oX (dUn sLenA (dVarR 0))))) (dRet (dBin sIx (dVarR 0) (dVarR 1))) dNext)
    (dRet (dC (.int 0))))
theorem v_Lcell_at (ds : List D) (w : Om) (P : Bool → D → Om → Prop) (h : T_Lcell_at ds w P) : b_Lcell_at { nx := fun _ w => P false .non w, rt := P } (startD ["_law_script", "_law_k"] ds) w := by
  unfold b_Lcell_at
  obtain ⟨ns, k, rfl, h0, h1, q⟩ := h
  refine seq_i ?_
  try simp_arith only []
  split
  · next hk =>
    simp at hk
    exact ⟨ns[k.toNat], by rw [atI_nn h0 hk]; simp, q _⟩
  · try simp_arith []
    exact q _
def T_Lwhole : DSp := fun ds w P => ∃ i : Int, ds = [.int i] ∧ P false (.bl true) w
theorem len_Lwhole (ds : List D) (w : Om) (P : Bool → D → Om → Prop) (h : T_Lwhole ds w P) : ds.length = 1 := by first | (have h := h.1; subst h; rfl) | (obtain ⟨rfl, _⟩ := h; rfl) | (obtain ⟨_, rfl, _⟩ := h; rfl) | (obtain ⟨_, _, rfl, _⟩ := h; rfl) | (obtain ⟨_, _, _, rfl, _⟩ := h; rfl) | (obtain ⟨_, _, _, _, rfl, _⟩ := h; rfl) | (obtain ⟨_, _, _, _, _, rfl, _⟩ := h; rfl) | (obtain ⟨_, _, _, _, _, _, rfl, _⟩ := h; rfl) | (obtain ⟨_, _, _, _, _, _, _, rfl, _⟩ := h; rfl) | (obtain ⟨_, _, _, _, _, _, _, _, rfl, _⟩ := h; rfl) | (obtain ⟨_, _, _, _, _, _, _, _, _, rfl, _⟩ := h; rfl) | (obtain ⟨_, _, _, _, _, _, _, _, _, _, rfl, _⟩ := h; rfl) | (obtain ⟨_, _, _, _, _, _, _, _, _, _, _, rfl, _⟩ := h; rfl) | (obtain ⟨_, _, _, _, _, _, _, _, _, _, _, _, rfl, _⟩ := h; rfl) | (obtain ⟨_, _, _, _, _, _, _, _, _, _, _, _, _, rfl, _⟩ := h; rfl)
def b_Lwhole : DS := (dRet (dAndV (dBin sIsi (dVarR 0) (oX (dC (.ty "int")))) (dNotV (dBin sIsi (dVarR 0) (oX (dC (.ty "bool")))))))
theorem v_Lwhole (ds : List D) (w : Om) (P : Bool → D → Om → Prop) (h : T_Lwhole ds w P) : b_Lwhole { nx := fun _ w => P false .non w, rt := P } (startD ["_law_found"] ds) w := by
  unfold b_Lwhole
  obtain ⟨i, rfl, q⟩ := h
  simp only [dNext, dSet, dLst, dTup, dNil, dCons, dFor, dRng1_u, dRng2_u, dIt_u, oX, dC, dBin, dUn, dVarR, dVar, dApp, dExt, dUpd0, dPut, dAug, dRet, dRetV, dRetN, dBreak, dCont, dIf, dB_u, dTru_u, dTNot, dTAnd, dTOr, dAndV_u, dOrV_u, dNotV_u, dIfX, dChain_u, dCall, dSl, dNoP, dP_u, dLc, dDrop, dFrz, frzD, dAsg, dDicK, dDicT, gN, gT, gsC, gsN, kB.eq_1, kT.eq_1, kT.eq_2, kT.eq_3, kT.eq_4, kT.eq_5, kT.eq_6, kT.eq_7, kT.eq_8, kAnd.eq_1, kOr.eq_1, kNot.eq_1, kIt.eq_1, kIt.eq_2, kIt.eq_3, kIt.eq_4, kP.eq_1, kR1.eq_1, kR2.eq_1, sAdd.eq_1, sAdd.eq_2, sAdd.eq_3, sAdd.eq_4, sJ2.eq_1, sI2.eq_1, sPow, sLt.eq_1, sLt.eq_2, sLe, sGt, sGe, sMul.eq_1, sMul.eq_2, sMulB.eq_1, sMulB.eq_2, sMulB.eq_3, sLR1.eq_1, sLR2.eq_1, sTR1.eq_1, sTR2.eq_1, sIsBl.eq_1, dZip, kZip.eq_1, dDisp1, dSetN, dConsN, dAppN, dPutN, dFld, dFldS, dFldAug, dMeth, dMake, dGet1, dGet2, dSetd, dInsert, dDPop, dLPop, dLPopAt, dLClear, dLClearT, dEnum, kEnum.eq_1, dEnumT, kEnumT.eq_1, kEnumT.eq_2, dRng3, kR3.eq_1, dForN, dForKeys, dForItems, dForItemsT, dLock, lkE, dBack, kNm_f, kNm_t, nmK_f, nmK_lst, nmK_dK, nmK_dT, isDct_dK, isDct_dT, isDct_fK, isDct_fT, sGetO_K, sGetO_S, sGetO_T, sGetO_fK, sGetO_fT, sIn_K, sIn_fK, sIn_T, sIn_fT, sPutC_lst, sPutC_K, sPutC_S, sPutC_T, keyOf_int, keyOf_str, keysC.eq_1, keysC.eq_2, itemsC.eq_1, rs_ref, rs_non, rs_bl, rs_int, rs_str, rs_ty, rs_lst, rs_tup, rs_dK, rs_dT, rs_scr, rs_wD, rs_iD, rs_lwD, resC_lst, resC_dK, resC_dT, resC_fK, resC_fT, resC_ins, updW_same, putFD.eq_1, putFD.eq_2, isL.eq_1, isL.eq_2, sNeg.eq_1, sLen.eq_1, sLen.eq_2, sLen.eq_3, sLen.eq_4, sLen.eq_5, sLenA_lst, sLenA_tup, sLenA_scr, sLenA_str, sLenA_dK, sLenA_dT, sAbs.eq_1, sMax, sMin, sInt.eq_1, sInt.eq_2, sStr.eq_1, sList.eq_1, sList.eq_2, sList.eq_3, sListD_dT, sTuple.eq_1, sTuple.eq_2, sTuple.eq_3, sIsN, sNotN, sIx.eq_1, sIx.eq_2, sIx.eq_3, sIx.eq_4, sIx.eq_5, sIx.eq_6, sIx.eq_7, sIx.eq_8, sIx.eq_9, sSl.eq_1, sSl.eq_2, sSl.eq_3, sSl.eq_4, sRev.eq_1, sRev.eq_2, sRev.eq_3, sAddI.eq_1, sAddI.eq_2, sPut.eq_1, sPut.eq_2, sPut.eq_3, sPut.eq_4, D.isNon, sEq_ii, sNe_ii, sEq_ww, sNe_ww, sEq_ll, sNe_ll, sIsi_ii, sIsi_ib, sIsi_ll, sIsi_tt, sIsi_ss, sEq_w, sEq_i, sEq_lw, sEq_lw', sEq_lle, sEq_lle', sNe_w, sNe_i, sNe_lle', sNe_lw', sEq_ss, sNe_ss, sEq_bb, sNe_bb, sIn_iw, sIn_ii, sIn_wl, sIn_wl', sSl3.eq_1, sSl3.eq_2, dSl3, dSlB, sSlB.eq_1, isS.eq_1, isL.eq_1, isL.eq_2, isA.eq_1, dM0, dM1, sUpper.eq_1, sLower.eq_1, sStrip1.eq_1, sSfind.eq_1, sScount.eq_1, sSindex.eq_1, sSsplit.eq_1, sSjoin.eq_1, sSjoin.eq_2, fPop_snoc, fPop_snoc', startD, wipeD, List.map_cons, List.map_nil, List.length_cons, List.length_nil, List.length_map, List.cons_append, List.nil_append, List.replicate, List.set_cons_zero, List.set_cons_succ, List.set_nil, List.getElem?_cons_zero, List.getElem?_cons_succ, Bool.true_and, Bool.and_true, Bool.and_false, Bool.false_and, Bool.not_true, Bool.not_false, if_true, if_false, Bool.false_eq_true, reduceIte, and_true, true_and, decide_true, decide_false, not_true, Option.map_none, Option.map_some, Option.getD_none, Option.getD_some, Option.isSome_none, Option.isSome_some, Nat.zero_le, Nat.zero_add, Nat.reduceAdd, Nat.reduceSub, D.scal]
  exact q


theorem ixN_nat {n i : Nat} (h : i < n) : ixN n (i : Int) = some i := by
  unfold ixN
  rw [if_pos (by omega), if_pos (by omega), Int.toNat_natCast]
/-! ### points turned (needs backOf, lib_perm, lib_rot, lib_gt, lib_least's order of words) -/
def mir (p c : Nat) : List Nat := (List.range p).map fun i => (c + p - i) % p
theorem mir_len (p c : Nat) : (mir p c).length = p := by simp [mir]
theorem ap_mir {p c x : Nat} (hx : x < p) : ap (mir p c) x = (c + p - x) % p := by
  unfold ap mir
  rw [List.getElem?_map, List.getElem?_range hx]
  rfl
theorem mir_pm {p c : Nat} (hc : c < p) : Pm p (mir p c) := pm_of (mir_len p c) (fun x hx => by rw [ap_mir hx]; exact Nat.mod_lt _ (by omega)) fun x y hx hy e => by
  rw [ap_mir hx, ap_mir hy] at e
  rcases mod_cases (a := c + p - x) (p := p) (by omega) with ⟨a, b⟩ | ⟨a, b⟩ <;> rcases mod_cases (a := c + p - y) (p := p) (by omega) with ⟨a', b'⟩ | ⟨a', b'⟩ <;> omega
theorem mir_D (p c : Nat) : (List.range p).map (fun k : Nat => D.int (((c : Int) - (0 + (k : Nat))) % (p : Int))) = (mir p c).map fun n : Nat => D.int n := by
  unfold mir
  rw [List.map_map]
  refine List.map_congr_left fun k hk => ?_
  have hk := List.mem_range.mp hk
  show D.int _ = D.int _
  congr 1
  rw [Int.natCast_emod, show ((c + p - k : Nat) : Int) = ((c : Int) - (0 + (k : Nat))) + p by omega, Int.add_emod_right]
theorem rot_D (p c : Nat) : (List.range p).map (fun k : Nat => D.int (((c : Int) + (0 + (k : Nat))) % (p : Int))) = (rot p c).map fun n : Nat => D.int n := by
  unfold rot
  rw [List.map_map]
  refine List.map_congr_left fun k hk => ?_
  show D.int _ = D.int _
  congr 1
  rw [Int.natCast_emod, show ((k + c : Nat) : Int) = ((c : Int) + (0 + (k : Nat))) by omega]
def mv (ts : List (List Nat)) (x : Nat) (ws : List Int) : Nat := ws.foldl (fun x s => ap (tn ts s) x) x
theorem mv_snoc (ts : List (List Nat)) (x : Nat) (ws : List Int) (s : Int) : mv ts x (ws ++ [s]) = ap (tn ts s) (mv ts x ws) := by simp [mv]
theorem mv_app (ts : List (List Nat)) (x : Nat) (ws us : List Int) : mv ts x (ws ++ us) = mv ts (mv ts x ws) us := by simp [mv]
theorem mv_lt {p : Nat} {ts : List (List Nat)} (tns : Tns p ts) : ∀ {ws : List Int} {x : Nat}, x < p → StT ts.length ws → mv ts x ws < p
  | [], _, h, _ => h
  | s :: ws, _, h, hw => mv_lt tns (ws := ws) (ap_lt (tn_pm tns (hw s List.mem_cons_self)) h) fun y hy => hw y (List.mem_cons_of_mem _ hy)
theorem tn_pos (ts : List (List Nat)) {s : Int} (h : 0 < s) : tn ts s = (ts[s.natAbs - 1]?).getD [] := by unfold tn; rw [if_neg (by omega)]
theorem tn_neg' (ts : List (List Nat)) {s : Int} (h : s < 0) : tn ts s = invP ((ts[s.natAbs - 1]?).getD []) := by unfold tn; rw [if_pos h]

/-! ### how often a word brings points back -/
theorem sNe_nL (a b : List Nat) (P : Bool → D → Prop) : sNe (.lst (a.map fun n : Nat => D.int n)) (.lst (b.map fun n : Nat => D.int n)) P = P false (.bl (!decide (a = b))) := codnL.toCodec.sNe (by decide) a b P
def mvk (ts : List (List Nat)) (ws : List Int) : Nat → Nat → Nat
  | 0, x => x
  | k + 1, x => mv ts (mvk ts ws k x) ws
theorem mvk_lt {p : Nat} {ts : List (List Nat)} (tns : Tns p ts) {ws : List Int} (hs : StT ts.length ws) {x : Nat} (hx : x < p) : ∀ k, mvk ts ws k x < p
  | 0 => hx
  | k + 1 => mv_lt tns (mvk_lt tns hs hx k) hs
theorem mv_inj {p : Nat} {ts : List (List Nat)} (tns : Tns p ts) : ∀ {ws : List Int} {x y : Nat}, StT ts.length ws → x < p → y < p → mv ts x ws = mv ts y ws → x = y
  | [], _, _, _, _, _, e => e
  | s :: ws, x, y, h, hx, hy, e => by
    have hs := h s (by simp)
    have pm := tn_pm tns hs
    have e1 := mv_inj tns (ws := ws) (fun z hz => h z (by simp [hz])) (ap_lt pm hx) (ap_lt pm hy) e
    exact ap_inj pm hx hy e1
theorem mvk_inj {p : Nat} {ts : List (List Nat)} (tns : Tns p ts) {ws : List Int} (hs : StT ts.length ws) {x : Nat} (hx : x < p) : ∀ (i d : Nat), mvk ts ws (i + d) x = mvk ts ws i x → mvk ts ws d x = x
  | 0, d, e => by rw [Nat.zero_add] at e; exact e
  | i + 1, d, e => by
    rw [show i + 1 + d = (i + d) + 1 by omega] at e
    exact mvk_inj tns hs hx i d (mv_inj tns hs (mvk_lt tns hs hx _) (mvk_lt tns hs hx _) e)
theorem mvk_add (ts : List (List Nat)) (ws : List Int) (x : Nat) (d : Nat) (h : mvk ts ws d x = x) : ∀ k, mvk ts ws (d + k) x = mvk ts ws k x
  | 0 => h
  | k + 1 => by
    show mv ts (mvk ts ws (d + k) x) ws = _
    rw [mvk_add ts ws x d h k]
    rfl
theorem mvk_mul (ts : List (List Nat)) (ws : List Int) (x : Nat) (d : Nat) (h : mvk ts ws d x = x) : ∀ k, mvk ts ws (d * k) x = x
  | 0 => rfl
  | k + 1 => by rw [Nat.mul_succ, Nat.add_comm, mvk_add ts ws x d h, mvk_mul ts ws x d h k]
theorem mvk_ret {p : Nat} {ts : List (List Nat)} (tns : Tns p ts) {ws : List Int} (hs : StT ts.length ws) {x : Nat} (hx : x < p) : ∃ d, 1 ≤ d ∧ d ≤ p ∧ mvk ts ws d x = x := by
  refine Classical.byContradiction fun hn => ?_
  have h2 : ∀ d, 1 ≤ d → d ≤ p → mvk ts ws d x ≠ x := fun d h1 h2 e => hn ⟨d, h1, h2, e⟩
  have nd : ((List.range (p + 1)).map fun k => mvk ts ws k x).Nodup := by
    refine List.pairwise_iff_getElem.mpr fun i j hi hj hij => ?_
    simp at hi hj
    simp only [List.getElem_map, List.getElem_range]
    intro e
    have := mvk_inj tns hs hx i (j - i) (by rw [show i + (j - i) = j by omega]; exact e.symm)
    exact h2 (j - i) (by omega) (by omega) this
  have := nodup_len (m := List.range p) nd fun y hy => by
    obtain ⟨k, _, rfl⟩ := List.mem_map.mp hy
    exact List.mem_range.mpr (mvk_lt tns hs hx k)
  simp at this
  omega
theorem mvk_60 {p : Nat} {ts : List (List Nat)} (tns : Tns p ts) (hp : p ≤ 6) {ws : List Int} (hs : StT ts.length ws) {x : Nat} (hx : x < p) : mvk ts ws 60 x = x := by
  obtain ⟨d, h1, h2, e⟩ := mvk_ret tns hs hx
  have : ∃ k, 60 = d * k := by
    have h : d = 1 ∨ d = 2 ∨ d = 3 ∨ d = 4 ∨ d = 5 ∨ d = 6 := by omega
    rcases h with rfl | rfl | rfl | rfl | rfl | rfl
    · exact ⟨60, rfl⟩
    · exact ⟨30, rfl⟩
    · exact ⟨20, rfl⟩
    · exact ⟨15, rfl⟩
    · exact ⟨12, rfl⟩
    · exact ⟨10, rfl⟩
  obtain ⟨k, hk⟩ := this
  rw [hk]
  exact mvk_mul ts ws x d e k
/-- a word so many times -/
def wrep (ws : List Int) (c : Nat) : List Int := (List.replicate c ws).flatten
theorem wrep_succ (ws : List Int) (c : Nat) : wrep ws (c + 1) = wrep ws c ++ ws := by
  unfold wrep
  rw [List.replicate_succ', List.flatten_append]
  simp
theorem wrep_D (ws : List Int) (c : Nat) : D.tup (List.replicate c (ws.map D.int)).flatten = wD (wrep ws c) := by
  unfold wrep wD
  rw [List.map_flatten, List.map_replicate]
theorem wrep_len (ws : List Int) (c : Nat) : (wrep ws c).length = c * ws.length := by simp [wrep]
theorem wrep_st {n : Nat} {ws : List Int} (h : StT n ws) (c : Nat) : StT n (wrep ws c) := fun x hx => by
  unfold wrep at hx
  obtain ⟨l, hl, hx⟩ := List.mem_flatten.mp hx
  rw [(List.mem_replicate.mp hl).2] at hx
  exact h x hx
theorem mv_wrep (ts : List (List Nat)) (ws : List Int) (x : Nat) : ∀ c, mv ts x (wrep ws c) = mvk ts ws c x
  | 0 => rfl
  | c + 1 => by rw [wrep_succ, mv_app, mv_wrep ts ws x c]; rfl
/-- rules: words that bring all points back -/
structure RlOk (p : Nat) (ts : List (List Nat)) (rs : List (List Int)) : Prop where
  st : ∀ r ∈ rs, StT ts.length r
  fx : ∀ r ∈ rs, ∀ x, x < p → mv ts x r = x
def sumLen (rs : List (List Int)) : Nat := rs.flatten.length
theorem sumLen_snoc (rs : List (List Int)) (r : List Int) : sumLen (rs ++ [r]) = sumLen rs + r.length := by simp [sumLen]
theorem sumLen_mem {rs : List (List Int)} {r : List Int} (h : r ∈ rs) : r.length ≤ sumLen rs := by
  unfold sumLen
  obtain ⟨a, b, e⟩ := List.append_of_mem h
  rw [e]
  simp
  omega
def tri : Nat → Nat
  | 0 => 0
  | k + 1 => tri k + k
/-- words of one step, of two, their swaps -/
def wOk (l : Nat) (W : List (List Int)) : Prop := ∀ u ∈ W, StT l u ∧ u ≠ [] ∧ u.length ≤ 4

/-! ### closing lays what is true of points -/
structure Tru (pp : Nat) (ts : List (List Nat)) (pts : List Nat) (n : Nat) (S : RS) : Prop where
  len : pts.length = n
  lt : ∀ x ∈ pts, x < pp
  rt : ∀ x, x < n → ap pts (root S.el x) = ap pts x
  gr : ∀ r s t, gr S.kn r s t → ap pts t = ap (tn ts s) (ap pts r)
theorem ap_lt' {pp : Nat} {pts : List Nat} (h : ∀ x ∈ pts, x < pp) {x : Nat} (hx : x < pts.length) : ap pts x < pp := by
  unfold ap
  rw [List.getElem?_eq_getElem hx]
  exact h _ (List.getElem_mem hx)
theorem tru_lay {pp n B : Nat} {ts : List (List Nat)} {pts : List Nat} {S S' : RS} {a b : Nat} {s : Int} {row : D} (tns : Tns pp ts) (T : Tru pp ts pts n S) (G : Gd n B S.el S.kn) (L : LayOk n B S S' a s b row) (ha : a < n) (hs : s ≠ 0 ∧ s.natAbs ≤ ts.length) (h : ap pts b = ap (tn ts s) (ap pts a)) : Tru pp ts pts n S' := by
  obtain ⟨ms, g, hm, hg, _, _, _⟩ := L.mt
  have hQ : ∀ r s' t, (gr S.kn r s' t ∨ way a s b r s' t) → ap pts t = ap (tn ts s') (ap pts r) := fun r s' t hq => by
    rcases hq with hq | ⟨rfl, rfl, rfl⟩ | ⟨rfl, rfl, rfl⟩
    · exact T.gr _ _ _ hq
    · exact h
    · rw [h]
      exact ((tn_neg tns hs).2 _ (ap_lt' T.lt (by rw [T.len]; exact ha))).symm
  have hf := hm.forced (ap pts) fun c c' s' d d' h1 h2 e => by rw [hQ _ _ _ h1, hQ _ _ _ h2, e]
  refine ⟨T.len, T.lt, fun x hx => ?_, fun r s' t hr => ?_⟩
  · rw [hg x hx, hf, T.rt x hx]
  · obtain ⟨c, d, hq, rfl, rfl⟩ := (hm.img r s' t).mp hr
    rw [hf, hf]
    exact hQ _ _ _ hq
theorem mv_fwd (ts : List (List Nat)) (u : List Int) (F : Nat → Nat) : ∀ k, k ≤ u.length → (∀ i s, i < k → u[i]? = some s → F (i + 1) = ap (tn ts s) (F i)) → mv ts (F 0) (u.take k) = F k
  | 0, _, _ => rfl
  | k + 1, hk, h => by
    have e := mv_fwd ts u F k (by omega) fun i s hi hs => h i s (by omega) hs
    have hg := List.getElem?_eq_getElem (l := u) (i := k) (by omega)
    rw [List.take_add_one, hg, Option.toList_some, mv_snoc, e]
    exact (h k _ (by omega) hg).symm
theorem mv_gap {pp : Nat} {ts : List (List Nat)} (tns : Tns pp ts) {u : List Int} {F : Nat → Nat} {k : Nat} {s : Int} (hst : StT ts.length u) (hlt : ∀ i, i ≤ u.length → F i < pp) (hk : k < u.length) (hs : u[k]? = some s) (hw : ∀ i s, i ≠ k → u[i]? = some s → F (i + 1) = ap (tn ts s) (F i)) (hend : F u.length = F 0) (hfx : mv ts (F 0) u = F 0) : F (k + 1) = ap (tn ts s) (F k) := by
  have h1 := mv_fwd ts u F k (by omega) fun i s hi hs => hw i s (by omega) hs
  have h2 := mv_fwd ts (u.drop (k + 1)) (fun i => F (k + 1 + i)) (u.length - (k + 1)) (by simp) fun i x hi hx => by
    rw [List.getElem?_drop] at hx
    exact hw (k + 1 + i) x (by omega) hx
  rw [List.take_of_length_le (by simp)] at h2
  simp only [Nat.add_zero] at h2
  rw [show k + 1 + (u.length - (k + 1)) = u.length by omega, hend] at h2
  have e : u = u.take k ++ s :: u.drop (k + 1) := by
    have h3 : u.drop k = s :: u.drop (k + 1) := by
      rw [List.drop_eq_getElem_cons hk]
      congr 1
      exact (List.getElem?_eq_some_iff.mp hs).2
    rw [← h3, List.take_append_drop]
  have h4 : mv ts (ap (tn ts s) (F k)) (u.drop (k + 1)) = F 0 := by
    have := hfx
    rw [e, mv_app, h1] at this
    exact this
  have hsm := hst s (List.mem_of_getElem? hs)
  exact mv_inj tns (fun x hx => hst x (List.mem_of_mem_drop hx)) (hlt _ (by omega)) (ap_lt (tn_pm tns hsm) (hlt k (by omega))) (h2.trans h4.symm)
theorem tru_cl {pp n B : Nat} {ts : List (List Nat)} {pts : List Nat} {rules part : List (List Int)} {S S' : RS} (tns : Tns pp ts) (cl : Cl n B rules part S S') (G : Gd n B S.el S.kn) (T : Tru pp ts pts n S) (hst : ∀ u ∈ rules ++ part, StT ts.length u) (hr : ∀ u ∈ rules, ∀ x, x < pp → mv ts x u = x) (hp : ∀ u ∈ part, mv ts (ap pts 0) u = ap pts 0) : Tru pp ts pts n S' := by
  suffices h : Tru pp ts pts n S' ∧ Gd n B S'.el S'.kn from h.1
  induction cl with
  | refl => exact ⟨T, G⟩
  | @step S1 S2 which u room k path a b s _ hok hstd rr ha hsu hb L ih =>
    obtain ⟨T1, G1⟩ := ih
    have rn : room < n := by rw [← G1.elen]; exact stand_lt hstd
    have hF : ∀ (i x : Nat), path[i]? = some x → ap pts ((path[i]?).getD 0) = ap pts x := fun i x h => by rw [h]; rfl
    have hpl : ∀ i, i ≤ u.length → ∃ x, path[i]? = some x ∧ x < n := fun i hi => by
      obtain ⟨x, hx⟩ : ∃ x, path[i]? = some x := ⟨_, List.getElem?_eq_getElem (by rw [rr.len]; omega)⟩
      exact ⟨x, hx, by rw [← G1.elen]; exact stand_lt (rr.st x (List.mem_of_getElem? hx))⟩
    have hu := hst u (List.mem_of_getElem? hok.1)
    have key := mv_gap (F := fun i => ap pts ((path[i]?).getD 0)) tns hu (fun i hi => by
      obtain ⟨x, hx, hxn⟩ := hpl i hi
      show ap pts ((path[i]?).getD 0) < pp
      rw [hF i x hx]
      exact ap_lt' T1.lt (by rw [T1.len]; exact hxn)) rr.lt hsu (fun i x hi hx => by
        have hil := (List.getElem?_eq_some_iff.mp hx).1
        obtain ⟨c, hc, _⟩ := hpl i (by omega)
        obtain ⟨d, hd, _⟩ := hpl (i + 1) (by omega)
        show ap pts ((path[i + 1]?).getD 0) = ap (tn ts x) (ap pts ((path[i]?).getD 0))
        rw [hF i c hc, hF (i + 1) d hd]
        exact T1.gr _ _ _ (rr.ways i x c d hi hx hc hd)) (by
        show ap pts ((path[u.length]?).getD 0) = ap pts ((path[0]?).getD 0)
        rw [hF _ _ rr.pl, hF _ _ rr.p0]) (by
        show mv ts (ap pts ((path[0]?).getD 0)) u = ap pts ((path[0]?).getD 0)
        rw [hF _ _ rr.p0]
        rcases okW_mem.mp ⟨which, hok⟩ with h | ⟨h, e⟩
        · exact hr u h _ (ap_lt' T1.lt (by rw [T1.len]; exact rn))
        · subst e
          exact hp u h)
    replace key : ap pts ((path[k + 1]?).getD 0) = ap (tn ts s) (ap pts ((path[k]?).getD 0)) := key
    rw [hF k a ha, hF (k + 1) b hb] at key
    have han : a < n := by rw [← G1.elen]; exact stand_lt (rr.st a (List.mem_of_getElem? ha))
    exact ⟨tru_lay tns T1 G1 L han (hu s (List.mem_of_getElem? hsu)) key, L.gd⟩
theorem lay_psi {n B X : Nat} {S S' : RS} {a b : Nat} {s : Int} {row : D} (G : Gd n B S.el S.kn) (hX : n * (2 * B + 1) ≤ X) (h : LayOk n B S S' a s b row) : psi X n S' ≤ psi X n S + 1 := by
  obtain ⟨ms, g, hm, _, ht, hml, hst⟩ := h.mt
  have hl : S'.told.length = S.told.length + 1 + ms.length := by rw [ht]; simp; omega
  have h1 := allW_len G n
  have h2 := allW_len h.gd n
  have hmu : mu X n S' ≤ mu X n S := by
    unfold mu
    cases ms with
    | nil =>
      have e : gr S'.kn = fun r s' t => gr S.kn r s' t ∨ way a s b r s' t := by
        generalize gr S'.kn = Q' at hm
        cases hm
        rfl
      have hst : (stands S'.el).length = (stands S.el).length := by simpa using hst
      have hsub := nodup_len2 (l := allW S.kn n) (m := allW S'.kn n) (allW_nd G n) fun q hq => by
        have h3 := mem_allW.mp hq
        exact mem_allW.mpr ⟨h3.1, (gr_mem h.gd h3.1).mpr (by rw [e]; exact .inl ((gr_mem G h3.1).mp h3.2))⟩
      rw [hst]
      omega
    | cons m ms =>
      simp at hst
      have h3 : ((stands S'.el).length + 1) * (X + 1) ≤ (stands S.el).length * (X + 1) := Nat.mul_le_mul_right _ (by omega)
      rw [Nat.succ_mul] at h3
      omega
  unfold psi
  omega
theorem stands_mk {el : List Nat} {n : Nat} (h : el.length = n) : (stands (el ++ [n])).length = (stands el).length + 1 := by
  unfold stands
  rw [List.length_append, List.length_singleton, List.range_succ, List.filter_append, List.length_append]
  congr 1
  · congr 1
    refine List.filter_congr fun x hx => ?_
    rw [List.getElem?_append_left (List.mem_range.mp hx)]
  · rw [h]
    simp [← h]
theorem mk_psi {n B X : Nat} {S : RS} {room : Nat} {step : Int} (G : Gd n B S.el S.kn) (hX : (n + 1) * (2 * B + 1) ≤ X) (hr : S.el[room]? = some room) (ho : kv S.kn room step = none) (hs : -(B : Int) ≤ step ∧ step ≤ B) : psi X (n + 1) (S.mk1 room step) ≤ psi X n S + X + 3 := by
  obtain ⟨G', hgr, _, _⟩ := mk_ok G hr ho hs
  have hsub := nodup_len2 (l := allW S.kn n) (m := allW (S.mk1 room step).kn (n + 1)) (allW_nd G n) fun q hq => by
    have h3 := mem_allW.mp hq
    exact mem_allW.mpr ⟨by omega, (gr_mem G' (by omega)).mpr ((hgr _ _ _).mpr (.inl ((gr_mem G h3.1).mp h3.2)))⟩
  have e1 : (stands (S.mk1 room step).el).length = (stands S.el).length + 1 := by
    have : (S.mk1 room step).el = S.el ++ [n] := by simp [RS.mk1, G.elen]
    rw [this, stands_mk G.elen]
  have e2 : (S.mk1 room step).told.length = S.told.length + 1 := by simp [RS.mk1]
  unfold psi mu
  rw [e1, e2, Nat.succ_mul]
  omega


theorem if_two {c1 c2 A E : Prop} [Decidable c1] [Decidable c2] (hA : c1 → c2 → A) (hE : E) : if c1 then (if c2 then A else E) else E := by
  split
  · split
    · exact hA ‹_› ‹_›
    · exact hE
  · exact hE
theorem root_one : ∀ x, x < 1 → root [0] x = 0 := fun x hx => by
  have := root_le [0] x
  omega
theorem ap_left (pts : List Nat) (y : Nat) {x : Nat} (h : x < pts.length) : ap (pts ++ [y]) x = ap pts x := by
  unfold ap
  rw [List.getElem?_append_left h]
theorem ap_end (pts : List Nat) (y : Nat) : ap (pts ++ [y]) pts.length = y := by
  unfold ap
  rw [List.getElem?_append_right (Nat.le_refl _), Nat.sub_self]
  rfl
theorem tru_mk {pp n B : Nat} {ts : List (List Nat)} {pts : List Nat} {S : RS} {room : Nat} {s : Int} (tns : Tns pp ts) (T : Tru pp ts pts n S) (G : Gd n B S.el S.kn) (hr : S.el[room]? = some room) (ho : kv S.kn room s = none) (hb : -(B : Int) ≤ s ∧ s ≤ B) (hs : s ≠ 0 ∧ s.natAbs ≤ ts.length) : Tru pp ts (pts ++ [ap (tn ts s) (ap pts room)]) (n + 1) (S.mk1 room s) := by
  obtain ⟨G', hgr, h1, h2⟩ := mk_ok G hr ho hb
  have hrn : room < n := by rw [← G.elen]; exact stand_lt hr
  have hlr := ap_lt' T.lt (show room < pts.length by rw [T.len]; exact hrn)
  have e1 : ∀ x, x < n → ap (pts ++ [ap (tn ts s) (ap pts room)]) x = ap pts x := fun x hx => ap_left _ _ (by rw [T.len]; exact hx)
  have e2 : ap (pts ++ [ap (tn ts s) (ap pts room)]) n = ap (tn ts s) (ap pts room) := by rw [← T.len]; exact ap_end _ _
  refine ⟨by simp [T.len], fun x hx => ?_, fun x hx => ?_, fun r s' t hg => ?_⟩
  · rcases List.mem_append.mp hx with h | h
    · exact T.lt x h
    · simp at h
      subst h
      exact ap_lt (tn_pm tns hs) hlr
  · by_cases h : x < n
    · rw [h1 x h, e1 _ (Nat.lt_of_le_of_lt (root_le _ _) h), e1 x h]
      exact T.rt x h
    · have : x = n := by omega
      subst this
      rw [h2]
  · rcases (hgr r s' t).mp hg with hg | ⟨rfl, rfl, rfl⟩ | ⟨rfl, rfl, rfl⟩
    · obtain ⟨q1, q2⟩ := G.ends _ _ _ hg
      rw [e1 r (by rw [← G.elen]; exact stand_lt q1), e1 t (by rw [← G.elen]; exact stand_lt q2)]
      exact T.gr _ _ _ hg
    · rw [e2, e1 _ hrn]
    · rw [e2, e1 _ hrn]
      exact ((tn_neg tns hs).2 _ hlr).symm

/-! SPLIT -/
/-! ### what a filling goes through -/
def S0r (l : Nat) : RS := ⟨l, [0], [[]], []⟩
inductive Fil (l : Nat) (rules part : List (List Int)) (c : Str) : Nat → RS → Prop
  | start {S : RS} : Cl 1 l rules part (S0r l) S → Closed rules part S → S.l = l → Fil l rules part c 1 S
  | next {n r k : Nat} {S S1 : RS} : Fil l rules part c n S → bestO c (gapsL S.kn l (stands S.el)) = some (r, k) → Cl (n + 1) l rules part (S.mk1 r (stp k)) S1 → Closed rules part S1 → S1.l = l → Fil l rules part c (n + 1) S1
theorem mem_gapsL {kn : List Kn} {l : Nat} {st : List Nat} {r k : Nat} : (r, k) ∈ gapsL kn l st ↔ r ∈ st ∧ k < 2 * l ∧ kv kn r (stp k) = none := by
  unfold gapsL gapsR gapRow
  rw [List.mem_flatMap]
  constructor
  · rintro ⟨a, ha, h⟩
    obtain ⟨b, hb, e⟩ := List.mem_filterMap.mp h
    split at e
    · cases e
      exact ⟨ha, List.mem_range.mp hb, by assumption⟩
    · cases e
  · rintro ⟨h1, h2, h3⟩
    exact ⟨r, h1, List.mem_filterMap.mpr ⟨k, List.mem_range.mpr h2, by rw [if_pos h3]⟩⟩
theorem foldl_pick (c : Str) : ∀ (gs : List (Nat × Nat)) (a : Option (Nat × Nat)), (gs.foldl (pickO c) a = none → a = none ∧ gs = []) ∧ ∀ x, gs.foldl (pickO c) a = some x → a = some x ∨ x ∈ gs
  | [], a => ⟨fun h => ⟨h, rfl⟩, fun x h => .inl h⟩
  | g :: gs, a => by
    obtain ⟨i1, i2⟩ := foldl_pick c gs (pickO c a g)
    have hp : pickO c a g = some g ∨ (pickO c a g = a ∧ a ≠ none) := by
      unfold pickO
      split
      · exact .inl rfl
      · split
        · exact .inl rfl
        · exact .inr ⟨rfl, by simp⟩
    refine ⟨fun h => ?_, fun x h => ?_⟩
    · obtain ⟨h1, _⟩ := i1 h
      rcases hp with hp | ⟨hp, hn⟩
      · rw [hp] at h1; cases h1
      · rw [hp] at h1; exact absurd h1 hn
    · rcases i2 x h with h | h
      · rcases hp with hp | ⟨hp, _⟩
        · rw [hp] at h
          cases h
          exact .inr List.mem_cons_self
        · exact .inl (hp ▸ h)
      · exact .inr (List.mem_cons_of_mem _ h)
theorem best_none {c : Str} {gs : List (Nat × Nat)} (h : bestO c gs = none) : gs = [] := ((foldl_pick c gs none).1 h).2
theorem best_mem {c : Str} {gs : List (Nat × Nat)} {x : Nat × Nat} (h : bestO c gs = some x) : x ∈ gs := by
  rcases (foldl_pick c gs none).2 x h with h | h
  · cases h
  · exact h
section
variable {l : Nat} {rules part : List (List Int)} {c : Str}
/-- where the next room is made -/
theorem best_at {n r k : Nat} {S : RS} (G : Gd n l S.el S.kn) (h : bestO c (gapsL S.kn l (stands S.el)) = some (r, k)) : S.el[r]? = some r ∧ k < 2 * l ∧ kv S.kn r (stp k) = none ∧ (-(l : Int) ≤ stp k ∧ stp k ≤ l) := by
  obtain ⟨h1, h2, h3⟩ := mem_gapsL.mp (best_mem h)
  have h4 := stp_ok h2
  exact ⟨mem_stands.mp h1, h2, h3, by omega, by omega⟩
theorem Fil.gd {n : Nat} {S : RS} (h : Fil l rules part c n S) : Gd n l S.el S.kn ∧ S.l = l ∧ Closed rules part S ∧ 1 ≤ n := by
  induction h with
  | start cl cd e => exact ⟨(cl_img cl (gd0 l)).1, e, cd, Nat.le_refl _⟩
  | next f hb cl cd e ih =>
    obtain ⟨G, _⟩ := ih
    obtain ⟨h1, h2, h3, h4⟩ := best_at G hb
    exact ⟨(cl_img cl (mk_ok G h1 h3 h4).1).1, e, cd, by omega⟩
structure Sm (n : Nat) (S T : RS) : Prop where
  r : ∀ x, x < n → root S.el x = root T.el x
  g : ∀ r s t, gr S.kn r s t ↔ gr T.kn r s t
theorem Sm.same_kv {n : Nat} {S T : RS} (h : Sm n S T) (r : Nat) (s : Int) : kv S.kn r s = kv T.kn r s := by
  cases e : kv S.kn r s with
  | some t => exact ((h.g r s t).mp e).symm
  | none =>
    cases e2 : kv T.kn r s with
    | none => rfl
    | some t =>
      have := (h.g r s t).mpr e2
      rw [gr, e] at this
      cases this
theorem Sm.same_el {n : Nat} {S T : RS} (h : Sm n S T) (G1 : Gd n l S.el S.kn) (G2 : Gd n l T.el T.kn) : stands S.el = stands T.el := by
  unfold stands
  rw [G1.elen, G2.elen]
  refine List.filter_congr fun x hx => ?_
  have hx := List.mem_range.mp hx
  have h1 := els_stand G1 hx
  have h2 := els_stand G2 hx
  rw [h.r x hx] at h1
  exact decide_eq_decide.mpr (h1.symm.trans h2)
theorem Sm.same_gaps {n : Nat} {S T : RS} (h : Sm n S T) (G1 : Gd n l S.el S.kn) (G2 : Gd n l T.el T.kn) : gapsL S.kn l (stands S.el) = gapsL T.kn l (stands T.el) := by
  rw [h.same_el G1 G2]
  unfold gapsL
  congr 1
  funext r
  unfold gapsR
  congr 1
  funext k
  unfold gapRow
  rw [h.same_kv]
/-- one end of a closing -/
theorem cl_same {n : Nat} {S T S1 T1 : RS} {rules' part' : List (List Int)} (G1 : Gd n l S.el S.kn) (G2 : Gd n l T.el T.kn) (h : Sm n S T) (c1 : Cl n l rules part S S1) (c2 : Cl n l rules' part' T T1) (d1 : Closed rules part S1) (d2 : Closed rules' part' T1)
    (sub : ∀ u room, (u ∈ rules ∨ (u ∈ part ∧ room = 0)) ↔ u ∈ rules' ∨ (u ∈ part' ∧ room = 0)) : Sm n S1 T1 := by
  obtain ⟨A1, A2, A3⟩ := cl_img c1 G1
  obtain ⟨B1, B2, B3⟩ := cl_img c2 G2
  obtain ⟨p1, p2, _⟩ := cl_into c1 G1 B1 d2 (fun u room => (sub u room).mp) (fun r s t hh => B2 r s t ((h.g r s t).mp hh)) fun x hx => by rw [h.r x hx]; exact B3 x hx
  obtain ⟨q1, q2, _⟩ := cl_into c2 G2 A1 d1 (fun u room => (sub u room).mpr) (fun r s t hh => A2 r s t ((h.g r s t).mpr hh)) fun x hx => by rw [← h.r x hx]; exact A3 x hx
  obtain ⟨z1, z2⟩ := one_end A1 B1 p1 p2 q1 q2
  exact ⟨z1, z2⟩
theorem mk_same {n r : Nat} {s : Int} {S T : RS} (G1 : Gd n l S.el S.kn) (G2 : Gd n l T.el T.kn) (h : Sm n S T) (hr : S.el[r]? = some r) (ho : kv S.kn r s = none) (hb : -(l : Int) ≤ s ∧ s ≤ l) : Sm (n + 1) (S.mk1 r s) (T.mk1 r s) := by
  have hrn : r < n := by rw [← G1.elen]; exact stand_lt hr
  have hr2 : T.el[r]? = some r := (els_stand G2 hrn).mp (by rw [← h.r r hrn]; exact (els_stand G1 hrn).mpr hr)
  obtain ⟨_, a1, a2, a3⟩ := mk_ok G1 hr ho hb
  obtain ⟨_, b1, b2, b3⟩ := mk_ok G2 hr2 (by rw [← h.same_kv]; exact ho) hb
  refine ⟨fun x hx => ?_, fun r' s' t => by rw [a1, b1, h.g]⟩
  by_cases e : x < n
  · rw [a2 x e, b2 x e, h.r x e]
  · have : x = n := by omega
    subst this
    rw [a3, b3]
/-- the same rules, the same order: the same rooms -/
theorem Fil.same {rules' part' : List (List Int)} (sub : ∀ u room, (u ∈ rules ∨ (u ∈ part ∧ room = 0)) ↔ u ∈ rules' ∨ (u ∈ part' ∧ room = 0)) {n : Nat} {S T : RS} (h1 : Fil l rules part c n S) (h2 : Fil l rules' part' c n T) : Sm n S T := by
  induction h1 generalizing T with
  | start cl cd e =>
    generalize hm : 1 = m at h2
    cases h2 with
    | start cl2 cd2 _ => exact cl_same (gd0 l) (gd0 l) ⟨fun _ _ => rfl, fun _ _ _ => Iff.rfl⟩ cl cl2 cd cd2 sub
    | next f2 _ _ _ _ => have := f2.gd.2.2.2; omega
  | @next n r k S S1 f hb cl cd e ih =>
    generalize hm : n + 1 = m at h2
    cases h2 with
    | start cl2 cd2 _ => have := f.gd.2.2.2; omega
    | @next n2 r2 k2 T0 T1 f2 hb2 cl2 cd2 e2 =>
      have : n2 = n := by omega
      subst this
      have s := ih f2
      have G1 := f.gd.1
      have G2 := f2.gd.1
      rw [← s.same_gaps G1 G2, hb] at hb2
      cases hb2
      obtain ⟨q1, q2, q3, q4⟩ := best_at G1 hb
      have s1 := mk_same G1 G2 s q1 q3 q4
      have q1' : T0.el[r]? = some r := by
        have hrn : r < n2 := by rw [← G1.elen]; exact stand_lt q1
        exact (els_stand G2 hrn).mp (by rw [← s.r r hrn]; exact (els_stand G1 hrn).mpr q1)
      exact cl_same (mk_ok G1 q1 q3 q4).1 (mk_ok G2 q1' (by rw [← s.same_kv]; exact q3) q4).1 s1 cl cl2 cd cd2 sub
/-- one that has gone on has had a gap there -/
theorem Fil.past {n : Nat} {S : RS} (h : Fil l rules part c n S) : ∀ m, 1 ≤ m → m < n → ∃ T, Fil l rules part c m T ∧ bestO c (gapsL T.kn l (stands T.el)) ≠ none := by
  induction h with
  | start => intro m h1 h2; omega
  | @next n r k S S1 f hb cl cd e ih =>
    intro m h1 h2
    by_cases e : m = n
    · subst e
      exact ⟨S, f, by rw [hb]; simp⟩
    · exact ih m h1 (by omega)
/-- full -/
def Full (l : Nat) (c : Str) (S : RS) : Prop := bestO c (gapsL S.kn l (stands S.el)) = none
theorem Sm.full {n : Nat} {S T : RS} (h : Sm n S T) (G1 : Gd n l S.el S.kn) (G2 : Gd n l T.el T.kn) : Full l c S ↔ Full l c T := by
  unfold Full
  rw [h.same_gaps G1 G2]
theorem Fil.one {n m : Nat} {S T : RS} (h1 : Fil l rules part c n S) (f1 : Full l c S) (h2 : Fil l rules part c m T) (f2 : Full l c T ∨ n ≤ m) : n = m ∧ Sm n S T := by
  have key : ∀ {n m : Nat} {S T : RS}, Fil l rules part c n S → Full l c S → Fil l rules part c m T → ¬ n < m := fun {n m S T} h1 f1 h2 hlt => by
    obtain ⟨U, hU, hn⟩ := h2.past n h1.gd.2.2.2 hlt
    have s := h1.same (fun _ _ => Iff.rfl) hU
    exact hn ((s.full h1.gd.1 hU.gd.1).mp f1)
  have a := key h1 f1 h2
  have e : n = m := by
    rcases f2 with f2 | f2
    · have b := key h2 f2 h1
      omega
    · omega
  subst e
  exact ⟨rfl, h1.same (fun _ _ => Iff.rfl) h2⟩
/-- full: each room that stands leads by each step -/
theorem Fil.all {n : Nat} {S : RS} (h : Fil l rules part c n S) (f : Full l c S) : ∀ x, S.el[x]? = some x → ∀ k, k < 2 * l → ∃ t, kv S.kn x (stp k) = some t := fun x hx k hk => by
  have e := best_none f
  cases e2 : kv S.kn x (stp k) with
  | some t => exact ⟨t, rfl⟩
  | none =>
    have := mem_gapsL.mpr ⟨mem_stands.mpr hx, hk, e2⟩
    rw [e] at this
    cases this
end
theorem Cl.sl {n B : Nat} {rules part : List (List Int)} {S S' : RS} (cl : Cl n B rules part S S') : S'.l = S.l := by
  induction cl with
  | refl => rfl
  | step _ _ _ _ _ _ _ L ih => rw [L.l, ih]

/-! SPLIT -/
def isO (o c : Str) : Prop := (o = "rooms" ∧ c = "Order") ∨ (o = "letters" ∧ c = "ByLetters") ∨ (o = "newest" ∧ c = "Newest")
/-- only new objects -/
def Ext (w w' : Om) : Prop := ∀ a c, w a = some c → w' a = some c
structure FW (w w2 : Om) (oa p : Addr) (r : RP) (S : RS) (c : Str) : Prop where
  R : Rm w2 p r S
  old : ∀ a d, w a = some d → w2 a = some d ∧ a ∉ r.fp p
  o : w2 oa = some (.ins c []) ∧ oa ∉ r.fp p
theorem FW.step {w w2 w3 : Om} {oa p : Addr} {r r' : RP} {S S' : RS} {c : Str} (h : FW w w2 oa p r S c) (R' : Rm w3 p r' S') (F : Fr w2 w3 (r.fp p) (r'.fp p)) : FW w w3 oa p r' S' c :=
  ⟨R', fun a d e => F.cell (h.old a d e).1 (h.old a d e).2, F.cell h.o.1 h.o.2⟩
theorem FW.ext {w w2 : Om} {oa p : Addr} {r : RP} {S : RS} {c : Str} (h : FW w w2 oa p r S c) : Ext w w2 := fun a d e => (h.old a d e).1
def T_fill : DSpX := fun ds w P Px => ∃ (l lim bd : Nat) (rules part : List (List Int)) (o c : Str), ds = [.int l, lwD rules, lwD part, .int lim, .str o] ∧ isO o c ∧ l ≤ 400 ∧ (bd + 2) * ((bd + 2) * (2 * l + 1) + 3) ≤ 900000 ∧ (∀ n S, Fil l rules part c n S → ¬ Full l c S → n < lim → n < bd) ∧ rules.length + part.length ≤ 1000 ∧ (∀ u ∈ rules ++ part, u.length ≤ 9000 ∧ ∀ s ∈ u, -(l : Int) ≤ s ∧ s ≤ l) ∧ (∀ w' n S come, Ext w w' → Fil l rules part c n S → Full l c S → n ≤ max lim 1 → S.told.length ≤ (bd + 2) * ((bd + 2) * (2 * l + 1) + 3) → Bfs (stK S.kn) (2 * l) 0 come → (∀ x ∈ come, S.el[x]? = some x) → P false (.tup [tabD (tabF (stK S.kn) (2 * l) come), .lst S.told]) w') ∧ (∀ w' n S, Ext w w' → Fil l rules part c n S → ¬ Full l c S → lim ≤ n → n ≤ max lim 1 → S.told.length ≤ (bd + 2) * ((bd + 2) * (2 * l + 1) + 3) → Px "TooMany" [("rows", .lst S.told), ("made", .int n)] w')
theorem len_fill (ds : List D) (w : Om) (P : Bool → D → Om → Prop) (Px : Str → List (Str × D) → Om → Prop) (h : T_fill ds w P Px) : ds.length = 5 := by first | (have h := h.1; subst h; rfl) | (obtain ⟨rfl, _⟩ := h; rfl) | (obtain ⟨_, rfl, _⟩ := h; rfl) | (obtain ⟨_, _, rfl, _⟩ := h; rfl) | (obtain ⟨_, _, _, rfl, _⟩ := h; rfl) | (obtain ⟨_, _, _, _, rfl, _⟩ := h; rfl) | (obtain ⟨_, _, _, _, _, rfl, _⟩ := h; rfl) | (obtain ⟨_, _, _, _, _, _, rfl, _⟩ := h; rfl) | (obtain ⟨_, _, _, _, _, _, _, rfl, _⟩ := h; rfl) | (obtain ⟨_, _, _, _, _, _, _, _, rfl, _⟩ := h; rfl) | (obtain ⟨_, _, _, _, _, _, _, _, _, rfl, _⟩ := h; rfl) | (obtain ⟨_, _, _, _, _, _, _, _, _, _, rfl, _⟩ := h; rfl) | (obtain ⟨_, _, _, _, _, _, _, _, _, _, _, rfl, _⟩ := h; rfl) | (obtain ⟨_, _, _, _, _, _, _, _, _, _, _, _, rfl, _⟩ := h; rfl) | (obtain ⟨_, _, _, _, _, _, _, _, _, _, _, _, _, rfl, _⟩ := h; rfl)
def b_fill (x : DXK) : DS := (dSeq (dSet false 5 (dCallX T_order_by x (dCons (dVar 4) dNil)))
    (dSeq (dSet false 6 (dMake "Rooms" T_Rooms_init (dCons (dVar 0) dNil)))
    (dSeq (dDrop (dCall T_close (dCons (dVar 6) (dCons (dVar 1) (dCons (dVar 2) dNil)))))
    (dSeq (dSet false 7 (dOrX (dMeth "Order" "gap" (T_Order_gap "Order") (dVarR 5) (dCons (dVar 6) dNil)) (dOrX (dMeth "ByLetters" "gap" (T_Order_gap "ByLetters") (dVarR 5) (dCons (dVar 6) dNil)) (dMeth "Newest" "gap" (T_Order_gap "Newest") (dVarR 5) (dCons (dVar 6) dNil)))))
    (dSeq (dWhile (dB (dBin sNotN (dVarR 7) (oX (dC .non)))) (dSeq (dIf (dB (dBin sGe (oX (dFld "Rooms" "made" (dVarR 6))) (dVarR 3))) (dRaiseTM (dCons (dFld "Rooms" "made" (dVarR 6)) (dCons (dMeth "Rooms" "paper" T_Rooms_paper (dVarR 6) dNil) dNil)) x) dNext)
    (dSeq (dDrop (dMeth "Rooms" "make" T_Rooms_make (dVarR 6) (dCons (dBin sIx (dVarR 7) (oX (dC (.int 0)))) (dCons (dBin sIx (dVarR 7) (oX (dC (.int 1)))) dNil))))
    (dSeq (dDrop (dCall T_close (dCons (dVar 6) (dCons (dVar 1) (dCons (dVar 2) dNil)))))
    (dSet false 7 (dOrX (dMeth "Order" "gap" (T_Order_gap "Order") (dVarR 5) (dCons (dVar 6) dNil)) (dOrX (dMeth "ByLetters" "gap" (T_Order_gap "ByLetters") (dVarR 5) (dCons (dVar 6) dNil)) (dMeth "Newest" "gap" (T_Order_gap "Newest") (dVarR 5) (dCons (dVar 6) dNil)))))))))
    (dRet (dTup (dCons (dCall T_numbered (dCons (dVar 6) dNil)) (dCons (dMeth "Rooms" "paper" T_Rooms_paper (dVarR 6) dNil) dNil)))))))))
theorem v_fill (ds : List D) (w : Om) (P : Bool → D → Om → Prop) (Px : Str → List (Str × D) → Om → Prop) (h : T_fill ds w P Px) : b_fill (xDef Px) { nx := fun _ w => P false .non w, rt := P } (startD ["letters", "rules", "part", "limit", "order", "chosen", "rooms", "found"] ds) w := by
  unfold b_fill
  obtain ⟨l, lim, bd, rules, part, o, c, rfl, hc, hl, hX, hbd, hrl, hw, q1, q2⟩ := h
  have hs := sizeLine_eq
  obtain ⟨X, hXe⟩ : ∃ X, X = (bd + 2) * (2 * l + 1) := ⟨_, rfl⟩
  rw [← hXe] at hX
  have hXl : bd + 2 ≤ X := by rw [hXe]; exact Nat.le_mul_of_pos_right _ (by omega)
  have hX2 : X ≤ 500000 := by
    have := Nat.mul_le_mul_right (X + 3) (show 2 ≤ bd + 2 by omega)
    omega
  refine seq_n fun N hN => ?_
  try simp_arith []
  suffices k : ∀ a, w a = none → N [some (false, .int l), some (false, lwD rules), some (false, lwD part), some (false, .int lim), some (false, .str o), some (false, .ref a), none, none] (updW w a (.ins c [])) by
    rcases hc with ⟨rfl, rfl⟩ | ⟨rfl, rfl⟩ | ⟨rfl, rfl⟩
    · exact ⟨_, rfl, fun _ a ha => k a ha, fun e => absurd e (by decide +kernel), fun e => absurd e (by decide +kernel), fun n => absurd rfl n⟩
    · exact ⟨_, rfl, fun e => absurd e (by decide +kernel), fun _ a ha => k a ha, fun e => absurd e (by decide +kernel), fun _ n => absurd rfl n⟩
    · exact ⟨_, rfl, fun e => absurd e (by decide +kernel), fun e => absurd e (by decide +kernel), fun _ a ha => k a ha, fun _ _ n => absurd rfl n⟩
  refine fun oa hoa => hN _ _ ?_
  refine seq_n fun N hN => ?_
  try simp_arith []
  intro p hp
  have hpo : p ≠ oa := fun z => by rw [z, updW_same] at hp; cases hp
  have hpw : w p = none := by rw [updW_ne hpo] at hp; exact hp
  refine ⟨p, l, rfl, updW_same, fun w1 r1 R1 F1 => ⟨rfl, hN _ _ ?_⟩⟩
  have I0 : FW w w1 oa p r1 (S0r l) c := by
    refine ⟨R1, fun a d e => ?_, ?_⟩
    · have h1 : a ≠ oa := fun z => by rw [z, hoa] at e; cases e
      have h2 : a ≠ p := fun z => by rw [z, hpw] at e; cases e
      exact F1.cell (by rw [updW_ne h2, updW_ne h1]; exact e) (by simpa using h2)
    · exact F1.cell (by rw [updW_ne hpo.symm, updW_same]) (by simpa using hpo.symm)
  clear R1 F1 hp hpw
  have hpsi0 : psi X 1 (S0r l) ≤ 2 * (X + 3) := by
    have h1 := stands_le (S0r l).el
    have h2 := Nat.mul_le_mul h1 (Nat.le_refl (X + 1))
    unfold psi mu
    simp [S0r] at h1 h2 ⊢
    omega
  have hXn : ∀ n, n ≤ bd + 2 → n * (2 * l + 1) ≤ X := fun n hn => by rw [hXe]; exact Nat.mul_le_mul_right _ hn
  have hpsn : ∀ n, n ≤ bd + 1 → (n + 1) * (X + 3) ≤ 900000 := fun n hn => Nat.le_trans (Nat.mul_le_mul_right _ (show n + 1 ≤ bd + 2 by omega)) hX
  have hXl2 : ∀ n, n ≤ bd + 2 → n ≤ 1000 := fun n hn => by
    refine Classical.byContradiction fun hc => ?_
    have h3 := Nat.mul_le_mul (show 1001 ≤ bd + 2 by omega) (show 1001 ≤ X + 3 by omega)
    omega
  have doclose : ∀ {w2 : Om} {r : RP} {S : RS} {n : Nat} {Q : Bool → D → Om → Prop}, FW w w2 oa p r S c → Gd n l S.el S.kn → S.l = l → n ≤ bd + 1 → psi X n S ≤ (n + 1) * (X + 3) → (∀ w' r' S', FW w w' oa p r' S' c → Cl n l rules part S S' → Closed rules part S' → S'.l = l → psi X n S' ≤ (n + 1) * (X + 3) → Q false .non w') → T_close [.ref p, lwD rules, lwD part] w2 Q := fun {w2 r S n Q} I G hSl hn hps hQ => by
    have h1 := hpsn n hn
    exact ⟨p, r, S, rules, part, n, l, X, rfl, I.R, G, by omega, by have := hXl2 n (by omega); omega, hXn n (by omega), by omega, by omega, hrl, hw, fun w' r' S' R' G' C' D' hp' F' => hQ w' r' S' (I.step R' F') C' D' (by rw [C'.sl]; exact hSl) (by omega)⟩
  refine seq_n fun N hN => ?_
  try simp_arith []
  refine doclose I0 (gd0 l) rfl (by omega) hpsi0 fun w2 r2 S2 I2 C2 D2 L2 P2 => hN _ _ ?_
  have F2 : Fil l rules part c 1 S2 := .start C2 D2 L2
  clear hpsi0 I0 C2 D2
  have dogap : ∀ {w2 : Om} {r : RP} {S : RS} {n : Nat} {j7 : Option (Bool × D)} {Q : Bool → D → Om → Prop}, FW w w2 oa p r S c → Fil l rules part c n S → n ≤ bd + 1 → Q false (gapD (bestO c (gapsL S.kn l (stands S.el)))) w2 → dOrX (dMeth "Order" "gap" (T_Order_gap "Order") (dVarR 5) (dCons (dVar 6) dNil)) (dOrX (dMeth "ByLetters" "gap" (T_Order_gap "ByLetters") (dVarR 5) (dCons (dVar 6) dNil)) (dMeth "Newest" "gap" (T_Order_gap "Newest") (dVarR 5) (dCons (dVar 6) dNil))) [some (false, .int l), some (false, lwD rules), some (false, lwD part), some (false, .int lim), some (false, .str o), some (false, .ref oa), some (false, .ref p), j7] w2 Q := by
    intro w2 r S n j7 Q I f hn hQ
    obtain ⟨G, hSl, _⟩ := f.gd
    have hQ2 : Q false (gapD (bestO c (gapsL S.kn S.l (stands S.el)))) w2 := by rw [hSl]; exact hQ
    have G2 : Gd n S.l S.el S.kn := by rw [hSl]; exact G
    have o1 := I.o.1
    have h1 : n ≤ 100000 := by have := hXl2 n (by omega); omega
    have h2 : S.l ≤ 500 := by omega
    rcases hc with ⟨_, rfl⟩ | ⟨_, rfl⟩ | ⟨_, rfl⟩
    · refine .inl ?_
      try simp_arith []
      exact ⟨oa, _, rfl, o1, rfl, oa, p, r, S, n, rfl, .inl rfl, o1, I.R, G2, h1, h2, hQ2⟩
    · refine .inr (.inl ?_)
      try simp_arith []
      exact ⟨oa, _, rfl, o1, rfl, oa, p, r, S, n, rfl, .inr (.inl rfl), o1, I.R, G2, h1, h2, hQ2⟩
    · refine .inr (.inr ?_)
      try simp_arith []
      exact ⟨oa, _, rfl, o1, rfl, oa, p, r, S, n, rfl, .inr (.inr rfl), o1, I.R, G2, h1, h2, hQ2⟩
  refine seq_n fun N hN => ?_
  try simp_arith []
  refine dogap I2 F2 (by omega) (hN _ _ ?_)
  refine seq_cut (fun δ w3 => ∃ r S n, FW w w3 oa p r S c ∧ Fil l rules part c n S ∧ Full l c S ∧ n ≤ max lim 1 ∧ n ≤ max bd 1 ∧ psi X n S ≤ (n + 1) * (X + 3) ∧ δ = [some (false, .int l), some (false, lwD rules), some (false, lwD part), some (false, .int lim), some (false, .str o), some (false, .ref oa), some (false, .ref p), some (false, .non)]) (fun N hN => ?_) ?_
  · refine while_go (α := Nat) (fun n δ w3 => ∃ r S, FW w w3 oa p r S c ∧ Fil l rules part c n S ∧ n ≤ max lim 1 ∧ n ≤ max bd 1 ∧ psi X n S ≤ (n + 1) * (X + 3) ∧ δ = [some (false, .int l), some (false, lwD rules), some (false, lwD part), some (false, .int lim), some (false, .str o), some (false, .ref oa), some (false, .ref p), some (false, gapD (bestO c (gapsL S.kn l (stands S.el))))]) (fun n => lim + 1 - n) ?_ 1 ⟨r2, S2, I2, F2, by omega, by omega, P2, rfl⟩
    clear F2 I2 P2
    rintro n δ w3 ⟨r, S, I, F, hn, hnb, hps, rfl⟩ N2 hN2
    obtain ⟨G, hSl, hcd, hn1⟩ := F.gd
    have h9 := hpsn n (by omega)
    have hpt : S.told.length ≤ psi X n S := by unfold psi; omega
    cases hb : bestO c (gapsL S.kn l (stands S.el)) with
    | none =>
      try simp_arith [gapD]
      exact hN _ _ ⟨r, S, n, I, F, hb, hn, hnb, hps, rfl⟩
    | some x =>
      obtain ⟨r0, k0⟩ := x
      obtain ⟨a1, a2, a3, a4⟩ := best_at G hb
      have hrn : r0 < n := by rw [← G.elen]; exact stand_lt a1
      obtain ⟨km, hkm⟩ : ∃ km, S.kn[r0]? = some km := ⟨_, List.getElem?_eq_getElem (by rw [G.klen]; exact hrn)⟩
      have hkl := keys_count (G.nd r0 km hkm) (G.bd r0 km hkm)
      rw [List.length_map] at hkl
      try simp_arith [gapD]
      refine seq_n fun N3 hN3 => ?_
      try simp_arith []
      refine ⟨p, _, _, rfl, I.R.ins, rmF_made .., ?_⟩
      try simp_arith [G.elen]
      refine if_join (fun hge => ?_) (fun hlt => ?_)
      · have hge : lim ≤ n := by
          have := of_decide_eq_true hge
          omega
        try simp_arith [dRaiseTM]
        refine ⟨p, _, _, rfl, I.R.ins, rmF_made .., p, _, rfl, I.R.ins, no_paper .., p, r, S, rfl, I.R, ?_⟩
        rw [G.elen]
        try simp_arith [kTM, xDef]
        exact q2 w3 n S I.ext F (by unfold Full; rw [hb]; simp) hge hn (by rw [← hXe]; have := Nat.mul_le_mul_right (X + 3) (show n + 1 ≤ bd + 2 by omega); omega)
      · have hlt : n < lim := by
          have := of_decide_eq_false (Bool.eq_false_iff.mpr hlt)
          omega
        have hltb : n < bd := hbd n S F (by unfold Full; rw [hb]; simp) hlt
        refine hN3 _ _ ?_
        refine seq_n fun N3 hN3 => ?_
        try simp_arith []
        have g0 := hXl2 n (by omega)
        refine ⟨p, _, rfl, I.R.ins, no_make .., _, rfl, _, rfl, p, r, S, r0, km, stp k0, rfl, I.R, hkm, by rw [G.elen]; omega, by omega, by omega, fun w4 r4 R4 F4 => hN3 _ _ ?_⟩
        have I4 := I.step R4 F4
        have G4 := (mk_ok G a1 a3 a4).1
        have P4 := mk_psi (X := X) G (hXn (n + 1) (by omega)) a1 a3 a4
        have e4 : (n + 1 + 1) * (X + 3) = (n + 1) * (X + 3) + (X + 3) := by rw [Nat.add_mul (n + 1) 1, Nat.one_mul]
        refine seq_n fun N3 hN3 => ?_
        try simp_arith []
        refine doclose I4 G4 hSl (by omega) (by omega) fun w5 r5 S5 I5 C5 D5 L5 P5 => hN3 _ _ ?_
        have F5 : Fil l rules part c (n + 1) S5 := .next F hb C5 D5 L5
        try simp_arith []
        exact dogap I5 F5 (by omega) (hN2 (n + 1) _ _ ⟨r5, S5, I5, F5, by omega, by omega, P5, rfl⟩ (by omega))
  rintro δ w3 ⟨r, S, n, I, F, hf, hn, hnb, hps, rfl⟩
  have h9 := hpsn n (by omega)
  have hpt : S.told.length ≤ psi X n S := by unfold psi; omega
  obtain ⟨G, hSl, hcd, hn1⟩ := F.gd
  try simp_arith []
  have g0 := hXl2 n (by omega)
  refine ⟨p, r, S, n, rfl, I.R, by rw [hSl]; exact G, hn1, by omega, by omega, fun x hx k hk => F.all hf x hx k (by rw [← hSl]; exact hk), fun come B hst => ?_⟩
  rw [hSl] at B ⊢
  refine ⟨p, _, rfl, I.R.ins, no_paper .., p, r, S, rfl, I.R, ?_⟩
  try simp_arith []
  exact ⟨by omega, q1 w3 n S come I.ext F hf hn (by rw [← hXe]; have := Nat.mul_le_mul_right (X + 3) (show n + 1 ≤ bd + 2 by omega); omega) B hst⟩

/-! SPLIT -/
def ordC (o : Str) : Str := if o = "letters" then "ByLetters" else if o = "newest" then "Newest" else "Order"
def T_Lfilled : DSp := fun ds w P => ∃ (l lim : Nat) (rules part : List (List Int)) (o : Str), ds = [.int l, lwD rules, lwD part, .int lim, .str o] ∧ (o = "rooms" ∨ o = "letters" ∨ o = "newest" ∨ o = "") ∧ l ≤ 400 ∧ (lim + 2) * ((lim + 2) * (2 * l + 1) + 3) ≤ 900000 ∧ rules.length + part.length ≤ 1000 ∧ (∀ u ∈ rules ++ part, u.length ≤ 9000 ∧ ∀ s ∈ u, -(l : Int) ≤ s ∧ s ≤ l) ∧ (∀ w' n S come, Ext w w' → Fil l rules part (ordC o) n S → Full l (ordC o) S → n ≤ max lim 1 → S.told.length ≤ 900000 → Bfs (stK S.kn) (2 * l) 0 come → (∀ x ∈ come, S.el[x]? = some x) → P false (.tup [.tup [tabD (tabF (stK S.kn) (2 * l) come), .lst S.told], .non]) w') ∧ (∀ w' n S, Ext w w' → Fil l rules part (ordC o) n S → ¬ Full l (ordC o) S → lim ≤ n → n ≤ max lim 1 → S.told.length ≤ 900000 → P false (.tup [.non, .exc "TooMany" [("rows", .lst S.told), ("made", .int n)]]) w')
theorem len_Lfilled (ds : List D) (w : Om) (P : Bool → D → Om → Prop) (h : T_Lfilled ds w P) : ds.length = 5 := by first | (have h := h.1; subst h; rfl) | (obtain ⟨rfl, _⟩ := h; rfl) | (obtain ⟨_, rfl, _⟩ := h; rfl) | (obtain ⟨_, _, rfl, _⟩ := h; rfl) | (obtain ⟨_, _, _, rfl, _⟩ := h; rfl) | (obtain ⟨_, _, _, _, rfl, _⟩ := h; rfl) | (obtain ⟨_, _, _, _, _, rfl, _⟩ := h; rfl) | (obtain ⟨_, _, _, _, _, _, rfl, _⟩ := h; rfl) | (obtain ⟨_, _, _, _, _, _, _, rfl, _⟩ := h; rfl) | (obtain ⟨_, _, _, _, _, _, _, _, rfl, _⟩ := h; rfl) | (obtain ⟨_, _, _, _, _, _, _, _, _, rfl, _⟩ := h; rfl) | (obtain ⟨_, _, _, _, _, _, _, _, _, _, rfl, _⟩ := h; rfl) | (obtain ⟨_, _, _, _, _, _, _, _, _, _, _, rfl, _⟩ := h; rfl) | (obtain ⟨_, _, _, _, _, _, _, _, _, _, _, _, rfl, _⟩ := h; rfl) | (obtain ⟨_, _, _, _, _, _, _, _, _, _, _, _, _, rfl, _⟩ := h; rfl)
def b_Lfilled : DS := (dSeq (dSet false 5 (dC .non))
    (dSeq (dSet false 6 (dC .non))
    (dSeq (dTryK EXN 7 "TooMany" (fun y1 => (dIf (dB (dBin sEq (dVarR 4) (oX (dC (.str ""))))) (dSet false 5 (dCallXD T_fill (.str "rooms") y1 (dCons (dVar 0) (dCons (dVar 1) (dCons (dVar 2) (dCons (dVar 3) dNil)))))) (dSet false 5 (dCallX T_fill y1 (dCons (dVar 0) (dCons (dVar 1) (dCons (dVar 2) (dCons (dVar 3) (dCons (dVar 4) dNil))))))))) (fun _ => (dSet false 6 (dVar 7))) xNo)
    (dRet (dTup (dCons (dVar 5) (dCons (dVar 6) dNil)))))))
theorem v_Lfilled (ds : List D) (w : Om) (P : Bool → D → Om → Prop) (h : T_Lfilled ds w P) : b_Lfilled { nx := fun _ w => P false .non w, rt := P } (startD ["_law_letters", "_law_rules", "_law_part", "_law_limit", "_law_order", "_law_found", "_law_refused", "e"] ds) w := by
  unfold b_Lfilled
  obtain ⟨l, lim, rules, part, o, rfl, ho, hl, hX, hrl, hw, q1, q2⟩ := h
  have hs := sizeLine_eq
  refine seq_n fun N hN => ?_
  try simp_arith []
  refine hN _ _ ?_
  refine seq_n fun N hN => ?_
  try simp_arith []
  refine hN _ _ ?_
  refine seq_n fun N hN => ?_
  try simp_arith [dTryK, dCallX]
  have hd : ∀ o', isO o' (ordC o) → ∀ (Q : Bool → D → Om → Prop) (Qx : Str → List (Str × D) → Om → Prop), (∀ w' n S come, Ext w w' → Fil l rules part (ordC o) n S → Full l (ordC o) S → n ≤ max lim 1 → S.told.length ≤ 900000 → Bfs (stK S.kn) (2 * l) 0 come → (∀ x ∈ come, S.el[x]? = some x) → Q false (.tup [tabD (tabF (stK S.kn) (2 * l) come), .lst S.told]) w') → (∀ w' n S, Ext w w' → Fil l rules part (ordC o) n S → ¬ Full l (ordC o) S → lim ≤ n → n ≤ max lim 1 → S.told.length ≤ 900000 → Qx "TooMany" [("rows", .lst S.told), ("made", .int n)] w') → T_fill [.int l, lwD rules, lwD part, .int lim, .str o'] w Q Qx := fun o' h Q Qx h1 h2 => ⟨l, lim, lim, rules, part, o', ordC o, rfl, h, hl, hX, fun _ _ _ _ z => z, hrl, hw, fun w' n S come a b c d e f g => h1 w' n S come a b c d (Nat.le_trans e hX) f g, fun w' n S a b c d e f => h2 w' n S a b c d e (Nat.le_trans f hX)⟩
  refine ⟨rfl, if_join (fun e => ?_) (fun e => ?_)⟩
  · have e := of_decide_eq_true e
    try simp_arith [dCallXD]
    refine hd "rooms" (.inl ⟨rfl, by rw [e]; decide +kernel⟩) _ _ (fun w' n S come a b c d t B st => hN _ _ ?_) fun w' n S a b c d t u => ⟨true, by decide +kernel, fun _ x hx => ?_, fun z => nomatch z⟩
    · try simp_arith []
      exact ⟨by omega, q1 w' n S come a b c d t B st⟩
    · try simp_arith [keepD, keepS]
      refine hN _ _ ?_
      try simp_arith []
      exact ⟨by omega, q2 w' n S a b c d t u⟩
  · have e : o ≠ "" := fun z => e (decide_eq_true z)
    have hi : isO o (ordC o) := by
      rcases ho with rfl | rfl | rfl | rfl
      · exact .inl ⟨rfl, by decide +kernel⟩
      · exact .inr (.inl ⟨rfl, by decide +kernel⟩)
      · exact .inr (.inr ⟨rfl, by decide +kernel⟩)
      · exact absurd rfl e
    refine hd o hi _ _ (fun w' n S come a b c d t B st => hN _ _ ?_) fun w' n S a b c d t u => ⟨true, by decide +kernel, fun _ x hx => ?_, fun z => nomatch z⟩
    · try simp_arith []
      exact ⟨by omega, q1 w' n S come a b c d t B st⟩
    · try simp_arith [keepD, keepS]
      refine hN _ _ ?_
      try simp_arith []
      exact ⟨by omega, q2 w' n S a b c d t u⟩

/-! ### the table is numbered by first coming, and its backs lead back -/
def bkk (k : Nat) : Nat := k + 1 - 2 * (k % 2)
theorem bkk_lt {k l : Nat} (h : k < 2 * l) : bkk k < 2 * l := by unfold bkk; omega
theorem stp_bkk (k : Nat) : stp (bkk k) = -stp k := by
  unfold bkk stp
  by_cases e : k % 2 = 0
  · rw [if_neg (by omega), if_pos e]
    congr 2
    omega
  · rw [if_pos (by omega), if_neg e]
    rw [Int.neg_neg]
    congr 2
    omega
theorem growK_mono (st : Nat → Nat → Nat) (x : Nat) (c : List Nat) (k : Nat) : ∀ d, ∃ t, growK st x c (k + d) = growK st x c k ++ t
  | 0 => ⟨[], by simp⟩
  | d + 1 => by
    obtain ⟨t, ht⟩ := growK_mono st x c k d
    obtain ⟨u, hu⟩ := grow_pre st x (growK st x c (k + d)) (k + d)
    exact ⟨t ++ u, by rw [show k + (d + 1) = k + d + 1 by omega, growK_succ, hu, ht, List.append_assoc]⟩
theorem idx_pre {c t : List Nat} {y : Nat} (h : y ∈ c) : (c ++ t).idxOf y = c.idxOf y := by rw [List.idxOf_append, if_pos h]
section
variable {st : Nat → Nat → Nat} {m f : Nat} {come : List Nat}
theorem Bfs.pre (B : Bfs st m f come) {i x : Nat} (hx : come[i]? = some x) {k : Nat} (hk : k ≤ m) : ∃ t, come = growK st x (bfN st m i [f]) k ++ t := by
  have hi := (List.getElem?_eq_some_iff.mp hx).1
  obtain ⟨t, ht⟩ := bfN_pre st m (i + 1) [f] (come.length - (i + 1))
  rw [show i + 1 + (come.length - (i + 1)) = come.length by omega, B.eq] at ht
  have e : bfN st m (i + 1) [f] = growK st x (bfN st m i [f]) m := by rw [bfN, B.at hi, hx]
  obtain ⟨u, hu⟩ := growK_mono st x (bfN st m i [f]) k (m - k)
  rw [show k + (m - k) = m by omega] at hu
  exact ⟨u ++ t, by rw [← List.append_assoc, ← hu, ← e]; exact ht⟩
theorem Bfs.here (B : Bfs st m f come) {i : Nat} (hi : i < come.length) : i < (bfN st m i [f]).length := by
  have := B.at hi
  rw [List.getElem?_eq_getElem hi] at this
  exact (List.getElem?_eq_some_iff.mp this).1
theorem Bfs.next_len (B : Bfs st m f come) {i x : Nat} (hx : come[i]? = some x) : (bfN st m (i + 1) [f]).length = (growK st x (bfN st m i [f]) m).length := by
  have hi := (List.getElem?_eq_some_iff.mp hx).1
  rw [bfN, B.at hi, hx]
/-- the number of a room in a row: an earlier one, or the next one -/
theorem Bfs.num (B : Bfs st m f come) {i x : Nat} (hx : come[i]? = some x) {k : Nat} (hk : k < m) : come.idxOf (st x k) ≤ (growK st x (bfN st m i [f]) k).length ∧ (growK st x (bfN st m i [f]) (k + 1)).length = (growK st x (bfN st m i [f]) k).length + (if come.idxOf (st x k) = (growK st x (bfN st m i [f]) k).length then 1 else 0) := by
  obtain ⟨t, ht⟩ := B.pre hx (Nat.le_of_lt hk)
  obtain ⟨u, hu⟩ := B.pre hx (k := k + 1) hk
  rw [growK_succ] at hu ⊢
  generalize growK st x (bfN st m i [f]) k = c at *
  unfold grow at hu ⊢
  by_cases h : st x k ∈ c
  · rw [if_pos h] at hu ⊢
    have h1 : come.idxOf (st x k) < c.length := by
      rw [ht, idx_pre h]
      exact List.idxOf_lt_length_iff.mpr h
    exact ⟨by omega, by rw [if_neg (by omega)]; rfl⟩
  · rw [if_neg h] at hu ⊢
    have h1 : come.idxOf (st x k) = c.length := idxOf_nd B.nd (by rw [hu, List.append_assoc, List.getElem?_append_right (Nat.le_refl _), Nat.sub_self]; rfl)
    exact ⟨by omega, by rw [if_pos h1]; simp⟩
end
theorem map_ap {α : Type} (F : Nat → α) (come : List Nat) : come.map F = (List.range come.length).map fun i => F (ap come i) := List.ext_getElem (by simp) fun i h1 h2 => by
  simp at h1
  simp [ap, h1]

/-! ### the table of what is full -/
def mvS (st : Nat → Nat → Nat) (x : Nat) (ws : List Int) : Nat := ws.foldl (fun x s => st x (spot s)) x
theorem stp_spotZ {s : Int} (h : s ≠ 0) : stp (spot s) = s := by
  unfold spot stp
  split <;> split <;> omega
theorem spot_ltZ {s : Int} {l : Nat} (h : s ≠ 0 ∧ s.natAbs ≤ l) : spot s < 2 * l := by unfold spot; split <;> omega
theorem Bfs.gt {st : Nat → Nat → Nat} {l f : Nat} {come : List Nat} (B : Bfs st (2 * l) f come) (hc : come.length ≤ 5000) (hl : l ≤ 500) : GT come.length l (tabF st (2 * l) come) := by
  refine ⟨tabF_len _ _ _, B.pos, hc, hl, fun r hr => ?_, fun j h0 hj => ?_⟩
  · unfold tabF at hr
    obtain ⟨x, hx, rfl⟩ := List.mem_map.mp hr
    refine ⟨by simp, fun y hy => ?_⟩
    obtain ⟨k, hk, rfl⟩ := List.mem_map.mp hy
    exact (idxOf_at (B.closed hx (List.mem_range.mp hk))).2
  · obtain ⟨i, x, k, hi, hk, hx, hj⟩ := B.rch j h0 hj
    refine ⟨i, k, hi, hk, ?_⟩
    rw [tabF_row hx]
    unfold ap
    simp [hk, idxOf_nd B.nd hj]
theorem Bfs.walkS {st : Nat → Nat → Nat} {l f : Nat} {come : List Nat} (B : Bfs st (2 * l) f come) : ∀ {w : List Int} {i x : Nat}, come[i]? = some x → StT l w → come[lead (tabF st (2 * l) come) i w]? = some (mvS st x w)
  | [], _, _, h, _ => h
  | s :: w, i, x, h, hw => by
    have hk := spot_ltZ (hw s List.mem_cons_self)
    have hm := B.closed (List.mem_of_getElem? h) hk
    have e : ap (((tabF st (2 * l) come)[i]?).getD []) (spot s) = come.idxOf (st x (spot s)) := by
      rw [tabF_row h]
      unfold ap
      simp [hk]
    show come[lead (tabF st (2 * l) come) (ap (((tabF st (2 * l) come)[i]?).getD []) (spot s)) w]? = some (mvS st (st x (spot s)) w)
    rw [e]
    exact Bfs.walkS B (idxOf_at hm).1 fun y hy => hw y (List.mem_cons_of_mem _ hy)
section
variable {l n : Nat} {rules part : List (List Int)} {c : Str} {S : RS}
theorem stK_of {kn : List Kn} {x k t : Nat} (h : kv kn x (stp k) = some t) : stK kn x k = t := by unfold stK; rw [h]; rfl
theorem Fil.st (F : Fil l rules part c n S) (f : Full l c S) {x k : Nat} (hx : S.el[x]? = some x) (hk : k < 2 * l) : gr S.kn x (stp k) (stK S.kn x k) ∧ S.el[stK S.kn x k]? = some (stK S.kn x k) := by
  obtain ⟨t, ht⟩ := F.all f x hx k hk
  rw [stK_of ht]
  exact ⟨ht, (F.gd.1.ends _ _ _ ht).2⟩
theorem Fil.bk (F : Fil l rules part c n S) (f : Full l c S) {x k : Nat} (hx : S.el[x]? = some x) (hk : k < 2 * l) : stK S.kn (stK S.kn x k) (bkk k) = x := by
  have h := F.gd.1.back _ _ _ (F.st f hx hk).1
  rw [← stp_bkk] at h
  exact stK_of h
theorem Fil.wk (F : Fil l rules part c n S) (f : Full l c S) : ∀ {u : List Int} {x : Nat}, S.el[x]? = some x → StT l u → (My.wk S.kn x u).length = u.length + 1 ∧ (My.wk S.kn x u)[u.length]? = some (mvS (stK S.kn) x u)
  | [], x, _, _ => by simp [My.wk, mvS]
  | s :: u, x, hx, hu => by
    have h0 := hu s List.mem_cons_self
    obtain ⟨h1, h2⟩ := F.st f hx (spot_ltZ h0)
    rw [stp_spotZ h0.1] at h1
    obtain ⟨i1, i2⟩ := Fil.wk F f h2 (u := u) fun y hy => hu y (List.mem_cons_of_mem _ hy)
    rw [wk_some h1]
    refine ⟨by simp [i1], ?_⟩
    rw [List.length_cons, List.getElem?_cons_succ, i2]
    rfl
theorem Fil.round (F : Fil l rules part c n S) (f : Full l c S) {u : List Int} {x : Nat} (hx : S.el[x]? = some x) (hu : StT l u) (h : u ∈ rules ∨ (u ∈ part ∧ x = 0)) : mvS (stK S.kn) x u = x := by
  obtain ⟨w, hw⟩ := okW_mem.mpr h
  have hr := F.gd.2.2.1 w u x hw hx
  obtain ⟨h1, h2⟩ := F.wk f hx hu
  rcases hr with ⟨_, hr⟩ | ⟨hr, _⟩
  · rw [h2] at hr
    exact Option.some.inj hr
  · omega
theorem Fil.st0 (F : Fil l rules part c n S) : S.el[0]? = some 0 := by
  obtain ⟨G, _, _, h⟩ := F.gd
  exact (els_stand G (by omega)).mp (by have := root_le S.el 0; omega)
theorem Fil.come_le (F : Fil l rules part c n S) {come : List Nat} (nd : come.Nodup) (st : ∀ x ∈ come, S.el[x]? = some x) : come.length ≤ n := by
  have := nodup_len2 (m := List.range n) nd fun x hx => List.mem_range.mpr (by rw [← F.gd.1.elen]; exact stand_lt (st x hx))
  simpa using this
/-- each rule leads each room of the table round -/
theorem Fil.lead (F : Fil l rules part c n S) (f : Full l c S) {come : List Nat} (B : Bfs (stK S.kn) (2 * l) 0 come) (st : ∀ x ∈ come, S.el[x]? = some x) {i : Nat} (hi : i < come.length) {u : List Int} (hu : StT l u) (h : u ∈ rules ∨ (u ∈ part ∧ i = 0)) : My.lead (tabF (stK S.kn) (2 * l) come) i u = i := by
  obtain ⟨x, hx⟩ : ∃ x, come[i]? = some x := ⟨_, List.getElem?_eq_getElem hi⟩
  have hxs := st x (List.mem_of_getElem? hx)
  have h' : u ∈ rules ∨ (u ∈ part ∧ x = 0) := h.imp id fun ⟨a, b⟩ => ⟨a, by
    subst b
    have := B.c0
    rw [hx] at this
    exact Option.some.inj this⟩
  have h1 := B.walkS hx hu
  rw [F.round f hxs hu h'] at h1
  exact nodup_same B.nd h1 hx
end
theorem Sm.tab {n l : Nat} {S T : RS} (h : Sm n S T) {c1 c2 : List Nat} (B1 : Bfs (stK S.kn) (2 * l) 0 c1) (B2 : Bfs (stK T.kn) (2 * l) 0 c2) : tabF (stK S.kn) (2 * l) c1 = tabF (stK T.kn) (2 * l) c2 := by
  have e : stK S.kn = stK T.kn := by
    funext x k
    unfold stK
    rw [h.same_kv]
  rw [e] at B1 ⊢
  rw [B1.uniq B2]

/-! ### the rows that a filling tells are true of points -/
inductive Rw3 where
  | nw (r : Nat) (s : Int) (n : Nat)
  | rl (which : Nat) (path : List Nat) (k : Nat)
  | mt (q : Mr)
def rw3D : Rw3 → D
  | .nw r s n => newR r s n
  | .rl w p k => ruleR w p k
  | .mt q => mtD q
def stepP (ts : List (List Nat)) (pts : List Nat) : Rw3 → List Nat
  | .nw r s _ => pts ++ [ap (tn ts s) (ap pts r)]
  | _ => pts
def ptsO (ts : List (List Nat)) (f : Nat) (rows : List Rw3) : List Nat := rows.foldl (stepP ts) [f]
theorem ptsO_snoc (ts : List (List Nat)) (f : Nat) (rows : List Rw3) (x : Rw3) : ptsO ts f (rows ++ [x]) = stepP ts (ptsO ts f rows) x := by simp [ptsO]
def StepOk (ts : List (List Nat)) (words : List (List Int)) (pts : List Nat) : Rw3 → Prop
  | .nw r s n => r < pts.length ∧ (s ≠ 0 ∧ s.natAbs ≤ ts.length) ∧ n = pts.length
  | .rl which path k => ∃ u s a b, words[which]? = some u ∧ path.length = u.length + 1 ∧ u[k]? = some s ∧ path[k]? = some a ∧ path[k + 1]? = some b ∧ a < pts.length ∧ b < pts.length ∧ (s ≠ 0 ∧ s.natAbs ≤ ts.length) ∧ ap pts b = ap (tn ts s) (ap pts a)
  | .mt q => q.2.2.1 < pts.length ∧ q.2.2.2 < pts.length ∧ ap pts q.2.2.1 = ap pts q.2.2.2
def TRok (ts : List (List Nat)) (words : List (List Int)) (f : Nat) (rows : List Rw3) : Prop := ∀ pre x post, rows = pre ++ x :: post → StepOk ts words (ptsO ts f pre) x
theorem TRok.snoc {ts : List (List Nat)} {words : List (List Int)} {f : Nat} {rows : List Rw3} {x : Rw3} (h : TRok ts words f rows) (hx : StepOk ts words (ptsO ts f rows) x) : TRok ts words f (rows ++ [x]) := by
  intro pre y post e
  rcases List.eq_nil_or_concat post with rfl | ⟨post', z, rfl⟩
  · obtain ⟨e1, e2⟩ := List.append_inj' e rfl
    cases e2
    subst e1
    exact hx
  · rw [List.concat_eq_append, ← List.cons_append, ← List.append_assoc] at e
    obtain ⟨e1, _⟩ := List.append_inj' e rfl
    exact h pre y post' e1
theorem TRok.mts {ts : List (List Nat)} {words : List (List Int)} {f : Nat} : ∀ {ms : List Mr} {rows : List Rw3}, TRok ts words f rows → (∀ q ∈ ms, q.2.2.1 < (ptsO ts f rows).length ∧ q.2.2.2 < (ptsO ts f rows).length ∧ ap (ptsO ts f rows) q.2.2.1 = ap (ptsO ts f rows) q.2.2.2) → TRok ts words f (rows ++ ms.map .mt) ∧ ptsO ts f (rows ++ ms.map .mt) = ptsO ts f rows
  | [], rows, h, _ => by simpa using h
  | q :: ms, rows, h, hq => by
    have h1 := h.snoc (x := .mt q) (hq q List.mem_cons_self)
    have e : ptsO ts f (rows ++ [.mt q]) = ptsO ts f rows := ptsO_snoc _ _ _ _
    obtain ⟨a, b⟩ := TRok.mts (ms := ms) h1 (by rw [e]; exact fun x hx => hq x (List.mem_cons_of_mem _ hx))
    rw [List.append_assoc] at a b
    exact ⟨a, b.trans e⟩
/-- meetings put rooms of one point together -/
theorem Mt.true {Q Q' : Wy} {ms : List Mr} {g : Nat → Nat} (h : Mt Q ms Q' g) {ts : List (List Nat)} {pts : List Nat} (hQ : ∀ r s t, Q r s t → r < pts.length ∧ t < pts.length ∧ ap pts t = ap (tn ts s) (ap pts r)) : ∀ q ∈ ms, q.2.2.1 < pts.length ∧ q.2.2.2 < pts.length ∧ ap pts q.2.2.1 = ap pts q.2.2.2 := by
  induction h with
  | nil => intro q hq; cases hq
  | @cons Q Q' a s less more ms g h1 h2 h3 _ ih =>
    obtain ⟨a1, a2, a3⟩ := hQ _ _ _ h1
    obtain ⟨b1, b2, b3⟩ := hQ _ _ _ h2
    have e : ap pts less = ap pts more := a3.trans b3.symm
    have hr : ∀ x, x < pts.length → rn less more x < pts.length ∧ ap pts (rn less more x) = ap pts x := fun x hx => by
      unfold rn
      split
      · next h => subst h; exact ⟨a2, e⟩
      · exact ⟨hx, rfl⟩
    intro q hq
    rcases List.mem_cons.mp hq with rfl | hq
    · exact ⟨a2, b2, e⟩
    · refine ih (fun r s' t hren => ?_) q hq
      obtain ⟨c, d, hc, rfl, rfl⟩ := hren
      obtain ⟨c1, c2, c3⟩ := hQ _ _ _ hc
      obtain ⟨d1, d2⟩ := hr c c1
      obtain ⟨d3, d4⟩ := hr d c2
      exact ⟨d1, d3, by rw [d2, d4]; exact c3⟩
theorem lay_rows {pp n B : Nat} {ts : List (List Nat)} {words : List (List Int)} {f : Nat} {rows : List Rw3} {S S' : RS} {a b : Nat} {s : Int} {x : Rw3} (tns : Tns pp ts) (ht : S.told = rows.map rw3D) (h : TRok ts words f rows) (T : Tru pp ts (ptsO ts f rows) n S) (G : Gd n B S.el S.kn) (L : LayOk n B S S' a s b (rw3D x)) (ha : a < n) (hb : b < n) (hs : s ≠ 0 ∧ s.natAbs ≤ ts.length)
    (key : ap (ptsO ts f rows) b = ap (tn ts s) (ap (ptsO ts f rows) a)) (hx : StepOk ts words (ptsO ts f rows) x) (hp : stepP ts (ptsO ts f rows) x = ptsO ts f rows) :
    ∃ rows', S'.told = rows'.map rw3D ∧ TRok ts words f rows' ∧ ptsO ts f rows' = ptsO ts f rows ∧ Tru pp ts (ptsO ts f rows) n S' := by
  obtain ⟨ms, g, hm, _, ht', _⟩ := L.mt
  have h1 := h.snoc hx
  have e1 : ptsO ts f (rows ++ [x]) = ptsO ts f rows := (ptsO_snoc _ _ _ _).trans hp
  have hlt := T.len
  have hms := hm.true (ts := ts) (pts := ptsO ts f rows) fun r s' t hq => by
    rcases hq with hq | ⟨rfl, rfl, rfl⟩ | ⟨rfl, rfl, rfl⟩
    · obtain ⟨g1, g2⟩ := G.ends _ _ _ hq
      have l1 := stand_lt g1
      have l2 := stand_lt g2
      rw [G.elen] at l1 l2
      exact ⟨by omega, by omega, T.gr _ _ _ hq⟩
    · exact ⟨by omega, by omega, key⟩
    · refine ⟨by omega, by omega, ?_⟩
      rw [key]
      exact ((tn_neg tns hs).2 _ (ap_lt' T.lt (by omega))).symm
  obtain ⟨h2, e2⟩ := TRok.mts (ms := ms) h1 (by rw [e1]; exact hms)
  exact ⟨rows ++ [x] ++ ms.map .mt, by rw [ht', ht]; simp [rw3D, Function.comp_def], h2, e2.trans e1, tru_lay tns T G L ha hs key⟩
theorem cl_rows {pp n B : Nat} {ts : List (List Nat)} {f : Nat} {rules part : List (List Int)} {S S' : RS} (tns : Tns pp ts) (cl : Cl n B rules part S S') (G : Gd n B S.el S.kn) (hst : ∀ u ∈ rules ++ part, StT ts.length u) (hr : ∀ u ∈ rules, ∀ x, x < pp → mv ts x u = x) (hp : ∀ u ∈ part, mv ts f u = f)
    {rows : List Rw3} (ht : S.told = rows.map rw3D) (h : TRok ts (rules ++ part) f rows) (T : Tru pp ts (ptsO ts f rows) n S) (h0 : ap (ptsO ts f rows) 0 = f) :
    ∃ rows', S'.told = rows'.map rw3D ∧ TRok ts (rules ++ part) f rows' ∧ ptsO ts f rows' = ptsO ts f rows ∧ Tru pp ts (ptsO ts f rows) n S' ∧ Gd n B S'.el S'.kn := by
  induction cl with
  | refl => exact ⟨rows, ht, h, rfl, T, G⟩
  | @step S1 S2 which u room k path a b s _ hok hstd rr ha hsu hb L ih =>
    obtain ⟨rows1, ht1, h1, e1, T1, G1⟩ := ih
    have rn : room < n := by rw [← G1.elen]; exact stand_lt hstd
    have hF : ∀ (i x : Nat), path[i]? = some x → ap (ptsO ts f rows) ((path[i]?).getD 0) = ap (ptsO ts f rows) x := fun i x h => by rw [h]; rfl
    have hpl : ∀ i, i ≤ u.length → ∃ x, path[i]? = some x ∧ x < n := fun i hi => by
      obtain ⟨x, hx⟩ : ∃ x, path[i]? = some x := ⟨_, List.getElem?_eq_getElem (by rw [rr.len]; omega)⟩
      exact ⟨x, hx, by rw [← G1.elen]; exact stand_lt (rr.st x (List.mem_of_getElem? hx))⟩
    have hu := hst u (List.mem_of_getElem? hok.1)
    have key := mv_gap (F := fun i => ap (ptsO ts f rows) ((path[i]?).getD 0)) tns hu (fun i hi => by
      obtain ⟨x, hx, hxn⟩ := hpl i hi
      show ap (ptsO ts f rows) ((path[i]?).getD 0) < pp
      rw [hF i x hx]
      exact ap_lt' T1.lt (by rw [T1.len]; exact hxn)) rr.lt hsu (fun i x hi hx => by
        have hil := (List.getElem?_eq_some_iff.mp hx).1
        obtain ⟨c, hc, _⟩ := hpl i (by omega)
        obtain ⟨d, hd, _⟩ := hpl (i + 1) (by omega)
        show ap (ptsO ts f rows) ((path[i + 1]?).getD 0) = ap (tn ts x) (ap (ptsO ts f rows) ((path[i]?).getD 0))
        rw [hF i c hc, hF (i + 1) d hd]
        exact T1.gr _ _ _ (rr.ways i x c d hi hx hc hd)) (by
        show ap (ptsO ts f rows) ((path[u.length]?).getD 0) = ap (ptsO ts f rows) ((path[0]?).getD 0)
        rw [hF _ _ rr.pl, hF _ _ rr.p0]) (by
        show mv ts (ap (ptsO ts f rows) ((path[0]?).getD 0)) u = ap (ptsO ts f rows) ((path[0]?).getD 0)
        rw [hF _ _ rr.p0]
        rcases okW_mem.mp ⟨which, hok⟩ with h | ⟨h, e⟩
        · exact hr u h _ (ap_lt' T1.lt (by rw [T1.len]; exact rn))
        · subst e
          rw [h0]
          exact hp u h)
    replace key : ap (ptsO ts f rows) ((path[k + 1]?).getD 0) = ap (tn ts s) (ap (ptsO ts f rows) ((path[k]?).getD 0)) := key
    rw [hF k a ha, hF (k + 1) b hb] at key
    have han : a < n := by rw [← G1.elen]; exact stand_lt (rr.st a (List.mem_of_getElem? ha))
    have hbn : b < n := by rw [← G1.elen]; exact stand_lt (rr.st b (List.mem_of_getElem? hb))
    have hsm := hu s (List.mem_of_getElem? hsu)
    have hln := T1.len
    rw [← e1] at key T1 hln
    obtain ⟨rows2, q1, q2, q3, q4⟩ := lay_rows (x := .rl which path k) tns ht1 h1 T1 G1 L han hbn hsm key ⟨u, s, a, b, hok.1, rr.len, hsu, ha, hb, by omega, by omega, hsm, key⟩ rfl
    exact ⟨rows2, q1, q2, q3.trans e1, by rw [← e1]; exact q4, L.gd⟩
/-- of a filling -/
theorem Fil.rows {pp : Nat} {ts : List (List Nat)} {f n : Nat} {rules part : List (List Int)} {c : Str} {S : RS} (tns : Tns pp ts) (hf : f < pp) (F : Fil ts.length rules part c n S) (hst : ∀ u ∈ rules ++ part, StT ts.length u) (hr : ∀ u ∈ rules, ∀ x, x < pp → mv ts x u = x) (hp : ∀ u ∈ part, mv ts f u = f) :
    ∃ rows, S.told = rows.map rw3D ∧ TRok ts (rules ++ part) f rows ∧ Tru pp ts (ptsO ts f rows) n S ∧ ap (ptsO ts f rows) 0 = f := by
  induction F with
  | start cl cd e =>
    have T0 : Tru pp ts (ptsO ts f []) 1 (S0r ts.length) := ⟨rfl, fun x hx => by simp [ptsO] at hx; omega, fun x hx => by
      show ap [f] (root [0] x) = ap [f] x
      rw [root_one x hx]
      congr 1
      omega, fun r s t h => (gr0 h).elim⟩
    obtain ⟨rows, q1, q2, q3, q4, _⟩ := cl_rows (rows := []) tns cl (gd0 _) hst hr hp rfl (fun pre x post e => by simp at e) T0 rfl
    exact ⟨rows, q1, q2, by rw [q3]; exact q4, by rw [q3]; rfl⟩
  | @next n r k S S1 F hb cl cd e ih =>
    obtain ⟨rows, q1, q2, q3, q4⟩ := ih
    obtain ⟨G, hSl, _, hn1⟩ := F.gd
    obtain ⟨a1, a2, a3, a4⟩ := best_at G hb
    have hsm := stp_ok a2
    have hrn : r < n := by rw [← G.elen]; exact stand_lt a1
    have hl := q3.len
    have T1 := tru_mk tns q3 G a1 a3 a4 hsm
    have e1 : ptsO ts f (rows ++ [Rw3.nw r (stp k) (ptsO ts f rows).length]) = ptsO ts f rows ++ [ap (tn ts (stp k)) (ap (ptsO ts f rows) r)] := ptsO_snoc _ _ _ _
    rw [← e1] at T1
    have h1 := q2.snoc (x := .nw r (stp k) (ptsO ts f rows).length) ⟨by omega, hsm, rfl⟩
    have ht1 : (S.mk1 r (stp k)).told = (rows ++ [Rw3.nw r (stp k) (ptsO ts f rows).length]).map rw3D := by
      show S.told ++ [newR r (stp k) S.el.length] = _
      rw [q1, G.elen, ← hl]
      simp [rw3D]
    have h0 : ap (ptsO ts f (rows ++ [Rw3.nw r (stp k) (ptsO ts f rows).length])) 0 = f := by
      rw [e1, ap_left _ _ (by omega)]
      exact q4
    obtain ⟨rows2, p1, p2, p3, p4, _⟩ := cl_rows tns cl (mk_ok G a1 a3 a4).1 hst hr hp ht1 h1 T1 h0
    exact ⟨rows2, p1, p2, by rw [p3]; exact p4, by rw [p3]; exact h0⟩

/-! SPLIT -/
/-! ### one letter: the rooms stand in a line till the least word is full -/
structure Line (n : Nat) (S : RS) (p : Nat → Int) (v : Int → Nat) (lo : Int) : Prop where
  b : ∀ r, r < n → lo ≤ p r ∧ p r < lo + n
  vv : ∀ z, lo ≤ z → z < lo + n → v z < n ∧ p (v z) = z
  vp : ∀ r, r < n → v (p r) = r
  p0 : p 0 = 0
  g : ∀ r t s, (s = 1 ∨ s = -1) → r < n → t < n → (gr S.kn r s t ↔ p t = p r + s)
  rt : ∀ r, r < n → root S.el r = r
theorem stp01 {k : Nat} (h : k < 2) : (k = 0 ∧ stp k = 1) ∨ (k = 1 ∧ stp k = -1) := by
  rcases (show k = 0 ∨ k = 1 by omega) with rfl | rfl
  · exact .inl ⟨rfl, rfl⟩
  · exact .inr ⟨rfl, rfl⟩
theorem line1 : Line 1 (S0r 1) (fun _ => 0) (fun _ => 0) 0 where
  b := fun r h => by simp
  vv := fun z h1 h2 => ⟨by omega, by omega⟩
  vp := fun r h => by omega
  p0 := rfl
  g := fun r t s hs _ _ => ⟨fun h => (gr0 h).elim, fun h => by rcases hs with rfl | rfl <;> simp at h⟩
  rt := fun r h => by
    show root [0] r = r
    rw [root_one r h]
    omega
theorem Line.st {n : Nat} {S : RS} {p : Nat → Int} {v : Int → Nat} {lo : Int} (L : Line n S p v lo) (G : Gd n 1 S.el S.kn) {r : Nat} (h : r < n) : S.el[r]? = some r := (els_stand G h).mp (L.rt r h)
theorem Line.kv {n : Nat} {S : RS} {p : Nat → Int} {v : Int → Nat} {lo : Int} (L : Line n S p v lo) {r : Nat} {s : Int} (hs : s = 1 ∨ s = -1) (h : r < n) (h1 : lo ≤ p r + s) (h2 : p r + s < lo + n) : My.kv S.kn r s = some (v (p r + s)) :=
  (L.g r _ s hs h (L.vv _ h1 h2).1).mpr (L.vv _ h1 h2).2
theorem Line.kvn {n : Nat} {S : RS} {p : Nat → Int} {v : Int → Nat} {lo : Int} (L : Line n S p v lo) (G : Gd n 1 S.el S.kn) {r t : Nat} {s : Int} (hs : s = 1 ∨ s = -1) (h : r < n) (hk : My.kv S.kn r s = some t) : t < n ∧ p t = p r + s := by
  have ht : t < n := by rw [← G.elen]; exact stand_lt (G.ends _ _ _ hk).2
  exact ⟨ht, (L.g r t s hs h ht).mp hk⟩
/-- how far a walk goes at most -/
theorem Line.wk {n : Nat} {S : RS} {p : Nat → Int} {v : Int → Nat} {lo : Int} (L : Line n S p v lo) (G : Gd n 1 S.el S.kn) {s : Int} (hs : s = 1 ∨ s = -1) : ∀ (j r : Nat), r < n → ((My.wk S.kn r (List.replicate j s)).length : Int) ≤ if s = 1 then lo + n - p r else p r - lo + 1
  | 0, r, h => by
    have := L.b r h
    simp [My.wk]
    split <;> omega
  | j + 1, r, h => by
    have hb := L.b r h
    rw [List.replicate_succ]
    cases e : My.kv S.kn r s with
    | none =>
      rw [wk_none e]
      simp
      split <;> omega
    | some t =>
      obtain ⟨ht, hp⟩ := L.kvn G hs h e
      have ih := Line.wk L G hs j t ht
      rw [wk_some e]
      simp only [List.length_cons]
      rcases hs with rfl | rfl
      · simp at ih ⊢; omega
      · simp at ih ⊢; omega
theorem bkW_rep (j : Nat) (s : Int) : bkW (List.replicate j s) = List.replicate j (-s) := by simp [bkW]
theorem Line.rounded {n m : Nat} {S : RS} {p : Nat → Int} {v : Int → Nat} {lo : Int} (L : Line n S p v lo) (G : Gd n 1 S.el S.kn) {s : Int} (hs : s = 1 ∨ s = -1) (hm : n < m) {r : Nat} (h : r < n) : Rounded S.kn (List.replicate m s) r := by
  have h1 := L.wk G hs m r h
  have hb := L.b r h
  obtain ⟨X, hX⟩ : ∃ X, X = (My.wk S.kn r (List.replicate m s)).length := ⟨_, rfl⟩
  have h2 := L.wk G (s := -s) (by omega) (m - X) r h
  refine .inr ?_
  rw [List.drop_replicate, bkW_rep, ← hX, List.length_replicate]
  rw [← hX] at h1
  rcases hs with rfl | rfl
  · simp at h1 h2 ⊢; omega
  · simp at h1 h2 ⊢; omega
theorem Line.more {n : Nat} {S : RS} {p : Nat → Int} {v : Int → Nat} {lo : Int} (L : Line n S p v lo) (G : Gd n 1 S.el S.kn) (hn : 1 ≤ n) {r : Nat} {s : Int} (hs : s = 1 ∨ s = -1) (hr : r < n) (hk : My.kv S.kn r s = none) : ∃ p' v' lo', Line (n + 1) (S.mk1 r s) p' v' lo' := by
  have hst := L.st G hr
  obtain ⟨G', a1, a2, a3⟩ := mk_ok G hst hk (by omega)
  have hb := L.b r hr
  have hend : ¬ (lo ≤ p r + s ∧ p r + s < lo + n) := fun ⟨h1, h2⟩ => by
    rw [L.kv hs hr h1 h2] at hk; cases hk
  have hgn : ∀ {x t : Nat} {z : Int}, gr S.kn x z t → x < n ∧ t < n := fun {x t z} h => by
    obtain ⟨e1, e2⟩ := G.ends _ _ _ h
    rw [← G.elen]
    exact ⟨stand_lt e1, stand_lt e2⟩
  refine ⟨fun x => if x = n then p r + s else p x, fun z => if z = p r + s then n else v z, if s = 1 then lo else lo - 1, ⟨fun x hx => ?_, fun z h1 h2 => ?_, fun x hx => ?_, ?_, fun x t z hz hx ht => ?_, fun x hx => ?_⟩⟩
  · by_cases e : x = n
    · simp only [e, if_true]; split <;> omega
    · have := L.b x (by omega)
      simp only [e, if_false]; split <;> omega
  · by_cases e : z = p r + s
    · simp only [e, if_true]; exact ⟨by omega, trivial⟩
    · have hz : lo ≤ z ∧ z < lo + n := by split at h1 <;> split at h2 <;> omega
      obtain ⟨h3, h4⟩ := L.vv z hz.1 hz.2
      have : v z ≠ n := by omega
      simp only [e, if_false, this]
      exact ⟨by omega, h4⟩
  · by_cases e : x = n
    · simp [e]
    · have hb := L.b x (by omega)
      have : p x ≠ p r + s := by omega
      simp only [e, if_false, this]
      exact L.vp x (by omega)
  · have : (0 : Nat) ≠ n := by omega
    simp only [this, if_false]
    exact L.p0
  · rw [a1]
    by_cases ex : x = n <;> by_cases et : t = n
    · subst ex; subst et
      simp only [if_true]
      refine ⟨?_, fun h => by omega⟩
      rintro (h | ⟨h, _⟩ | ⟨h, _⟩)
      · have := (hgn h).1; omega
      · omega
      · omega
    · simp only [ex, et, if_true, if_false]
      have htn : t < n := by omega
      refine ⟨?_, fun h => ?_⟩
      · rintro (h | ⟨h, _⟩ | ⟨h1, h2, _⟩)
        · have := (hgn h).1; omega
        · omega
        · rw [h1, h2]; omega
      · have hbt := L.b t htn
        have hzs : z = -s := by omega
        have h2 : p t = p r := by omega
        have h3 : t = r := by rw [← L.vp t htn, h2, L.vp r hr]
        exact .inr (.inr ⟨h3, hzs, rfl⟩)
    · simp only [ex, et, if_true, if_false]
      have hxn : x < n := by omega
      refine ⟨?_, fun h => ?_⟩
      · rintro (h | ⟨h1, h2, _⟩ | ⟨h, _, h2⟩)
        · have := (hgn h).2; omega
        · rw [h1, h2]
        · omega
      · have hbt := L.b x hxn
        have hzs : z = s := by omega
        have h2 : p x = p r := by omega
        have h3 : x = r := by rw [← L.vp x hxn, h2, L.vp r hr]
        exact .inr (.inl ⟨h3, hzs, rfl⟩)
    · simp only [ex, et, if_false]
      rw [← L.g x t z hz (by omega) (by omega)]
      refine ⟨?_, .inl⟩
      rintro (h | ⟨_, _, h⟩ | ⟨_, _, h⟩)
      · exact h
      · omega
      · omega
  · by_cases e : x = n
    · rw [e]; exact a3
    · rw [a2 x (by omega)]; exact L.rt x (by omega)
theorem Line.sm {n : Nat} {S T : RS} {p : Nat → Int} {v : Int → Nat} {lo : Int} (L : Line n S p v lo) (h : Sm n S T) : Line n T p v lo :=
  ⟨L.b, L.vv, L.vp, L.p0, fun r t s a b c => by rw [← h.g]; exact L.g r t s a b c, fun r hr => by rw [← h.r r hr]; exact L.rt r hr⟩
/-- what the words are: need the least of them -/
structure Wd (rules part : List (List Int)) (need : Nat) : Prop where
  all : ∀ u ∈ rules ++ part, ∃ (s : Int) (m : Nat), (s = 1 ∨ s = -1) ∧ u = List.replicate m s ∧ need ≤ m
  one : ∃ (s : Int), (s = 1 ∨ s = -1) ∧ List.replicate need s ∈ rules ++ part
  pos : 1 ≤ need
theorem Line.closed {n need : Nat} {rules part : List (List Int)} {S : RS} {p : Nat → Int} {v : Int → Nat} {lo : Int} (W : Wd rules part need) (L : Line n S p v lo) (G : Gd n 1 S.el S.kn) (h : n < need) : Closed rules part S := fun which u room hok hst => by
  obtain ⟨s, m, hs, rfl, hm⟩ := W.all u (List.mem_of_getElem? hok.1)
  exact L.rounded G hs (by omega) (by rw [← G.elen]; exact stand_lt hst)
theorem Line.go {n need : Nat} {rules part : List (List Int)} {S S1 : RS} {p : Nat → Int} {v : Int → Nat} {lo : Int} (W : Wd rules part need) (L : Line n S p v lo) (G : Gd n 1 S.el S.kn) (h : n < need) (cl : Cl n 1 rules part S S1) (cd : Closed rules part S1) : Line n S1 p v lo :=
  L.sm (cl_same (l := 1) (rules' := rules) (part' := part) G G ⟨fun _ _ => rfl, fun _ _ _ => Iff.rfl⟩ (.refl S) cl (L.closed W G h) cd fun _ _ => Iff.rfl)
theorem Line.open {n : Nat} {c : Str} {rules part : List (List Int)} {S : RS} {p : Nat → Int} {v : Int → Nat} {lo : Int} (L : Line n S p v lo) (F : Fil 1 rules part c n S) : ¬ Full 1 c S := fun f => by
  obtain ⟨G, _, _, hn⟩ := F.gd
  obtain ⟨h1, h2⟩ := L.vv (lo + n - 1) (by omega) (by omega)
  obtain ⟨t, ht⟩ := F.all f _ (L.st G h1) 0 (by omega)
  obtain ⟨h3, h4⟩ := L.kvn G (s := 1) (.inl rfl) h1 ht
  have := L.b t h3
  omega
/-- the last room closes the ring -/
theorem Line.shut {need : Nat} {c : Str} {rules part : List (List Int)} {S S1 : RS} {p : Nat → Int} {v : Int → Nat} {lo : Int} (W : Wd rules part need) (L : Line need S p v lo) (G : Gd need 1 S.el S.kn) (cl : Cl need 1 rules part S S1) (cd : Closed rules part S1) : Full 1 c S1 := by
  obtain ⟨G1, im, rt⟩ := cl_img cl G
  obtain ⟨s, hs, hu⟩ := W.one
  have hpos := W.pos
  have hb0 := L.b 0 (by omega)
  rw [L.p0] at hb0
  have r0 : root S1.el 0 = 0 := by have := root_le S1.el 0; omega
  have st0 : S1.el[0]? = some 0 := (els_stand G1 (by omega)).mp r0
  have v0 : v 0 = 0 := by rw [← L.p0]; exact L.vp 0 (by omega)
  have rst : ∀ x, x < need → S1.el[root S1.el x]? = some (root S1.el x) := fun x hx => root_st G1.ok x (by rw [G1.elen]; exact hx)
  have hstep : ∀ (z : Int) (d : Int), (d = 1 ∨ d = -1) → lo ≤ z → z < lo + need → lo ≤ z + d → z + d < lo + need → My.kv S1.kn (root S1.el (v z)) d = some (root S1.el (v (z + d))) := fun z d hd h1 h2 h3 h4 => by
    obtain ⟨a1, a2⟩ := L.vv z h1 h2
    have := im _ _ _ ((L.g (v z) (v (z + d)) d hd a1 (L.vv _ h3 h4).1).mpr (by rw [a2, (L.vv _ h3 h4).2]))
    exact this
  -- steps ahead and back from room 0
  obtain ⟨f, hf, hfl⟩ : ∃ f : Nat, f < need ∧ (if s = 1 then (f : Int) = lo + need - 1 else (f : Int) = -lo) := by
    rcases hs with rfl | rfl
    · exact ⟨(lo + need - 1).toNat, by omega, by rw [if_pos rfl]; omega⟩
    · exact ⟨(-lo).toNat, by omega, by rw [if_neg (by omega)]; omega⟩
  have hrange : ∀ i : Nat, i ≤ f → lo ≤ s * (i : Int) ∧ s * (i : Int) < lo + need := fun i hi => by
    rcases hs with rfl | rfl
    · simp at hfl ⊢; omega
    · simp at hfl ⊢; omega
  have hrangeb : ∀ i : Nat, i + f < need → lo ≤ -s * (i : Int) ∧ -s * (i : Int) < lo + need := fun i hi => by
    rcases hs with rfl | rfl
    · simp at hfl ⊢; omega
    · simp at hfl ⊢; omega
  have mulS : ∀ (d : Int) (i : Nat), (d = 1 ∨ d = -1) → d * ((i + 1 : Nat) : Int) = d * (i : Int) + d := fun d i hd => by
    rcases hd with rfl | rfl <;> omega
  have fwd : ∀ (w : List Int) k, k ≤ w.length → k ≤ f → (∀ x ∈ w, x = s) → k < (My.wk S1.kn 0 w).length ∧ ∀ i, i ≤ k → (My.wk S1.kn 0 w)[i]? = some (root S1.el (v (s * (i : Int)))) := fun w k hk hkf hw => by
    have := wk_max S1.kn k w (fun i => root S1.el (v (s * (i : Int)))) hk fun i x hi hx => by
      have hx := hw x (List.mem_of_getElem? hx)
      subst hx
      have h1 := hrange i (by omega)
      have h2 := hrange (i + 1) (by omega)
      have h3 := mulS x i hs
      show My.kv S1.kn (root S1.el (v (x * (i : Int)))) x = some (root S1.el (v (x * ((i + 1 : Nat) : Int))))
      rw [h3] at h2 ⊢
      exact hstep _ _ hs h1.1 h1.2 h2.1 h2.2
    simpa [v0, r0] using this
  have hs' : -s = 1 ∨ -s = -1 := by omega
  have bwd : ∀ (w : List Int) k, k ≤ w.length → k + f < need → (∀ x ∈ w, x = -s) → k < (My.wk S1.kn 0 w).length ∧ ∀ i, i ≤ k → (My.wk S1.kn 0 w)[i]? = some (root S1.el (v (-s * (i : Int)))) := fun w k hk hkf hw => by
    have := wk_max S1.kn k w (fun i => root S1.el (v (-s * (i : Int)))) hk fun i x hi hx => by
      have hx := hw x (List.mem_of_getElem? hx)
      subst hx
      have h1 := hrangeb i (by omega)
      have h2 := hrangeb (i + 1) (by omega)
      have h3 := mulS (-s) i hs'
      show My.kv S1.kn (root S1.el (v (-s * (i : Int)))) (-s) = some (root S1.el (v (-s * ((i + 1 : Nat) : Int))))
      rw [h3] at h2 ⊢
      exact hstep _ _ hs' h1.1 h1.2 h2.1 h2.2
    simpa [v0, r0] using this
  have hround : (My.wk S1.kn 0 (List.replicate need s)).length = need + 1 ∧ (My.wk S1.kn 0 (List.replicate need s))[need]? = some 0 := by
    obtain ⟨w, hw⟩ := okW_mem (rules := rules) (part := part) (u := List.replicate need s) (room := 0) |>.mpr (by
      rcases List.mem_append.mp hu with h | h
      · exact .inl h
      · exact .inr ⟨h, rfl⟩)
    have hr := cd w _ 0 hw st0
    unfold Rounded at hr
    rw [List.length_replicate] at hr
    rcases hr with hr | ⟨h1, h2⟩
    · exact hr
    · exfalso
      rw [List.drop_replicate, bkW_rep] at h2
      obtain ⟨X, hX⟩ : ∃ X, X = (My.wk S1.kn 0 (List.replicate need s)).length := ⟨_, rfl⟩
      rw [← hX] at h1 h2
      have h3 := (fwd (List.replicate need s) f (by simp; omega) (Nat.le_refl _) (fun x hx => (List.mem_replicate.mp hx).2)).1
      rw [← hX] at h3
      have h4 := (bwd (List.replicate (need - X) (-s)) (need - X) (by simp) (by omega) (fun x hx => (List.mem_replicate.mp hx).2)).1
      omega
  obtain ⟨hl, he⟩ := hround
  have hF := (fwd (List.replicate need s) f (by simp; omega) (Nat.le_refl _) (fun x hx => (List.mem_replicate.mp hx).2)).2
  obtain ⟨y, hy⟩ : ∃ y : Nat → Nat, y = fun i => ((My.wk S1.kn 0 (List.replicate need s))[i]?).getD 0 := ⟨_, rfl⟩
  have hyg : ∀ i, i ≤ need → (My.wk S1.kn 0 (List.replicate need s))[i]? = some (y i) := fun i hi => by
    simp only [hy]
    rw [List.getElem?_eq_getElem (by omega)]
    rfl
  have hys : ∀ i, i < need → My.kv S1.kn (y i) s = some (y (i + 1)) := fun i hi => wk_step S1.kn _ 0 i _ _ s (hyg i (by omega)) (hyg (i + 1) (by omega)) (by rw [List.getElem?_replicate, if_pos hi])
  have hyb : ∀ i, i < need → My.kv S1.kn (y (i + 1)) (-s) = some (y i) := fun i hi => G1.back _ _ _ (hys i hi)
  -- the room ahead of the end, both ways
  have yf : y f = root S1.el (v (s * (f : Int))) := Option.some.inj ((hyg f (by omega)).symm.trans (hF f (Nat.le_refl _)))
  have yb : ∀ i : Nat, i + f < need → y (need - i) = root S1.el (v (-s * (i : Int))) := fun i => by
    induction i with
    | zero => intro _; have h := (hyg need (Nat.le_refl _)).symm.trans he; simp [v0, r0]; exact Option.some.inj h
    | succ i ih =>
      intro hi
      have e := ih (by omega)
      have h1 := hrangeb i (by omega)
      have h2 := hrangeb (i + 1) (by omega)
      have h3 := mulS (-s) i hs'
      have h4 := hyb (need - (i + 1)) (by omega)
      rw [show need - (i + 1) + 1 = need - i by omega, e] at h4
      rw [h3] at h2 ⊢
      rw [hstep _ _ hs' h1.1 h1.2 h2.1 h2.2] at h4
      exact (Option.some.inj h4).symm
  have yl := yb (need - 1 - f) (by omega)
  have key : ∀ (x : Nat), S1.el[x]? = some x → ∀ d : Int, d = 1 ∨ d = -1 → ∃ t, My.kv S1.kn x d = some t := fun x hx d hd => by
    have hxn : x < need := by rw [← G1.elen]; exact stand_lt hx
    have rx : root S1.el x = x := root_eq hx
    have hbx := L.b x hxn
    by_cases h : lo ≤ p x + d ∧ p x + d < lo + need
    · have := hstep (p x) d hd hbx.1 hbx.2 h.1 h.2
      rw [L.vp x hxn, rx] at this
      exact ⟨_, this⟩
    · by_cases hds : d = s
      · subst hds
        have hpx : p x = d * (f : Int) := by
          rcases hs with rfl | rfl
          · simp at hfl; omega
          · simp at hfl; omega
        rw [← hpx, L.vp x hxn, rx] at yf
        exact ⟨_, yf ▸ hys f hf⟩
      · have hd2 : d = -s := by omega
        have hpx : p x = -s * ((need - 1 - f : Nat) : Int) := by
          rcases hs with rfl | rfl
          · simp at hfl; omega
          · simp at hfl; omega
        rw [← hpx, L.vp x hxn, rx, show need - (need - 1 - f) = f + 1 by omega] at yl
        rw [hd2]
        exact ⟨_, yl ▸ hyb f hf⟩
  unfold Full
  cases hbest : bestO c (gapsL S1.kn 1 (stands S1.el)) with
  | none => rfl
  | some q =>
    obtain ⟨r, k⟩ := q
    obtain ⟨h1, h2, h3, h4⟩ := best_at (l := 1) G1 hbest
    rcases stp01 h2 with ⟨_, e⟩ | ⟨_, e⟩
    · obtain ⟨t, ht⟩ := key r h1 1 (.inl rfl)
      rw [e, ht] at h3; cases h3
    · obtain ⟨t, ht⟩ := key r h1 (-1) (.inr rfl)
      rw [e, ht] at h3; cases h3
theorem Fil.line {n need : Nat} {c : Str} {rules part : List (List Int)} {S : RS} (W : Wd rules part need) (F : Fil 1 rules part c n S) : n ≤ need ∧ (n < need → ∃ p v lo, Line n S p v lo) ∧ (n = need → Full 1 c S) := by
  induction F with
  | start cl cd e =>
    refine ⟨W.pos, fun h => ⟨_, _, _, line1.go W (gd0 1) h cl cd⟩, fun h => ?_⟩
    subst h
    exact line1.shut W (gd0 1) cl cd
  | @next n r k S S1 F hb cl cd e ih =>
    obtain ⟨i1, i2, i3⟩ := ih
    have hne : n ≠ need := fun z => by
      have := i3 z
      unfold Full at this
      rw [hb] at this
      cases this
    obtain ⟨p, v, lo, L⟩ := i2 (by omega)
    obtain ⟨G, _, _, hn1⟩ := F.gd
    obtain ⟨a1, a2, a3, a4⟩ := best_at G hb
    have hrn : r < n := by rw [← G.elen]; exact stand_lt a1
    obtain ⟨p', v', lo', L'⟩ := L.more G hn1 (s := stp k) (by rcases stp01 a2 with ⟨_, h⟩ | ⟨_, h⟩ <;> omega) hrn a3
    have G' := (mk_ok G a1 a3 a4).1
    refine ⟨by omega, fun h => ⟨_, _, _, L'.go W G' h cl cd⟩, fun h => ?_⟩
    subst h
    exact L'.shut W G' cl cd

/-! SPLIT -/
/-! ### a ring, numbered by first coming -/
def rst (g x k : Nat) : Nat := if k % 2 = 0 then (x + 1) % g else (x + (g - 1)) % g
def addU (l : List Nat) (x : Nat) : List Nat := if x ∈ l then l else l ++ [x]
def spR (g : Nat) : Nat → List Nat
  | 0 => [0]
  | k + 1 => addU (addU (spR g k) (k + 1)) ((-((k : Int) + 1)) % (g : Int)).toNat
def spots (g : Nat) : List Nat := spR g (g / 2)
def ringT (g : Nat) : List (List Nat) := tabF (rst g) 2 (spots g)
def ringOk (g : Nat) : Bool := decide ((spots g).length = g) && (List.range (g / 2)).all (fun k => decide ((spR g k).length < g)) && decide (bfN (rst g) 2 g [0] = spots g) && (spots g).all (fun x => decide (x < g))
theorem ring_all : (List.range 40).all (fun g => ringOk (g + 1)) = true := by decide +kernel
theorem ring_ok {g : Nat} (h1 : 1 ≤ g) (h2 : g ≤ 40) : (spots g).length = g ∧ (∀ k, k < g / 2 → (spR g k).length < g) ∧ Bfs (rst g) 2 0 (spots g) ∧ ∀ x ∈ spots g, x < g := by
  have h := List.all_eq_true.mp ring_all (g - 1) (List.mem_range.mpr (by omega))
  rw [show g - 1 + 1 = g by omega] at h
  unfold ringOk at h
  simp only [Bool.and_eq_true, decide_eq_true_eq, List.all_eq_true, List.mem_range] at h
  obtain ⟨⟨⟨a, b⟩, c⟩, d⟩ := h
  exact ⟨a, b, ⟨by rw [a]; exact c⟩, d⟩
/-! ### the table of one letter is a ring -/
section
variable {n : Nat} {rules part : List (List Int)} {c : Str} {S : RS}
def fw (st : Nat → Nat → Nat) : Nat → Nat → Nat
  | x, 0 => x
  | x, j + 1 => fw st (st x 0) j
def bw (st : Nat → Nat → Nat) : Nat → Nat → Nat
  | x, 0 => x
  | x, j + 1 => bw st (st x 1) j
theorem fw_snoc (st : Nat → Nat → Nat) : ∀ (j x : Nat), fw st x (j + 1) = st (fw st x j) 0
  | 0, x => rfl
  | j + 1, x => by
    show fw st (st x 0) (j + 1) = st (fw st (st x 0) j) 0
    exact fw_snoc st j _
theorem fw_add (st : Nat → Nat → Nat) : ∀ (i j x : Nat), fw st x (i + j) = fw st (fw st x i) j
  | 0, j, x => by rw [Nat.zero_add]; rfl
  | i + 1, j, x => by
    rw [show i + 1 + j = (i + j) + 1 by omega]
    exact fw_add st i j (st x 0)
theorem mvS_rep (st : Nat → Nat → Nat) : ∀ (j x : Nat), mvS st x (List.replicate j 1) = fw st x j
  | 0, x => rfl
  | j + 1, x => by
    rw [List.replicate_succ]
    exact mvS_rep st j (st x 0)
theorem mvS_repb (st : Nat → Nat → Nat) : ∀ (j x : Nat), mvS st x (List.replicate j (-1)) = bw st x j
  | 0, x => rfl
  | j + 1, x => by
    rw [List.replicate_succ]
    exact mvS_repb st j (st x 1)
theorem fw_per (st : Nat → Nat → Nat) {m : Nat} (h : fw st 0 m = 0) : ∀ q j, fw st 0 (m * q + j) = fw st 0 j
  | 0, j => by simp
  | q + 1, j => by
    rw [show m * (q + 1) + j = m + (m * q + j) by rw [Nat.mul_succ]; omega, fw_add, h]
    exact fw_per st h q j
theorem fw_gcd (st : Nat → Nat → Nat) (a b : Nat) (ha : fw st 0 a = 0) (hb : fw st 0 b = 0) : fw st 0 (Nat.gcd a b) = 0 := by
  induction a, b using Nat.gcd.induction with
  | H0 n => rw [Nat.gcd_zero_left]; exact hb
  | H1 m n h ih =>
    rw [Nat.gcd_rec]
    refine ih ?_ ha
    have := fw_per st ha (n / m) (n % m)
    rw [Nat.div_add_mod, hb] at this
    exact this.symm
theorem Fil.fwst (F : Fil 1 rules part c n S) (f : Full 1 c S) : ∀ (j x : Nat), S.el[x]? = some x → S.el[fw (stK S.kn) x j]? = some (fw (stK S.kn) x j)
  | 0, x, h => h
  | j + 1, x, h => Fil.fwst F f j _ (F.st f h (k := 0) (by omega)).2
theorem Fil.fwbw (F : Fil 1 rules part c n S) (f : Full 1 c S) : ∀ (j x : Nat), S.el[x]? = some x → fw (stK S.kn) (bw (stK S.kn) x j) j = x
  | 0, x, h => rfl
  | j + 1, x, h => by
    have h1 := (F.st f h (k := 1) (by omega)).2
    have e := Fil.fwbw F f j _ h1
    rw [fw_snoc]
    show stK S.kn (fw (stK S.kn) (bw (stK S.kn) (stK S.kn x 1) j) j) 0 = x
    rw [e]
    exact F.bk f h (k := 1) (by omega)
theorem Fil.turns (F : Fil 1 rules part c n S) (f : Full 1 c S) {s : Int} {m : Nat} (hs : s = 1 ∨ s = -1) (h : List.replicate m s ∈ rules ++ part) : fw (stK S.kn) 0 m = 0 := by
  have h0 := F.st0
  have hr := F.round f (u := List.replicate m s) h0 (fun x hx => by have := (List.mem_replicate.mp hx).2; omega) (by
    rcases List.mem_append.mp h with h | h
    · exact .inl h
    · exact .inr ⟨h, rfl⟩)
  rcases hs with rfl | rfl
  · rw [mvS_rep] at hr; exact hr
  · rw [mvS_repb] at hr
    have := F.fwbw f m 0 h0
    rw [hr] at this
    exact this
theorem mv_rot {g : Nat} (hg : 1 ≤ g) : ∀ (m x : Nat), x < g → mv [rot g (1 % g)] x (List.replicate m 1) = (x + m) % g
  | 0, x, h => by simp [mv, Nat.mod_eq_of_lt h]
  | m + 1, x, h => by
    rw [List.replicate_succ]
    show mv [rot g (1 % g)] (ap (rot g (1 % g)) x) (List.replicate m 1) = _
    rw [ap_rot h, mv_rot hg m _ (Nat.mod_lt _ (by omega)), Nat.add_mod_mod, Nat.mod_add_mod]
    congr 1
    omega
theorem ring_tns {g : Nat} (hg : 1 ≤ g) : Tns g [rot g (1 % g)] := ⟨fun t ht => by
  simp at ht
  subst ht
  exact rot_pm (Nat.mod_lt _ (by omega))⟩
theorem mv_rotb {g : Nat} (hg : 1 ≤ g) : ∀ (m x : Nat), x < g → mv [rot g (1 % g)] (mv [rot g (1 % g)] x (List.replicate m (-1))) (List.replicate m 1) = x
  | 0, x, h => rfl
  | m + 1, x, h => by
    have tns := ring_tns hg
    have hl : mv [rot g (1 % g)] x [-1] < g := mv_lt tns h (fun y hy => by simp at hy; subst hy; simp)
    rw [show List.replicate (m + 1) (-1 : Int) = [-1] ++ List.replicate m (-1) from rfl, show List.replicate (m + 1) (1 : Int) = List.replicate m 1 ++ [1] by rw [List.replicate_succ'], mv_app, mv_app, mv_rotb hg m _ hl]
    have := (tn_neg tns (x := -1) (by simp)).2 x h
    exact this
theorem ring_fix {g m : Nat} {s : Int} (hg : 1 ≤ g) (hs : s = 1 ∨ s = -1) (hd : g ∣ m) : ∀ x, x < g → mv [rot g (1 % g)] x (List.replicate m s) = x := fun x hx => by
  obtain ⟨q, rfl⟩ := hd
  have hfix : ∀ y, y < g → mv [rot g (1 % g)] y (List.replicate (g * q) 1) = y := fun y hy => by
    rw [mv_rot hg _ _ hy, Nat.add_mul_mod_self_left, Nat.mod_eq_of_lt hy]
  rcases hs with rfl | rfl
  · exact hfix x hx
  · have tns := ring_tns hg
    have hl : mv [rot g (1 % g)] x (List.replicate (g * q) (-1)) < g := mv_lt tns hx (fun y hy => by have := (List.mem_replicate.mp hy).2; subst this; simp)
    have e := mv_rotb hg (g * q) x hx
    rw [hfix _ hl] at e
    exact e
/-- the table -/
theorem Fil.ring {g : Nat} (F : Fil 1 rules part c n S) (f : Full 1 c S) {come : List Nat} (B : Bfs (stK S.kn) (2 * 1) 0 come) (st : ∀ x ∈ come, S.el[x]? = some x) (hg : 1 ≤ g) (hg2 : g ≤ 40) (hz : fw (stK S.kn) 0 g = 0) (hd : ∀ u ∈ rules ++ part, ∃ (s : Int) (m : Nat), (s = 1 ∨ s = -1) ∧ u = List.replicate m s ∧ g ∣ m) : tabF (stK S.kn) (2 * 1) come = ringT g := by
  have tns := ring_tns hg
  have hstT : ∀ u ∈ rules ++ part, StT 1 u := fun u hu x hx => by
    obtain ⟨s, m, hs, rfl, _⟩ := hd u hu
    have := (List.mem_replicate.mp hx).2
    omega
  have hfx : ∀ u ∈ rules ++ part, ∀ x, x < g → mv [rot g (1 % g)] x u = x := fun u hu => by
    obtain ⟨s, m, hs, rfl, h⟩ := hd u hu
    exact ring_fix hg hs h
  obtain ⟨rows, _, _, T, h0⟩ := Fil.rows (ts := [rot g (1 % g)]) (f := 0) tns (by omega) F hstT (fun u hu => hfx u (List.mem_append_left _ hu)) (fun u hu => hfx u (List.mem_append_right _ hu) 0 (by omega))
  obtain ⟨P, hP⟩ : ∃ P, P = ptsO [rot g (1 % g)] 0 rows := ⟨_, rfl⟩
  rw [← hP] at T h0
  have G := F.gd.1
  have hlt : ∀ x ∈ come, ap P x < g := fun x hx => ap_lt' T.lt (by rw [T.len, ← G.elen]; exact stand_lt (st x hx))
  have hf1 : ∀ x, S.el[x]? = some x → ap P (stK S.kn x 0) = (ap P x + 1) % g := fun x hx => by
    have := T.gr _ _ _ (F.st f hx (k := 0) (by omega)).1
    rw [this]
    show ap (rot g (1 % g)) (ap P x) = _
    rw [ap_rot (ap_lt' T.lt (by rw [T.len, ← G.elen]; exact stand_lt hx)), Nat.add_mod_mod]
  have hP : ∀ j, ap P (fw (stK S.kn) 0 j) = j % g := fun j => by
    induction j with
    | zero => exact h0.trans (Nat.zero_mod _).symm
    | succ j ih => rw [fw_snoc, hf1 _ (F.fwst f j 0 F.st0), ih, Nat.mod_add_mod]
  have hper : ∀ j, fw (stK S.kn) 0 j = fw (stK S.kn) 0 (j % g) := fun j => by
    have := fw_per (stK S.kn) hz (j / g) (j % g)
    rw [Nat.div_add_mod] at this
    exact this
  have hall : ∀ i, i < come.length → ∃ j, come[i]? = some (fw (stK S.kn) 0 j) := fun i => by
    induction i using Nat.strongRecOn with
    | _ i ih =>
      intro hi
      by_cases e : i = 0
      · subst e; exact ⟨0, B.c0⟩
      · obtain ⟨i', x, k, a1, a2, a3, a4⟩ := B.rch i (by omega) hi
        obtain ⟨j, hj⟩ := ih i' a1 (by omega)
        rw [a3] at hj
        have hj := Option.some.inj hj
        rcases (show k = 0 ∨ k = 1 by omega) with rfl | rfl
        · exact ⟨j + 1, by rw [a4, hj, fw_snoc]⟩
        · refine ⟨j + (g - 1), ?_⟩
          rw [a4, hj]
          have hxs := F.fwst f j 0 F.st0
          have e1 : fw (stK S.kn) 0 (j + (g - 1) + 1) = fw (stK S.kn) 0 j := by
            rw [hper, show j + (g - 1) + 1 = j + g by omega, Nat.add_mod_right, ← hper]
          rw [fw_snoc] at e1
          have e2 := F.bk f (x := fw (stK S.kn) 0 (j + (g - 1))) (k := 0) (F.fwst f _ 0 F.st0) (by omega)
          rw [e1] at e2
          exact congrArg some e2
  have hgood : ∀ x ∈ come, x = fw (stK S.kn) 0 (ap P x) := fun x hx => by
    obtain ⟨i, hi⟩ := List.getElem?_of_mem hx
    obtain ⟨j, hj⟩ := hall i (List.getElem?_eq_some_iff.mp hi).1
    rw [hi] at hj
    have hj := Option.some.inj hj
    rw [hj, hP, ← hper]
  have inj : ∀ x y, x ∈ come → y ∈ come → ap P x = ap P y → x = y := fun x y hx hy e => by
    rw [hgood x hx, hgood y hy, e]
  have hφ : ∀ x k, x ∈ come → k < 2 → ap P (stK S.kn x k) = rst g (ap P x) k := fun x k hx hk => by
    rcases (show k = 0 ∨ k = 1 by omega) with rfl | rfl
    · exact hf1 x (st x hx)
    · have e := F.bk f (st x hx) (k := 1) (by omega)
      have hy := B.closed hx (k := 1) (by omega)
      have e2 := hf1 _ (st _ hy)
      rw [show stK S.kn (stK S.kn x 1) 0 = x from e] at e2
      have h1 := hlt _ hy
      show ap P (stK S.kn x 1) = (ap P x + (g - 1)) % g
      rw [e2, Nat.mod_add_mod, show ap P (stK S.kn x 1) + 1 + (g - 1) = ap P (stK S.kn x 1) + g by omega, Nat.add_mod_right, Nat.mod_eq_of_lt h1]
  obtain ⟨r1, _, r3, _⟩ := ring_ok hg hg2
  obtain ⟨b1, b2⟩ := B.map (st' := rst g) (φ := ap P) (Dm := (· ∈ come)) inj (fun x k hx hk => B.closed hx hk) hφ (List.mem_of_getElem? B.c0)
  rw [h0] at b1
  have e := b1.uniq r3
  unfold ringT
  rw [← e]
  exact (tabF_map (st := stK S.kn) (st' := rst g) (φ := ap P) (Dm := (· ∈ come)) inj (fun x k hx hk => B.closed hx hk) hφ (fun y hy => hy)).symm
/-- so many rows tell new rooms -/
def isNw : Rw3 → Bool
  | .nw .. => true
  | _ => false
theorem nw_count (ts : List (List Nat)) : ∀ (rows : List Rw3) (pts : List Nat), (rows.foldl (stepP ts) pts).length = pts.length + (rows.filter isNw).length
  | [], pts => rfl
  | x :: rows, pts => by
    rw [List.foldl_cons, nw_count ts rows]
    cases x with
    | nw r s n =>
      rw [List.filter_cons_of_pos rfl]
      simp [stepP]
      omega
    | rl w p k => rw [List.filter_cons_of_neg (by simp [isNw])]; rfl
    | mt q => rw [List.filter_cons_of_neg (by simp [isNw])]; rfl
theorem Fil.news (F : Fil 1 rules part c n S) (hd : ∀ u ∈ rules ++ part, ∃ (s : Int) (m : Nat), (s = 1 ∨ s = -1) ∧ u = List.replicate m s) : ∃ rows : List Rw3, S.told = rows.map rw3D ∧ 1 + (rows.filter isNw).length = n := by
  have tns := ring_tns (g := 1) (Nat.le_refl _)
  have hstT : ∀ u ∈ rules ++ part, StT 1 u := fun u hu x hx => by
    obtain ⟨s, m, hs, rfl⟩ := hd u hu
    have := (List.mem_replicate.mp hx).2
    omega
  have hfx : ∀ u ∈ rules ++ part, ∀ x, x < 1 → mv [rot 1 (1 % 1)] x u = x := fun u hu x hx => by
    have := mv_lt tns hx (hstT u hu)
    omega
  obtain ⟨rows, a, _, T, _⟩ := Fil.rows (ts := [rot 1 (1 % 1)]) (f := 0) tns (by omega) F hstT (fun u hu => hfx u (List.mem_append_left _ hu)) (fun u hu => hfx u (List.mem_append_right _ hu) 0 (by omega))
  refine ⟨rows, a, ?_⟩
  have h1 := nw_count [rot 1 (1 % 1)] rows [0]
  have h2 := T.len
  unfold ptsO at h2
  rw [h2] at h1
  simp at h1
  omega
end

/-! SPLIT -/
theorem codNatI : CodecI (fun n : Nat => D.int n) 0 := ⟨codNat, fun _ => rfl⟩
theorem addU_len (l : List Nat) (x : Nat) : (addU l x).length ≤ l.length + 1 := by unfold addU; split <;> simp
theorem foldU_len : ∀ (xs l : List Nat), (xs.foldl addU l).length ≤ l.length + xs.length
  | [], l => Nat.le_refl _
  | x :: xs, l => by
    have h1 := foldU_len xs (addU l x)
    have h2 := addU_len l x
    rw [List.foldl_cons, List.length_cons]
    omega
def T_Lring : DSp := fun ds w P => ∃ g : Nat, ds = [.int g] ∧ 1 ≤ g ∧ g ≤ 40 ∧ P true (tabD (ringT g)) w
theorem len_Lring (ds : List D) (w : Om) (P : Bool → D → Om → Prop) (h : T_Lring ds w P) : ds.length = 1 := by first | (have h := h.1; subst h; rfl) | (obtain ⟨rfl, _⟩ := h; rfl) | (obtain ⟨_, rfl, _⟩ := h; rfl) | (obtain ⟨_, _, rfl, _⟩ := h; rfl) | (obtain ⟨_, _, _, rfl, _⟩ := h; rfl) | (obtain ⟨_, _, _, _, rfl, _⟩ := h; rfl) | (obtain ⟨_, _, _, _, _, rfl, _⟩ := h; rfl) | (obtain ⟨_, _, _, _, _, _, rfl, _⟩ := h; rfl) | (obtain ⟨_, _, _, _, _, _, _, rfl, _⟩ := h; rfl) | (obtain ⟨_, _, _, _, _, _, _, _, rfl, _⟩ := h; rfl) | (obtain ⟨_, _, _, _, _, _, _, _, _, rfl, _⟩ := h; rfl) | (obtain ⟨_, _, _, _, _, _, _, _, _, _, rfl, _⟩ := h; rfl) | (obtain ⟨_, _, _, _, _, _, _, _, _, _, _, rfl, _⟩ := h; rfl) | (obtain ⟨_, _, _, _, _, _, _, _, _, _, _, _, rfl, _⟩ := h; rfl) | (obtain ⟨_, _, _, _, _, _, _, _, _, _, _, _, _, rfl, _⟩ := h; rfl)
def b_Lring : DS := (dSeq (dSet true 1 (dLst (dCons (dC (.int 0)) dNil)))
    (dSeq (dSet false 2 (dC (.int 1)))
    (dSeq (dWhile (dB (dBin sLt (oX (dUn sLenA (dVarR 1))) (dVarR 0))) (dSeq (dFor (dIt (dLst (dCons (dVar 2) (dCons (dBin sMod (oX (dUn sNeg (dVarR 2))) (dVarR 0)) dNil)))) (gN 3) (dIf (dB (dBin (sIn true) (dVarR 3) (dVarR 1))) (dApp 1 (dVar 3)) dNext))
    (dSet false 2 (dBin sAdd (dVarR 2) (oX (dC (.int 1)))))))
    (dFrz 1 (dRet (dLc (dIt (dVar 1)) (gN 3) dYes (dLst (dCons (dM1 isL sLindex (dVarR 1) (oX (dBin sMod (oX (dBin sAdd (dVarR 3) (oX (dC (.int 1))))) (dVarR 0)))) (dCons (dM1 isL sLindex (dVarR 1) (oX (dBin sMod (oX (dBin sSub (dVarR 3) (oX (dC (.int 1))))) (dVarR 0)))) dNil))) [3]))))))
theorem v_Lring (ds : List D) (w : Om) (P : Bool → D → Om → Prop) (h : T_Lring ds w P) : b_Lring { nx := fun _ w => P false .non w, rt := P } (startD ["_law_many", "_law_spots", "_law_at", "_law_spot"] ds) w := by
  unfold b_Lring
  obtain ⟨g, rfl, h1, h2, q⟩ := h
  have hs := sizeLine_eq
  obtain ⟨r1, r2, r3, r4⟩ := ring_ok h1 h2
  refine seq_n fun N hN => ?_
  try simp_arith []
  refine ⟨by omega, hN _ _ ?_⟩
  refine seq_n fun N hN => ?_
  try simp_arith []
  refine hN _ _ ?_
  refine seq_cut (fun δ w' => w' = w ∧ ∃ j1 j3, δ = [some (false, .int g), some (true, nL (spots g)), j1, j3]) (fun N hN => ?_) ?_
  · refine while_go (α := Nat) (fun k δ w' => w' = w ∧ k ≤ g / 2 ∧ ∃ j3, δ = [some (false, .int g), some (true, nL (spR g k)), some (false, .int ((k + 1 : Nat) : Int)), j3]) (fun k => g / 2 - k) ?_ 0 ⟨rfl, by omega, none, rfl⟩
    rintro k δ w' ⟨rfl, hk, j3, rfl⟩ N2 hN2
    try simp_arith [nL]
    by_cases hlt : k < g / 2
    · have hl := r2 k hlt
      refine if_t (by simp; omega) ?_
      refine seq_n fun N3 hN3 => ?_
      try simp_arith []
      obtain ⟨y, hy⟩ : ∃ y : Nat, y = ((-((k : Int) + 1)) % (g : Int)).toNat := ⟨_, rfl⟩
      have hy2 : -((k + 1 : Nat) : Int) % (g : Int) = (y : Int) := by
        rw [hy, Int.toNat_of_nonneg (Int.emod_nonneg _ (by omega))]
        congr 1
      rw [hy2]
      refine ⟨by omega, by omega, ?_⟩
      refine for_go (fun n : Nat => D.int n) (fun pre δ w'' => w'' = w' ∧ ∃ j3, δ = [some (false, .int g), some (true, nL (pre.foldl addU (spR g k))), some (false, .int ((k + 1 : Nat) : Int)), j3]) [k + 1, y] ⟨rfl, j3, rfl⟩ ?_ ?_
      · rintro pre x post δ w2 N4 C4 e ⟨rfl, j3, rfl⟩ hN4 hC4
        have hpl : pre.length ≤ 2 := by
          have := congrArg List.length e
          simp at this
          omega
        have hfl := foldU_len pre (spR g k)
        obtain ⟨l, hle⟩ : ∃ l, l = pre.foldl addU (spR g k) := ⟨_, rfl⟩
        have hnx : addU l x = (pre ++ [x]).foldl addU (spR g k) := by rw [List.foldl_append, hle]; rfl
        rw [← hle] at hfl ⊢
        try simp_arith [nL]
        rw [sIn_nats]
        rw [show addU l x = if x ∈ l then l else l ++ [x] from rfl] at hnx
        by_cases hm : x ∈ l
        · rw [if_pos hm] at hnx
          try simp_arith []
          refine if_f (by simp [hm]) (hN4 _ _ ⟨rfl, _, by rw [← hnx]; rfl⟩)
        · rw [if_neg hm] at hnx
          try simp_arith []
          refine if_t (by simp [hm]) ?_
          try simp_arith []
          refine ⟨by omega, hN4 _ _ ⟨rfl, some (false, .int (x : Int)), by rw [← hnx]; simp [nL]⟩⟩
      · rintro δ w2 ⟨rfl, j3, rfl⟩
        refine hN3 _ _ ?_
        try simp_arith []
        refine hN2 (k + 1) _ _ ⟨rfl, by omega, j3, ?_⟩ (by omega)
        rw [show spR g (k + 1) = [k + 1, y].foldl addU (spR g k) by rw [hy]; rfl]
        rfl
    · have : k = g / 2 := by omega
      subst this
      refine if_f (by simp; unfold spots at r1; omega) (hN _ _ ⟨rfl, _, _, rfl⟩)
  rintro δ w' ⟨rfl, j1, j3, rfl⟩
  try simp_arith [nL]
  have key : ∀ x : Nat, x < g → ∀ (P' : Bool → D → Prop), P' false (.int ((spots g).idxOf x : Nat)) → sLindex (.lst ((spots g).map fun n : Nat => D.int n)) (.int (x : Nat)) P' := fun x hx P' hP' => by
    have hm : x ∈ spots g := by
      refine Classical.byContradiction fun hn => ?_
      have := nodup_len2 (l := x :: spots g) (m := List.range g) (List.nodup_cons.mpr ⟨hn, r3.nd⟩) fun y hy => by
        rcases List.mem_cons.mp hy with rfl | hy
        · exact List.mem_range.mpr hx
        · exact List.mem_range.mpr (r4 y hy)
      simp [r1] at this
      omega
    exact codNatI.index (by decide) (idxOf_at hm).1 (fun m hm2 h => by have := idxOf_nd r3.nd h; omega) hP'
  refine lc_map (fun n : Nat => D.int n) (fun x : Nat => nL ((List.range 2).map fun k => (spots g).idxOf (rst g x k))) (spots g) (fun x hx P' hP' => ?_) [] (by simp; omega) ?_
  · have hxg := r4 x hx
    try simp_arith []
    rw [show ((x : Int) + 1) % (g : Int) = (((x + 1) % g : Nat) : Int) by simp, show ((x : Int) - 1) % (g : Int) = (((x + (g - 1)) % g : Nat) : Int) by
      rw [show (x : Int) - 1 = ((x + (g - 1) : Nat) : Int) - (g : Int) by omega, Int.sub_emod_right]
      simp]
    refine ⟨by omega, key _ (Nat.mod_lt _ (by omega)) _ ⟨by omega, key _ (Nat.mod_lt _ (by omega)) _ ⟨by omega, ?_⟩⟩⟩
    exact hP' _
  · rw [List.nil_append]
    have e : (ringT g).map nL = (spots g).map fun x => nL ((List.range 2).map fun k => (spots g).idxOf (rst g x k)) := by
      unfold ringT tabF
      rw [List.map_map]
      rfl
    rw [← e]
    exact q
def T_Lcommon : DSp := fun ds w P => ∃ a b : Nat, ds = [.int a, .int b] ∧ b ≤ 1000 ∧ P false (.int (Nat.gcd a b : Nat)) w
theorem len_Lcommon (ds : List D) (w : Om) (P : Bool → D → Om → Prop) (h : T_Lcommon ds w P) : ds.length = 2 := by first | (have h := h.1; subst h; rfl) | (obtain ⟨rfl, _⟩ := h; rfl) | (obtain ⟨_, rfl, _⟩ := h; rfl) | (obtain ⟨_, _, rfl, _⟩ := h; rfl) | (obtain ⟨_, _, _, rfl, _⟩ := h; rfl) | (obtain ⟨_, _, _, _, rfl, _⟩ := h; rfl) | (obtain ⟨_, _, _, _, _, rfl, _⟩ := h; rfl) | (obtain ⟨_, _, _, _, _, _, rfl, _⟩ := h; rfl) | (obtain ⟨_, _, _, _, _, _, _, rfl, _⟩ := h; rfl) | (obtain ⟨_, _, _, _, _, _, _, _, rfl, _⟩ := h; rfl) | (obtain ⟨_, _, _, _, _, _, _, _, _, rfl, _⟩ := h; rfl) | (obtain ⟨_, _, _, _, _, _, _, _, _, _, rfl, _⟩ := h; rfl) | (obtain ⟨_, _, _, _, _, _, _, _, _, _, _, rfl, _⟩ := h; rfl) | (obtain ⟨_, _, _, _, _, _, _, _, _, _, _, _, rfl, _⟩ := h; rfl) | (obtain ⟨_, _, _, _, _, _, _, _, _, _, _, _, _, rfl, _⟩ := h; rfl)
def b_Lcommon : DS := (dSeq (dWhile (dB (dBin sGt (dVarR 1) (oX (dC (.int 0))))) (dSeq (dSet false 2 (dBin sMod (dVarR 0) (dVarR 1)))
    (dSeq (dSet false 0 (dVar 1))
    (dSet false 1 (dVar 2)))))
    (dRetV 0))
theorem v_Lcommon (ds : List D) (w : Om) (P : Bool → D → Om → Prop) (h : T_Lcommon ds w P) : b_Lcommon { nx := fun _ w => P false .non w, rt := P } (startD ["_law_one", "_law_other", "_law_rest"] ds) w := by
  unfold b_Lcommon
  obtain ⟨a, b, rfl, h2, q⟩ := h
  refine seq_cut (fun δ w' => w' = w ∧ ∃ j1 j2, δ = [some (false, .int (Nat.gcd a b : Nat)), j1, j2]) (fun N hN => ?_) ?_
  · refine while_go (α := Nat × Nat) (fun k δ w' => w' = w ∧ Nat.gcd k.1 k.2 = Nat.gcd a b ∧ ∃ j2, δ = [some (false, .int (k.1 : Nat)), some (false, .int (k.2 : Nat)), j2]) (fun k => k.2) ?_ (a, b) ⟨rfl, rfl, none, rfl⟩
    rintro ⟨x, y⟩ δ w' ⟨rfl, hk, j2, rfl⟩ N2 hN2
    try simp_arith []
    by_cases hlt : 0 < y
    · refine if_t (by simp; omega) ?_
      refine seq_n fun N3 hN3 => ?_
      try simp_arith []
      refine ⟨by omega, hN3 _ _ ?_⟩
      refine seq_n fun N3 hN3 => ?_
      try simp_arith []
      refine hN3 _ _ ?_
      try simp_arith []
      refine hN2 (y, x % y) _ _ ⟨rfl, ?_, some (false, .int ((x % y : Nat) : Int)), ?_⟩ (Nat.mod_lt _ hlt)
      · rw [← hk]
        show Nat.gcd y (x % y) = Nat.gcd x y
        rw [Nat.gcd_comm x y, Nat.gcd_rec y x, Nat.gcd_comm]
      · simp
    · have : y = 0 := by omega
      subst this
      refine if_f (by simp) (hN _ _ ⟨rfl, _, _, by rw [← hk, Nat.gcd_zero_right]⟩)
  rintro δ w' ⟨rfl, j1, j2, rfl⟩
  try simp_arith []
  exact q
def T_Lnews : DSp := fun ds w P => ∃ rows : List Rw3, ds = [.lst (rows.map rw3D)] ∧ rows.length ≤ 900000 ∧ P false (.int ((rows.filter isNw).length : Nat)) w
theorem len_Lnews (ds : List D) (w : Om) (P : Bool → D → Om → Prop) (h : T_Lnews ds w P) : ds.length = 1 := by first | (have h := h.1; subst h; rfl) | (obtain ⟨rfl, _⟩ := h; rfl) | (obtain ⟨_, rfl, _⟩ := h; rfl) | (obtain ⟨_, _, rfl, _⟩ := h; rfl) | (obtain ⟨_, _, _, rfl, _⟩ := h; rfl) | (obtain ⟨_, _, _, _, rfl, _⟩ := h; rfl) | (obtain ⟨_, _, _, _, _, rfl, _⟩ := h; rfl) | (obtain ⟨_, _, _, _, _, _, rfl, _⟩ := h; rfl) | (obtain ⟨_, _, _, _, _, _, _, rfl, _⟩ := h; rfl) | (obtain ⟨_, _, _, _, _, _, _, _, rfl, _⟩ := h; rfl) | (obtain ⟨_, _, _, _, _, _, _, _, _, rfl, _⟩ := h; rfl) | (obtain ⟨_, _, _, _, _, _, _, _, _, _, rfl, _⟩ := h; rfl) | (obtain ⟨_, _, _, _, _, _, _, _, _, _, _, rfl, _⟩ := h; rfl) | (obtain ⟨_, _, _, _, _, _, _, _, _, _, _, _, rfl, _⟩ := h; rfl) | (obtain ⟨_, _, _, _, _, _, _, _, _, _, _, _, _, rfl, _⟩ := h; rfl)
def b_Lnews : DS := (dSeq (dIf (dTNot (dTru (oX (dBin sIsi (dVarR 0) (oX (dC (.ty "list"))))))) (dRet (dUn sNeg (oX (dC (.int 1))))) dNext)
    (dRet (dUn sLenA (oX (dLc (dIt (dVar 0)) (gN 1) (dB (dBin sEq (oX (dBin sIx (dVarR 1) (oX (dC (.int 0))))) (oX (dC (.str "new"))))) (dVar 1) [1])))))
theorem v_Lnews (ds : List D) (w : Om) (P : Bool → D → Om → Prop) (h : T_Lnews ds w P) : b_Lnews { nx := fun _ w => P false .non w, rt := P } (startD ["_law_rows", "_law_row"] ds) w := by
  unfold b_Lnews
  obtain ⟨rows, rfl, hl, q⟩ := h
  have hs := sizeLine_eq
  refine seq_n fun N hN => ?_
  try simp_arith []
  refine hN _ _ ?_
  try simp_arith []
  refine lc_filter rw3D rw3D isNw rows (fun k hk P' hP' => ?_) (fun k hk hb P' hP' => ?_) [] (by simp; omega) ?_
  · rcases k with ⟨a, b, c⟩ | ⟨a, b, c⟩ | m
    · try simp_arith [rw3D, newR]
      refine ⟨_, rfl, ?_⟩
      try simp_arith []
      exact hP'
    · try simp_arith [rw3D, ruleR]
      refine ⟨_, rfl, ?_⟩
      try simp_arith []
      exact hP'
    · try simp_arith [rw3D, mtD]
      refine ⟨_, rfl, ?_⟩
      try simp_arith []
      exact hP'
  · try simp_arith []
    exact hP' _
  · try simp_arith []
    simpa using q
def T_Lsame : DSp := fun ds w P => ∃ (t : List (List Nat)), ds = [tabD t, tabD t] ∧ (∀ r ∈ t, r.length = 2) ∧ P false (.bl true) w
theorem len_Lsame (ds : List D) (w : Om) (P : Bool → D → Om → Prop) (h : T_Lsame ds w P) : ds.length = 2 := by first | (have h := h.1; subst h; rfl) | (obtain ⟨rfl, _⟩ := h; rfl) | (obtain ⟨_, rfl, _⟩ := h; rfl) | (obtain ⟨_, _, rfl, _⟩ := h; rfl) | (obtain ⟨_, _, _, rfl, _⟩ := h; rfl) | (obtain ⟨_, _, _, _, rfl, _⟩ := h; rfl) | (obtain ⟨_, _, _, _, _, rfl, _⟩ := h; rfl) | (obtain ⟨_, _, _, _, _, _, rfl, _⟩ := h; rfl) | (obtain ⟨_, _, _, _, _, _, _, rfl, _⟩ := h; rfl) | (obtain ⟨_, _, _, _, _, _, _, _, rfl, _⟩ := h; rfl) | (obtain ⟨_, _, _, _, _, _, _, _, _, rfl, _⟩ := h; rfl) | (obtain ⟨_, _, _, _, _, _, _, _, _, _, rfl, _⟩ := h; rfl) | (obtain ⟨_, _, _, _, _, _, _, _, _, _, _, rfl, _⟩ := h; rfl) | (obtain ⟨_, _, _, _, _, _, _, _, _, _, _, _, rfl, _⟩ := h; rfl) | (obtain ⟨_, _, _, _, _, _, _, _, _, _, _, _, _, rfl, _⟩ := h; rfl)
def b_Lsame : DS := (dSeq (dIf (dTOr (dTNot (dTru (oX (dBin sIsi (dVarR 0) (oX (dC (.ty "list"))))))) (dB (dBin sNe (oX (dUn sLenA (dVarR 0))) (oX (dUn sLenA (dVarR 1)))))) (dRet (dC (.bl false))) dNext)
    (dSeq (dFor (dIt (dVar 0)) (gN 2) (dIf (dTOr (dTNot (dTru (oX (dBin sIsi (dVarR 2) (oX (dC (.ty "list"))))))) (dTOr (dB (dBin sNe (oX (dUn sLenA (dVarR 2))) (oX (dC (.int 2))))) (dTOr (dTNot (dTru (oX (dCall T_Lwhole (dCons (dBin sIx (dVarR 2) (oX (dC (.int 0)))) dNil))))) (dTNot (dTru (oX (dCall T_Lwhole (dCons (dBin sIx (dVarR 2) (oX (dC (.int 1)))) dNil)))))))) (dRet (dC (.bl false))) dNext))
    (dRet (dBin sEq (dVarR 0) (dVarR 1)))))
theorem v_Lsame (ds : List D) (w : Om) (P : Bool → D → Om → Prop) (h : T_Lsame ds w P) : b_Lsame { nx := fun _ w => P false .non w, rt := P } (startD ["_law_table", "_law_due", "_law_row"] ds) w := by
  unfold b_Lsame
  obtain ⟨t, rfl, h2, q⟩ := h
  refine seq_n fun N hN => ?_
  try simp_arith [tabD]
  refine hN _ _ ?_
  refine seq_n fun N hN => ?_
  try simp_arith []
  refine for_go nL (fun pre δ w' => w' = w ∧ ∃ j2, δ = [some (false, .lst (t.map nL)), some (false, .lst (t.map nL)), j2]) t ⟨rfl, none, rfl⟩ ?_ ?_
  · rintro pre row post δ w2 N2 C2 e ⟨rfl, j2, rfl⟩ hN2 hC2
    have hr := h2 row (by rw [e]; simp)
    obtain ⟨x, y, rfl⟩ : ∃ x y, row = [x, y] := by
      match row, hr with
      | [x, y], _ => exact ⟨x, y, rfl⟩
    try simp_arith [nL]
    refine if_f (by simp) ⟨_, rfl, _, rfl, ?_⟩
    try simp_arith []
    refine ⟨_, rfl, _, rfl, ?_⟩
    try simp_arith []
    exact hN2 _ _ ⟨rfl, _, rfl⟩
  rintro δ w2 ⟨rfl, j2, rfl⟩
  refine hN _ _ ?_
  try simp_arith []
  rw [codnL.lst.toCodec.sEq (by decide)]
  simpa using q
/-! SPLIT -/
theorem repD (s : Int) (a : Nat) : D.tup (List.replicate a [D.int s]).flatten = wD (List.replicate a s) := by
  have : ∀ a, (List.replicate a [D.int s]).flatten = (List.replicate a s).map D.int := fun a => by
    induction a with
    | zero => rfl
    | succ a ih => rw [List.replicate_succ, List.flatten_cons, ih, List.replicate_succ]; rfl
  rw [this]; rfl
theorem pick2 (x : Int) : ∃ s : Int, atI [D.int 1, D.int (-1)] (x % 2) = some (.int s) ∧ (s = 1 ∨ s = -1) := by
  rcases (show x % 2 = 0 ∨ x % 2 = 1 by omega) with e | e <;> rw [e]
  · exact ⟨1, rfl, .inl rfl⟩
  · exact ⟨-1, rfl, .inr rfl⟩
structure Fx (rs ps : List (List Int)) (need g : Nat) : Prop where
  wd : Wd rs ps need
  nl : need ≤ 40
  g1 : 1 ≤ g
  g2 : g ≤ 40
  rl : rs.length = 1
  pl : ps.length ≤ 1
  ul : ∀ u ∈ rs ++ ps, u.length ≤ 40
  dv : ∀ u ∈ rs ++ ps, ∃ (s : Int) (m : Nat), (s = 1 ∨ s = -1) ∧ u = List.replicate m s ∧ g ∣ m
  fz : ∀ st : Nat → Nat → Nat, (∀ (s : Int) (m : Nat), (s = 1 ∨ s = -1) → List.replicate m s ∈ rs ++ ps → fw st 0 m = 0) → fw st 0 g = 0
theorem fx1 {a : Nat} {s : Int} (hs : s = 1 ∨ s = -1) (h1 : 1 ≤ a) (h2 : a ≤ 40) : Fx [List.replicate a s] [] a a where
  wd := ⟨fun u hu => by simp at hu; exact ⟨s, a, hs, hu, Nat.le_refl _⟩, ⟨s, hs, by simp⟩, h1⟩
  nl := h2
  g1 := h1
  g2 := h2
  rl := rfl
  pl := by simp
  ul := fun u hu => by simp at hu; subst hu; simpa using h2
  dv := fun u hu => by simp at hu; exact ⟨s, a, hs, hu, Nat.dvd_refl _⟩
  fz := fun st h => h s a hs (by simp)
theorem fx2 {a b : Nat} {s z : Int} (hs : s = 1 ∨ s = -1) (hz : z = 1 ∨ z = -1) (h1 : 1 ≤ a) (h2 : a ≤ 40) (h3 : 1 ≤ b) (h4 : b ≤ 40) : Fx [List.replicate a s] [List.replicate b z] (min a b) (Nat.gcd a b) where
  wd := ⟨fun u hu => by
      simp at hu
      rcases hu with hu | hu
      · exact ⟨s, a, hs, hu, Nat.min_le_left _ _⟩
      · exact ⟨z, b, hz, hu, Nat.min_le_right _ _⟩, by
      rcases (show min a b = a ∨ min a b = b by omega) with e | e <;> rw [e]
      · exact ⟨s, hs, by simp⟩
      · exact ⟨z, hz, by simp⟩, by omega⟩
  nl := by omega
  g1 := Nat.gcd_pos_of_pos_left _ h1
  g2 := Nat.le_trans (Nat.gcd_le_left _ h1) h2
  rl := rfl
  pl := by simp
  ul := fun u hu => by
    simp at hu
    rcases hu with rfl | rfl <;> simpa
  dv := fun u hu => by
    simp at hu
    rcases hu with hu | hu
    · exact ⟨s, a, hs, hu, Nat.gcd_dvd_left _ _⟩
    · exact ⟨z, b, hz, hu, Nat.gcd_dvd_right _ _⟩
  fz := fun st h => fw_gcd st a b (h s a hs (by simp)) (h z b hz (by simp))
theorem pick4 (x : Int) : ∃ o : Str, atI [D.str (Str.ofString "rooms"), D.str (Str.ofString "letters"), D.str (Str.ofString "newest"), D.str (Str.ofString "")] (x % 4) = some (.str o) ∧ (o = "rooms" ∨ o = "letters" ∨ o = "newest" ∨ o = "") := by
  rcases (show x % 4 = 0 ∨ x % 4 = 1 ∨ x % 4 = 2 ∨ x % 4 = 3 by omega) with e | e | e | e <;> rw [e]
  · exact ⟨_, rfl, .inl rfl⟩
  · exact ⟨_, rfl, .inr (.inl rfl)⟩
  · exact ⟨_, rfl, .inr (.inr (.inl rfl))⟩
  · exact ⟨_, rfl, .inr (.inr (.inr rfl))⟩
def T_law : DSp := fun ds w P => lawT ds w P
theorem len_law (ds : List D) (w : Om) (P : Bool → D → Om → Prop) (h : T_law ds w P) : ds.length = 1 := by first | (have h := h.1; subst h; rfl) | (obtain ⟨rfl, _⟩ := h; rfl) | (obtain ⟨_, rfl, _⟩ := h; rfl) | (obtain ⟨_, _, rfl, _⟩ := h; rfl) | (obtain ⟨_, _, _, rfl, _⟩ := h; rfl) | (obtain ⟨_, _, _, _, rfl, _⟩ := h; rfl) | (obtain ⟨_, _, _, _, _, rfl, _⟩ := h; rfl) | (obtain ⟨_, _, _, _, _, _, rfl, _⟩ := h; rfl) | (obtain ⟨_, _, _, _, _, _, _, rfl, _⟩ := h; rfl) | (obtain ⟨_, _, _, _, _, _, _, _, rfl, _⟩ := h; rfl) | (obtain ⟨_, _, _, _, _, _, _, _, _, rfl, _⟩ := h; rfl) | (obtain ⟨_, _, _, _, _, _, _, _, _, _, rfl, _⟩ := h; rfl) | (obtain ⟨_, _, _, _, _, _, _, _, _, _, _, rfl, _⟩ := h; rfl) | (obtain ⟨_, _, _, _, _, _, _, _, _, _, _, _, rfl, _⟩ := h; rfl) | (obtain ⟨_, _, _, _, _, _, _, _, _, _, _, _, _, rfl, _⟩ := h; rfl)
def b_law : DS := (dSeq (dSet false 1 (dBin sAdd (oX (dC (.int 1))) (oX (dBin sMod (oX (dCall T_Lcell_at (dCons (dVar 0) (dCons (dC (.int 0)) dNil)))) (oX (dC (.int 40)))))))
    (dSeq (dSet false 2 (dLst (dCons (dBin sMulB (oX (dTup (dCons (dBin sIx (oX (dLst (dCons (dC (.int 1)) (dCons (dUn sNeg (oX (dC (.int 1)))) dNil)))) (oX (dBin sMod (oX (dBin sFdiv (oX (dCall T_Lcell_at (dCons (dVar 0) (dCons (dC (.int 0)) dNil)))) (oX (dC (.int 40))))) (oX (dC (.int 2)))))) dNil))) (dVarR 1)) dNil)))
    (dSeq (dSet false 3 (dLst dNil))
    (dSeq (dSet false 4 (dVar 1))
    (dSeq (dIf (dB (dBin sEq (oX (dBin sMod (oX (dCall T_Lcell_at (dCons (dVar 0) (dCons (dC (.int 1)) dNil)))) (oX (dC (.int 2))))) (oX (dC (.int 1))))) (dSeq (dSet false 5 (dBin sAdd (oX (dC (.int 1))) (oX (dBin sMod (oX (dBin sFdiv (oX (dCall T_Lcell_at (dCons (dVar 0) (dCons (dC (.int 1)) dNil)))) (oX (dC (.int 2))))) (oX (dC (.int 40)))))))
    (dSeq (dSet false 3 (dLst (dCons (dBin sMulB (oX (dTup (dCons (dBin sIx (oX (dLst (dCons (dC (.int 1)) (dCons (dUn sNeg (oX (dC (.int 1)))) dNil)))) (oX (dBin sMod (oX (dBin sFdiv (oX (dCall T_Lcell_at (dCons (dVar 0) (dCons (dC (.int 1)) dNil)))) (oX (dC (.int 80))))) (oX (dC (.int 2)))))) dNil))) (dVarR 5)) dNil)))
    (dSeq (dSet false 4 (dBin sMin (dVarR 1) (dVarR 5)))
    (dSet false 1 (dCall T_Lcommon (dCons (dVar 1) (dCons (dVar 5) dNil))))))) dNext)
    (dSeq (dSet false 6 (dBin sAdd (oX (dC (.int 1))) (oX (dBin sMod (oX (dCall T_Lcell_at (dCons (dVar 0) (dCons (dC (.int 2)) dNil)))) (oX (dC (.int 45)))))))
    (dSeq (dIf (dB (dBin sEq (oX (dBin sMod (oX (dBin sFdiv (oX (dCall T_Lcell_at (dCons (dVar 0) (dCons (dC (.int 2)) dNil)))) (oX (dC (.int 45))))) (oX (dC (.int 3))))) (oX (dC (.int 1))))) (dSet false 6 (dBin sMax (oX (dC (.int 1))) (oX (dBin sSub (dVarR 4) (oX (dBin sMod (oX (dBin sFdiv (oX (dCall T_Lcell_at (dCons (dVar 0) (dCons (dC (.int 2)) dNil)))) (oX (dC (.int 135))))) (oX (dC (.int 2))))))))) dNext)
    (dSeq (dSet false 7 (dBin sIx (oX (dLst (dCons (dC (.str "rooms")) (dCons (dC (.str "letters")) (dCons (dC (.str "newest")) (dCons (dC (.str "")) dNil)))))) (oX (dBin sMod (oX (dCall T_Lcell_at (dCons (dVar 0) (dCons (dC (.int 3)) dNil)))) (oX (dC (.int 4)))))))
    (dSeq (dSet false 8 (dLst (dCons (dUn sList (dVarR 2)) (dCons (dUn sList (dVarR 3)) dNil))))
    (dSeq (dAsg (dCall T_Lfilled (dCons (dC (.int 1)) (dCons (dBin sIx (dVarR 8) (oX (dC (.int 0)))) (dCons (dBin sIx (dVarR 8) (oX (dC (.int 1)))) (dCons (dVar 6) (dCons (dVar 7) dNil)))))) (gT 2 (gsC (gN 9) (gsC (gN 10) gsN))))
    (dSeq (dIf (dB (dBin sNe (dVarR 8) (oX (dLst (dCons (dVar 2) (dCons (dVar 3) dNil)))))) (dRet (dC (.bl false))) dNext)
    (dSeq (dIf (dB (dBin sLt (dVarR 6) (dVarR 4))) (dSeq (dIf (dTOr (dB (dBin sIsN (dVarR 10) (oX (dC .non)))) (dTNot (dTru (oX (dCall T_Lwhole (dCons (dXFld "made" (dVarR 10)) dNil)))))) (dRet (dC (.bl false))) dNext)
    (dRet (dAndV (dBin sEq (oX (dXFld "made" (dVarR 10))) (dVarR 6)) (dBin sEq (oX (dCall T_Lnews (dCons (dXFld "rows" (dVarR 10)) dNil))) (oX (dBin sSub (dVarR 6) (oX (dC (.int 1))))))))) dNext)
    (dSeq (dIf (dTOr (dB (dBin sNotN (dVarR 10) (oX (dC .non)))) (dTOr (dTNot (dTru (oX (dBin sIsi (dVarR 9) (oX (dC (.ty "tuple"))))))) (dB (dBin sNe (oX (dUn sLenA (dVarR 9))) (oX (dC (.int 2))))))) (dRet (dC (.bl false))) dNext)
    (dRet (dAndV (dCall T_Lsame (dCons (dBin sIx (dVarR 9) (oX (dC (.int 0)))) (dCons (dCall T_Lring (dCons (dVar 1) dNil)) dNil))) (dBin sEq (oX (dCall T_Lnews (dCons (dBin sIx (dVarR 9) (oX (dC (.int 1)))) dNil))) (oX (dBin sSub (dVarR 4) (oX (dC (.int 1)))))))))))))))))))))
theorem v_law (ds : List D) (w : Om) (P : Bool → D → Om → Prop) (h : T_law ds w P) : b_law { nx := fun _ w => P false .non w, rt := P } (startD ["_law_script", "_law_often", "_law_rules", "_law_part", "_law_need", "_law_other", "_law_limit", "_law_order", "_law_handed", "_law_found", "_law_refused"] ds) w := by
  unfold b_law
  obtain ⟨ns, rfl, hw, q⟩ := h
  have hs := sizeLine_eq
  refine seq_n fun N hN => ?_
  try simp_arith []
  refine ⟨ns, _, rfl, by omega, by omega, fun x0 => ?_⟩
  try simp_arith []
  refine ⟨by omega, hN _ _ ?_⟩
  obtain ⟨a, ha⟩ : ∃ a : Nat, a = (1 + x0 % 40).toNat := ⟨_, rfl⟩
  have ha1 : 1 + x0 % 40 = (a : Int) := by omega
  rw [ha1]
  refine seq_n fun N hN => ?_
  try simp_arith []
  refine ⟨by omega, ns, _, rfl, by omega, by omega, fun x1 => ?_⟩
  try simp_arith []
  obtain ⟨s, e1, hs1⟩ := pick2 (x1 / 40)
  refine ⟨divC (by omega) (by omega), by omega, _, e1, by omega, by omega, by simp; omega, by omega, hN _ _ ?_⟩
  try simp_arith [Int.toNat_natCast]
  rw [repD, show D.lst [wD (List.replicate a s)] = lwD [List.replicate a s] from rfl]
  obtain ⟨rs, hrs⟩ : ∃ rs, rs = [List.replicate a s] := ⟨_, rfl⟩
  rw [← hrs]
  refine seq_n fun N hN => ?_
  try simp_arith []
  refine hN _ _ ?_
  refine seq_n fun N hN => ?_
  try simp_arith []
  refine hN _ _ ?_
  refine seq_cut (fun δ w' => w' = w ∧ ∃ (ps : List (List Int)) (need g : Nat) (j5 : Option (Bool × D)), Fx rs ps need g ∧ δ = [some (false, .scr ns), some (false, .int g), some (false, lwD rs), some (false, lwD ps), some (false, .int need), j5, none, none, none, none, none]) (fun N hN => ?_) ?_
  · try simp_arith []
    refine ⟨ns, _, rfl, by omega, by omega, fun x2 => ?_⟩
    try simp_arith []
    refine ⟨by omega, if_join (fun e => ?_) (fun e => ?_)⟩
    · refine seq_n fun N3 hN3 => ?_
      try simp_arith []
      refine ⟨ns, _, rfl, by omega, by omega, fun x3 => ?_⟩
      try simp_arith []
      refine ⟨divC (by omega) (by omega), by omega, hN3 _ _ ?_⟩
      obtain ⟨b, hb⟩ : ∃ b : Nat, b = (1 + x3 / 2 % 40).toNat := ⟨_, rfl⟩
      have hb1 : 1 + x3 / 2 % 40 = (b : Int) := by omega
      rw [hb1]
      refine seq_n fun N3 hN3 => ?_
      try simp_arith []
      refine ⟨by omega, ns, _, rfl, by omega, by omega, fun x33 => ?_⟩
      try simp_arith []
      obtain ⟨z, e2, hz1⟩ := pick2 (x33 / 80)
      refine ⟨divC (by omega) (by omega), by omega, _, e2, by omega, by omega, by simp; omega, by omega, hN3 _ _ ?_⟩
      try simp_arith [Int.toNat_natCast]
      rw [repD, show D.lst [wD (List.replicate b z)] = lwD [List.replicate b z] from rfl]
      refine seq_n fun N3 hN3 => ?_
      try simp_arith []
      refine hN3 _ _ ?_
      try simp_arith []
      refine ⟨a, b, rfl, by omega, ?_⟩
      try simp_arith []
      refine hN _ _ ⟨rfl, [List.replicate b z], min a b, Nat.gcd a b, some (false, .int b), ?_, ?_⟩
      · rw [hrs]
        exact fx2 hs1 hz1 (by omega) (by omega) (by omega) (by omega)
      · rw [show (if (b : Int) < (a : Int) then (b : Int) else (a : Int)) = ((min a b : Nat) : Int) by split <;> omega]
    · refine hN _ _ ⟨rfl, [], a, a, none, ?_, rfl⟩
      rw [hrs]
      exact fx1 hs1 (by omega) (by omega)
  rintro δ w' ⟨rfl, ps, need, g, j5, fx, rfl⟩
  refine seq_n fun N hN => ?_
  try simp_arith []
  refine ⟨ns, _, rfl, by omega, by omega, fun x4 => ?_⟩
  try simp_arith []
  refine ⟨by omega, hN _ _ ?_⟩
  have fw1 := fx.wd.pos
  have fw2 := fx.nl
  refine seq_cut (fun δ w2 => w2 = w' ∧ ∃ (lim : Nat), 1 ≤ lim ∧ lim ≤ 45 ∧ δ = [some (false, .scr ns), some (false, .int g), some (false, lwD rs), some (false, lwD ps), some (false, .int need), j5, some (false, .int lim), none, none, none, none]) (fun N hN => ?_) ?_
  · try simp_arith []
    refine ⟨ns, _, rfl, by omega, by omega, fun x5 => ?_⟩
    try simp_arith []
    refine ⟨divC (by omega) (by omega), by omega, if_join (fun e => ?_) (fun e => ?_)⟩
    · try simp_arith []
      refine ⟨ns, _, rfl, by omega, by omega, fun x6 => ?_⟩
      try simp_arith []
      refine ⟨divC (by omega) (by omega), by omega, hN _ _ ⟨rfl, (if (need : Int) - x6 / 135 % 2 > 1 then (need : Int) - x6 / 135 % 2 else 1).toNat, by split <;> omega, by split <;> omega, ?_⟩⟩
      rw [Int.toNat_of_nonneg (by split <;> omega)]
    · refine hN _ _ ⟨rfl, (1 + x4 % 45).toNat, by omega, by omega, ?_⟩
      rw [show (((1 + x4 % 45).toNat : Nat) : Int) = 1 + x4 % 45 by omega]
  rintro δ w2 ⟨rfl, lim, hm1, hm2, rfl⟩
  refine seq_n fun N hN => ?_
  try simp_arith []
  refine ⟨by omega, ns, _, rfl, by omega, by omega, fun x7 => ?_⟩
  try simp_arith []
  obtain ⟨o, e7, ho⟩ := pick4 x7
  refine ⟨by omega, _, e7, hN _ _ ?_⟩
  refine seq_n fun N hN => ?_
  try simp_arith [lwD, sList.eq_1]
  refine ⟨by omega, hN _ _ ?_⟩
  have dof : ∀ {w : Om} {Q : Bool → D → Om → Prop}, (∀ w' S come, Fil 1 rs ps (ordC o) need S → Full 1 (ordC o) S → need ≤ lim → S.told.length ≤ 900000 → Bfs (stK S.kn) (2 * 1) 0 come → (∀ x ∈ come, S.el[x]? = some x) → Q false (.tup [.tup [tabD (tabF (stK S.kn) (2 * 1) come), .lst S.told], .non]) w') → (∀ w' S, Fil 1 rs ps (ordC o) lim S → lim < need → S.told.length ≤ 900000 → Q false (.tup [.non, .exc "TooMany" [("rows", .lst S.told), ("made", .int lim)]]) w') → T_Lfilled [.int 1, lwD rs, lwD ps, .int lim, .str o] w Q := fun {w Q} h1 h2 => by
    refine ⟨1, lim, rs, ps, o, rfl, ho, by omega, ?_, by have := fx.rl; have := fx.pl; omega, fun u hu => ⟨by have := fx.ul u hu; omega, fun s hs => by
      obtain ⟨z, m, hz, rfl, _⟩ := fx.dv u hu
      have := (List.mem_replicate.mp hs).2
      omega⟩, fun w' n S come _ F f c d e st => ?_, fun w' n S _ F f c d t => ?_⟩
    · have e1 := Nat.mul_le_mul (show lim + 2 ≤ 47 by omega) (show (lim + 2) * (2 * 1 + 1) + 3 ≤ 47 * 3 + 3 by omega)
      omega
    · obtain ⟨a1, a2, a3⟩ := F.line fx.wd
      have : n = need := Classical.byContradiction fun z => by
        obtain ⟨p, v, lo, L⟩ := a2 (by omega)
        exact L.open F f
      subst this
      exact h1 w' S come F f (by omega) d e st
    · obtain ⟨a1, a2, a3⟩ := F.line fx.wd
      have e1 : n ≠ need := fun z => f (a3 z)
      have e2 : n = lim := by omega
      subst e2
      exact h2 w' S F (by omega) t
  refine seq_n fun N hN => ?_
  try simp_arith []
  refine ⟨_, rfl, _, rfl, ?_⟩
  rw [show D.lst (rs.map wD) = lwD rs from rfl, show D.lst (ps.map wD) = lwD ps from rfl]
  refine dof (fun w3 S come F f hnl ht B st => ?_) (fun w3 S F hnl ht => ?_)
  · try simp_arith []
    refine hN _ _ ?_
    refine seq_n fun N hN => ?_
    try simp_arith []
    rw [show D.lst [lwD rs, lwD ps] = (fun L : List (List (List Int)) => D.lst (L.map lwD)) [rs, ps] from rfl, Codec.lw.lst.sNe (by decide)]
    try simp_arith []
    refine ⟨by omega, hN _ _ ?_⟩
    refine seq_n fun N hN => ?_
    try simp_arith []
    refine if_f (by simp; omega) ?_
    refine hN _ _ ?_
    refine seq_n fun N hN => ?_
    try simp_arith []
    refine hN _ _ ?_
    try simp_arith []
    have htab := F.ring f B st fx.g1 fx.g2 (fx.fz _ fun s m hs h => F.turns f hs h) fx.dv
    obtain ⟨rows, hrows, hcnt⟩ := F.news fun u hu => by
      obtain ⟨s, m, hs, h, _⟩ := fx.dv u hu
      exact ⟨s, m, hs, h⟩
    rw [htab, hrows]
    rw [hrows, List.length_map] at ht
    refine ⟨_, rfl, g, rfl, fx.g1, fx.g2, ringT g, rfl, fun r hr => ?_, ?_⟩
    · unfold ringT tabF at hr
      obtain ⟨x, _, rfl⟩ := List.mem_map.mp hr
      simp
    try simp_arith [kAnd]
    refine ⟨_, rfl, rows, rfl, ht, ?_⟩
    try simp_arith []
    rw [show decide (((rows.filter isNw).length : Int) = (need : Int) - 1) = true from decide_eq_true (by omega)]
    exact q.2 _
  · try simp_arith []
    refine hN _ _ ?_
    refine seq_n fun N hN => ?_
    try simp_arith []
    rw [show D.lst [lwD rs, lwD ps] = (fun L : List (List (List Int)) => D.lst (L.map lwD)) [rs, ps] from rfl, Codec.lw.lst.sNe (by decide)]
    try simp_arith []
    refine ⟨by omega, hN _ _ ?_⟩
    refine seq_n fun N hN => ?_
    try simp_arith [dXFld]
    refine if_t (by simp; omega) ?_
    try simp_arith []
    obtain ⟨rows, hrows, hcnt⟩ := F.news fun u hu => by
      obtain ⟨s, m, hs, h, _⟩ := fx.dv u hu
      exact ⟨s, m, hs, h⟩
    rw [hrows]
    rw [hrows, List.length_map] at ht
    refine ⟨_, _, _, rfl, rfl, rfl, lim, rfl, ?_⟩
    try simp_arith [dXFld]
    refine ⟨_, _, _, rfl, rfl, rfl, ?_⟩
    try simp_arith [kAnd]
    refine ⟨_, _, _, rfl, rfl, rfl, rows, rfl, ht, ?_⟩
    try simp_arith []
    rw [show decide (((rows.filter isNw).length : Int) = (lim : Int) - 1) = true from decide_eq_true (by omega)]
    exact q.2 _

/-! ### the defs by their places, and that they do so -/
def top (i : Nat) : Stmt := PySem.Challenge.pw_cosetyard_k30_one_letter.main.body.getD i (.Pass ⟨0, 0, 0, 0⟩)
structure Bs (mg : Str → Option Value) : Prop where
  bool_ : mg "bool" = none
  enumerate_ : mg "enumerate" = none
  int_ : mg "int" = none
  isinstance_ : mg "isinstance" = none
  len_ : mg "len" = none
  list_ : mg "list" = none
  max_ : mg "max" = none
  min_ : mg "min" = none
  range_ : mg "range" = none
  tuple_ : mg "tuple" = none
abbrev s_Rooms_init : Stmt := inClass (top 16) 0
theorem sc_Rooms_init : FnScope ["self", "letters"] ["self", "letters"] (defScope s_Rooms_init) := ⟨rfl, rfl, rfl, by decide +kernel, rfl, by decide +kernel, by decide +kernel⟩
abbrev s_Rooms_make : Stmt := inClass (top 16) 1
theorem sc_Rooms_make : FnScope ["self", "room", "step", "other"] ["self", "room", "step"] (defScope s_Rooms_make) := ⟨rfl, rfl, rfl, by decide +kernel, rfl, by decide +kernel, by decide +kernel⟩
abbrev s_Rooms_tie : Stmt := inClass (top 16) 3
theorem sc_Rooms_tie : FnScope ["self", "room", "step", "other", "due", "there", "here"] ["self", "room", "step", "other", "due"] (defScope s_Rooms_tie) := ⟨rfl, rfl, rfl, by decide +kernel, rfl, by decide +kernel, by decide +kernel⟩
abbrev s_Rooms_put_together : Stmt := inClass (top 16) 4
theorem sc_Rooms_put_together : FnScope ["self", "less", "more", "due", "ways", "step", "other"] ["self", "less", "more", "due"] (defScope s_Rooms_put_together) := ⟨rfl, rfl, rfl, by decide +kernel, rfl, by decide +kernel, by decide +kernel⟩
abbrev s_Rooms_lay : Stmt := inClass (top 16) 2
theorem sc_Rooms_lay : FnScope ["self", "room", "step", "other", "row", "due", "one", "two", "less", "more"] ["self", "room", "step", "other", "row"] (defScope s_Rooms_lay) := ⟨rfl, rfl, rfl, by decide +kernel, rfl, by decide +kernel, by decide +kernel⟩
abbrev s_Rooms_by : Stmt := inClass (top 16) 5
theorem sc_Rooms_by : FnScope ["self", "room", "step"] ["self", "room", "step"] (defScope s_Rooms_by) := ⟨rfl, rfl, rfl, by decide +kernel, rfl, by decide +kernel, by decide +kernel⟩
abbrev s_Rooms_elder : Stmt := inClass (top 16) 6
theorem sc_Rooms_elder : FnScope ["self", "room"] ["self", "room"] (defScope s_Rooms_elder) := ⟨rfl, rfl, rfl, by decide +kernel, rfl, by decide +kernel, by decide +kernel⟩
abbrev s_Rooms_standing : Stmt := inClass (top 16) 7
theorem sc_Rooms_standing : FnScope ["self", "room"] ["self"] (defScope s_Rooms_standing) := ⟨rfl, rfl, rfl, by decide +kernel, rfl, by decide +kernel, by decide +kernel⟩
abbrev s_Rooms_paper : Stmt := inClass (top 16) 8
theorem sc_Rooms_paper : FnScope ["self"] ["self"] (defScope s_Rooms_paper) := ⟨rfl, rfl, rfl, by decide +kernel, rfl, by decide +kernel, by decide +kernel⟩
abbrev s_path_of : Stmt := top 1
theorem sc_path_of : FnScope ["rooms", "room", "word", "path", "step", "other"] ["rooms", "room", "word"] (defScope s_path_of) := ⟨rfl, rfl, rfl, by decide +kernel, rfl, by decide +kernel, by decide +kernel⟩
abbrev s_scan : Stmt := top 2
theorem sc_scan : FnScope ["rooms", "which", "word", "room", "path", "at", "rest", "tail", "step"] ["rooms", "which", "word", "room"] (defScope s_scan) := ⟨rfl, rfl, rfl, by decide +kernel, rfl, by decide +kernel, by decide +kernel⟩
abbrev s_close : Stmt := top 3
theorem sc_close : FnScope ["rooms", "rules", "part", "words", "busy", "room", "which", "word"] ["rooms", "rules", "part"] (defScope s_close) := ⟨rfl, rfl, rfl, by decide +kernel, rfl, by decide +kernel, by decide +kernel⟩
abbrev s_steps_of : Stmt := top 9
theorem sc_steps_of : FnScope ["letters", "steps", "letter"] ["letters"] (defScope s_steps_of) := ⟨rfl, rfl, rfl, by decide +kernel, rfl, by decide +kernel, by decide +kernel⟩
abbrev s_numbered : Stmt := top 18
theorem sc_numbered : FnScope ["rooms", "steps", "numbers", "come", "at", "step", "other", "table", "room"] ["rooms"] (defScope s_numbered) := ⟨rfl, rfl, rfl, by decide +kernel, rfl, by decide +kernel, by decide +kernel⟩
abbrev s_Order_mark : Stmt := inClass (top 11) 0
theorem sc_Order_mark : FnScope ["self", "room", "place"] ["self", "room", "place"] (defScope s_Order_mark) := ⟨rfl, rfl, rfl, by decide +kernel, rfl, by decide +kernel, by decide +kernel⟩
abbrev s_ByLetters_mark : Stmt := inClass (top 12) 0
theorem sc_ByLetters_mark : FnScope ["self", "room", "place"] ["self", "room", "place"] (defScope s_ByLetters_mark) := ⟨rfl, rfl, rfl, by decide +kernel, rfl, by decide +kernel, by decide +kernel⟩
abbrev s_Newest_mark : Stmt := inClass (top 13) 0
theorem sc_Newest_mark : FnScope ["self", "room", "place"] ["self", "room", "place"] (defScope s_Newest_mark) := ⟨rfl, rfl, rfl, by decide +kernel, rfl, by decide +kernel, by decide +kernel⟩
abbrev s_Order_gap : Stmt := inClass (top 11) 1
theorem sc_Order_gap : FnScope ["self", "rooms", "first", "least", "room", "place", "step", "rank"] ["self", "rooms"] (defScope s_Order_gap) := ⟨rfl, rfl, rfl, by decide +kernel, rfl, by decide +kernel, by decide +kernel⟩
abbrev s_order_by : Stmt := top 14
theorem sc_order_by : FnScope ["name"] ["name"] (defScope s_order_by) := ⟨rfl, rfl, rfl, by decide +kernel, rfl, by decide +kernel, by decide +kernel⟩
abbrev s_TooMany_init : Stmt := inClass (top 7) 0
theorem sc_TooMany_init : FnScope ["self", "made", "rows"] ["self", "made", "rows"] (defScope s_TooMany_init) := ⟨rfl, rfl, rfl, by decide +kernel, rfl, by decide +kernel, by decide +kernel⟩
abbrev s_fill : Stmt := top 20
theorem sc_fill : FnScope ["letters", "rules", "part", "limit", "order", "chosen", "rooms", "found"] ["letters", "rules", "part", "limit", "order"] (defScope s_fill) := ⟨rfl, rfl, rfl, by decide +kernel, rfl, by decide +kernel, by decide +kernel⟩
abbrev s_Lcell_at : Stmt := top 22
theorem sc_Lcell_at : FnScope ["_law_script", "_law_k"] ["_law_script", "_law_k"] (defScope s_Lcell_at) := ⟨rfl, rfl, rfl, by decide +kernel, rfl, by decide +kernel, by decide +kernel⟩
abbrev s_Lwhole : Stmt := top 23
theorem sc_Lwhole : FnScope ["_law_found"] ["_law_found"] (defScope s_Lwhole) := ⟨rfl, rfl, rfl, by decide +kernel, rfl, by decide +kernel, by decide +kernel⟩
abbrev s_Lfilled : Stmt := top 24
theorem sc_Lfilled : FnScope ["_law_letters", "_law_rules", "_law_part", "_law_limit", "_law_order", "_law_found", "_law_refused", "e"] ["_law_letters", "_law_rules", "_law_part", "_law_limit", "_law_order"] (defScope s_Lfilled) := ⟨rfl, rfl, rfl, by decide +kernel, rfl, by decide +kernel, by decide +kernel⟩
abbrev s_Lring : Stmt := top 25
theorem sc_Lring : FnScope ["_law_many", "_law_spots", "_law_at", "_law_spot"] ["_law_many"] (defScope s_Lring) := ⟨rfl, rfl, rfl, by decide +kernel, rfl, by decide +kernel, by decide +kernel⟩
abbrev s_Lcommon : Stmt := top 26
theorem sc_Lcommon : FnScope ["_law_one", "_law_other", "_law_rest"] ["_law_one", "_law_other"] (defScope s_Lcommon) := ⟨rfl, rfl, rfl, by decide +kernel, rfl, by decide +kernel, by decide +kernel⟩
abbrev s_Lnews : Stmt := top 27
theorem sc_Lnews : FnScope ["_law_rows", "_law_row"] ["_law_rows"] (defScope s_Lnews) := ⟨rfl, rfl, rfl, by decide +kernel, rfl, by decide +kernel, by decide +kernel⟩
abbrev s_Lsame : Stmt := top 28
theorem sc_Lsame : FnScope ["_law_table", "_law_due", "_law_row"] ["_law_table", "_law_due"] (defScope s_Lsame) := ⟨rfl, rfl, rfl, by decide +kernel, rfl, by decide +kernel, by decide +kernel⟩
abbrev s_law : Stmt := top 29
theorem sc_law : FnScope ["_law_script", "_law_often", "_law_rules", "_law_part", "_law_need", "_law_other", "_law_limit", "_law_order", "_law_handed", "_law_found", "_law_refused"] ["_law_script"] (defScope s_law) := ⟨rfl, rfl, rfl, by decide +kernel, rfl, by decide +kernel, by decide +kernel⟩
section
variable {P : Program} {w : World} {K : PySem.W.Frag} {mg : Str → Option Value} {base : Heap}
def prX (s : Str) : Bool := (["NoOrder", "TooMany", "YardError"] : List Str).contains s
theorem d_Rooms_init {f : Addr} {fd : FuncData} (F : L2.Fun K "__init__" "Rooms.__init__" s_Rooms_init f fd) (B : Bs mg) {C_Rooms : Addr} (a_Rooms : PySem.W.nsIn K mainGlobals "Rooms" = some (some (.ref C_Rooms))) (c_Rooms : Cls K C_Rooms) (n_Rooms_elders : NoAttr K C_Rooms "elders") (n_Rooms_known : NoAttr K C_Rooms "known") (n_Rooms_letters : NoAttr K C_Rooms "letters") (n_Rooms_made : NoAttr K C_Rooms "made") (n_Rooms_told : NoAttr K C_Rooms "told") (hm : Mk K C_Rooms f) (mC : mg "Rooms" = some (.ref C_Rooms)) : Mak P w K mg base 1 "Rooms" T_Rooms_init :=
  mak_ok F sc_Rooms_init a_Rooms mC hm (fun _ _ _ _ _ _ us hl => match us, hl with | [_, _], _ => rfl) (fun ds w P h => len_Rooms_init ds w P h) ⟨fun _ => b_Rooms_init, fun cdv A outer s H F0 He0 w0 rep0 E hr => (jss_cons (js_fld false rfl a_Rooms c_Rooms n_Rooms_letters (jo_var (pv 0)) (jx_var (pv 1))) (jss_cons (js_fld false rfl a_Rooms c_Rooms n_Rooms_made (jo_var (pv 0)) jx_int) (jss_cons (js_fld true rfl a_Rooms c_Rooms n_Rooms_elders (jo_var (pv 0)) (jx_lst (ja_cons jx_int ja_nil))) (jss_cons (js_fld true rfl a_Rooms c_Rooms n_Rooms_known (jo_var (pv 0)) (jx_lst (ja_consN jx_dicK ja_nil))) (jss_one (js_fld true rfl a_Rooms c_Rooms n_Rooms_told (jo_var (pv 0)) (jx_lst ja_nil))))))), fun ds w P h => v_Rooms_init ds w P h⟩
theorem d_Rooms_make {f : Addr} {fd : FuncData} (F : L2.Fun K "make" "Rooms.make" s_Rooms_make f fd) (B : Bs mg) {C_Rooms : Addr} (a_Rooms : PySem.W.nsIn K mainGlobals "Rooms" = some (some (.ref C_Rooms))) (c_Rooms : Cls K C_Rooms) (n_Rooms_elders : NoAttr K C_Rooms "elders") (n_Rooms_known : NoAttr K C_Rooms "known") (n_Rooms_made : NoAttr K C_Rooms "made") (n_Rooms_told : NoAttr K C_Rooms "told") (hm : Meth K C_Rooms "make" f) : Mth P w K mg base 1 "Rooms" "make" T_Rooms_make :=
  mth_ok F sc_Rooms_make a_Rooms c_Rooms hm (fun _ _ _ _ _ _ us hl => match us, hl with | [_, _, _], _ => rfl) (fun ds w P h => len_Rooms_make ds w P h) ⟨fun _ => b_Rooms_make, fun cdv A outer s H F0 He0 w0 rep0 E hr => (jss_cons (js_set (i := 3) false sc_Rooms_make.nd (jx_fld rfl a_Rooms c_Rooms n_Rooms_made (jo_var (pv 0)))) (jss_cons (js_fldAug rfl a_Rooms c_Rooms n_Rooms_made (jo_var (pv 0)) (jo_of jx_int)) (jss_cons (js_appN false rfl (jo_of (jx_fld rfl a_Rooms c_Rooms n_Rooms_elders (jo_var (pv 0)))) (jx_var (pv 3))) (jss_cons (js_appN true rfl (jo_of (jx_fld rfl a_Rooms c_Rooms n_Rooms_known (jo_var (pv 0)))) (jx_disp1 (jo_of (jx_un un_neg sem_neg (jo_var (pv 2)))) (jx_var (pv 1)))) (jss_cons (js_putN false rfl (hu1 hr) (jo_of (jx_ix rfl (hu1 hr) (jo_of (jx_fld rfl a_Rooms c_Rooms n_Rooms_known (jo_var (pv 0)))) (jo_var (pv 1)))) (jo_var (pv 2)) (jx_var (pv 3))) (jss_cons (js_appN false rfl (jo_of (jx_fld rfl a_Rooms c_Rooms n_Rooms_told (jo_var (pv 0)))) (jx_tup (ja_cons jx_str (ja_cons (jx_var (pv 1)) (ja_cons (jx_var (pv 2)) (ja_cons (jx_var (pv 3)) ja_nil)))))) (jss_one (js_retV (pv 3))))))))), fun ds w P h => v_Rooms_make ds w P h⟩
theorem d_Rooms_tie {f : Addr} {fd : FuncData} (F : L2.Fun K "tie" "Rooms.tie" s_Rooms_tie f fd) (B : Bs mg) {C_Rooms : Addr} (a_Rooms : PySem.W.nsIn K mainGlobals "Rooms" = some (some (.ref C_Rooms))) (c_Rooms : Cls K C_Rooms) (n_Rooms_known : NoAttr K C_Rooms "known") (hm : Meth K C_Rooms "tie" f) : Mth P w K mg base 1 "Rooms" "tie" T_Rooms_tie :=
  mth_ok F sc_Rooms_tie a_Rooms c_Rooms hm (fun _ _ _ _ _ _ us hl => match us, hl with | [_, _, _, _, _], _ => rfl) (fun ds w P h => len_Rooms_tie ds w P h) ⟨fun _ => b_Rooms_tie, fun cdv A outer s H F0 He0 w0 rep0 E hr => (jss_cons (js_set (i := 5) false sc_Rooms_tie.nd (jx_get1 rfl (hu1 hr) (jo_of (jx_ix rfl (hu1 hr) (jo_of (jx_fld rfl a_Rooms c_Rooms n_Rooms_known (jo_var (pv 0)))) (jo_var (pv 1)))) (jo_var (pv 2)))) (jss_cons (js_if (jt_cmp op_notN sem_notN (jo_var (pv 5)) (jo_of jx_non) (by rfl)) (jss_cons (js_if (jt_cmp (op_neP (hu64 hr)) sem_ne (jo_var (pv 5)) (jo_var (pv 3)) (by rfl)) (jss_one (js_appN false rfl (jo_var (pv 4)) (jx_tup (ja_cons (jx_var (pv 1)) (ja_cons (jx_var (pv 2)) (ja_cons (jx_var (pv 5)) (ja_cons (jx_var (pv 3)) ja_nil))))))) jss_nil) (jss_one js_retN)) jss_nil) (jss_cons (js_set (i := 6) false sc_Rooms_tie.nd (jx_get1 rfl (hu1 hr) (jo_of (jx_ix rfl (hu1 hr) (jo_of (jx_fld rfl a_Rooms c_Rooms n_Rooms_known (jo_var (pv 0)))) (jo_var (pv 3)))) (jo_of (jx_un un_neg sem_neg (jo_var (pv 2)))))) (jss_cons (js_if (jt_cmp op_notN sem_notN (jo_var (pv 6)) (jo_of jx_non) (by rfl)) (jss_cons (js_appN false rfl (jo_var (pv 4)) (jx_tup (ja_cons (jx_var (pv 3)) (ja_cons (jx_un un_neg sem_neg (jo_var (pv 2))) (ja_cons (jx_var (pv 6)) (ja_cons (jx_var (pv 1)) ja_nil)))))) (jss_one js_retN)) jss_nil) (jss_cons (js_putN false rfl (hu1 hr) (jo_of (jx_ix rfl (hu1 hr) (jo_of (jx_fld rfl a_Rooms c_Rooms n_Rooms_known (jo_var (pv 0)))) (jo_var (pv 1)))) (jo_var (pv 2)) (jx_var (pv 3))) (jss_one (js_putN false rfl (hu1 hr) (jo_of (jx_ix rfl (hu1 hr) (jo_of (jx_fld rfl a_Rooms c_Rooms n_Rooms_known (jo_var (pv 0)))) (jo_var (pv 3)))) (jo_of (jx_un un_neg sem_neg (jo_var (pv 2)))) (jx_var (pv 1))))))))), fun ds w P h => v_Rooms_tie ds w P h⟩
theorem d_Rooms_put_together {f : Addr} {fd : FuncData} (F : L2.Fun K "put_together" "Rooms.put_together" s_Rooms_put_together f fd) (B : Bs mg) {C_Rooms : Addr} (a_Rooms : PySem.W.nsIn K mainGlobals "Rooms" = some (some (.ref C_Rooms))) (c_Rooms : Cls K C_Rooms) (n_Rooms_elders : NoAttr K C_Rooms "elders") (n_Rooms_known : NoAttr K C_Rooms "known") (h_Rooms_elder : Mth P w K mg base 1 "Rooms" "elder" T_Rooms_elder) (h_Rooms_tie : Mth P w K mg base 1 "Rooms" "tie" T_Rooms_tie) (hm : Meth K C_Rooms "put_together" f) : Mth P w K mg base 2 "Rooms" "put_together" T_Rooms_put_together :=
  mth_ok F sc_Rooms_put_together a_Rooms c_Rooms hm (fun _ _ _ _ _ _ us hl => match us, hl with | [_, _, _, _], _ => rfl) (fun ds w P h => len_Rooms_put_together ds w P h) ⟨fun _ => b_Rooms_put_together, fun cdv A outer s H F0 He0 w0 rep0 E hr => (jss_cons (js_set (i := 4) false sc_Rooms_put_together.nd (jx_ix rfl (hu1 hr) (jo_of (jx_fld rfl a_Rooms c_Rooms n_Rooms_known (jo_var (pv 0)))) (jo_var (pv 2)))) (jss_cons (js_putN true rfl (hu1 hr) (jo_of (jx_fld rfl a_Rooms c_Rooms n_Rooms_known (jo_var (pv 0)))) (jo_var (pv 2)) jx_dicK) (jss_cons (js_putN false rfl (hu1 hr) (jo_of (jx_fld rfl a_Rooms c_Rooms n_Rooms_elders (jo_var (pv 0)))) (jo_var (pv 2)) (jx_var (pv 1))) (jss_cons (js_lock (js_forItems PassesOwn.never rfl (jo_var (pv 4)) (pg_tup rfl (pgs_cons (pg_name (i := 5) sc_Rooms_put_together.nd rfl (by first | exact Or.inl rfl | exact Or.inr rfl)) (pgs_cons (pg_name (i := 6) sc_Rooms_put_together.nd rfl (by first | exact Or.inl rfl | exact Or.inr rfl)) pgs_nil))) (gok_tup (gsok_cons (gok_name 5) (gsok_cons (gok_name 6) gsok_nil))) (jss_one (js_if (jt_cmp (op_neP (hu64 hr)) sem_ne (jo_var (pv 6)) (jo_var (pv 2)) (by rfl)) (jss_one (js_expr (jx_dpop rfl (jo_of (jx_ix rfl (hu1 hr) (jo_of (jx_fld rfl a_Rooms c_Rooms n_Rooms_known (jo_var (pv 0)))) (jo_var (pv 6)))) (jo_of (jx_un un_neg sem_neg (jo_var (pv 5))))))) jss_nil)))) (jss_one (js_lock (js_forItems PassesOwn.never rfl (jo_var (pv 4)) (pg_tup rfl (pgs_cons (pg_name (i := 5) sc_Rooms_put_together.nd rfl (by first | exact Or.inl rfl | exact Or.inr rfl)) (pgs_cons (pg_name (i := 6) sc_Rooms_put_together.nd rfl (by first | exact Or.inl rfl | exact Or.inr rfl)) pgs_nil))) (gok_tup (gsok_cons (gok_name 5) (gsok_cons (gok_name 6) gsok_nil))) (jss_one (js_expr (jx_meth h_Rooms_tie rfl (hr.mono (by decide)) (jo_var (pv 0)) (ja_cons (jx_var (pv 1)) (ja_cons (jx_var (pv 5)) (ja_consN (jx_meth h_Rooms_elder rfl (hr.mono (by decide)) (jo_var (pv 0)) (ja_cons (jx_var (pv 6)) ja_nil)) (ja_cons (jx_var (pv 3)) ja_nil)))))))))))))), fun ds w P h => v_Rooms_put_together ds w P h⟩
theorem d_Rooms_lay {f : Addr} {fd : FuncData} (F : L2.Fun K "lay" "Rooms.lay" s_Rooms_lay f fd) (B : Bs mg) {C_Rooms : Addr} (a_Rooms : PySem.W.nsIn K mainGlobals "Rooms" = some (some (.ref C_Rooms))) (c_Rooms : Cls K C_Rooms) (n_Rooms_told : NoAttr K C_Rooms "told") (h_Rooms_elder : Mth P w K mg base 1 "Rooms" "elder" T_Rooms_elder) (h_Rooms_put_together : Mth P w K mg base 2 "Rooms" "put_together" T_Rooms_put_together) (h_Rooms_tie : Mth P w K mg base 1 "Rooms" "tie" T_Rooms_tie) (hm : Meth K C_Rooms "lay" f) : Mth P w K mg base 3 "Rooms" "lay" T_Rooms_lay :=
  mth_ok F sc_Rooms_lay a_Rooms c_Rooms hm (fun _ _ _ _ _ _ us hl => match us, hl with | [_, _, _, _, _], _ => rfl) (fun ds w P h => len_Rooms_lay ds w P h) ⟨fun _ => b_Rooms_lay, fun cdv A outer s H F0 He0 w0 rep0 E hr => (jss_cons (js_appN false rfl (jo_of (jx_fld rfl a_Rooms c_Rooms n_Rooms_told (jo_var (pv 0)))) (jx_var (pv 4))) (jss_cons (js_setN (i := 5) sc_Rooms_lay.nd (jx_lst ja_nil)) (jss_cons (js_expr (jx_meth h_Rooms_tie rfl (hr.mono (by decide)) (jo_var (pv 0)) (ja_cons (jx_var (pv 1)) (ja_cons (jx_var (pv 2)) (ja_cons (jx_var (pv 3)) (ja_cons (jx_var (pv 5)) ja_nil)))))) (jss_one (js_while PassesOwn.never (jt_tru rfl (jo_var (pv 5))) (jss_cons (js_asg (jx_lpopAt rfl (jo_var (pv 5)) (jo_of jx_int)) (pg_tup rfl (pgs_cons (pg_name (i := 1) sc_Rooms_lay.nd rfl (by first | exact Or.inl rfl | exact Or.inr rfl)) (pgs_cons (pg_name (i := 2) sc_Rooms_lay.nd rfl (by first | exact Or.inl rfl | exact Or.inr rfl)) (pgs_cons (pg_name (i := 6) sc_Rooms_lay.nd rfl (by first | exact Or.inl rfl | exact Or.inr rfl)) (pgs_cons (pg_name (i := 7) sc_Rooms_lay.nd rfl (by first | exact Or.inl rfl | exact Or.inr rfl)) pgs_nil))))) (gok_tup (gsok_cons (gok_name 1) (gsok_cons (gok_name 2) (gsok_cons (gok_name 6) (gsok_cons (gok_name 7) gsok_nil)))))) (jss_cons (js_set (i := 8) false sc_Rooms_lay.nd (jx_b2 (call_min2 rfl) sem_min (by rfl) B.min_ bb_min (jo_of (jx_meth h_Rooms_elder rfl (hr.mono (by decide)) (jo_var (pv 0)) (ja_cons (jx_var (pv 6)) ja_nil))) (jo_of (jx_meth h_Rooms_elder rfl (hr.mono (by decide)) (jo_var (pv 0)) (ja_cons (jx_var (pv 7)) ja_nil))))) (jss_cons (js_set (i := 9) false sc_Rooms_lay.nd (jx_b2 (call_max2 rfl) sem_max (by rfl) B.max_ bb_max (jo_of (jx_meth h_Rooms_elder rfl (hr.mono (by decide)) (jo_var (pv 0)) (ja_cons (jx_var (pv 6)) ja_nil))) (jo_of (jx_meth h_Rooms_elder rfl (hr.mono (by decide)) (jo_var (pv 0)) (ja_cons (jx_var (pv 7)) ja_nil))))) (jss_one (js_if (jt_cmp (op_ltD (hu0 hr)) sem_lt (jo_var (pv 8)) (jo_var (pv 9)) (by rfl)) (jss_cons (js_appN false rfl (jo_of (jx_fld rfl a_Rooms c_Rooms n_Rooms_told (jo_var (pv 0)))) (jx_tup (ja_cons jx_str (ja_cons (jx_meth h_Rooms_elder rfl (hr.mono (by decide)) (jo_var (pv 0)) (ja_cons (jx_var (pv 1)) ja_nil)) (ja_cons (jx_var (pv 2)) (ja_cons (jx_var (pv 8)) (ja_cons (jx_var (pv 9)) ja_nil))))))) (jss_one (js_expr (jx_meth h_Rooms_put_together rfl (hr.mono (by decide)) (jo_var (pv 0)) (ja_cons (jx_var (pv 8)) (ja_cons (jx_var (pv 9)) (ja_cons (jx_var (pv 5)) ja_nil))))))) jss_nil)))))))))), fun ds w P h => v_Rooms_lay ds w P h⟩
theorem d_Rooms_by {f : Addr} {fd : FuncData} (F : L2.Fun K "by" "Rooms.by" s_Rooms_by f fd) (B : Bs mg) {C_Rooms : Addr} (a_Rooms : PySem.W.nsIn K mainGlobals "Rooms" = some (some (.ref C_Rooms))) (c_Rooms : Cls K C_Rooms) (n_Rooms_known : NoAttr K C_Rooms "known") (hm : Meth K C_Rooms "by" f) : Mth P w K mg base 1 "Rooms" "by" T_Rooms_by :=
  mth_ok F sc_Rooms_by a_Rooms c_Rooms hm (fun _ _ _ _ _ _ us hl => match us, hl with | [_, _, _], _ => rfl) (fun ds w P h => len_Rooms_by ds w P h) ⟨fun _ => b_Rooms_by, fun cdv A outer s H F0 He0 w0 rep0 E hr => (jss_one (js_ret (jx_get1 rfl (hu1 hr) (jo_of (jx_ix rfl (hu1 hr) (jo_of (jx_fld rfl a_Rooms c_Rooms n_Rooms_known (jo_var (pv 0)))) (jo_var (pv 1)))) (jo_var (pv 2))))), fun ds w P h => v_Rooms_by ds w P h⟩
theorem d_Rooms_elder {f : Addr} {fd : FuncData} (F : L2.Fun K "elder" "Rooms.elder" s_Rooms_elder f fd) (B : Bs mg) {C_Rooms : Addr} (a_Rooms : PySem.W.nsIn K mainGlobals "Rooms" = some (some (.ref C_Rooms))) (c_Rooms : Cls K C_Rooms) (n_Rooms_elders : NoAttr K C_Rooms "elders") (hm : Meth K C_Rooms "elder" f) : Mth P w K mg base 1 "Rooms" "elder" T_Rooms_elder :=
  mth_ok F sc_Rooms_elder a_Rooms c_Rooms hm (fun _ _ _ _ _ _ us hl => match us, hl with | [_, _], _ => rfl) (fun ds w P h => len_Rooms_elder ds w P h) ⟨fun _ => b_Rooms_elder, fun cdv A outer s H F0 He0 w0 rep0 E hr => (jss_cons (js_while PassesOwn.never (jt_cmp (op_neP (hu64 hr)) sem_ne (jo_of (jx_ix rfl (hu1 hr) (jo_of (jx_fld rfl a_Rooms c_Rooms n_Rooms_elders (jo_var (pv 0)))) (jo_var (pv 1)))) (jo_var (pv 1)) (by rfl)) (jss_one (js_set (i := 1) false sc_Rooms_elder.nd (jx_ix rfl (hu1 hr) (jo_of (jx_fld rfl a_Rooms c_Rooms n_Rooms_elders (jo_var (pv 0)))) (jo_var (pv 1)))))) (jss_one (js_retV (pv 1)))), fun ds w P h => v_Rooms_elder ds w P h⟩
theorem d_Rooms_standing {f : Addr} {fd : FuncData} (F : L2.Fun K "standing" "Rooms.standing" s_Rooms_standing f fd) (B : Bs mg) {C_Rooms : Addr} (a_Rooms : PySem.W.nsIn K mainGlobals "Rooms" = some (some (.ref C_Rooms))) (c_Rooms : Cls K C_Rooms) (n_Rooms_elders : NoAttr K C_Rooms "elders") (n_Rooms_made : NoAttr K C_Rooms "made") (hm : Meth K C_Rooms "standing" f) : Mth P w K mg base 1 "Rooms" "standing" T_Rooms_standing :=
  mth_ok F sc_Rooms_standing a_Rooms c_Rooms hm (fun _ _ _ _ _ _ us hl => match us, hl with | [_], _ => rfl) (fun ds w P h => len_Rooms_standing ds w P h) ⟨fun _ => b_Rooms_standing, fun cdv A outer s H F0 He0 w0 rep0 E hr => (jss_one (js_ret (jx_lc rfl sc_Rooms_standing.nd (ji_rng1 B.range_ (jo_of (jx_fld rfl a_Rooms c_Rooms n_Rooms_made (jo_var (pv 0))))) (blkOk_by (own := [("room", 1)]) rfl) (gokv_name 1 (by decide)) (fun _ _ _ _ _ => (pg_name (i := 1) sc_Rooms_standing.nd rfl (by first | exact Or.inl rfl | exact Or.inr rfl))) (fun _ _ _ _ _ => jts_one (jt_cmp (op_eqP (hu64 hr)) sem_eq (jo_of (jx_ix rfl (hu1 hr) (jo_of (jx_fld rfl a_Rooms c_Rooms n_Rooms_elders (jo_var (pv 0)))) (jo_var (pv 1)))) (jo_var (pv 1)) (by rfl))) (fun _ _ _ _ _ => (jx_var (pv 1)))))), fun ds w P h => v_Rooms_standing ds w P h⟩
theorem d_Rooms_paper {f : Addr} {fd : FuncData} (F : L2.Fun K "paper" "Rooms.paper" s_Rooms_paper f fd) (B : Bs mg) {C_Rooms : Addr} (a_Rooms : PySem.W.nsIn K mainGlobals "Rooms" = some (some (.ref C_Rooms))) (c_Rooms : Cls K C_Rooms) (n_Rooms_told : NoAttr K C_Rooms "told") (hm : Meth K C_Rooms "paper" f) : Mth P w K mg base 1 "Rooms" "paper" T_Rooms_paper :=
  mth_ok F sc_Rooms_paper a_Rooms c_Rooms hm (fun _ _ _ _ _ _ us hl => match us, hl with | [_], _ => rfl) (fun ds w P h => len_Rooms_paper ds w P h) ⟨fun _ => b_Rooms_paper, fun cdv A outer s H F0 He0 w0 rep0 E hr => (jss_one (js_ret (jx_t1 call_list_of sem_list (by rfl) B.list_ bt_list (jo_of (jx_fld rfl a_Rooms c_Rooms n_Rooms_told (jo_var (pv 0))))))), fun ds w P h => v_Rooms_paper ds w P h⟩
theorem d_path_of {f : Addr} {fd : FuncData} (F : TopFn K mg "path_of" "path_of" s_path_of f fd) (B : Bs mg) (h_Rooms_by : Mth P w K mg base 1 "Rooms" "by" T_Rooms_by) : Fn P w K mg base 2 "path_of" T_path_of :=
  fn_ok F.fn sc_path_of F.at_ (fun _ _ _ _ _ _ us hl => match us, hl with | [_, _, _], _ => rfl) (fun ds w P h => len_path_of ds w P h) ⟨fun _ => b_path_of, fun cdv A outer s H F0 He0 w0 rep0 E hr => (jss_cons (js_set (i := 3) true sc_path_of.nd (jx_lst (ja_cons (jx_var (pv 1)) ja_nil))) (jss_cons (js_for PassesOwn.never rfl (ji_any rfl (jx_var (pv 2))) (pg_name (i := 4) sc_path_of.nd rfl (by first | exact Or.inl rfl | exact Or.inr rfl)) (gok_name 4) (jss_cons (js_set (i := 5) false sc_path_of.nd (jx_meth h_Rooms_by rfl (hr.mono (by decide)) (jo_var (pv 0)) (ja_cons (jx_ix rfl (hu1 hr) (jo_var (pv 3)) (jo_of (jx_un un_neg sem_neg (jo_of jx_int)))) (ja_cons (jx_var (pv 4)) ja_nil)))) (jss_cons (js_if (jt_cmp op_isN sem_isN (jo_var (pv 5)) (jo_of jx_non) (by rfl)) (jss_one js_break) jss_nil) (jss_one (js_app rfl (pv 3) (jx_var (pv 5))))))) (jss_one (js_retV (pv 3))))), fun ds w P h => v_path_of ds w P h⟩
theorem d_scan {f : Addr} {fd : FuncData} (F : TopFn K mg "scan" "scan" s_scan f fd) (B : Bs mg) (h_Rooms_lay : Mth P w K mg base 3 "Rooms" "lay" T_Rooms_lay) (h_path_of : Fn P w K mg base 2 "path_of" T_path_of) : Fn P w K mg base 4 "scan" T_scan :=
  fn_ok F.fn sc_scan F.at_ (fun _ _ _ _ _ _ us hl => match us, hl with | [_, _, _, _], _ => rfl) (fun ds w P h => len_scan ds w P h) ⟨fun _ => b_scan, fun cdv A outer s H F0 He0 w0 rep0 E hr => (jss_cons (js_set (i := 4) true sc_scan.nd (jx_call h_path_of rfl (hr.mono (by decide)) (ja_cons (jx_var (pv 0)) (ja_cons (jx_var (pv 3)) (ja_cons (jx_var (pv 2)) ja_nil))))) (jss_cons (js_set (i := 5) false sc_scan.nd (jx_op op_sub sem_sub (jo_of (jx_b1 call_lenB sem_lenA (by rfl) B.len_ bb_len (jo_var (pv 4)))) (jo_of jx_int))) (jss_cons (js_if (jt_cmp (op_eqP (hu64 hr)) sem_eq (jo_var (pv 5)) (jo_of (jx_b1 call_lenB sem_lenA (by rfl) B.len_ bb_len (jo_var (pv 2)))) (by rfl)) (jss_cons (js_if (jt_cmp (op_eqP (hu64 hr)) sem_eq (jo_of (jx_ix rfl (hu1 hr) (jo_var (pv 4)) (jo_of (jx_un un_neg sem_neg (jo_of jx_int))))) (jo_var (pv 3)) (by rfl)) (jss_one (js_ret jx_bl)) jss_nil) (jss_cons (js_aug (i := 5) iop_sub sem_sub sc_scan.nd (jo_of jx_int)) (jss_one (js_put rfl (hu1 hr) (pv 4) (jo_of (jx_un un_neg sem_neg (jo_of jx_int))) (jx_var (pv 3)))))) (jss_cons (js_setLc (i := 6) false rfl sc_scan.nd rfl rfl (sw_true rfl rfl rfl (by decide +kernel)) (ji_any rfl (jx_sl rfl (jo_var (pv 2)) (jp_some (jo_of (jx_op op_addD sem_add (jo_var (pv 5)) (jo_of jx_int)))) jp_none)) (blkOk_by (own := [("step", 8)]) rfl) (gokv_name 8 (by decide)) (fun _ _ _ _ _ => (pg_name (i := 8) sc_scan.nd rfl (by first | exact Or.inl rfl | exact Or.inr rfl))) (fun _ _ _ _ _ => jts_nil) (fun _ _ _ _ _ => (jx_un un_neg sem_neg (jo_var (pv 8))))) (jss_cons (js_set (i := 7) false sc_scan.nd (jx_call h_path_of rfl (hr.mono (by decide)) (ja_cons (jx_var (pv 0)) (ja_cons (jx_var (pv 3)) (ja_cons (jx_rev rfl (jo_var (pv 6))) ja_nil))))) (jss_cons (js_if (jt_cmp op_le sem_le (jo_of (jx_b1 call_lenB sem_lenA (by rfl) B.len_ bb_len (jo_var (pv 7)))) (jo_of (jx_b1 call_lenB sem_lenA (by rfl) B.len_ bb_len (jo_var (pv 6)))) (by rfl)) (jss_one (js_ret jx_bl)) jss_nil) (jss_one (js_set (i := 4) true sc_scan.nd (jx_op op_addD sem_add (jo_var (pv 4)) (jo_of (jx_rev rfl (jo_var (pv 7))))))))))) (jss_cons (js_expr (jx_meth h_Rooms_lay rfl (hr.mono (by decide)) (jo_var (pv 0)) (ja_cons (jx_ix rfl (hu1 hr) (jo_var (pv 4)) (jo_var (pv 5))) (ja_cons (jx_ix rfl (hu1 hr) (jo_var (pv 2)) (jo_var (pv 5))) (ja_cons (jx_ix rfl (hu1 hr) (jo_var (pv 4)) (jo_of (jx_op op_addD sem_add (jo_var (pv 5)) (jo_of jx_int)))) (ja_cons (jx_tup (ja_cons jx_str (ja_cons (jx_var (pv 1)) (ja_cons (jx_t1 call_tuple_of sem_tuple (by rfl) B.tuple_ bt_tuple (jo_var (pv 4))) (ja_cons (jx_var (pv 5)) ja_nil))))) ja_nil)))))) (jss_one (js_ret jx_bl)))))), fun ds w P h => v_scan ds w P h⟩
theorem d_close {f : Addr} {fd : FuncData} (F : TopFn K mg "close" "close" s_close f fd) (B : Bs mg) (h_Rooms_elder : Mth P w K mg base 1 "Rooms" "elder" T_Rooms_elder) (h_Rooms_standing : Mth P w K mg base 1 "Rooms" "standing" T_Rooms_standing) (h_scan : Fn P w K mg base 4 "scan" T_scan) : Fn P w K mg base 5 "close" T_close :=
  fn_ok F.fn sc_close F.at_ (fun _ _ _ _ _ _ us hl => match us, hl with | [_, _, _], _ => rfl) (fun ds w P h => len_close ds w P h) ⟨fun _ => b_close, fun cdv A outer s H F0 He0 w0 rep0 E hr => (jss_cons (js_set (i := 3) false sc_close.nd (jx_op op_addD sem_add (jo_of (jx_t1 call_list_of sem_list (by rfl) B.list_ bt_list (jo_var (pv 1)))) (jo_of (jx_t1 call_list_of sem_list (by rfl) B.list_ bt_list (jo_var (pv 2)))))) (jss_cons (js_set (i := 4) false sc_close.nd jx_bl) (jss_one (js_while PassesOwn.never (jt_tru rfl (jo_var (pv 4))) (jss_cons (js_set (i := 4) false sc_close.nd jx_bl) (jss_one (js_for PassesOwn.never rfl (ji_any rfl (jx_meth0 h_Rooms_standing rfl (hr.mono (by decide)) (jo_var (pv 0)))) (pg_name (i := 5) sc_close.nd rfl (by first | exact Or.inl rfl | exact Or.inr rfl)) (gok_name 5) (jss_one (js_for PassesOwn.never rfl (ji_enumT rfl B.enumerate_ (ja_cons (jx_var (pv 3)) ja_nil)) (pg_tup rfl (pgs_cons (pg_name (i := 6) sc_close.nd rfl (by first | exact Or.inl rfl | exact Or.inr rfl)) (pgs_cons (pg_name (i := 7) sc_close.nd rfl (by first | exact Or.inl rfl | exact Or.inr rfl)) pgs_nil))) (gok_tup (gsok_cons (gok_name 6) (gsok_cons (gok_name 7) gsok_nil))) (jss_cons (js_if (jt_w (jw_or (jt_w (jw_and (jt_cmp op_gt sem_gt (jo_var (pv 5)) (jo_of jx_int) (by rfl)) (jw_and1 (jt_cmp op_ge sem_ge (jo_var (pv 6)) (jo_of (jx_b1 call_lenB sem_lenA (by rfl) B.len_ bb_len (jo_var (pv 1)))) (by rfl))))) (jw_or1 (jt_cmp (op_neP (hu64 hr)) sem_ne (jo_of (jx_meth h_Rooms_elder rfl (hr.mono (by decide)) (jo_var (pv 0)) (ja_cons (jx_var (pv 5)) ja_nil))) (jo_var (pv 5)) (by rfl))))) (jss_one js_cont) jss_nil) (jss_one (js_if (jt_tru rfl (jo_of (jx_call h_scan rfl (hr.mono (by decide)) (ja_cons (jx_var (pv 0)) (ja_cons (jx_var (pv 6)) (ja_cons (jx_var (pv 7)) (ja_cons (jx_var (pv 5)) ja_nil))))))) (jss_one (js_set (i := 4) false sc_close.nd jx_bl)) jss_nil)))))))))))), fun ds w P h => v_close ds w P h⟩
theorem d_steps_of {f : Addr} {fd : FuncData} (F : TopFn K mg "steps_of" "steps_of" s_steps_of f fd) (B : Bs mg) : Fn P w K mg base 1 "steps_of" T_steps_of :=
  fn_ok F.fn sc_steps_of F.at_ (fun _ _ _ _ _ _ us hl => match us, hl with | [_], _ => rfl) (fun ds w P h => len_steps_of ds w P h) ⟨fun _ => b_steps_of, fun cdv A outer s H F0 He0 w0 rep0 E hr => (jss_cons (js_set (i := 1) true sc_steps_of.nd (jx_lst ja_nil)) (jss_cons (js_for PassesOwn.never rfl (ji_rng2 B.range_ (jo_of jx_int) (jo_of (jx_op op_addD sem_add (jo_var (pv 0)) (jo_of jx_int)))) (pg_name (i := 2) sc_steps_of.nd rfl (by first | exact Or.inl rfl | exact Or.inr rfl)) (gok_name 2) (jss_cons (js_app rfl (pv 1) (jx_var (pv 2))) (jss_one (js_app rfl (pv 1) (jx_un un_neg sem_neg (jo_var (pv 2))))))) (jss_one (js_retV (pv 1))))), fun ds w P h => v_steps_of ds w P h⟩
theorem d_numbered {f : Addr} {fd : FuncData} (F : TopFn K mg "numbered" "numbered" s_numbered f fd) (B : Bs mg) {C_Rooms : Addr} (a_Rooms : PySem.W.nsIn K mainGlobals "Rooms" = some (some (.ref C_Rooms))) (c_Rooms : Cls K C_Rooms) (n_Rooms_letters : NoAttr K C_Rooms "letters") (h_Rooms_by : Mth P w K mg base 1 "Rooms" "by" T_Rooms_by) (h_steps_of : Fn P w K mg base 1 "steps_of" T_steps_of) : Fn P w K mg base 2 "numbered" T_numbered :=
  fn_ok F.fn sc_numbered F.at_ (fun _ _ _ _ _ _ us hl => match us, hl with | [_], _ => rfl) (fun ds w P h => len_numbered ds w P h) ⟨fun _ => b_numbered, fun cdv A outer s H F0 He0 w0 rep0 E hr => (jss_cons (js_set (i := 1) false sc_numbered.nd (jx_call h_steps_of rfl (hr.mono (by decide)) (ja_cons (jx_fld rfl a_Rooms c_Rooms n_Rooms_letters (jo_var (pv 0))) ja_nil))) (jss_cons (js_set (i := 2) true sc_numbered.nd (jx_disp1 (jo_of jx_int) jx_int)) (jss_cons (js_set (i := 3) true sc_numbered.nd (jx_lst (ja_cons jx_int ja_nil))) (jss_cons (js_set (i := 4) false sc_numbered.nd jx_int) (jss_cons (js_while PassesOwn.never (jt_cmp (op_ltD (hu0 hr)) sem_lt (jo_var (pv 4)) (jo_of (jx_b1 call_lenB sem_lenA (by rfl) B.len_ bb_len (jo_var (pv 3)))) (by rfl)) (jss_cons (js_for PassesOwn.never rfl (ji_any rfl (jx_var (pv 1))) (pg_name (i := 5) sc_numbered.nd rfl (by first | exact Or.inl rfl | exact Or.inr rfl)) (gok_name 5) (jss_cons (js_set (i := 6) false sc_numbered.nd (jx_meth h_Rooms_by rfl (hr.mono (by decide)) (jo_var (pv 0)) (ja_cons (jx_ix rfl (hu1 hr) (jo_var (pv 3)) (jo_var (pv 4))) (ja_cons (jx_var (pv 5)) ja_nil)))) (jss_one (js_if (jt_cmp (op_notInA (hu65 hr)) (sem_in true) (jo_var (pv 6)) (jo_var (pv 2)) (by rfl)) (jss_cons (js_put rfl (hu1 hr) (pv 2) (jo_var (pv 6)) (jx_b1 call_lenB sem_lenA (by rfl) B.len_ bb_len (jo_var (pv 3)))) (jss_one (js_app rfl (pv 3) (jx_var (pv 6))))) jss_nil)))) (jss_one (js_aug (i := 4) iop_addI sem_addI sc_numbered.nd (jo_of jx_int))))) (jss_cons (js_set (i := 7) true sc_numbered.nd (jx_lst ja_nil)) (jss_cons (js_frz 3 (js_for PassesOwn.never rfl (ji_any rfl (jx_var (pv 3))) (pg_name (i := 8) sc_numbered.nd rfl (by first | exact Or.inl rfl | exact Or.inr rfl)) (gok_name 8) (jss_one (js_app rfl (pv 7) (jx_lc rfl sc_numbered.nd (ji_any rfl (jx_var (pv 1))) (blkOk_by (own := [("step", 5)]) rfl) (gokv_name 5 (by decide)) (fun _ _ _ _ _ => (pg_name (i := 5) sc_numbered.nd rfl (by first | exact Or.inl rfl | exact Or.inr rfl))) (fun _ _ _ _ _ => jts_nil) (fun _ _ _ _ _ => (jx_ix rfl (hu1 hr) (jo_var (pv 2)) (jo_of (jx_meth h_Rooms_by rfl (hr.mono (by decide)) (jo_var (pv 0)) (ja_cons (jx_var (pv 8)) (ja_cons (jx_var (pv 5)) ja_nil))))))))))) (jss_one (js_retV (pv 7)))))))))), fun ds w P h => v_numbered ds w P h⟩
theorem d_Order_mark {f : Addr} {fd : FuncData} (F : L2.Fun K "mark" "Order.mark" s_Order_mark f fd) (B : Bs mg) {C_Order : Addr} (a_Order : PySem.W.nsIn K mainGlobals "Order" = some (some (.ref C_Order))) (c_Order : Cls K C_Order) (hm : Meth K C_Order "mark" f) : Mth P w K mg base 1 "Order" "mark" T_Order_mark :=
  mth_ok F sc_Order_mark a_Order c_Order hm (fun _ _ _ _ _ _ us hl => match us, hl with | [_, _, _], _ => rfl) (fun ds w P h => len_Order_mark ds w P h) ⟨fun _ => b_Order_mark, fun cdv A outer s H F0 He0 w0 rep0 E hr => (jss_one (js_ret (jx_tup (ja_cons (jx_var (pv 1)) (ja_cons (jx_var (pv 2)) ja_nil))))), fun ds w P h => v_Order_mark ds w P h⟩
theorem d_ByLetters_mark {f : Addr} {fd : FuncData} (F : L2.Fun K "mark" "ByLetters.mark" s_ByLetters_mark f fd) (B : Bs mg) {C_ByLetters : Addr} (a_ByLetters : PySem.W.nsIn K mainGlobals "ByLetters" = some (some (.ref C_ByLetters))) (c_ByLetters : Cls K C_ByLetters) (hm : Meth K C_ByLetters "mark" f) : Mth P w K mg base 1 "ByLetters" "mark" T_ByLetters_mark :=
  mth_ok F sc_ByLetters_mark a_ByLetters c_ByLetters hm (fun _ _ _ _ _ _ us hl => match us, hl with | [_, _, _], _ => rfl) (fun ds w P h => len_ByLetters_mark ds w P h) ⟨fun _ => b_ByLetters_mark, fun cdv A outer s H F0 He0 w0 rep0 E hr => (jss_one (js_ret (jx_tup (ja_cons (jx_var (pv 2)) (ja_cons (jx_var (pv 1)) ja_nil))))), fun ds w P h => v_ByLetters_mark ds w P h⟩
theorem d_Newest_mark {f : Addr} {fd : FuncData} (F : L2.Fun K "mark" "Newest.mark" s_Newest_mark f fd) (B : Bs mg) {C_Newest : Addr} (a_Newest : PySem.W.nsIn K mainGlobals "Newest" = some (some (.ref C_Newest))) (c_Newest : Cls K C_Newest) (hm : Meth K C_Newest "mark" f) : Mth P w K mg base 1 "Newest" "mark" T_Newest_mark :=
  mth_ok F sc_Newest_mark a_Newest c_Newest hm (fun _ _ _ _ _ _ us hl => match us, hl with | [_, _, _], _ => rfl) (fun ds w P h => len_Newest_mark ds w P h) ⟨fun _ => b_Newest_mark, fun cdv A outer s H F0 He0 w0 rep0 E hr => (jss_one (js_ret (jx_tup (ja_cons (jx_un un_neg sem_neg (jo_var (pv 1))) (ja_cons (jx_var (pv 2)) ja_nil))))), fun ds w P h => v_Newest_mark ds w P h⟩
theorem d_Order_gap {f : Addr} {fd : FuncData} (F : L2.Fun K "gap" "Order.gap" s_Order_gap f fd) (B : Bs mg) {C_Rooms : Addr} (a_Rooms : PySem.W.nsIn K mainGlobals "Rooms" = some (some (.ref C_Rooms))) (c_Rooms : Cls K C_Rooms) (n_Rooms_letters : NoAttr K C_Rooms "letters") (h_Rooms_by : Mth P w K mg base 1 "Rooms" "by" T_Rooms_by) (h_Rooms_standing : Mth P w K mg base 1 "Rooms" "standing" T_Rooms_standing) (h_steps_of : Fn P w K mg base 1 "steps_of" T_steps_of) (h_ByLetters_mark : Mth P w K mg base 1 "ByLetters" "mark" T_ByLetters_mark) (h_Newest_mark : Mth P w K mg base 1 "Newest" "mark" T_Newest_mark) (h_Order_mark : Mth P w K mg base 1 "Order" "mark" T_Order_mark) {cn : Str} {C_ : Addr} (a_ : PySem.W.nsIn K mainGlobals cn = some (some (.ref C_))) (c_ : Cls K C_) (hm : Meth K C_ "gap" f) : Mth P w K mg base 2 cn "gap" (T_Order_gap cn) :=
  mth_ok F sc_Order_gap a_ c_ hm (fun _ _ _ _ _ _ us hl => match us, hl with | [_, _], _ => rfl) (fun ds w P h => len_Order_gap _ ds w P h) ⟨fun _ => b_Order_gap, fun cdv A outer s H F0 He0 w0 rep0 E hr => (jss_cons (js_set (i := 2) false sc_Order_gap.nd jx_non) (jss_cons (js_set (i := 3) false sc_Order_gap.nd jx_non) (jss_cons (js_for PassesOwn.never rfl (ji_any rfl (jx_meth0 h_Rooms_standing rfl (hr.mono (by decide)) (jo_var (pv 1)))) (pg_name (i := 4) sc_Order_gap.nd rfl (by first | exact Or.inl rfl | exact Or.inr rfl)) (gok_name 4) (jss_one (js_for PassesOwn.never rfl (ji_enumT rfl B.enumerate_ (ja_cons (jx_call h_steps_of rfl (hr.mono (by decide)) (ja_cons (jx_fld rfl a_Rooms c_Rooms n_Rooms_letters (jo_var (pv 1))) ja_nil)) ja_nil)) (pg_tup rfl (pgs_cons (pg_name (i := 5) sc_Order_gap.nd rfl (by first | exact Or.inl rfl | exact Or.inr rfl)) (pgs_cons (pg_name (i := 6) sc_Order_gap.nd rfl (by first | exact Or.inl rfl | exact Or.inr rfl)) pgs_nil))) (gok_tup (gsok_cons (gok_name 5) (gsok_cons (gok_name 6) gsok_nil))) (jss_cons (js_if (jt_cmp op_notN sem_notN (jo_of (jx_meth h_Rooms_by rfl (hr.mono (by decide)) (jo_var (pv 1)) (ja_cons (jx_var (pv 4)) (ja_cons (jx_var (pv 6)) ja_nil)))) (jo_of jx_non) (by rfl)) (jss_one js_cont) jss_nil) (jss_cons (js_set (i := 7) false sc_Order_gap.nd (jx_or2 (jx_meth h_Order_mark rfl (hr.mono (by decide)) (jo_var (pv 0)) (ja_cons (jx_var (pv 4)) (ja_cons (jx_var (pv 5)) ja_nil))) (jx_or2 (jx_meth h_ByLetters_mark rfl (hr.mono (by decide)) (jo_var (pv 0)) (ja_cons (jx_var (pv 4)) (ja_cons (jx_var (pv 5)) ja_nil))) (jx_meth h_Newest_mark rfl (hr.mono (by decide)) (jo_var (pv 0)) (ja_cons (jx_var (pv 4)) (ja_cons (jx_var (pv 5)) ja_nil)))))) (jss_one (js_if (jt_w (jw_or (jt_cmp op_isN sem_isN (jo_var (pv 2)) (jo_of jx_non) (by rfl)) (jw_or1 (jt_cmp (op_ltD (hu0 hr)) sem_lt (jo_var (pv 7)) (jo_var (pv 3)) (by rfl))))) (jss_cons (js_set (i := 2) false sc_Order_gap.nd (jx_tup (ja_cons (jx_var (pv 4)) (ja_cons (jx_var (pv 6)) ja_nil)))) (jss_one (js_set (i := 3) false sc_Order_gap.nd (jx_var (pv 7))))) jss_nil))))))) (jss_one (js_retV (pv 2)))))), fun ds w P h => v_Order_gap _ ds w P h⟩
theorem d_order_by {f : Addr} {fd : FuncData} (F : TopFn K mg "order_by" "order_by" s_order_by f fd) (B : Bs mg) {C_ByLetters : Addr} (k0_ByLetters : Mk0 K mg "ByLetters" C_ByLetters) {C_Newest : Addr} (k0_Newest : Mk0 K mg "Newest" C_Newest) {C_Order : Addr} (k0_Order : Mk0 K mg "Order" C_Order) {C_NoOrder C_TooMany C_YardError : Addr} (XT : XTabP K prX C_YardError C_YardError C_NoOrder C_TooMany C_YardError C_YardError) (XM : XMgP K mg prX C_YardError C_YardError C_NoOrder C_TooMany C_YardError C_YardError) : FnX P w K mg base 2 "order_by" T_order_by :=
  fnX_ok F.fn sc_order_by F.at_ (fun _ _ _ _ _ _ us hl => match us, hl with | [_], _ => rfl) (fun ds w P Px h => len_order_by ds w P Px h) ⟨fun _ x => b_order_by x, fun cdv A outer s H F0 He0 w0 rep0 E x hr tk => (jss_cons (js_if (jt_cmp (op_eqP (hu64 hr)) sem_eq (jo_var (pv 0)) (jo_of jx_str) (by rfl)) (jss_one (js_ret (jx_new k0_Order rfl))) jss_nil) (jss_cons (js_if (jt_cmp (op_eqP (hu64 hr)) sem_eq (jo_var (pv 0)) (jo_of jx_str) (by rfl)) (jss_one (js_ret (jx_new k0_ByLetters rfl))) jss_nil) (jss_cons (js_if (jt_cmp (op_eqP (hu64 hr)) sem_eq (jo_var (pv 0)) (jo_of jx_str) (by rfl)) (jss_one (js_ret (jx_new k0_Newest rfl))) jss_nil) (jss_one (js_raise ⟨(XT.o3 (by decide +kernel)).ns, XM.m3 (by decide +kernel), XM.k3 (by decide +kernel), (XT.o3 (by decide +kernel)).sb, (XT.o3 (by decide +kernel)).ty⟩ (XM.q3 (by decide +kernel)) tk rfl rfl))))), fun ds w P Px h => v_order_by ds w P Px h⟩
theorem d_TooMany_init {f : Addr} {fd : FuncData} (F : L2.Fun K "__init__" "TooMany.__init__" s_TooMany_init f fd) (B : Bs mg) {C_NoOrder C_TooMany C_YardError : Addr} (XT : XTabP K prX C_YardError C_YardError C_NoOrder C_TooMany C_YardError C_YardError) (XM : XMgP K mg prX C_YardError C_YardError C_NoOrder C_TooMany C_YardError C_YardError) (T : TMCls K mg C_TooMany f) (rd : PySem.W.readsIn K C_YardError (.type "type") = true) (ga : PySem.W.specialIn K (.ref C_YardError) "__getattribute__" = some (some (.builtin "type.__getattribute__")))
    (fc : PySem.W.findCls K (.ref C_YardError) (.type "type") "__init__" = some (.val (.builtin "ValueError.__init__"))) : TMFn P w K mg base 1 C_TooMany :=
  tm_ok (q1 := ⟨0, 0, 0, 0⟩) (q2 := ⟨0, 0, 0, 0⟩) (q3 := ⟨0, 0, 0, 0⟩) (q4 := ⟨0, 0, 0, 0⟩) (q5 := ⟨0, 0, 0, 0⟩) (q6 := ⟨0, 0, 0, 0⟩) (q7 := ⟨0, 0, 0, 0⟩) (q8 := ⟨0, 0, 0, 0⟩) (q9 := ⟨0, 0, 0, 0⟩) (q10 := ⟨0, 0, 0, 0⟩) (q11 := ⟨0, 0, 0, 0⟩) (q12 := ⟨0, 0, 0, 0⟩) (q13 := ⟨0, 0, 0, 0⟩) (q14 := ⟨0, 0, 0, 0⟩) (q15 := ⟨0, 0, 0, 0⟩) (j := 0) (m := "") F sc_TooMany_init T (fun _ _ _ _ _ _ us hl => match us, hl with | [_, _, _], _ => rfl) (XM.m0 (by decide +kernel)) rd ga fc (XM.n1 (by decide +kernel)) (XM.n2 (by decide +kernel)) B.list_ fun cdv A outer s H E => PSs.imp (pss_cons (ps_expr (pe_oinit rfl (XM.m0 (by decide +kernel)) rd ga fc (pa_cons (pv 0) (pa_cons pe_str pa_nil)))) (pss_cons (ps_ost (pv 0) (pv 1)) (pss_one (ps_ost (pv 0) (pe_callTy call_list_of (by rfl) B.list_ bt_list (pa_cons (pv 2) pa_nil)))))) (tm_read T.ox (XM.n1 (by decide +kernel)) (XM.n2 (by decide +kernel)))
theorem d_fill {f : Addr} {fd : FuncData} (F : TopFnD K mg "fill" "fill" s_fill (.str "rooms") f fd) (B : Bs mg) {C_Rooms : Addr} (a_Rooms : PySem.W.nsIn K mainGlobals "Rooms" = some (some (.ref C_Rooms))) (c_Rooms : Cls K C_Rooms) (n_Rooms_made : NoAttr K C_Rooms "made") {C_NoOrder C_TooMany C_YardError : Addr} (XT : XTabP K prX C_YardError C_YardError C_NoOrder C_TooMany C_YardError C_YardError) (XM : XMgP K mg prX C_YardError C_YardError C_NoOrder C_TooMany C_YardError C_YardError) (h_Rooms_init : Mak P w K mg base 1 "Rooms" T_Rooms_init) (h_Rooms_make : Mth P w K mg base 1 "Rooms" "make" T_Rooms_make) (h_Rooms_paper : Mth P w K mg base 1 "Rooms" "paper" T_Rooms_paper) (tm_TooMany : TMFn P w K mg base 1 C_TooMany) (h_close : Fn P w K mg base 5 "close" T_close) (h_numbered : Fn P w K mg base 2 "numbered" T_numbered) (h_order_by : FnX P w K mg base 2 "order_by" T_order_by) (h_ByLetters_gap : Mth P w K mg base 2 "ByLetters" "gap" (T_Order_gap "ByLetters")) (h_Newest_gap : Mth P w K mg base 2 "Newest" "gap" (T_Order_gap "Newest")) (h_Order_gap : Mth P w K mg base 2 "Order" "gap" (T_Order_gap "Order")) : FnXD P w K mg base 6 "fill" 4 (.str "rooms") T_fill :=
  fnXD_ok F.fn sc_fill F.at_ rfl (fun T kV doc pm an cdv ct us its hl hi => match us, its, hl, hi with | [_, _, _, _, _], [_], _, _ => ⟨_, rfl, rfl⟩) (fun T kV doc pm an cdv ct us its hl hi => match us, its, hl, hi with | [_, _, _, _], [_], _, _ => ⟨_, rfl, rfl⟩) (fun ds w P Px h => len_fill ds w P Px h) ⟨fun _ x => b_fill x, fun cdv A outer s H F0 He0 w0 rep0 E x hr tk => (jss_cons (js_set (i := 5) false sc_fill.nd (jx_callX h_order_by tk rfl (hr.mono (by decide)) (ja_cons (jx_var (pv 4)) ja_nil))) (jss_cons (js_set (i := 6) false sc_fill.nd (jx_make h_Rooms_init rfl (hr.mono (by decide)) (ja_cons (jx_var (pv 0)) ja_nil))) (jss_cons (js_expr (jx_call h_close rfl (hr.mono (by decide)) (ja_cons (jx_var (pv 6)) (ja_cons (jx_var (pv 1)) (ja_cons (jx_var (pv 2)) ja_nil))))) (jss_cons (js_set (i := 7) false sc_fill.nd (jx_or2 (jx_meth h_Order_gap rfl (hr.mono (by decide)) (jo_var (pv 5)) (ja_cons (jx_var (pv 6)) ja_nil)) (jx_or2 (jx_meth h_ByLetters_gap rfl (hr.mono (by decide)) (jo_var (pv 5)) (ja_cons (jx_var (pv 6)) ja_nil)) (jx_meth h_Newest_gap rfl (hr.mono (by decide)) (jo_var (pv 5)) (ja_cons (jx_var (pv 6)) ja_nil))))) (jss_cons (js_while (passes_of rfl) (jt_cmp op_notN sem_notN (jo_var (pv 7)) (jo_of jx_non) (by rfl)) (jss_cons (js_if (jt_cmp op_ge sem_ge (jo_of (jx_fld rfl a_Rooms c_Rooms n_Rooms_made (jo_var (pv 6)))) (jo_var (pv 3)) (by rfl)) (jss_one (js_raiseTM tm_TooMany tk rfl (hr.mono (by decide)) rfl (ja_cons (jx_fld rfl a_Rooms c_Rooms n_Rooms_made (jo_var (pv 6))) (ja_cons (jx_meth0 h_Rooms_paper rfl (hr.mono (by decide)) (jo_var (pv 6))) ja_nil)))) jss_nil) (jss_cons (js_expr (jx_meth h_Rooms_make rfl (hr.mono (by decide)) (jo_var (pv 6)) (ja_cons (jx_ix rfl (hu1 hr) (jo_var (pv 7)) (jo_of jx_int)) (ja_cons (jx_ix rfl (hu1 hr) (jo_var (pv 7)) (jo_of jx_int)) ja_nil)))) (jss_cons (js_expr (jx_call h_close rfl (hr.mono (by decide)) (ja_cons (jx_var (pv 6)) (ja_cons (jx_var (pv 1)) (ja_cons (jx_var (pv 2)) ja_nil))))) (jss_one (js_set (i := 7) false sc_fill.nd (jx_or2 (jx_meth h_Order_gap rfl (hr.mono (by decide)) (jo_var (pv 5)) (ja_cons (jx_var (pv 6)) ja_nil)) (jx_or2 (jx_meth h_ByLetters_gap rfl (hr.mono (by decide)) (jo_var (pv 5)) (ja_cons (jx_var (pv 6)) ja_nil)) (jx_meth h_Newest_gap rfl (hr.mono (by decide)) (jo_var (pv 5)) (ja_cons (jx_var (pv 6)) ja_nil)))))))))) (jss_one (js_ret (jx_tup (ja_cons (jx_call h_numbered rfl (hr.mono (by decide)) (ja_cons (jx_var (pv 6)) ja_nil)) (ja_cons (jx_meth0 h_Rooms_paper rfl (hr.mono (by decide)) (jo_var (pv 6))) ja_nil)))))))))), fun ds w P Px h => v_fill ds w P Px h⟩
theorem d_Lcell_at {f : Addr} {fd : FuncData} (F : TopFn K mg "_law_cell_at" "_law_cell_at" s_Lcell_at f fd) (B : Bs mg) : Fn P w K mg base 1 "_law_cell_at" T_Lcell_at :=
  fn_ok F.fn sc_Lcell_at F.at_ (fun _ _ _ _ _ _ us hl => match us, hl with | [_, _], _ => rfl) (fun ds w P h => len_Lcell_at ds w P h) ⟨fun _ => b_Lcell_at, fun cdv A outer s H F0 He0 w0 rep0 E hr => (jss_cons (js_if (jt_cmp (op_ltD (hu0 hr)) sem_lt (jo_var (pv 1)) (jo_of (jx_b1 call_lenB sem_lenA (by rfl) B.len_ bb_len (jo_var (pv 0)))) (by rfl)) (jss_one (js_ret (jx_ix rfl (hu1 hr) (jo_var (pv 0)) (jo_var (pv 1))))) jss_nil) (jss_one (js_ret jx_int))), fun ds w P h => v_Lcell_at ds w P h⟩
theorem d_Lwhole {f : Addr} {fd : FuncData} (F : TopFn K mg "_law_whole" "_law_whole" s_Lwhole f fd) (B : Bs mg) : Fn P w K mg base 1 "_law_whole" T_Lwhole :=
  fn_ok F.fn sc_Lwhole F.at_ (fun _ _ _ _ _ _ us hl => match us, hl with | [_], _ => rfl) (fun ds w P h => len_Lwhole ds w P h) ⟨fun _ => b_Lwhole, fun cdv A outer s H F0 He0 w0 rep0 E hr => (jss_one (js_ret (jx_and (jx_b2 call_isi sem_isi (by rfl) B.isinstance_ bb_isinstance (jo_var (pv 0)) (jo_of (jx_ty (by rfl) B.int_ bt_int))) (jx_one (jx_not (jx_b2 call_isi sem_isi (by rfl) B.isinstance_ bb_isinstance (jo_var (pv 0)) (jo_of (jx_ty (by rfl) B.bool_ bt_bool)))))))), fun ds w P h => v_Lwhole ds w P h⟩
theorem d_Lfilled {f : Addr} {fd : FuncData} (F : TopFn K mg "_law_filled" "_law_filled" s_Lfilled f fd) (B : Bs mg) {C_NoOrder C_TooMany C_YardError : Addr} (XT : XTabP K prX C_YardError C_YardError C_NoOrder C_TooMany C_YardError C_YardError) (XM : XMgP K mg prX C_YardError C_YardError C_NoOrder C_TooMany C_YardError C_YardError) (h_fill : FnXD P w K mg base 6 "fill" 4 (.str "rooms") T_fill) : Fn P w K mg base 7 "_law_filled" T_Lfilled :=
  fn_ok F.fn sc_Lfilled F.at_ (fun _ _ _ _ _ _ us hl => match us, hl with | [_, _, _, _, _], _ => rfl) (fun ds w P h => len_Lfilled ds w P h) ⟨fun _ => b_Lfilled, fun cdv A outer s H F0 He0 w0 rep0 E hr => (jss_cons (js_set (i := 5) false sc_Lfilled.nd jx_non) (jss_cons (js_set (i := 6) false sc_Lfilled.nd jx_non) (jss_cons (js_tryK (i := 7) rfl rfl rfl rfl sc_Lfilled.nd rfl rfl ⟨⟨rfl, by decide, .inl (XM.m4 (by decide +kernel))⟩, XT.mt (.five .w4) (by decide +kernel)⟩ takesNo (fun F1 He1 H1 w1 r1 y1 pn1 xe1 tk1 pw1 => (jss_one (js_if (jt_cmp (op_eqP (hu64 hr)) sem_eq (jo_var (pv 4)) (jo_of jx_str) (by rfl)) (jss_one (js_set (i := 5) false sc_Lfilled.nd (jx_callXD h_fill (fun _ => .str _) tk1 rfl (hr.mono (by decide)) (ja_cons (jx_var (pv 0)) (ja_cons (jx_var (pv 1)) (ja_cons (jx_var (pv 2)) (ja_cons (jx_var (pv 3)) ja_nil))))))) (jss_one (js_set (i := 5) false sc_Lfilled.nd (jx_callX h_fill.fnx tk1 rfl (hr.mono (by decide)) (ja_cons (jx_var (pv 0)) (ja_cons (jx_var (pv 1)) (ja_cons (jx_var (pv 2)) (ja_cons (jx_var (pv 3)) (ja_cons (jx_var (pv 4)) ja_nil))))))))))) (fun a oe pn => (jss_one (js_set (i := 6) false sc_Lfilled.nd (jx_var (pv 7)))))) (jss_one (js_ret (jx_tup (ja_cons (jx_var (pv 5)) (ja_cons (jx_var (pv 6)) ja_nil)))))))), fun ds w P h => v_Lfilled ds w P h⟩
theorem d_Lring {f : Addr} {fd : FuncData} (F : TopFn K mg "_law_ring" "_law_ring" s_Lring f fd) (B : Bs mg) : Fn P w K mg base 1 "_law_ring" T_Lring :=
  fn_ok F.fn sc_Lring F.at_ (fun _ _ _ _ _ _ us hl => match us, hl with | [_], _ => rfl) (fun ds w P h => len_Lring ds w P h) ⟨fun _ => b_Lring, fun cdv A outer s H F0 He0 w0 rep0 E hr => (jss_cons (js_set (i := 1) true sc_Lring.nd (jx_lst (ja_cons jx_int ja_nil))) (jss_cons (js_set (i := 2) false sc_Lring.nd jx_int) (jss_cons (js_while PassesOwn.never (jt_cmp (op_ltD (hu0 hr)) sem_lt (jo_of (jx_b1 call_lenB sem_lenA (by rfl) B.len_ bb_len (jo_var (pv 1)))) (jo_var (pv 0)) (by rfl)) (jss_cons (js_for PassesOwn.never rfl (ji_any rfl (jx_lst (ja_cons (jx_var (pv 2)) (ja_cons (jx_op op_mod sem_mod (jo_of (jx_un un_neg sem_neg (jo_var (pv 2)))) (jo_var (pv 0))) ja_nil)))) (pg_name (i := 3) sc_Lring.nd rfl (by first | exact Or.inl rfl | exact Or.inr rfl)) (gok_name 3) (jss_one (js_if (jt_cmp (op_notInA (hu65 hr)) (sem_in true) (jo_var (pv 3)) (jo_var (pv 1)) (by rfl)) (jss_one (js_app rfl (pv 1) (jx_var (pv 3)))) jss_nil))) (jss_one (js_set (i := 2) false sc_Lring.nd (jx_op op_addD sem_add (jo_var (pv 2)) (jo_of jx_int)))))) (jss_one (js_frz 1 (js_ret (jx_lc rfl sc_Lring.nd (ji_any rfl (jx_var (pv 1))) (blkOk_by (own := [("_law_spot", 3)]) rfl) (gokv_name 3 (by decide)) (fun _ _ _ _ _ => (pg_name (i := 3) sc_Lring.nd rfl (by first | exact Or.inl rfl | exact Or.inr rfl))) (fun _ _ _ _ _ => jts_nil) (fun _ _ _ _ _ => (jx_lst (ja_cons (jx_m1 PySem.F.plainAttrs_list PySem.F.slot_list_index PySem.F.type_list_index (mt_indexD (hu65 hr)) ty_list sem_lindex rfl (jo_var (pv 1)) (jo_of (jx_op op_mod sem_mod (jo_of (jx_op op_addD sem_add (jo_var (pv 3)) (jo_of jx_int))) (jo_var (pv 0))))) (ja_cons (jx_m1 PySem.F.plainAttrs_list PySem.F.slot_list_index PySem.F.type_list_index (mt_indexD (hu65 hr)) ty_list sem_lindex rfl (jo_var (pv 1)) (jo_of (jx_op op_mod sem_mod (jo_of (jx_op op_sub sem_sub (jo_var (pv 3)) (jo_of jx_int))) (jo_var (pv 0))))) ja_nil))))))))))), fun ds w P h => v_Lring ds w P h⟩
theorem d_Lcommon {f : Addr} {fd : FuncData} (F : TopFn K mg "_law_common" "_law_common" s_Lcommon f fd) (B : Bs mg) : Fn P w K mg base 1 "_law_common" T_Lcommon :=
  fn_ok F.fn sc_Lcommon F.at_ (fun _ _ _ _ _ _ us hl => match us, hl with | [_, _], _ => rfl) (fun ds w P h => len_Lcommon ds w P h) ⟨fun _ => b_Lcommon, fun cdv A outer s H F0 He0 w0 rep0 E hr => (jss_cons (js_while PassesOwn.never (jt_cmp op_gt sem_gt (jo_var (pv 1)) (jo_of jx_int) (by rfl)) (jss_cons (js_set (i := 2) false sc_Lcommon.nd (jx_op op_mod sem_mod (jo_var (pv 0)) (jo_var (pv 1)))) (jss_cons (js_set (i := 0) false sc_Lcommon.nd (jx_var (pv 1))) (jss_one (js_set (i := 1) false sc_Lcommon.nd (jx_var (pv 2))))))) (jss_one (js_retV (pv 0)))), fun ds w P h => v_Lcommon ds w P h⟩
theorem d_Lnews {f : Addr} {fd : FuncData} (F : TopFn K mg "_law_news" "_law_news" s_Lnews f fd) (B : Bs mg) : Fn P w K mg base 1 "_law_news" T_Lnews :=
  fn_ok F.fn sc_Lnews F.at_ (fun _ _ _ _ _ _ us hl => match us, hl with | [_], _ => rfl) (fun ds w P h => len_Lnews ds w P h) ⟨fun _ => b_Lnews, fun cdv A outer s H F0 He0 w0 rep0 E hr => (jss_cons (js_if (jt_not (jt_tru rfl (jo_of (jx_b2 call_isi sem_isi (by rfl) B.isinstance_ bb_isinstance (jo_var (pv 0)) (jo_of (jx_ty (by rfl) B.list_ bt_list)))))) (jss_one (js_ret (jx_un un_neg sem_neg (jo_of jx_int)))) jss_nil) (jss_one (js_ret (jx_b1 call_lenB sem_lenA (by rfl) B.len_ bb_len (jo_of (jx_lc rfl sc_Lnews.nd (ji_any rfl (jx_var (pv 0))) (blkOk_by (own := [("_law_row", 1)]) rfl) (gokv_name 1 (by decide)) (fun _ _ _ _ _ => (pg_name (i := 1) sc_Lnews.nd rfl (by first | exact Or.inl rfl | exact Or.inr rfl))) (fun _ _ _ _ _ => jts_one (jt_cmp (op_eqP (hu64 hr)) sem_eq (jo_of (jx_ix rfl (hu1 hr) (jo_var (pv 1)) (jo_of jx_int))) (jo_of jx_str) (by rfl))) (fun _ _ _ _ _ => (jx_var (pv 1))))))))), fun ds w P h => v_Lnews ds w P h⟩
theorem d_Lsame {f : Addr} {fd : FuncData} (F : TopFn K mg "_law_same" "_law_same" s_Lsame f fd) (B : Bs mg) (h_Lwhole : Fn P w K mg base 1 "_law_whole" T_Lwhole) : Fn P w K mg base 2 "_law_same" T_Lsame :=
  fn_ok F.fn sc_Lsame F.at_ (fun _ _ _ _ _ _ us hl => match us, hl with | [_, _], _ => rfl) (fun ds w P h => len_Lsame ds w P h) ⟨fun _ => b_Lsame, fun cdv A outer s H F0 He0 w0 rep0 E hr => (jss_cons (js_if (jt_w (jw_or (jt_not (jt_tru rfl (jo_of (jx_b2 call_isi sem_isi (by rfl) B.isinstance_ bb_isinstance (jo_var (pv 0)) (jo_of (jx_ty (by rfl) B.list_ bt_list)))))) (jw_or1 (jt_cmp (op_neP (hu64 hr)) sem_ne (jo_of (jx_b1 call_lenB sem_lenA (by rfl) B.len_ bb_len (jo_var (pv 0)))) (jo_of (jx_b1 call_lenB sem_lenA (by rfl) B.len_ bb_len (jo_var (pv 1)))) (by rfl))))) (jss_one (js_ret jx_bl)) jss_nil) (jss_cons (js_for PassesOwn.never rfl (ji_any rfl (jx_var (pv 0))) (pg_name (i := 2) sc_Lsame.nd rfl (by first | exact Or.inl rfl | exact Or.inr rfl)) (gok_name 2) (jss_one (js_if (jt_w (jw_or (jt_not (jt_tru rfl (jo_of (jx_b2 call_isi sem_isi (by rfl) B.isinstance_ bb_isinstance (jo_var (pv 2)) (jo_of (jx_ty (by rfl) B.list_ bt_list)))))) (jw_or (jt_cmp (op_neP (hu64 hr)) sem_ne (jo_of (jx_b1 call_lenB sem_lenA (by rfl) B.len_ bb_len (jo_var (pv 2)))) (jo_of jx_int) (by rfl)) (jw_or (jt_not (jt_tru rfl (jo_of (jx_call h_Lwhole rfl (hr.mono (by decide)) (ja_cons (jx_ix rfl (hu1 hr) (jo_var (pv 2)) (jo_of jx_int)) ja_nil))))) (jw_or1 (jt_not (jt_tru rfl (jo_of (jx_call h_Lwhole rfl (hr.mono (by decide)) (ja_cons (jx_ix rfl (hu1 hr) (jo_var (pv 2)) (jo_of jx_int)) ja_nil)))))))))) (jss_one (js_ret jx_bl)) jss_nil))) (jss_one (js_ret (jx_cmp (op_eqP (hu64 hr)) sem_eq (jo_var (pv 0)) (jo_var (pv 1)) (by rfl)))))), fun ds w P h => v_Lsame ds w P h⟩
theorem d_law {f : Addr} {fd : FuncData} (F : TopFn K mg "law" "law" s_law f fd) (B : Bs mg) {C_NoOrder C_TooMany C_YardError : Addr} (XT : XTabP K prX C_YardError C_YardError C_NoOrder C_TooMany C_YardError C_YardError) (XM : XMgP K mg prX C_YardError C_YardError C_NoOrder C_TooMany C_YardError C_YardError) (h_Lcell_at : Fn P w K mg base 1 "_law_cell_at" T_Lcell_at) (h_Lcommon : Fn P w K mg base 1 "_law_common" T_Lcommon) (h_Lfilled : Fn P w K mg base 7 "_law_filled" T_Lfilled) (h_Lnews : Fn P w K mg base 1 "_law_news" T_Lnews) (h_Lring : Fn P w K mg base 1 "_law_ring" T_Lring) (h_Lsame : Fn P w K mg base 2 "_law_same" T_Lsame) (h_Lwhole : Fn P w K mg base 1 "_law_whole" T_Lwhole) : Fn P w K mg base 8 "law" T_law :=
  fn_ok F.fn sc_law F.at_ (fun _ _ _ _ _ _ us hl => match us, hl with | [_], _ => rfl) (fun ds w P h => len_law ds w P h) ⟨fun _ => b_law, fun cdv A outer s H F0 He0 w0 rep0 E hr => (jss_cons (js_set (i := 1) false sc_law.nd (jx_op op_addD sem_add (jo_of jx_int) (jo_of (jx_op op_mod sem_mod (jo_of (jx_call h_Lcell_at rfl (hr.mono (by decide)) (ja_cons (jx_var (pv 0)) (ja_cons jx_int ja_nil)))) (jo_of jx_int))))) (jss_cons (js_set (i := 2) false sc_law.nd (jx_lst (ja_cons (jx_op op_mulB sem_mulB (jo_of (jx_tup (ja_cons (jx_ix rfl (hu1 hr) (jo_of (jx_lst (ja_cons jx_int (ja_cons (jx_un un_neg sem_neg (jo_of jx_int)) ja_nil)))) (jo_of (jx_op op_mod sem_mod (jo_of (jx_op op_fdivW sem_fdiv (jo_of (jx_call h_Lcell_at rfl (hr.mono (by decide)) (ja_cons (jx_var (pv 0)) (ja_cons jx_int ja_nil)))) (jo_of jx_int))) (jo_of jx_int)))) ja_nil))) (jo_var (pv 1))) ja_nil))) (jss_cons (js_set (i := 3) false sc_law.nd (jx_lst ja_nil)) (jss_cons (js_set (i := 4) false sc_law.nd (jx_var (pv 1))) (jss_cons (js_if (jt_cmp (op_eqP (hu64 hr)) sem_eq (jo_of (jx_op op_mod sem_mod (jo_of (jx_call h_Lcell_at rfl (hr.mono (by decide)) (ja_cons (jx_var (pv 0)) (ja_cons jx_int ja_nil)))) (jo_of jx_int))) (jo_of jx_int) (by rfl)) (jss_cons (js_set (i := 5) false sc_law.nd (jx_op op_addD sem_add (jo_of jx_int) (jo_of (jx_op op_mod sem_mod (jo_of (jx_op op_fdivW sem_fdiv (jo_of (jx_call h_Lcell_at rfl (hr.mono (by decide)) (ja_cons (jx_var (pv 0)) (ja_cons jx_int ja_nil)))) (jo_of jx_int))) (jo_of jx_int))))) (jss_cons (js_set (i := 3) false sc_law.nd (jx_lst (ja_cons (jx_op op_mulB sem_mulB (jo_of (jx_tup (ja_cons (jx_ix rfl (hu1 hr) (jo_of (jx_lst (ja_cons jx_int (ja_cons (jx_un un_neg sem_neg (jo_of jx_int)) ja_nil)))) (jo_of (jx_op op_mod sem_mod (jo_of (jx_op op_fdivW sem_fdiv (jo_of (jx_call h_Lcell_at rfl (hr.mono (by decide)) (ja_cons (jx_var (pv 0)) (ja_cons jx_int ja_nil)))) (jo_of jx_int))) (jo_of jx_int)))) ja_nil))) (jo_var (pv 5))) ja_nil))) (jss_cons (js_set (i := 4) false sc_law.nd (jx_b2 (call_min2 rfl) sem_min (by rfl) B.min_ bb_min (jo_var (pv 1)) (jo_var (pv 5)))) (jss_one (js_set (i := 1) false sc_law.nd (jx_call h_Lcommon rfl (hr.mono (by decide)) (ja_cons (jx_var (pv 1)) (ja_cons (jx_var (pv 5)) ja_nil)))))))) jss_nil) (jss_cons (js_set (i := 6) false sc_law.nd (jx_op op_addD sem_add (jo_of jx_int) (jo_of (jx_op op_mod sem_mod (jo_of (jx_call h_Lcell_at rfl (hr.mono (by decide)) (ja_cons (jx_var (pv 0)) (ja_cons jx_int ja_nil)))) (jo_of jx_int))))) (jss_cons (js_if (jt_cmp (op_eqP (hu64 hr)) sem_eq (jo_of (jx_op op_mod sem_mod (jo_of (jx_op op_fdivW sem_fdiv (jo_of (jx_call h_Lcell_at rfl (hr.mono (by decide)) (ja_cons (jx_var (pv 0)) (ja_cons jx_int ja_nil)))) (jo_of jx_int))) (jo_of jx_int))) (jo_of jx_int) (by rfl)) (jss_one (js_set (i := 6) false sc_law.nd (jx_b2 (call_max2 rfl) sem_max (by rfl) B.max_ bb_max (jo_of jx_int) (jo_of (jx_op op_sub sem_sub (jo_var (pv 4)) (jo_of (jx_op op_mod sem_mod (jo_of (jx_op op_fdivW sem_fdiv (jo_of (jx_call h_Lcell_at rfl (hr.mono (by decide)) (ja_cons (jx_var (pv 0)) (ja_cons jx_int ja_nil)))) (jo_of jx_int))) (jo_of jx_int)))))))) jss_nil) (jss_cons (js_set (i := 7) false sc_law.nd (jx_ix rfl (hu1 hr) (jo_of (jx_lst (ja_cons jx_str (ja_cons jx_str (ja_cons jx_str (ja_cons jx_str ja_nil)))))) (jo_of (jx_op op_mod sem_mod (jo_of (jx_call h_Lcell_at rfl (hr.mono (by decide)) (ja_cons (jx_var (pv 0)) (ja_cons jx_int ja_nil)))) (jo_of jx_int))))) (jss_cons (js_set (i := 8) false sc_law.nd (jx_lst (ja_cons (jx_t1 call_list_of sem_list (by rfl) B.list_ bt_list (jo_var (pv 2))) (ja_cons (jx_t1 call_list_of sem_list (by rfl) B.list_ bt_list (jo_var (pv 3))) ja_nil)))) (jss_cons (js_asg (jx_call h_Lfilled rfl (hr.mono (by decide)) (ja_cons jx_int (ja_cons (jx_ix rfl (hu1 hr) (jo_var (pv 8)) (jo_of jx_int)) (ja_cons (jx_ix rfl (hu1 hr) (jo_var (pv 8)) (jo_of jx_int)) (ja_cons (jx_var (pv 6)) (ja_cons (jx_var (pv 7)) ja_nil)))))) (pg_tup rfl (pgs_cons (pg_name (i := 9) sc_law.nd rfl (by first | exact Or.inl rfl | exact Or.inr rfl)) (pgs_cons (pg_name (i := 10) sc_law.nd rfl (by first | exact Or.inl rfl | exact Or.inr rfl)) pgs_nil))) (gok_tup (gsok_cons (gok_name 9) (gsok_cons (gok_name 10) gsok_nil)))) (jss_cons (js_if (jt_cmp (op_neP (hu64 hr)) sem_ne (jo_var (pv 8)) (jo_of (jx_lst (ja_cons (jx_var (pv 2)) (ja_cons (jx_var (pv 3)) ja_nil)))) (by rfl)) (jss_one (js_ret jx_bl)) jss_nil) (jss_cons (js_if (jt_cmp (op_ltD (hu0 hr)) sem_lt (jo_var (pv 6)) (jo_var (pv 4)) (by rfl)) (jss_cons (js_if (jt_w (jw_or (jt_cmp op_isN sem_isN (jo_var (pv 10)) (jo_of jx_non) (by rfl)) (jw_or1 (jt_not (jt_tru rfl (jo_of (jx_call h_Lwhole rfl (hr.mono (by decide)) (ja_cons (jx_xfld rfl (XT.o4 (by decide +kernel)).ns ⟨(XT.o4 (by decide +kernel)).ga, (XT.o4 (by decide +kernel)).gg, (XT.o4 (by decide +kernel)).sb, (XT.o4 (by decide +kernel)).hd⟩ (XM.n1 (by decide +kernel)) (jo_var (pv 10))) ja_nil)))))))) (jss_one (js_ret jx_bl)) jss_nil) (jss_one (js_ret (jx_and (jx_cmp (op_eqP (hu64 hr)) sem_eq (jo_of (jx_xfld rfl (XT.o4 (by decide +kernel)).ns ⟨(XT.o4 (by decide +kernel)).ga, (XT.o4 (by decide +kernel)).gg, (XT.o4 (by decide +kernel)).sb, (XT.o4 (by decide +kernel)).hd⟩ (XM.n1 (by decide +kernel)) (jo_var (pv 10)))) (jo_var (pv 6)) (by rfl)) (jx_one (jx_cmp (op_eqP (hu64 hr)) sem_eq (jo_of (jx_call h_Lnews rfl (hr.mono (by decide)) (ja_cons (jx_xfld rfl (XT.o4 (by decide +kernel)).ns ⟨(XT.o4 (by decide +kernel)).ga, (XT.o4 (by decide +kernel)).gg, (XT.o4 (by decide +kernel)).sb, (XT.o4 (by decide +kernel)).hd⟩ (XM.n2 (by decide +kernel)) (jo_var (pv 10))) ja_nil))) (jo_of (jx_op op_sub sem_sub (jo_var (pv 6)) (jo_of jx_int))) (by rfl))))))) jss_nil) (jss_cons (js_if (jt_w (jw_or (jt_cmp op_notN sem_notN (jo_var (pv 10)) (jo_of jx_non) (by rfl)) (jw_or (jt_not (jt_tru rfl (jo_of (jx_b2 call_isi sem_isi (by rfl) B.isinstance_ bb_isinstance (jo_var (pv 9)) (jo_of (jx_ty (by rfl) B.tuple_ bt_tuple)))))) (jw_or1 (jt_cmp (op_neP (hu64 hr)) sem_ne (jo_of (jx_b1 call_lenB sem_lenA (by rfl) B.len_ bb_len (jo_var (pv 9)))) (jo_of jx_int) (by rfl)))))) (jss_one (js_ret jx_bl)) jss_nil) (jss_one (js_ret (jx_and (jx_call h_Lsame rfl (hr.mono (by decide)) (ja_cons (jx_ix rfl (hu1 hr) (jo_var (pv 9)) (jo_of jx_int)) (ja_cons (jx_call h_Lring rfl (hr.mono (by decide)) (ja_cons (jx_var (pv 1)) ja_nil)) ja_nil))) (jx_one (jx_cmp (op_eqP (hu64 hr)) sem_eq (jo_of (jx_call h_Lnews rfl (hr.mono (by decide)) (ja_cons (jx_ix rfl (hu1 hr) (jo_var (pv 9)) (jo_of jx_int)) ja_nil))) (jo_of (jx_op op_sub sem_sub (jo_var (pv 4)) (jo_of jx_int))) (by rfl))))))))))))))))))), fun ds w P h => v_law ds w P h⟩
end
theorem dl_law {P : Program} {w : World} {K : PySem.W.Frag} {mg : Str → Option Value} {base : Heap} {f : Addr} {fd : FuncData} (F : TopFn K mg "law" "law" s_law f fd) (B : Bs mg) {C_NoOrder C_TooMany C_YardError : Addr} (XT : XTabP K prX C_YardError C_YardError C_NoOrder C_TooMany C_YardError C_YardError) (XM : XMgP K mg prX C_YardError C_YardError C_NoOrder C_TooMany C_YardError C_YardError) (h_Lcell_at : Fn P w K mg base 1 "_law_cell_at" T_Lcell_at) (h_Lcommon : Fn P w K mg base 1 "_law_common" T_Lcommon) (h_Lfilled : Fn P w K mg base 7 "_law_filled" T_Lfilled) (h_Lnews : Fn P w K mg base 1 "_law_news" T_Lnews) (h_Lring : Fn P w K mg base 1 "_law_ring" T_Lring) (h_Lsame : Fn P w K mg base 2 "_law_same" T_Lsame) (h_Lwhole : Fn P w K mg base 1 "_law_whole" T_Lwhole) : FnOk P w K mg base CX0 8 f fd ["_law_script"] (toSp K T_law) :=
  fn_okF F.fn sc_law (fun ds w P h => len_law ds w P h) ⟨fun _ => b_law, fun cdv A outer s H F0 He0 w0 rep0 E hr => (jss_cons (js_set (i := 1) false sc_law.nd (jx_op op_addD sem_add (jo_of jx_int) (jo_of (jx_op op_mod sem_mod (jo_of (jx_call h_Lcell_at rfl (hr.mono (by decide)) (ja_cons (jx_var (pv 0)) (ja_cons jx_int ja_nil)))) (jo_of jx_int))))) (jss_cons (js_set (i := 2) false sc_law.nd (jx_lst (ja_cons (jx_op op_mulB sem_mulB (jo_of (jx_tup (ja_cons (jx_ix rfl (hu1 hr) (jo_of (jx_lst (ja_cons jx_int (ja_cons (jx_un un_neg sem_neg (jo_of jx_int)) ja_nil)))) (jo_of (jx_op op_mod sem_mod (jo_of (jx_op op_fdivW sem_fdiv (jo_of (jx_call h_Lcell_at rfl (hr.mono (by decide)) (ja_cons (jx_var (pv 0)) (ja_cons jx_int ja_nil)))) (jo_of jx_int))) (jo_of jx_int)))) ja_nil))) (jo_var (pv 1))) ja_nil))) (jss_cons (js_set (i := 3) false sc_law.nd (jx_lst ja_nil)) (jss_cons (js_set (i := 4) false sc_law.nd (jx_var (pv 1))) (jss_cons (js_if (jt_cmp (op_eqP (hu64 hr)) sem_eq (jo_of (jx_op op_mod sem_mod (jo_of (jx_call h_Lcell_at rfl (hr.mono (by decide)) (ja_cons (jx_var (pv 0)) (ja_cons jx_int ja_nil)))) (jo_of jx_int))) (jo_of jx_int) (by rfl)) (jss_cons (js_set (i := 5) false sc_law.nd (jx_op op_addD sem_add (jo_of jx_int) (jo_of (jx_op op_mod sem_mod (jo_of (jx_op op_fdivW sem_fdiv (jo_of (jx_call h_Lcell_at rfl (hr.mono (by decide)) (ja_cons (jx_var (pv 0)) (ja_cons jx_int ja_nil)))) (jo_of jx_int))) (jo_of jx_int))))) (jss_cons (js_set (i := 3) false sc_law.nd (jx_lst (ja_cons (jx_op op_mulB sem_mulB (jo_of (jx_tup (ja_cons (jx_ix rfl (hu1 hr) (jo_of (jx_lst (ja_cons jx_int (ja_cons (jx_un un_neg sem_neg (jo_of jx_int)) ja_nil)))) (jo_of (jx_op op_mod sem_mod (jo_of (jx_op op_fdivW sem_fdiv (jo_of (jx_call h_Lcell_at rfl (hr.mono (by decide)) (ja_cons (jx_var (pv 0)) (ja_cons jx_int ja_nil)))) (jo_of jx_int))) (jo_of jx_int)))) ja_nil))) (jo_var (pv 5))) ja_nil))) (jss_cons (js_set (i := 4) false sc_law.nd (jx_b2 (call_min2 rfl) sem_min (by rfl) B.min_ bb_min (jo_var (pv 1)) (jo_var (pv 5)))) (jss_one (js_set (i := 1) false sc_law.nd (jx_call h_Lcommon rfl (hr.mono (by decide)) (ja_cons (jx_var (pv 1)) (ja_cons (jx_var (pv 5)) ja_nil)))))))) jss_nil) (jss_cons (js_set (i := 6) false sc_law.nd (jx_op op_addD sem_add (jo_of jx_int) (jo_of (jx_op op_mod sem_mod (jo_of (jx_call h_Lcell_at rfl (hr.mono (by decide)) (ja_cons (jx_var (pv 0)) (ja_cons jx_int ja_nil)))) (jo_of jx_int))))) (jss_cons (js_if (jt_cmp (op_eqP (hu64 hr)) sem_eq (jo_of (jx_op op_mod sem_mod (jo_of (jx_op op_fdivW sem_fdiv (jo_of (jx_call h_Lcell_at rfl (hr.mono (by decide)) (ja_cons (jx_var (pv 0)) (ja_cons jx_int ja_nil)))) (jo_of jx_int))) (jo_of jx_int))) (jo_of jx_int) (by rfl)) (jss_one (js_set (i := 6) false sc_law.nd (jx_b2 (call_max2 rfl) sem_max (by rfl) B.max_ bb_max (jo_of jx_int) (jo_of (jx_op op_sub sem_sub (jo_var (pv 4)) (jo_of (jx_op op_mod sem_mod (jo_of (jx_op op_fdivW sem_fdiv (jo_of (jx_call h_Lcell_at rfl (hr.mono (by decide)) (ja_cons (jx_var (pv 0)) (ja_cons jx_int ja_nil)))) (jo_of jx_int))) (jo_of jx_int)))))))) jss_nil) (jss_cons (js_set (i := 7) false sc_law.nd (jx_ix rfl (hu1 hr) (jo_of (jx_lst (ja_cons jx_str (ja_cons jx_str (ja_cons jx_str (ja_cons jx_str ja_nil)))))) (jo_of (jx_op op_mod sem_mod (jo_of (jx_call h_Lcell_at rfl (hr.mono (by decide)) (ja_cons (jx_var (pv 0)) (ja_cons jx_int ja_nil)))) (jo_of jx_int))))) (jss_cons (js_set (i := 8) false sc_law.nd (jx_lst (ja_cons (jx_t1 call_list_of sem_list (by rfl) B.list_ bt_list (jo_var (pv 2))) (ja_cons (jx_t1 call_list_of sem_list (by rfl) B.list_ bt_list (jo_var (pv 3))) ja_nil)))) (jss_cons (js_asg (jx_call h_Lfilled rfl (hr.mono (by decide)) (ja_cons jx_int (ja_cons (jx_ix rfl (hu1 hr) (jo_var (pv 8)) (jo_of jx_int)) (ja_cons (jx_ix rfl (hu1 hr) (jo_var (pv 8)) (jo_of jx_int)) (ja_cons (jx_var (pv 6)) (ja_cons (jx_var (pv 7)) ja_nil)))))) (pg_tup rfl (pgs_cons (pg_name (i := 9) sc_law.nd rfl (by first | exact Or.inl rfl | exact Or.inr rfl)) (pgs_cons (pg_name (i := 10) sc_law.nd rfl (by first | exact Or.inl rfl | exact Or.inr rfl)) pgs_nil))) (gok_tup (gsok_cons (gok_name 9) (gsok_cons (gok_name 10) gsok_nil)))) (jss_cons (js_if (jt_cmp (op_neP (hu64 hr)) sem_ne (jo_var (pv 8)) (jo_of (jx_lst (ja_cons (jx_var (pv 2)) (ja_cons (jx_var (pv 3)) ja_nil)))) (by rfl)) (jss_one (js_ret jx_bl)) jss_nil) (jss_cons (js_if (jt_cmp (op_ltD (hu0 hr)) sem_lt (jo_var (pv 6)) (jo_var (pv 4)) (by rfl)) (jss_cons (js_if (jt_w (jw_or (jt_cmp op_isN sem_isN (jo_var (pv 10)) (jo_of jx_non) (by rfl)) (jw_or1 (jt_not (jt_tru rfl (jo_of (jx_call h_Lwhole rfl (hr.mono (by decide)) (ja_cons (jx_xfld rfl (XT.o4 (by decide +kernel)).ns ⟨(XT.o4 (by decide +kernel)).ga, (XT.o4 (by decide +kernel)).gg, (XT.o4 (by decide +kernel)).sb, (XT.o4 (by decide +kernel)).hd⟩ (XM.n1 (by decide +kernel)) (jo_var (pv 10))) ja_nil)))))))) (jss_one (js_ret jx_bl)) jss_nil) (jss_one (js_ret (jx_and (jx_cmp (op_eqP (hu64 hr)) sem_eq (jo_of (jx_xfld rfl (XT.o4 (by decide +kernel)).ns ⟨(XT.o4 (by decide +kernel)).ga, (XT.o4 (by decide +kernel)).gg, (XT.o4 (by decide +kernel)).sb, (XT.o4 (by decide +kernel)).hd⟩ (XM.n1 (by decide +kernel)) (jo_var (pv 10)))) (jo_var (pv 6)) (by rfl)) (jx_one (jx_cmp (op_eqP (hu64 hr)) sem_eq (jo_of (jx_call h_Lnews rfl (hr.mono (by decide)) (ja_cons (jx_xfld rfl (XT.o4 (by decide +kernel)).ns ⟨(XT.o4 (by decide +kernel)).ga, (XT.o4 (by decide +kernel)).gg, (XT.o4 (by decide +kernel)).sb, (XT.o4 (by decide +kernel)).hd⟩ (XM.n2 (by decide +kernel)) (jo_var (pv 10))) ja_nil))) (jo_of (jx_op op_sub sem_sub (jo_var (pv 6)) (jo_of jx_int))) (by rfl))))))) jss_nil) (jss_cons (js_if (jt_w (jw_or (jt_cmp op_notN sem_notN (jo_var (pv 10)) (jo_of jx_non) (by rfl)) (jw_or (jt_not (jt_tru rfl (jo_of (jx_b2 call_isi sem_isi (by rfl) B.isinstance_ bb_isinstance (jo_var (pv 9)) (jo_of (jx_ty (by rfl) B.tuple_ bt_tuple)))))) (jw_or1 (jt_cmp (op_neP (hu64 hr)) sem_ne (jo_of (jx_b1 call_lenB sem_lenA (by rfl) B.len_ bb_len (jo_var (pv 9)))) (jo_of jx_int) (by rfl)))))) (jss_one (js_ret jx_bl)) jss_nil) (jss_one (js_ret (jx_and (jx_call h_Lsame rfl (hr.mono (by decide)) (ja_cons (jx_ix rfl (hu1 hr) (jo_var (pv 9)) (jo_of jx_int)) (ja_cons (jx_call h_Lring rfl (hr.mono (by decide)) (ja_cons (jx_var (pv 1)) ja_nil)) ja_nil))) (jx_one (jx_cmp (op_eqP (hu64 hr)) sem_eq (jo_of (jx_call h_Lnews rfl (hr.mono (by decide)) (ja_cons (jx_ix rfl (hu1 hr) (jo_var (pv 9)) (jo_of jx_int)) ja_nil))) (jo_of (jx_op op_sub sem_sub (jo_var (pv 4)) (jo_of jx_int))) (by rfl))))))))))))))))))), fun ds w P h => v_law ds w P h⟩
/-! ### the head -/
theorem topfn {K : PySem.W.Frag} {h : Heap} {mg : Str → Option Value} {x : Str} {st : Stmt} {f : Addr} {oc : Value} {od an : Option Addr} {osl : Array (Option Value)} {kV dc pm cd ct : Value} (X : K.In h) (G : h.Ns mainGlobals mg)
    (a : PySem.W.nsIn K mainGlobals x = some (some (.ref f))) (l : K.lookup f = some ⟨oc, od, .func (PySem.W.fnOf x x (defArgs st) (defBody st) (defScope st) .none kV dc pm an cd ct), osl⟩) (c : PySem.W.codeIn K cd x = true) (k : PySem.W.keepIn K (.ref f) = true) :
    TopFn K mg x x st f (PySem.W.fnOf x x (defArgs st) (defBody st) (defScope st) .none kV dc pm an cd ct) := ⟨fun_mk l c k, PySem.W.mg_of X G a⟩
theorem all_mk {l : PySem.W.OpenLaw} {w : World} {K : PySem.W.Frag} {h : Heap} {mg : Str → Option Value} {fa : Addr}
    {f0 : Addr} {od0 an0 : Option Addr} {sl0 : Array (Option Value)} {oc0 kV0 dc0 pm0 cd0 ct0 : Value} {f1 : Addr} {od1 an1 : Option Addr} {sl1 : Array (Option Value)} {oc1 kV1 dc1 pm1 cd1 ct1 : Value} {f2 : Addr} {od2 an2 : Option Addr} {sl2 : Array (Option Value)} {oc2 kV2 dc2 pm2 cd2 ct2 : Value} {f3 : Addr} {od3 an3 : Option Addr} {sl3 : Array (Option Value)} {oc3 kV3 dc3 pm3 cd3 ct3 : Value} {f4 : Addr} {od4 an4 : Option Addr} {sl4 : Array (Option Value)} {oc4 kV4 dc4 pm4 cd4 ct4 : Value} {f5 : Addr} {od5 an5 : Option Addr} {sl5 : Array (Option Value)} {oc5 kV5 dc5 pm5 cd5 ct5 : Value} {f6 : Addr} {od6 an6 : Option Addr} {sl6 : Array (Option Value)} {oc6 kV6 dc6 pm6 cd6 ct6 : Value} {f7 : Addr} {od7 an7 : Option Addr} {sl7 : Array (Option Value)} {oc7 kV7 dc7 pm7 cd7 ct7 : Value} {f8 : Addr} {od8 an8 : Option Addr} {sl8 : Array (Option Value)} {oc8 kV8 dc8 pm8 cd8 ct8 : Value} {f9 : Addr} {od9 an9 : Option Addr} {sl9 : Array (Option Value)} {oc9 kV9 dc9 pm9 cd9 ct9 : Value} {f10 : Addr} {od10 an10 : Option Addr} {sl10 : Array (Option Value)} {oc10 kV10 dc10 pm10 cd10 ct10 : Value} {f11 : Addr} {od11 an11 : Option Addr} {sl11 : Array (Option Value)} {oc11 kV11 dc11 pm11 cd11 ct11 : Value} {f12 : Addr} {od12 an12 : Option Addr} {sl12 : Array (Option Value)} {oc12 kV12 dc12 pm12 cd12 ct12 : Value} {f13 : Addr} {od13 an13 : Option Addr} {sl13 : Array (Option Value)} {oc13 kV13 dc13 pm13 cd13 ct13 : Value} {f14 : Addr} {od14 an14 : Option Addr} {sl14 : Array (Option Value)} {oc14 kV14 dc14 pm14 cd14 ct14 : Value} {f15 : Addr} {od15 an15 : Option Addr} {sl15 : Array (Option Value)} {oc15 kV15 dc15 pm15 cd15 ct15 : Value} {f16 : Addr} {od16 an16 : Option Addr} {sl16 : Array (Option Value)} {oc16 kV16 dc16 pm16 cd16 ct16 : Value} {f17 : Addr} {od17 an17 : Option Addr} {sl17 : Array (Option Value)} {oc17 kV17 dc17 pm17 cd17 ct17 : Value} {f18 : Addr} {od18 an18 : Option Addr} {sl18 : Array (Option Value)} {oc18 kV18 dc18 pm18 cd18 ct18 : Value} {f19 : Addr} {od19 an19 : Option Addr} {sl19 : Array (Option Value)} {oc19 kV19 dc19 pm19 cd19 ct19 : Value} {f20 : Addr} {od20 an20 : Option Addr} {sl20 : Array (Option Value)} {oc20 kV20 dc20 pm20 cd20 ct20 : Value} {f21 : Addr} {od21 an21 : Option Addr} {sl21 : Array (Option Value)} {oc21 kV21 dc21 pm21 cd21 ct21 : Value} {f22 : Addr} {od22 an22 : Option Addr} {sl22 : Array (Option Value)} {oc22 kV22 dc22 pm22 cd22 ct22 : Value} {f23 : Addr} {od23 an23 : Option Addr} {sl23 : Array (Option Value)} {oc23 kV23 dc23 pm23 cd23 ct23 : Value} {f24 : Addr} {od24 an24 : Option Addr} {sl24 : Array (Option Value)} {oc24 kV24 dc24 pm24 cd24 ct24 : Value} {f25 : Addr} {od25 an25 : Option Addr} {sl25 : Array (Option Value)} {oc25 kV25 dc25 pm25 cd25 ct25 : Value} {f26 : Addr} {od26 an26 : Option Addr} {sl26 : Array (Option Value)} {oc26 kV26 dc26 pm26 cd26 ct26 : Value} {f27 : Addr} {od27 an27 : Option Addr} {sl27 : Array (Option Value)} {oc27 kV27 dc27 pm27 cd27 ct27 : Value} {f28 : Addr} {od28 an28 : Option Addr} {sl28 : Array (Option Value)} {oc28 kV28 dc28 pm28 cd28 ct28 : Value}
    (X : K.In h) (G : h.Ns mainGlobals mg) (hfa : mg "law" = some (.ref fa))
    {C_ByLetters : Addr} (a_ByLetters : PySem.W.nsIn K mainGlobals "ByLetters" = some (some (.ref C_ByLetters)))
    (pg_ByLetters : PySem.W.plainGet K C_ByLetters Str.empty = true)
    (hd_ByLetters : PySem.W.hasDictIn K C_ByLetters = true)
    (po_ByLetters : PySem.W.plainOver K C_ByLetters = true)
    (sa_ByLetters : PySem.W.findIn K (.ref C_ByLetters) "__setattr__" = some (some (.builtin "object.__setattr__")))
    (mk_ByLetters : PySem.W.makesIn K C_ByLetters = true)
    (kc_ByLetters : PySem.W.keepIn K (.ref C_ByLetters) = true)
    {C_Newest : Addr} (a_Newest : PySem.W.nsIn K mainGlobals "Newest" = some (some (.ref C_Newest)))
    (pg_Newest : PySem.W.plainGet K C_Newest Str.empty = true)
    (hd_Newest : PySem.W.hasDictIn K C_Newest = true)
    (po_Newest : PySem.W.plainOver K C_Newest = true)
    (sa_Newest : PySem.W.findIn K (.ref C_Newest) "__setattr__" = some (some (.builtin "object.__setattr__")))
    (mk_Newest : PySem.W.makesIn K C_Newest = true)
    (kc_Newest : PySem.W.keepIn K (.ref C_Newest) = true)
    {C_Order : Addr} (a_Order : PySem.W.nsIn K mainGlobals "Order" = some (some (.ref C_Order)))
    (pg_Order : PySem.W.plainGet K C_Order Str.empty = true)
    (hd_Order : PySem.W.hasDictIn K C_Order = true)
    (po_Order : PySem.W.plainOver K C_Order = true)
    (sa_Order : PySem.W.findIn K (.ref C_Order) "__setattr__" = some (some (.builtin "object.__setattr__")))
    (mk_Order : PySem.W.makesIn K C_Order = true)
    (kc_Order : PySem.W.keepIn K (.ref C_Order) = true)
    {C_Rooms : Addr} (a_Rooms : PySem.W.nsIn K mainGlobals "Rooms" = some (some (.ref C_Rooms)))
    (pg_Rooms : PySem.W.plainGet K C_Rooms Str.empty = true)
    (hd_Rooms : PySem.W.hasDictIn K C_Rooms = true)
    (po_Rooms : PySem.W.plainOver K C_Rooms = true)
    (sa_Rooms : PySem.W.findIn K (.ref C_Rooms) "__setattr__" = some (some (.builtin "object.__setattr__")))
    (mk_Rooms : PySem.W.makesIn K C_Rooms = true)
    (kc_Rooms : PySem.W.keepIn K (.ref C_Rooms) = true)
    (oi_ByLetters : PySem.W.findIn K (.ref C_ByLetters) "__init__" = some (some (.builtin "object.__init__")))
    (oi_Newest : PySem.W.findIn K (.ref C_Newest) "__init__" = some (some (.builtin "object.__init__")))
    (oi_Order : PySem.W.findIn K (.ref C_Order) "__init__" = some (some (.builtin "object.__init__")))
    (n_Rooms_elders : PySem.W.findIn K (.ref C_Rooms) "elders" = some none)
    (n_Rooms_known : PySem.W.findIn K (.ref C_Rooms) "known" = some none)
    (n_Rooms_letters : PySem.W.findIn K (.ref C_Rooms) "letters" = some none)
    (n_Rooms_made : PySem.W.findIn K (.ref C_Rooms) "made" = some none)
    (n_Rooms_told : PySem.W.findIn K (.ref C_Rooms) "told" = some none)
    {C_NoOrder C_TooMany C_YardError : Addr}
    (xz_NoWord : PySem.W.nsIn K mainGlobals "NoWord" = some none)
    (xz_TooLong : PySem.W.nsIn K mainGlobals "TooLong" = some none)
    (xz_TooGreat : PySem.W.nsIn K mainGlobals "TooGreat" = some none)
    (xa_NoOrder : PySem.W.nsIn K mainGlobals "NoOrder" = some (some (.ref C_NoOrder)))
    (xa_TooMany : PySem.W.nsIn K mainGlobals "TooMany" = some (some (.ref C_TooMany)))
    (xa_YardError : PySem.W.nsIn K mainGlobals "YardError" = some (some (.ref C_YardError)))
    (xc_NoOrder : PySem.W.isClsIn K C_NoOrder = true)
    (xt_NoOrder : PySem.W.typeIn K (.ref C_NoOrder) = some (.type "type"))
    (xb_NoOrder : PySem.W.subIn K (.ref C_NoOrder) (.type "BaseException") = some true)
    (xv_NoOrder : PySem.W.subIn K (.ref C_NoOrder) (.type "ValueError") = some true)
    (xh_NoOrder : PySem.W.hasDictIn K C_NoOrder = true)
    (xg_NoOrder : PySem.W.findIn K (.ref C_NoOrder) "__getattribute__" = some (some (.builtin "BaseException.__getattribute__")))
    (xq_NoOrder : PySem.W.findIn K (.ref C_NoOrder) "__getattr__" = some none)
    (xe_NoOrder : PySem.W.findIn K (.ref C_NoOrder) "__class__" = some (some (.builtin "object.__class__")))
    (xm_NoOrder : PySem.W.mroIn K C_NoOrder (.type "object") = some true)
    (xs_NoOrder_NoOrder : PySem.W.subIn K (.ref C_NoOrder) (.ref C_NoOrder) = some true)
    (xs_NoOrder_TooMany : PySem.W.subIn K (.ref C_NoOrder) (.ref C_TooMany) = some false)
    (xs_NoOrder_YardError : PySem.W.subIn K (.ref C_NoOrder) (.ref C_YardError) = some true)
    (xk_NoOrder : PySem.W.keepIn K (.ref C_NoOrder) = true)
    (xx_NoOrder : PySem.W.excIn K C_NoOrder [.type "ValueError", .type "Exception", .type "BaseException", .type "object"] "ValueError.__new__" = true)
    (xc_TooMany : PySem.W.isClsIn K C_TooMany = true)
    (xt_TooMany : PySem.W.typeIn K (.ref C_TooMany) = some (.type "type"))
    (xb_TooMany : PySem.W.subIn K (.ref C_TooMany) (.type "BaseException") = some true)
    (xv_TooMany : PySem.W.subIn K (.ref C_TooMany) (.type "ValueError") = some true)
    (xh_TooMany : PySem.W.hasDictIn K C_TooMany = true)
    (xg_TooMany : PySem.W.findIn K (.ref C_TooMany) "__getattribute__" = some (some (.builtin "BaseException.__getattribute__")))
    (xq_TooMany : PySem.W.findIn K (.ref C_TooMany) "__getattr__" = some none)
    (xe_TooMany : PySem.W.findIn K (.ref C_TooMany) "__class__" = some (some (.builtin "object.__class__")))
    (xm_TooMany : PySem.W.mroIn K C_TooMany (.type "object") = some true)
    (xs_TooMany_NoOrder : PySem.W.subIn K (.ref C_TooMany) (.ref C_NoOrder) = some false)
    (xs_TooMany_TooMany : PySem.W.subIn K (.ref C_TooMany) (.ref C_TooMany) = some true)
    (xs_TooMany_YardError : PySem.W.subIn K (.ref C_TooMany) (.ref C_YardError) = some true)
    (xc_YardError : PySem.W.isClsIn K C_YardError = true)
    (xt_YardError : PySem.W.typeIn K (.ref C_YardError) = some (.type "type"))
    (xb_YardError : PySem.W.subIn K (.ref C_YardError) (.type "BaseException") = some true)
    (xv_YardError : PySem.W.subIn K (.ref C_YardError) (.type "ValueError") = some true)
    (xh_YardError : PySem.W.hasDictIn K C_YardError = true)
    (xg_YardError : PySem.W.findIn K (.ref C_YardError) "__getattribute__" = some (some (.builtin "BaseException.__getattribute__")))
    (xq_YardError : PySem.W.findIn K (.ref C_YardError) "__getattr__" = some none)
    (xe_YardError : PySem.W.findIn K (.ref C_YardError) "__class__" = some (some (.builtin "object.__class__")))
    (xm_YardError : PySem.W.mroIn K C_YardError (.type "object") = some true)
    (xn_1 : PySem.W.findIn K (.ref C_TooMany) "made" = some none)
    (xn_2 : PySem.W.findIn K (.ref C_TooMany) "rows" = some none)
    (xbn : PySem.W.specialIn K (.builtin "object.__class__") "__get__" = some (some (.builtin "getset_descriptor.__get__")))
    (xbt : PySem.W.takesIn K (.builtin "object.__class__") = some true)
    (a0 : PySem.W.findIn K (.ref C_Rooms) "__init__" = some (some (.ref f0)))
    (i0 : PySem.W.isFn K (.ref f0) = true)
    (l0 : K.lookup f0 = some ⟨oc0, od0, .func (PySem.W.fnOf "__init__" "Rooms.__init__" (defArgs s_Rooms_init) (defBody s_Rooms_init) (defScope s_Rooms_init) .none kV0 dc0 pm0 an0 cd0 ct0), sl0⟩)
    (c0 : PySem.W.codeIn K cd0 "Rooms.__init__" = true)
    (k0 : PySem.W.keepIn K (.ref f0) = true)
    (a1 : PySem.W.findIn K (.ref C_Rooms) "make" = some (some (.ref f1)))
    (i1 : PySem.W.isFn K (.ref f1) = true)
    (l1 : K.lookup f1 = some ⟨oc1, od1, .func (PySem.W.fnOf "make" "Rooms.make" (defArgs s_Rooms_make) (defBody s_Rooms_make) (defScope s_Rooms_make) .none kV1 dc1 pm1 an1 cd1 ct1), sl1⟩)
    (c1 : PySem.W.codeIn K cd1 "Rooms.make" = true)
    (k1 : PySem.W.keepIn K (.ref f1) = true)
    (a2 : PySem.W.findIn K (.ref C_Rooms) "tie" = some (some (.ref f2)))
    (i2 : PySem.W.isFn K (.ref f2) = true)
    (l2 : K.lookup f2 = some ⟨oc2, od2, .func (PySem.W.fnOf "tie" "Rooms.tie" (defArgs s_Rooms_tie) (defBody s_Rooms_tie) (defScope s_Rooms_tie) .none kV2 dc2 pm2 an2 cd2 ct2), sl2⟩)
    (c2 : PySem.W.codeIn K cd2 "Rooms.tie" = true)
    (k2 : PySem.W.keepIn K (.ref f2) = true)
    (a3 : PySem.W.findIn K (.ref C_Rooms) "put_together" = some (some (.ref f3)))
    (i3 : PySem.W.isFn K (.ref f3) = true)
    (l3 : K.lookup f3 = some ⟨oc3, od3, .func (PySem.W.fnOf "put_together" "Rooms.put_together" (defArgs s_Rooms_put_together) (defBody s_Rooms_put_together) (defScope s_Rooms_put_together) .none kV3 dc3 pm3 an3 cd3 ct3), sl3⟩)
    (c3 : PySem.W.codeIn K cd3 "Rooms.put_together" = true)
    (k3 : PySem.W.keepIn K (.ref f3) = true)
    (a4 : PySem.W.findIn K (.ref C_Rooms) "lay" = some (some (.ref f4)))
    (i4 : PySem.W.isFn K (.ref f4) = true)
    (l4 : K.lookup f4 = some ⟨oc4, od4, .func (PySem.W.fnOf "lay" "Rooms.lay" (defArgs s_Rooms_lay) (defBody s_Rooms_lay) (defScope s_Rooms_lay) .none kV4 dc4 pm4 an4 cd4 ct4), sl4⟩)
    (c4 : PySem.W.codeIn K cd4 "Rooms.lay" = true)
    (k4 : PySem.W.keepIn K (.ref f4) = true)
    (a5 : PySem.W.findIn K (.ref C_Rooms) "by" = some (some (.ref f5)))
    (i5 : PySem.W.isFn K (.ref f5) = true)
    (l5 : K.lookup f5 = some ⟨oc5, od5, .func (PySem.W.fnOf "by" "Rooms.by" (defArgs s_Rooms_by) (defBody s_Rooms_by) (defScope s_Rooms_by) .none kV5 dc5 pm5 an5 cd5 ct5), sl5⟩)
    (c5 : PySem.W.codeIn K cd5 "Rooms.by" = true)
    (k5 : PySem.W.keepIn K (.ref f5) = true)
    (a6 : PySem.W.findIn K (.ref C_Rooms) "elder" = some (some (.ref f6)))
    (i6 : PySem.W.isFn K (.ref f6) = true)
    (l6 : K.lookup f6 = some ⟨oc6, od6, .func (PySem.W.fnOf "elder" "Rooms.elder" (defArgs s_Rooms_elder) (defBody s_Rooms_elder) (defScope s_Rooms_elder) .none kV6 dc6 pm6 an6 cd6 ct6), sl6⟩)
    (c6 : PySem.W.codeIn K cd6 "Rooms.elder" = true)
    (k6 : PySem.W.keepIn K (.ref f6) = true)
    (a7 : PySem.W.findIn K (.ref C_Rooms) "standing" = some (some (.ref f7)))
    (i7 : PySem.W.isFn K (.ref f7) = true)
    (l7 : K.lookup f7 = some ⟨oc7, od7, .func (PySem.W.fnOf "standing" "Rooms.standing" (defArgs s_Rooms_standing) (defBody s_Rooms_standing) (defScope s_Rooms_standing) .none kV7 dc7 pm7 an7 cd7 ct7), sl7⟩)
    (c7 : PySem.W.codeIn K cd7 "Rooms.standing" = true)
    (k7 : PySem.W.keepIn K (.ref f7) = true)
    (a8 : PySem.W.findIn K (.ref C_Rooms) "paper" = some (some (.ref f8)))
    (i8 : PySem.W.isFn K (.ref f8) = true)
    (l8 : K.lookup f8 = some ⟨oc8, od8, .func (PySem.W.fnOf "paper" "Rooms.paper" (defArgs s_Rooms_paper) (defBody s_Rooms_paper) (defScope s_Rooms_paper) .none kV8 dc8 pm8 an8 cd8 ct8), sl8⟩)
    (c8 : PySem.W.codeIn K cd8 "Rooms.paper" = true)
    (k8 : PySem.W.keepIn K (.ref f8) = true)
    (a9 : PySem.W.nsIn K mainGlobals "path_of" = some (some (.ref f9)))
    (l9 : K.lookup f9 = some ⟨oc9, od9, .func (PySem.W.fnOf "path_of" "path_of" (defArgs s_path_of) (defBody s_path_of) (defScope s_path_of) .none kV9 dc9 pm9 an9 cd9 ct9), sl9⟩)
    (c9 : PySem.W.codeIn K cd9 "path_of" = true)
    (k9 : PySem.W.keepIn K (.ref f9) = true)
    (a10 : PySem.W.nsIn K mainGlobals "scan" = some (some (.ref f10)))
    (l10 : K.lookup f10 = some ⟨oc10, od10, .func (PySem.W.fnOf "scan" "scan" (defArgs s_scan) (defBody s_scan) (defScope s_scan) .none kV10 dc10 pm10 an10 cd10 ct10), sl10⟩)
    (c10 : PySem.W.codeIn K cd10 "scan" = true)
    (k10 : PySem.W.keepIn K (.ref f10) = true)
    (a11 : PySem.W.nsIn K mainGlobals "close" = some (some (.ref f11)))
    (l11 : K.lookup f11 = some ⟨oc11, od11, .func (PySem.W.fnOf "close" "close" (defArgs s_close) (defBody s_close) (defScope s_close) .none kV11 dc11 pm11 an11 cd11 ct11), sl11⟩)
    (c11 : PySem.W.codeIn K cd11 "close" = true)
    (k11 : PySem.W.keepIn K (.ref f11) = true)
    (a12 : PySem.W.nsIn K mainGlobals "steps_of" = some (some (.ref f12)))
    (l12 : K.lookup f12 = some ⟨oc12, od12, .func (PySem.W.fnOf "steps_of" "steps_of" (defArgs s_steps_of) (defBody s_steps_of) (defScope s_steps_of) .none kV12 dc12 pm12 an12 cd12 ct12), sl12⟩)
    (c12 : PySem.W.codeIn K cd12 "steps_of" = true)
    (k12 : PySem.W.keepIn K (.ref f12) = true)
    (a13 : PySem.W.nsIn K mainGlobals "numbered" = some (some (.ref f13)))
    (l13 : K.lookup f13 = some ⟨oc13, od13, .func (PySem.W.fnOf "numbered" "numbered" (defArgs s_numbered) (defBody s_numbered) (defScope s_numbered) .none kV13 dc13 pm13 an13 cd13 ct13), sl13⟩)
    (c13 : PySem.W.codeIn K cd13 "numbered" = true)
    (k13 : PySem.W.keepIn K (.ref f13) = true)
    (a14 : PySem.W.findIn K (.ref C_Order) "mark" = some (some (.ref f14)))
    (i14 : PySem.W.isFn K (.ref f14) = true)
    (l14 : K.lookup f14 = some ⟨oc14, od14, .func (PySem.W.fnOf "mark" "Order.mark" (defArgs s_Order_mark) (defBody s_Order_mark) (defScope s_Order_mark) .none kV14 dc14 pm14 an14 cd14 ct14), sl14⟩)
    (c14 : PySem.W.codeIn K cd14 "Order.mark" = true)
    (k14 : PySem.W.keepIn K (.ref f14) = true)
    (a15 : PySem.W.findIn K (.ref C_ByLetters) "mark" = some (some (.ref f15)))
    (i15 : PySem.W.isFn K (.ref f15) = true)
    (l15 : K.lookup f15 = some ⟨oc15, od15, .func (PySem.W.fnOf "mark" "ByLetters.mark" (defArgs s_ByLetters_mark) (defBody s_ByLetters_mark) (defScope s_ByLetters_mark) .none kV15 dc15 pm15 an15 cd15 ct15), sl15⟩)
    (c15 : PySem.W.codeIn K cd15 "ByLetters.mark" = true)
    (k15 : PySem.W.keepIn K (.ref f15) = true)
    (a16 : PySem.W.findIn K (.ref C_Newest) "mark" = some (some (.ref f16)))
    (i16 : PySem.W.isFn K (.ref f16) = true)
    (l16 : K.lookup f16 = some ⟨oc16, od16, .func (PySem.W.fnOf "mark" "Newest.mark" (defArgs s_Newest_mark) (defBody s_Newest_mark) (defScope s_Newest_mark) .none kV16 dc16 pm16 an16 cd16 ct16), sl16⟩)
    (c16 : PySem.W.codeIn K cd16 "Newest.mark" = true)
    (k16 : PySem.W.keepIn K (.ref f16) = true)
    (a17 : PySem.W.findIn K (.ref C_Order) "gap" = some (some (.ref f17)))
    (ao17_ByLetters : PySem.W.findIn K (.ref C_ByLetters) "gap" = some (some (.ref f17)))
    (ao17_Newest : PySem.W.findIn K (.ref C_Newest) "gap" = some (some (.ref f17)))
    (i17 : PySem.W.isFn K (.ref f17) = true)
    (l17 : K.lookup f17 = some ⟨oc17, od17, .func (PySem.W.fnOf "gap" "Order.gap" (defArgs s_Order_gap) (defBody s_Order_gap) (defScope s_Order_gap) .none kV17 dc17 pm17 an17 cd17 ct17), sl17⟩)
    (c17 : PySem.W.codeIn K cd17 "Order.gap" = true)
    (k17 : PySem.W.keepIn K (.ref f17) = true)
    (a18 : PySem.W.nsIn K mainGlobals "order_by" = some (some (.ref f18)))
    (l18 : K.lookup f18 = some ⟨oc18, od18, .func (PySem.W.fnOf "order_by" "order_by" (defArgs s_order_by) (defBody s_order_by) (defScope s_order_by) .none kV18 dc18 pm18 an18 cd18 ct18), sl18⟩)
    (c18 : PySem.W.codeIn K cd18 "order_by" = true)
    (k18 : PySem.W.keepIn K (.ref f18) = true)
    (a19 : PySem.W.findIn K (.ref C_TooMany) "__init__" = some (some (.ref f19)))
    (i19 : PySem.W.isFn K (.ref f19) = true)
    (l19 : K.lookup f19 = some ⟨oc19, od19, .func (PySem.W.fnOf "__init__" "TooMany.__init__" (defArgs s_TooMany_init) (defBody s_TooMany_init) (defScope s_TooMany_init) .none kV19 dc19 pm19 an19 cd19 ct19), sl19⟩)
    (c19 : PySem.W.codeIn K cd19 "TooMany.__init__" = true)
    (k19 : PySem.W.keepIn K (.ref f19) = true)
    {tnm tqn : Str} {tN : Addr} {tbs tbm tsub : List Value} {tsn : List Str} {tab : Bool} {tcol : Option Bool} {tdd : Option Addr} {tk0 tk1 tk2 tk3 tk5 : Option Value}
    (txl : K.lookup C_TooMany = some (excClassObj tnm tqn C_TooMany tN tbs tbm true tsn tsub tab tcol tdd tk0 tk1 tk2 tk3 tk5 "ValueError.__new__"))
    (txr : PySem.HandSPX.refsVE tbm = true)
    (txs : PySem.W.findIn K (.ref C_TooMany) "__setattr__" = some (some (.builtin "object.__setattr__")))
    (txk : PySem.W.keepIn K (.ref C_TooMany) = true)
    (txf : PySem.W.typeIn K (.ref f19) = some (.type "function"))
    (tyr : PySem.W.readsIn K C_YardError (.type "type") = true)
    (tyg : PySem.W.specialIn K (.ref C_YardError) "__getattribute__" = some (some (.builtin "type.__getattribute__")))
    (tyf : PySem.W.findCls K (.ref C_YardError) (.type "type") "__init__" = some (.val (.builtin "ValueError.__init__")))
    {dT20 : Addr} {dtk20 : Tok} {dtc20 : Value} {dtd20 : Option Addr} {dtn20 : Nat} {dts20 : Array (Option Value)}
    (a20 : PySem.W.nsIn K mainGlobals "fill" = some (some (.ref f20)))
    (l20 : K.lookup f20 = some ⟨oc20, od20, .func (PySem.W.fnOf "fill" "fill" (defArgs s_fill) (defBody s_fill) (defScope s_fill) (.ref dT20) kV20 dc20 pm20 an20 cd20 ct20), sl20⟩)
    (ld20 : K.lookup dT20 = some ⟨dtc20, dtd20, .seq #[Value.str "rooms" dtk20] dtn20, dts20⟩)
    (c20 : PySem.W.codeIn K cd20 "fill" = true)
    (k20 : PySem.W.keepIn K (.ref f20) = true)
    (a21 : PySem.W.nsIn K mainGlobals "_law_cell_at" = some (some (.ref f21)))
    (l21 : K.lookup f21 = some ⟨oc21, od21, .func (PySem.W.fnOf "_law_cell_at" "_law_cell_at" (defArgs s_Lcell_at) (defBody s_Lcell_at) (defScope s_Lcell_at) .none kV21 dc21 pm21 an21 cd21 ct21), sl21⟩)
    (c21 : PySem.W.codeIn K cd21 "_law_cell_at" = true)
    (k21 : PySem.W.keepIn K (.ref f21) = true)
    (a22 : PySem.W.nsIn K mainGlobals "_law_whole" = some (some (.ref f22)))
    (l22 : K.lookup f22 = some ⟨oc22, od22, .func (PySem.W.fnOf "_law_whole" "_law_whole" (defArgs s_Lwhole) (defBody s_Lwhole) (defScope s_Lwhole) .none kV22 dc22 pm22 an22 cd22 ct22), sl22⟩)
    (c22 : PySem.W.codeIn K cd22 "_law_whole" = true)
    (k22 : PySem.W.keepIn K (.ref f22) = true)
    (a23 : PySem.W.nsIn K mainGlobals "_law_filled" = some (some (.ref f23)))
    (l23 : K.lookup f23 = some ⟨oc23, od23, .func (PySem.W.fnOf "_law_filled" "_law_filled" (defArgs s_Lfilled) (defBody s_Lfilled) (defScope s_Lfilled) .none kV23 dc23 pm23 an23 cd23 ct23), sl23⟩)
    (c23 : PySem.W.codeIn K cd23 "_law_filled" = true)
    (k23 : PySem.W.keepIn K (.ref f23) = true)
    (a24 : PySem.W.nsIn K mainGlobals "_law_ring" = some (some (.ref f24)))
    (l24 : K.lookup f24 = some ⟨oc24, od24, .func (PySem.W.fnOf "_law_ring" "_law_ring" (defArgs s_Lring) (defBody s_Lring) (defScope s_Lring) .none kV24 dc24 pm24 an24 cd24 ct24), sl24⟩)
    (c24 : PySem.W.codeIn K cd24 "_law_ring" = true)
    (k24 : PySem.W.keepIn K (.ref f24) = true)
    (a25 : PySem.W.nsIn K mainGlobals "_law_common" = some (some (.ref f25)))
    (l25 : K.lookup f25 = some ⟨oc25, od25, .func (PySem.W.fnOf "_law_common" "_law_common" (defArgs s_Lcommon) (defBody s_Lcommon) (defScope s_Lcommon) .none kV25 dc25 pm25 an25 cd25 ct25), sl25⟩)
    (c25 : PySem.W.codeIn K cd25 "_law_common" = true)
    (k25 : PySem.W.keepIn K (.ref f25) = true)
    (a26 : PySem.W.nsIn K mainGlobals "_law_news" = some (some (.ref f26)))
    (l26 : K.lookup f26 = some ⟨oc26, od26, .func (PySem.W.fnOf "_law_news" "_law_news" (defArgs s_Lnews) (defBody s_Lnews) (defScope s_Lnews) .none kV26 dc26 pm26 an26 cd26 ct26), sl26⟩)
    (c26 : PySem.W.codeIn K cd26 "_law_news" = true)
    (k26 : PySem.W.keepIn K (.ref f26) = true)
    (a27 : PySem.W.nsIn K mainGlobals "_law_same" = some (some (.ref f27)))
    (l27 : K.lookup f27 = some ⟨oc27, od27, .func (PySem.W.fnOf "_law_same" "_law_same" (defArgs s_Lsame) (defBody s_Lsame) (defScope s_Lsame) .none kV27 dc27 pm27 an27 cd27 ct27), sl27⟩)
    (c27 : PySem.W.codeIn K cd27 "_law_same" = true)
    (k27 : PySem.W.keepIn K (.ref f27) = true)
    (a28 : PySem.W.nsIn K mainGlobals "law" = some (some (.ref f28)))
    (l28 : K.lookup f28 = some ⟨oc28, od28, .func (PySem.W.fnOf "law" "law" (defArgs s_law) (defBody s_law) (defScope s_law) .none kV28 dc28 pm28 an28 cd28 ct28), sl28⟩)
    (c28 : PySem.W.codeIn K cd28 "law" = true)
    (k28 : PySem.W.keepIn K (.ref f28) = true)
    (z0 : PySem.W.nsIn K mainGlobals "bool" = some none)
    (z1 : PySem.W.nsIn K mainGlobals "enumerate" = some none)
    (z2 : PySem.W.nsIn K mainGlobals "int" = some none)
    (z3 : PySem.W.nsIn K mainGlobals "isinstance" = some none)
    (z4 : PySem.W.nsIn K mainGlobals "len" = some none)
    (z5 : PySem.W.nsIn K mainGlobals "list" = some none)
    (z6 : PySem.W.nsIn K mainGlobals "max" = some none)
    (z7 : PySem.W.nsIn K mainGlobals "min" = some none)
    (z8 : PySem.W.nsIn K mainGlobals "range" = some none)
    (z9 : PySem.W.nsIn K mainGlobals "tuple" = some none) :
    ∃ fd : FuncData, (∀ (s : Shared) (v : Value), BindsTo s fd ⟨[v], []⟩ [("_law_script", v)]) ∧ ∀ base : Heap, K.In base → base.Ns mainGlobals mg → FnOk l.prog w K mg base CX0 8 fa fd ["_law_script"] (toSp K T_law) := by
  have e := hfa.symm.trans (PySem.W.mg_of X G a28)
  cases e
  have B : Bs mg := ⟨PySem.W.mg_none_of X G z0, PySem.W.mg_none_of X G z1, PySem.W.mg_none_of X G z2, PySem.W.mg_none_of X G z3, PySem.W.mg_none_of X G z4, PySem.W.mg_none_of X G z5, PySem.W.mg_none_of X G z6, PySem.W.mg_none_of X G z7, PySem.W.mg_none_of X G z8, PySem.W.mg_none_of X G z9⟩
  have c_ByLetters : Cls K C_ByLetters := ⟨pg_ByLetters, hd_ByLetters, po_ByLetters, sa_ByLetters⟩
  have c_Newest : Cls K C_Newest := ⟨pg_Newest, hd_Newest, po_Newest, sa_Newest⟩
  have c_Order : Cls K C_Order := ⟨pg_Order, hd_Order, po_Order, sa_Order⟩
  have c_Rooms : Cls K C_Rooms := ⟨pg_Rooms, hd_Rooms, po_Rooms, sa_Rooms⟩
  have k0_ByLetters : Mk0 K mg "ByLetters" C_ByLetters := ⟨a_ByLetters, PySem.W.mg_of X G a_ByLetters, mk_ByLetters, oi_ByLetters, kc_ByLetters⟩
  have k0_Newest : Mk0 K mg "Newest" C_Newest := ⟨a_Newest, PySem.W.mg_of X G a_Newest, mk_Newest, oi_Newest, kc_Newest⟩
  have k0_Order : Mk0 K mg "Order" C_Order := ⟨a_Order, PySem.W.mg_of X G a_Order, mk_Order, oi_Order, kc_Order⟩
  have XT : XTabP K prX C_YardError C_YardError C_NoOrder C_TooMany C_YardError C_YardError := ⟨(fun h => absurd h (by decide +kernel)), (fun h => absurd h (by decide +kernel)), (fun _ => ⟨xa_NoOrder, xc_NoOrder, xt_NoOrder, xb_NoOrder, xv_NoOrder, xh_NoOrder, xg_NoOrder, xq_NoOrder, xe_NoOrder, xm_NoOrder⟩), (fun _ => ⟨xa_TooMany, xc_TooMany, xt_TooMany, xb_TooMany, xv_TooMany, xh_TooMany, xg_TooMany, xq_TooMany, xe_TooMany, xm_TooMany⟩), (fun h => absurd h (by decide +kernel)), (fun _ => ⟨xa_YardError, xc_YardError, xt_YardError, xb_YardError, xv_YardError, xh_YardError, xg_YardError, xq_YardError, xe_YardError, xm_YardError⟩), (fun _ => xz_NoWord), (fun _ => xz_TooLong), (fun h => absurd h (by decide +kernel)), (fun h => absurd h (by decide +kernel)), (fun _ => xz_TooGreat), (fun h => absurd h (by decide +kernel)), ⟨(fun h _ => absurd h (by decide +kernel)), (fun h _ => absurd h (by decide +kernel)), (fun h _ => absurd h (by decide +kernel)), (fun h _ => absurd h (by decide +kernel)), (fun h _ => absurd h (by decide +kernel)), (fun h _ => absurd h (by decide +kernel))⟩, ⟨(fun h _ => absurd h (by decide +kernel)), (fun h _ => absurd h (by decide +kernel)), (fun h _ => absurd h (by decide +kernel)), (fun h _ => absurd h (by decide +kernel)), (fun h _ => absurd h (by decide +kernel)), (fun h _ => absurd h (by decide +kernel))⟩, ⟨(fun _ h => absurd h (by decide +kernel)), (fun _ h => absurd h (by decide +kernel)), (fun _ _ => xs_NoOrder_NoOrder), (fun _ _ => xs_NoOrder_TooMany), (fun _ h => absurd h (by decide +kernel)), (fun _ _ => xs_NoOrder_YardError)⟩, ⟨(fun _ h => absurd h (by decide +kernel)), (fun _ h => absurd h (by decide +kernel)), (fun _ _ => xs_TooMany_NoOrder), (fun _ _ => xs_TooMany_TooMany), (fun _ h => absurd h (by decide +kernel)), (fun _ _ => xs_TooMany_YardError)⟩, ⟨(fun h _ => absurd h (by decide +kernel)), (fun h _ => absurd h (by decide +kernel)), (fun h _ => absurd h (by decide +kernel)), (fun h _ => absurd h (by decide +kernel)), (fun h _ => absurd h (by decide +kernel)), (fun h _ => absurd h (by decide +kernel))⟩, ⟨xbn, xbt⟩⟩
  have XM : XMgP K mg prX C_YardError C_YardError C_NoOrder C_TooMany C_YardError C_YardError := ⟨(fun h => absurd h (by decide +kernel)), (fun h => absurd h (by decide +kernel)), (fun _ => PySem.W.mg_of X G xa_NoOrder), (fun _ => PySem.W.mg_of X G xa_TooMany), (fun h => absurd h (by decide +kernel)), (fun _ => PySem.W.mg_of X G xa_YardError), (fun h => absurd h (by decide +kernel)), (fun h => absurd h (by decide +kernel)), (fun _ => xk_NoOrder), (fun h => absurd h (by decide +kernel)), (fun h => absurd h (by decide +kernel)), (fun h => absurd h (by decide +kernel)), (fun _ => xx_NoOrder), (fun h => absurd h (by decide +kernel)), (fun _ => xn_1), (fun _ => xn_2)⟩
  have t0 := fun_mk (st := s_Rooms_init) l0 c0 k0
  have t1 := fun_mk (st := s_Rooms_make) l1 c1 k1
  have t2 := fun_mk (st := s_Rooms_tie) l2 c2 k2
  have t3 := fun_mk (st := s_Rooms_put_together) l3 c3 k3
  have t4 := fun_mk (st := s_Rooms_lay) l4 c4 k4
  have t5 := fun_mk (st := s_Rooms_by) l5 c5 k5
  have t6 := fun_mk (st := s_Rooms_elder) l6 c6 k6
  have t7 := fun_mk (st := s_Rooms_standing) l7 c7 k7
  have t8 := fun_mk (st := s_Rooms_paper) l8 c8 k8
  have t9 := topfn (st := s_path_of) X G a9 l9 c9 k9
  have t10 := topfn (st := s_scan) X G a10 l10 c10 k10
  have t11 := topfn (st := s_close) X G a11 l11 c11 k11
  have t12 := topfn (st := s_steps_of) X G a12 l12 c12 k12
  have t13 := topfn (st := s_numbered) X G a13 l13 c13 k13
  have t14 := fun_mk (st := s_Order_mark) l14 c14 k14
  have t15 := fun_mk (st := s_ByLetters_mark) l15 c15 k15
  have t16 := fun_mk (st := s_Newest_mark) l16 c16 k16
  have t17 := fun_mk (st := s_Order_gap) l17 c17 k17
  have t18 := topfn (st := s_order_by) X G a18 l18 c18 k18
  have t19 := fun_mk (st := s_TooMany_init) l19 c19 k19
  have t20 := topfnD (st := s_fill) (dv := (.str "rooms")) X G ⟨_, rfl⟩ a20 l20 ld20 c20 k20
  have t21 := topfn (st := s_Lcell_at) X G a21 l21 c21 k21
  have t22 := topfn (st := s_Lwhole) X G a22 l22 c22 k22
  have t23 := topfn (st := s_Lfilled) X G a23 l23 c23 k23
  have t24 := topfn (st := s_Lring) X G a24 l24 c24 k24
  have t25 := topfn (st := s_Lcommon) X G a25 l25 c25 k25
  have t26 := topfn (st := s_Lnews) X G a26 l26 c26 k26
  have t27 := topfn (st := s_Lsame) X G a27 l27 c27 k27
  have t28 := topfn (st := s_law) X G a28 l28 c28 k28
  refine ⟨PySem.W.fnOf "law" "law" (defArgs s_law) (defBody s_law) (defScope s_law) .none kV28 dc28 pm28 an28 cd28 ct28, fun s v => .of_eq rfl, fun base _ _ => ?_⟩
  have h_Rooms_init : Mak l.prog w K mg base 1 "Rooms" T_Rooms_init := d_Rooms_init t0 B a_Rooms c_Rooms n_Rooms_elders n_Rooms_known n_Rooms_letters n_Rooms_made n_Rooms_told ⟨mk_Rooms, a0, i0, kc_Rooms⟩ (PySem.W.mg_of X G a_Rooms)
  have h_Rooms_make : Mth l.prog w K mg base 1 "Rooms" "make" T_Rooms_make := d_Rooms_make t1 B a_Rooms c_Rooms n_Rooms_elders n_Rooms_known n_Rooms_made n_Rooms_told ⟨a1, i1, k1⟩
  have h_Rooms_tie : Mth l.prog w K mg base 1 "Rooms" "tie" T_Rooms_tie := d_Rooms_tie t2 B a_Rooms c_Rooms n_Rooms_known ⟨a2, i2, k2⟩
  have h_Rooms_by : Mth l.prog w K mg base 1 "Rooms" "by" T_Rooms_by := d_Rooms_by t5 B a_Rooms c_Rooms n_Rooms_known ⟨a5, i5, k5⟩
  have h_Rooms_elder : Mth l.prog w K mg base 1 "Rooms" "elder" T_Rooms_elder := d_Rooms_elder t6 B a_Rooms c_Rooms n_Rooms_elders ⟨a6, i6, k6⟩
  have h_Rooms_standing : Mth l.prog w K mg base 1 "Rooms" "standing" T_Rooms_standing := d_Rooms_standing t7 B a_Rooms c_Rooms n_Rooms_elders n_Rooms_made ⟨a7, i7, k7⟩
  have h_Rooms_paper : Mth l.prog w K mg base 1 "Rooms" "paper" T_Rooms_paper := d_Rooms_paper t8 B a_Rooms c_Rooms n_Rooms_told ⟨a8, i8, k8⟩
  have h_steps_of : Fn l.prog w K mg base 1 "steps_of" T_steps_of := d_steps_of t12 B
  have h_Order_mark : Mth l.prog w K mg base 1 "Order" "mark" T_Order_mark := d_Order_mark t14 B a_Order c_Order ⟨a14, i14, k14⟩
  have h_ByLetters_mark : Mth l.prog w K mg base 1 "ByLetters" "mark" T_ByLetters_mark := d_ByLetters_mark t15 B a_ByLetters c_ByLetters ⟨a15, i15, k15⟩
  have h_Newest_mark : Mth l.prog w K mg base 1 "Newest" "mark" T_Newest_mark := d_Newest_mark t16 B a_Newest c_Newest ⟨a16, i16, k16⟩
  have tm_TooMany : TMFn l.prog w K mg base 1 C_TooMany := d_TooMany_init t19 B XT XM ⟨xa_TooMany, PySem.W.mg_of X G xa_TooMany, ⟨⟨_, _, _, _, _, _, _, _, _, _, _, _, _, _, _, txl, txr⟩, txs, xb_TooMany, xt_TooMany, txk⟩, a19, txf⟩ tyr tyg tyf
  have h_Lcell_at : Fn l.prog w K mg base 1 "_law_cell_at" T_Lcell_at := d_Lcell_at t21 B
  have h_Lwhole : Fn l.prog w K mg base 1 "_law_whole" T_Lwhole := d_Lwhole t22 B
  have h_Lring : Fn l.prog w K mg base 1 "_law_ring" T_Lring := d_Lring t24 B
  have h_Lcommon : Fn l.prog w K mg base 1 "_law_common" T_Lcommon := d_Lcommon t25 B
  have h_Lnews : Fn l.prog w K mg base 1 "_law_news" T_Lnews := d_Lnews t26 B
  have h_Rooms_put_together : Mth l.prog w K mg base 2 "Rooms" "put_together" T_Rooms_put_together := d_Rooms_put_together t3 B a_Rooms c_Rooms n_Rooms_elders n_Rooms_known h_Rooms_elder h_Rooms_tie ⟨a3, i3, k3⟩
  have h_path_of : Fn l.prog w K mg base 2 "path_of" T_path_of := d_path_of t9 B h_Rooms_by
  have h_numbered : Fn l.prog w K mg base 2 "numbered" T_numbered := d_numbered t13 B a_Rooms c_Rooms n_Rooms_letters h_Rooms_by h_steps_of
  have h_Order_gap : Mth l.prog w K mg base 2 "Order" "gap" (T_Order_gap "Order") := d_Order_gap t17 B a_Rooms c_Rooms n_Rooms_letters h_Rooms_by h_Rooms_standing h_steps_of h_ByLetters_mark h_Newest_mark h_Order_mark a_Order c_Order ⟨a17, i17, k17⟩
  have h_ByLetters_gap : Mth l.prog w K mg base 2 "ByLetters" "gap" (T_Order_gap "ByLetters") := d_Order_gap t17 B a_Rooms c_Rooms n_Rooms_letters h_Rooms_by h_Rooms_standing h_steps_of h_ByLetters_mark h_Newest_mark h_Order_mark a_ByLetters c_ByLetters ⟨ao17_ByLetters, i17, k17⟩
  have h_Newest_gap : Mth l.prog w K mg base 2 "Newest" "gap" (T_Order_gap "Newest") := d_Order_gap t17 B a_Rooms c_Rooms n_Rooms_letters h_Rooms_by h_Rooms_standing h_steps_of h_ByLetters_mark h_Newest_mark h_Order_mark a_Newest c_Newest ⟨ao17_Newest, i17, k17⟩
  have h_order_by : FnX l.prog w K mg base 2 "order_by" T_order_by := d_order_by t18 B k0_ByLetters k0_Newest k0_Order XT XM
  have h_Lsame : Fn l.prog w K mg base 2 "_law_same" T_Lsame := d_Lsame t27 B h_Lwhole
  have h_Rooms_lay : Mth l.prog w K mg base 3 "Rooms" "lay" T_Rooms_lay := d_Rooms_lay t4 B a_Rooms c_Rooms n_Rooms_told h_Rooms_elder h_Rooms_put_together h_Rooms_tie ⟨a4, i4, k4⟩
  have h_scan : Fn l.prog w K mg base 4 "scan" T_scan := d_scan t10 B h_Rooms_lay h_path_of
  have h_close : Fn l.prog w K mg base 5 "close" T_close := d_close t11 B h_Rooms_elder h_Rooms_standing h_scan
  have h_fill : FnXD l.prog w K mg base 6 "fill" 4 (.str "rooms") T_fill := d_fill t20 B a_Rooms c_Rooms n_Rooms_made XT XM h_Rooms_init h_Rooms_make h_Rooms_paper tm_TooMany h_close h_numbered h_order_by h_ByLetters_gap h_Newest_gap h_Order_gap
  have h_Lfilled : Fn l.prog w K mg base 7 "_law_filled" T_Lfilled := d_Lfilled t23 B XT XM h_fill
  exact dl_law t28 B XT XM h_Lcell_at h_Lcommon h_Lfilled h_Lnews h_Lring h_Lsame h_Lwhole
theorem walk {l : PySem.W.OpenLaw} {q : Program} {loose : List Str} {XP : (Str → Option Value) → Heap → Prop} {YP : World → Heap → Prop} {d : DefRec} {K : Params → PySem.W.Frag} (hn : l.most = some 63) (hdf : d.params.defaults = [])
    (hY : ∀ (w : World) (h : Heap), YP w h → (K w.params).In h)
    (F : ∀ (w : World) (mg : Str → Option Value) (fa : Addr) (h : Heap), (K w.params).In h → h.Ns mainGlobals mg → mg d.name = some (.ref fa) →
      ∃ fd : FuncData, (∀ (s : Shared) (u : Value), BindsTo s fd ⟨[u], []⟩ [("_law_script", u)]) ∧ ∀ base : Heap, (K w.params).In base → base.Ns mainGlobals mg → FnOk l.prog w (K w.params) mg base CX0 8 fa fd ["_law_script"] (toSp (K w.params) T_law)) :
    PySem.W.WalkO q loose XP YP l.row.toRowW d [] (fun f vs => PySem.call f vs) :=
  L2.walk_of (n := 63) (k := 8) (x := "_law_script") (CX := fun _ => CX0) (sp := fun w => toSp (K w.params) T_law) hn (by decide) hdf ⟨rfl, by decide, by decide⟩ hY F (fun _ _ a ns hl _ hS => law_sp hl hS fun _ => rfl) fun _ _ _ _ _ z => z
end My
open PySem PySem.W PyProof.Rows
set_option maxRecDepth 100000 in
set_option maxHeartbeats 0 in
theorem PySem.Challenge.cw_cosetyard_k30_one_letter_holds : PySem.Challenge.rw_cosetyard_k30_one_letter.Holds := by
  w_on; o_law; k_head; (case hw => w_witness2)
  k_fill
  refine My.walk (l := PySem.Challenge.rw_cosetyard_k30_one_letter) rfl rfl (fun w h Y => PySem.W.kIn_of Y) ?F
  case F =>
    intro w mg fa h KX G hmg
    refine' My.all_mk KX G hmg ?a_ByLetters ?pg_ByLetters ?hd_ByLetters ?po_ByLetters ?sa_ByLetters ?mk_ByLetters ?kc_ByLetters ?a_Newest ?pg_Newest ?hd_Newest ?po_Newest ?sa_Newest ?mk_Newest ?kc_Newest ?a_Order ?pg_Order ?hd_Order ?po_Order ?sa_Order ?mk_Order ?kc_Order ?a_Rooms ?pg_Rooms ?hd_Rooms ?po_Rooms ?sa_Rooms ?mk_Rooms ?kc_Rooms ?oi_ByLetters ?oi_Newest ?oi_Order ?n_Rooms_elders ?n_Rooms_known ?n_Rooms_letters ?n_Rooms_made ?n_Rooms_told ?xz_NoWord ?xz_TooLong ?xz_TooGreat ?xa_NoOrder ?xa_TooMany ?xa_YardError ?xc_NoOrder ?xt_NoOrder ?xb_NoOrder ?xv_NoOrder ?xh_NoOrder ?xg_NoOrder ?xq_NoOrder ?xe_NoOrder ?xm_NoOrder ?xs_NoOrder_NoOrder ?xs_NoOrder_TooMany ?xs_NoOrder_YardError ?xk_NoOrder ?xx_NoOrder ?xc_TooMany ?xt_TooMany ?xb_TooMany ?xv_TooMany ?xh_TooMany ?xg_TooMany ?xq_TooMany ?xe_TooMany ?xm_TooMany ?xs_TooMany_NoOrder ?xs_TooMany_TooMany ?xs_TooMany_YardError ?xc_YardError ?xt_YardError ?xb_YardError ?xv_YardError ?xh_YardError ?xg_YardError ?xq_YardError ?xe_YardError ?xm_YardError ?xn_1 ?xn_2 ?xbn ?xbt ?a0 ?i0 ?l0 ?c0 ?k0 ?a1 ?i1 ?l1 ?c1 ?k1 ?a2 ?i2 ?l2 ?c2 ?k2 ?a3 ?i3 ?l3 ?c3 ?k3 ?a4 ?i4 ?l4 ?c4 ?k4 ?a5 ?i5 ?l5 ?c5 ?k5 ?a6 ?i6 ?l6 ?c6 ?k6 ?a7 ?i7 ?l7 ?c7 ?k7 ?a8 ?i8 ?l8 ?c8 ?k8 ?a9 ?l9 ?c9 ?k9 ?a10 ?l10 ?c10 ?k10 ?a11 ?l11 ?c11 ?k11 ?a12 ?l12 ?c12 ?k12 ?a13 ?l13 ?c13 ?k13 ?a14 ?i14 ?l14 ?c14 ?k14 ?a15 ?i15 ?l15 ?c15 ?k15 ?a16 ?i16 ?l16 ?c16 ?k16 ?a17 ?ao17_ByLetters ?ao17_Newest ?i17 ?l17 ?c17 ?k17 ?a18 ?l18 ?c18 ?k18 ?a19 ?i19 ?l19 ?c19 ?k19 ?txl ?txr ?txs ?txk ?txf ?tyr ?tyg ?tyf ?a20 ?l20 ?ld20 ?c20 ?k20 ?a21 ?l21 ?c21 ?k21 ?a22 ?l22 ?c22 ?k22 ?a23 ?l23 ?c23 ?k23 ?a24 ?l24 ?c24 ?k24 ?a25 ?l25 ?c25 ?k25 ?a26 ?l26 ?c26 ?k26 ?a27 ?l27 ?c27 ?k27 ?a28 ?l28 ?c28 ?k28 ?z0 ?z1 ?z2 ?z3 ?z4 ?z5 ?z6 ?z7 ?z8 ?z9
    (case a_ByLetters => k_is)
    (case pg_ByLetters => k_is)
    (case hd_ByLetters => k_is)
    (case po_ByLetters => k_is)
    (case sa_ByLetters => k_is)
    (case mk_ByLetters => k_is)
    (case kc_ByLetters => k_is)
    (case a_Newest => k_is)
    (case pg_Newest => k_is)
    (case hd_Newest => k_is)
    (case po_Newest => k_is)
    (case sa_Newest => k_is)
    (case mk_Newest => k_is)
    (case kc_Newest => k_is)
    (case a_Order => k_is)
    (case pg_Order => k_is)
    (case hd_Order => k_is)
    (case po_Order => k_is)
    (case sa_Order => k_is)
    (case mk_Order => k_is)
    (case kc_Order => k_is)
    (case a_Rooms => k_is)
    (case pg_Rooms => k_is)
    (case hd_Rooms => k_is)
    (case po_Rooms => k_is)
    (case sa_Rooms => k_is)
    (case mk_Rooms => k_is)
    (case kc_Rooms => k_is)
    (case oi_ByLetters => k_is)
    (case oi_Newest => k_is)
    (case oi_Order => k_is)
    (case n_Rooms_elders => k_is)
    (case n_Rooms_known => k_is)
    (case n_Rooms_letters => k_is)
    (case n_Rooms_made => k_is)
    (case n_Rooms_told => k_is)
    (case xz_NoWord => k_is)
    (case xz_TooLong => k_is)
    (case xz_TooGreat => k_is)
    (case xa_NoOrder => k_is)
    (case xa_TooMany => k_is)
    (case xa_YardError => k_is)
    (case xc_NoOrder => k_is)
    (case xt_NoOrder => k_is)
    (case xb_NoOrder => k_is)
    (case xv_NoOrder => k_is)
    (case xh_NoOrder => k_is)
    (case xg_NoOrder => k_is)
    (case xq_NoOrder => k_is)
    (case xe_NoOrder => k_is)
    (case xm_NoOrder => k_is)
    (case xs_NoOrder_NoOrder => k_is)
    (case xs_NoOrder_TooMany => k_is)
    (case xs_NoOrder_YardError => k_is)
    (case xk_NoOrder => k_is)
    (case xx_NoOrder => k_exc)
    (case xc_TooMany => k_is)
    (case xt_TooMany => k_is)
    (case xb_TooMany => k_is)
    (case xv_TooMany => k_is)
    (case xh_TooMany => k_is)
    (case xg_TooMany => k_is)
    (case xq_TooMany => k_is)
    (case xe_TooMany => k_is)
    (case xm_TooMany => k_is)
    (case xs_TooMany_NoOrder => k_is)
    (case xs_TooMany_TooMany => k_is)
    (case xs_TooMany_YardError => k_is)
    (case xc_YardError => k_is)
    (case xt_YardError => k_is)
    (case xb_YardError => k_is)
    (case xv_YardError => k_is)
    (case xh_YardError => k_is)
    (case xg_YardError => k_is)
    (case xq_YardError => k_is)
    (case xe_YardError => k_is)
    (case xm_YardError => k_is)
    (case xn_1 => k_is)
    (case xn_2 => k_is)
    (case xbn => k_is)
    (case xbt => k_is)
    (case a0 => k_is)
    (case i0 => k_is)
    (case l0 => k_is)
    (case c0 => k_is)
    (case k0 => k_is)
    (case a1 => k_is)
    (case i1 => k_is)
    (case l1 => k_is)
    (case c1 => k_is)
    (case k1 => k_is)
    (case a2 => k_is)
    (case i2 => k_is)
    (case l2 => k_is)
    (case c2 => k_is)
    (case k2 => k_is)
    (case a3 => k_is)
    (case i3 => k_is)
    (case l3 => k_is)
    (case c3 => k_is)
    (case k3 => k_is)
    (case a4 => k_is)
    (case i4 => k_is)
    (case l4 => k_is)
    (case c4 => k_is)
    (case k4 => k_is)
    (case a5 => k_is)
    (case i5 => k_is)
    (case l5 => k_is)
    (case c5 => k_is)
    (case k5 => k_is)
    (case a6 => k_is)
    (case i6 => k_is)
    (case l6 => k_is)
    (case c6 => k_is)
    (case k6 => k_is)
    (case a7 => k_is)
    (case i7 => k_is)
    (case l7 => k_is)
    (case c7 => k_is)
    (case k7 => k_is)
    (case a8 => k_is)
    (case i8 => k_is)
    (case l8 => k_is)
    (case c8 => k_is)
    (case k8 => k_is)
    (case a9 => k_is)
    (case l9 => k_is)
    (case c9 => k_is)
    (case k9 => k_is)
    (case a10 => k_is)
    (case l10 => k_is)
    (case c10 => k_is)
    (case k10 => k_is)
    (case a11 => k_is)
    (case l11 => k_is)
    (case c11 => k_is)
    (case k11 => k_is)
    (case a12 => k_is)
    (case l12 => k_is)
    (case c12 => k_is)
    (case k12 => k_is)
    (case a13 => k_is)
    (case l13 => k_is)
    (case c13 => k_is)
    (case k13 => k_is)
    (case a14 => k_is)
    (case i14 => k_is)
    (case l14 => k_is)
    (case c14 => k_is)
    (case k14 => k_is)
    (case a15 => k_is)
    (case i15 => k_is)
    (case l15 => k_is)
    (case c15 => k_is)
    (case k15 => k_is)
    (case a16 => k_is)
    (case i16 => k_is)
    (case l16 => k_is)
    (case c16 => k_is)
    (case k16 => k_is)
    (case a17 => k_is)
    (case ao17_ByLetters => k_is)
    (case ao17_Newest => k_is)
    (case i17 => k_is)
    (case l17 => k_is)
    (case c17 => k_is)
    (case k17 => k_is)
    (case a18 => k_is)
    (case l18 => k_is)
    (case c18 => k_is)
    (case k18 => k_is)
    (case a19 => k_is)
    (case i19 => k_is)
    (case l19 => k_is)
    (case c19 => k_is)
    (case k19 => k_is)
    (case txl => k_is)
    (case txr => decide +kernel)
    (case txs => k_is)
    (case txk => k_is)
    (case txf => k_is)
    (case tyr => k_is)
    (case tyg => k_is)
    (case tyf => k_is)
    (case a20 => k_is)
    (case l20 => k_is)
    (case ld20 => k_is)
    (case c20 => k_is)
    (case k20 => k_is)
    (case a21 => k_is)
    (case l21 => k_is)
    (case c21 => k_is)
    (case k21 => k_is)
    (case a22 => k_is)
    (case l22 => k_is)
    (case c22 => k_is)
    (case k22 => k_is)
    (case a23 => k_is)
    (case l23 => k_is)
    (case c23 => k_is)
    (case k23 => k_is)
    (case a24 => k_is)
    (case l24 => k_is)
    (case c24 => k_is)
    (case k24 => k_is)
    (case a25 => k_is)
    (case l25 => k_is)
    (case c25 => k_is)
    (case k25 => k_is)
    (case a26 => k_is)
    (case l26 => k_is)
    (case c26 => k_is)
    (case k26 => k_is)
    (case a27 => k_is)
    (case l27 => k_is)
    (case c27 => k_is)
    (case k27 => k_is)
    (case a28 => k_is)
    (case l28 => k_is)
    (case c28 => k_is)
    (case k28 => k_is)
    (case z0 => k_is)
    (case z1 => k_is)
    (case z2 => k_is)
    (case z3 => k_is)
    (case z4 => k_is)
    (case z5 => k_is)
    (case z6 => k_is)
    (case z7 => k_is)
    (case z8 => k_is)
    (case z9 => k_is)
