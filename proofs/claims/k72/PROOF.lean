import PyProof.Rows.All
import Wide.All
import OpenK.AllK
import Wide.FinOn
import HandS.ForMost
import HandS.ForExc
import HandS.Wide
import HandS.Flow
import HandS.IsInst
import HandS.TupAny
import HandS.Deep
import KE.DataEq
import HandS.WordsDict
import HandS.StrMore
import HandS.SortInts
import HandS.TupLe
import HandS.Style
import HandS.More
import KE.KRevSl
import HandS.Small
import HandS.Replace
import HandS.Codes
import HandS.TupMul
import HandS.Conv
import HandS.Zip
import HandS.Iter
import HandS.TupLen
import KE.GoesEnum
import HandS.TryMany
import HandS.ExcInit
import HandS.ExcIs
import HandS.ExcField
import KE.KExcIs
import HandS.Defaults
import HandS.SetFor
import HandS.SetKeys
import PyProof.DictMoreH
import HandS.DictTup
import PyProof.StrOps2
import KE.SortData
import PySem.Challenge.RW_cosetyard_k72_homes
set_option Elab.async false
set_option linter.all false
set_option maxRecDepth 100000
set_option autoImplicit false
namespace Lv
open PySem PySem.Spec L2

/-! ### data: values as trees -/
inductive D where
  | non | bl (b : Bool) | int (i : Int) | str (x : Str) | ref (a : Addr) | ty (n : String)
  | lst (ds : List D) | tup (ds : List D) | dK (kvs : List (Key × D)) | dT (kvs : List (List Key × D)) | scr (ns : List Int)
  /-- dicts that a loop walks -/
  | fK (kvs : List (Key × D)) | fT (kvs : List (List Key × D))
  /-- an exception that was caught and kept: its class's name, its fields -/
  | exc (cn : Str) (fs : List (Str × D))
  /-- a class of the program's own, by its name -/
  | cls (cn : Str)
/-- an exception of the class at C, its dict at d -/
def exk (a C : Addr) (d : Option Addr) : HO := .ext fun h => ∃ (oe : Obj) (vs : Array Value), h.get? a = some oe ∧ oe.cls = .ref C ∧ oe.dict = d ∧ oe.data = .fields vs

/-! ### what stands for what, over a part F of the heap that no one changes -/
mutual
inductive DR (K : PySem.W.Frag) (F : Hp) : V → D → Prop
  | non : DR K F .non .non
  | bl (b : Bool) : DR K F (.bl b) (.bl b)
  | int (i : Int) : DR K F (.int i) (.int i)
  | str (x : Str) : DR K F (.str x) (.str x)
  | ref (a : Addr) : DR K F (.ref a) (.ref a)
  | ty (n : String) : DR K F (.ty n) (.ty n)
  | lst {a : Addr} {vs : List V} {ds : List D} : F a = some (.lst vs) → DRs K F vs ds → DR K F (.ref a) (.lst ds)
  | tup {a : Addr} {vs : List V} {ds : List D} : F a = some (.tup vs) → DRs K F vs ds → DR K F (.ref a) (.tup ds)
  | dK {a : Addr} {vs : List (Key × V)} {ds : List (Key × D)} : F a = some (.dK vs) → DKs K F vs ds → DR K F (.ref a) (.dK ds)
  | dT {a : Addr} {vs : List (List Key × V)} {ds : List (List Key × D)} : F a = some (.dT vs) → DTs K F vs ds → DR K F (.ref a) (.dT ds)
  | scr {a : Addr} {ns : List Int} : SqL K F a (ns.map V.int) → DR K F (.ref a) (.scr ns)
  | exc0 {a C : Addr} {cn : Str} : F a = some (exk a C none) → PySem.W.nsIn K mainGlobals cn = some (some (.ref C)) → DR K F (.ref a) (.exc cn [])
  | exc1 {a C dd : Addr} {cn : Str} {vs : List (Str × V)} {fs : List (Str × D)} : F a = some (exk a C (some dd)) → PySem.W.nsIn K mainGlobals cn = some (some (.ref C)) → F dd = some (.xd vs) → DFs K F vs fs → DR K F (.ref a) (.exc cn fs)
  | cls {C : Addr} {cn : Str} : PySem.W.nsIn K mainGlobals cn = some (some (.ref C)) → DR K F (.ref C) (.cls cn)
inductive DRs (K : PySem.W.Frag) (F : Hp) : List V → List D → Prop
  | nil : DRs K F [] []
  | cons {v : V} {vs : List V} {d : D} {ds : List D} : DR K F v d → DRs K F vs ds → DRs K F (v :: vs) (d :: ds)
inductive DKs (K : PySem.W.Frag) (F : Hp) : List (Key × V) → List (Key × D) → Prop
  | nil : DKs K F [] []
  | cons {k : Key} {v : V} {vs : List (Key × V)} {d : D} {ds : List (Key × D)} : DR K F v d → DKs K F vs ds → DKs K F ((k, v) :: vs) ((k, d) :: ds)
inductive DTs (K : PySem.W.Frag) (F : Hp) : List (List Key × V) → List (List Key × D) → Prop
  | nil : DTs K F [] []
  | cons {k : List Key} {v : V} {vs : List (List Key × V)} {d : D} {ds : List (List Key × D)} : DR K F v d → DTs K F vs ds → DTs K F ((k, v) :: vs) ((k, d) :: ds)
inductive DFs (K : PySem.W.Frag) (F : Hp) : List (Str × V) → List (Str × D) → Prop
  | nil : DFs K F [] []
  | cons {k : Str} {v : V} {vs : List (Str × V)} {d : D} {ds : List (Str × D)} : DR K F v d → DFs K F vs ds → DFs K F ((k, v) :: vs) ((k, d) :: ds)
end
section
variable {K : PySem.W.Frag} {F F' : Hp}
mutual
theorem DR.mono (e : Same F F') : ∀ {v : V} {d : D}, DR K F v d → DR K F' v d
  | _, _, .non => .non
  | _, _, .bl b => .bl b
  | _, _, .int i => .int i
  | _, _, .str x => .str x
  | _, _, .ref a => .ref a
  | _, _, .ty n => .ty n
  | _, _, .lst h hs => .lst (e _ _ h) (DRs.mono e hs)
  | _, _, .tup h hs => .tup (e _ _ h) (DRs.mono e hs)
  | _, _, .dK h hs => .dK (e _ _ h) (DKs.mono e hs)
  | _, _, .dT h hs => .dT (e _ _ h) (DTs.mono e hs)
  | _, _, .scr h => .scr (e.seq h)
  | _, _, .exc0 h n => .exc0 (e _ _ h) n
  | _, _, .exc1 h n h2 hs => .exc1 (e _ _ h) n (e _ _ h2) (DFs.mono e hs)
  | _, _, .cls n => .cls n
theorem DRs.mono (e : Same F F') : ∀ {vs : List V} {ds : List D}, DRs K F vs ds → DRs K F' vs ds
  | _, _, .nil => .nil
  | _, _, .cons h hs => .cons (DR.mono e h) (DRs.mono e hs)
theorem DKs.mono (e : Same F F') : ∀ {vs : List (Key × V)} {ds : List (Key × D)}, DKs K F vs ds → DKs K F' vs ds
  | _, _, .nil => .nil
  | _, _, .cons h hs => .cons (DR.mono e h) (DKs.mono e hs)
theorem DTs.mono (e : Same F F') : ∀ {vs : List (List Key × V)} {ds : List (List Key × D)}, DTs K F vs ds → DTs K F' vs ds
  | _, _, .nil => .nil
  | _, _, .cons h hs => .cons (DR.mono e h) (DTs.mono e hs)
theorem DFs.mono (e : Same F F') : ∀ {vs : List (Str × V)} {ds : List (Str × D)}, DFs K F vs ds → DFs K F' vs ds
  | _, _, .nil => .nil
  | _, _, .cons h hs => .cons (DR.mono e h) (DFs.mono e hs)
end
theorem DRs.length : ∀ {vs : List V} {ds : List D}, DRs K F vs ds → vs.length = ds.length
  | _, _, .nil => rfl
  | _, _, .cons _ hs => by simp [DRs.length hs]
theorem DKs.length : ∀ {vs : List (Key × V)} {ds : List (Key × D)}, DKs K F vs ds → vs.length = ds.length
  | _, _, .nil => rfl
  | _, _, .cons _ hs => by simp [DKs.length hs]
theorem DTs.length : ∀ {vs : List (List Key × V)} {ds : List (List Key × D)}, DTs K F vs ds → vs.length = ds.length
  | _, _, .nil => rfl
  | _, _, .cons _ hs => by simp [DTs.length hs]
theorem DRs.get : ∀ {vs : List V} {ds : List D} {i : Nat} {d : D}, DRs K F vs ds → ds[i]? = some d → ∃ v, vs[i]? = some v ∧ DR K F v d
  | _, _, _, _, .nil, e => by simp at e
  | _, _, 0, _, .cons h _, e => by simp at e; subst e; exact ⟨_, rfl, h⟩
  | _, _, i + 1, d, .cons _ hs, e => by
    obtain ⟨u, h1, h2⟩ := DRs.get (i := i) (d := d) hs (by simpa using e)
    exact ⟨u, by simpa using h1, h2⟩
theorem DRs.getV : ∀ {vs : List V} {ds : List D} {i : Nat} {v : V}, DRs K F vs ds → vs[i]? = some v → ∃ d, ds[i]? = some d ∧ DR K F v d
  | _, _, _, _, .nil, e => by simp at e
  | _, _, 0, _, .cons h _, e => by simp at e; subst e; exact ⟨_, rfl, h⟩
  | _, _, i + 1, v, .cons _ hs, e => by
    obtain ⟨u, h1, h2⟩ := DRs.getV (i := i) (v := v) hs (by simpa using e)
    exact ⟨u, by simpa using h1, h2⟩
theorem DRs.append : ∀ {vs ws : List V} {ds es : List D}, DRs K F vs ds → DRs K F ws es → DRs K F (vs ++ ws) (ds ++ es)
  | _, _, _, _, .nil, s => s
  | _, _, _, _, .cons r t, s => .cons r (DRs.append t s)
theorem DRs.take : ∀ {vs : List V} {ds : List D} (n : Nat), DRs K F vs ds → DRs K F (vs.take n) (ds.take n)
  | _, _, 0, _ => .nil
  | _, _, _ + 1, .nil => .nil
  | _, _, n + 1, .cons r t => .cons r (DRs.take n t)
theorem DRs.drop : ∀ {vs : List V} {ds : List D} (n : Nat), DRs K F vs ds → DRs K F (vs.drop n) (ds.drop n)
  | _, _, 0, r => r
  | _, _, _ + 1, .nil => .nil
  | _, _, n + 1, .cons r t => DRs.drop n t
theorem DRs.reverse {vs : List V} {ds : List D} (h : DRs K F vs ds) : DRs K F vs.reverse ds.reverse := by
  induction ds generalizing vs with
  | nil => cases h; exact .nil
  | cons d ds ih =>
    cases h with
    | cons h hs => rw [List.reverse_cons, List.reverse_cons]; exact (ih hs).append (.cons h .nil)
theorem DRs.set {x : V} {y : D} (r : DR K F x y) : ∀ {vs : List V} {ds : List D} (i : Nat), DRs K F vs ds → DRs K F (vs.set i x) (ds.set i y)
  | _, _, _, .nil => .nil
  | _, _, 0, .cons _ t => .cons r t
  | _, _, i + 1, .cons q t => .cons q (DRs.set r i t)
theorem DRs.eraseIdx : ∀ {vs : List V} {ds : List D} (i : Nat), DRs K F vs ds → DRs K F (vs.eraseIdx i) (ds.eraseIdx i)
  | _, _, _, .nil => .nil
  | _, _, 0, .cons _ t => t
  | _, _, i + 1, .cons q t => .cons q (DRs.eraseIdx i t)
theorem DRs.dropLast {vs : List V} {ds : List D} (h : DRs K F vs ds) : DRs K F vs.dropLast ds.dropLast := by
  rw [List.dropLast_eq_take, List.dropLast_eq_take, h.length]
  exact h.take _
theorem DRs.rep {vs : List V} {ds : List D} (h : DRs K F vs ds) : ∀ k : Nat, DRs K F (List.replicate k vs).flatten (List.replicate k ds).flatten
  | 0 => .nil
  | k + 1 => by rw [List.replicate_succ, List.replicate_succ, List.flatten_cons, List.flatten_cons]; exact h.append (DRs.rep h k)
theorem DRs.ints : ∀ {vs : List V} {ns : List Int}, DRs K F vs (ns.map D.int) → vs = ns.map V.int
  | _, [], h => by cases h; rfl
  | _, n :: ns, h => by
    cases h with
    | cons h hs => cases h; rw [List.map_cons, DRs.ints hs]
theorem DRs.ofInts : ∀ (ns : List Int), DRs K F (ns.map V.int) (ns.map D.int)
  | [] => .nil
  | n :: ns => .cons (.int n) (DRs.ofInts ns)
end
/-- what an object of one's own holds -/
inductive OR (K : PySem.W.Frag) (F : Hp) : HO → D → Prop
  | lst {vs : List V} {ds : List D} : DRs K F vs ds → OR K F (.lst vs) (.lst ds)
  | dK {vs : List (Key × V)} {ds : List (Key × D)} : DKs K F vs ds → OR K F (.dK vs) (.dK ds)
  | dT {vs : List (List Key × V)} {ds : List (List Key × D)} : DTs K F vs ds → OR K F (.dT vs) (.dT ds)
theorem OR.mono {K : PySem.W.Frag} {F F' : Hp} {o : HO} {d : D} (h : OR K F o d) (e : Same F F') : OR K F' o d := by
  cases h with
  | lst h => exact .lst (h.mono e)
  | dK h => exact .dK (h.mono e)
  | dT h => exact .dT (h.mono e)
theorem OR.frozen {K : PySem.W.Frag} {F : Hp} {o : HO} {d : D} {a : Addr} (h : OR K F o d) (e : F a = some o) : DR K F (.ref a) d := by
  cases h with
  | lst h => exact .lst e h
  | dK h => exact .dK e h
  | dT h => exact .dT e h

/-- what is told of what stands: an object of one's own, a dict that is walked -/
inductive RR (K : PySem.W.Frag) (F : Hp) : HO → D → Prop
  | own {o : HO} {d : D} : OR K F o d → RR K F o d
  | fK {ob : Obj} {vs : List (Key × V)} {ds : List (Key × D)} : DKs K F vs ds → RR K F (.frz ob (.dK vs)) (.fK ds)
  | fT {ob : Obj} {vs : List (List Key × V)} {ds : List (List Key × D)} : DTs K F vs ds → RR K F (.frz ob (.dT vs)) (.fT ds)
theorem RR.mono {K : PySem.W.Frag} {F F' : Hp} {o : HO} {d : D} (h : RR K F o d) (e : Same F F') : RR K F' o d := by
  cases h with
  | own h => exact .own (h.mono e)
  | fK h => exact .fK (h.mono e)
  | fT h => exact .fT (h.mono e)
/-- what may be read now: frozen, or a container with frozen things in it -/
def DT (K : PySem.W.Frag) (F He H : Hp) (v : V) (d : D) : Prop := DR K F v d ∨ ∃ a o, v = .ref a ∧ H a = some o ∧ RR K F o d
/-- what may be read, and stays so -/
def DZ (K : PySem.W.Frag) (F He H : Hp) (v : V) (d : D) : Prop := DR K F v d ∨ ∃ a o, v = .ref a ∧ H a = some o ∧ He a = none ∧ OR K F o d
theorem DZ.dt {K : PySem.W.Frag} {F He H : Hp} {v : V} {d : D} (h : DZ K F He H v d) : DT K F He H v d := h.elim .inl fun ⟨a, o, e, ho, _, q⟩ => .inr ⟨a, o, e, ho, .own q⟩

/-! ### the world beside: things that are named by their places, and change -/
inductive Cell where
  | lst (ds : List D) | dK (kvs : List (Key × D)) | dT (kvs : List (List Key × D)) | ins (cn : Str) (fs : List (Str × D))
  | fK (ob : Obj) (vs : List (Key × V)) (kvs : List (Key × D)) | fT (ob : Obj) (vs : List (List Key × V)) (kvs : List (List Key × D))
abbrev Om := Addr → Option Cell
inductive CR (K : PySem.W.Frag) (F He : Hp) (a : Addr) : HO → Cell → Prop
  | lst {vs : List V} {ds : List D} : DRs K F vs ds → CR K F He a (.lst vs) (.lst ds)
  | dK {vs : List (Key × V)} {ds : List (Key × D)} : DKs K F vs ds → CR K F He a (.dK vs) (.dK ds)
  | dT {vs : List (List Key × V)} {ds : List (List Key × D)} : DTs K F vs ds → CR K F He a (.dT vs) (.dT ds)
  | fK {ob : Obj} {vs : List (Key × V)} {ds : List (Key × D)} : DKs K F vs ds → CR K F He a (.frz ob (.dK vs)) (.fK ob vs ds)
  | fT {ob : Obj} {vs : List (List Key × V)} {ds : List (List Key × D)} : DTs K F vs ds → CR K F He a (.frz ob (.dT vs)) (.fT ob vs ds)
  | ins {C dx : Addr} {cn : Str} {vs : List (Str × V)} {fs : List (Str × D)} : PySem.W.nsIn K mainGlobals cn = some (some (.ref C)) → He dx = some (.own a) → DFs K F vs fs → CR K F He a (.ins C dx vs) (.ins cn fs)
theorem CR.mono {K : PySem.W.Frag} {F F' He : Hp} {a : Addr} {o : HO} {c : Cell} (h : CR K F He a o c) (e : Same F F') : CR K F' He a o c := by
  cases h with
  | lst h => exact .lst (h.mono e)
  | dK h => exact .dK (h.mono e)
  | dT h => exact .dT (h.mono e)
  | fK h => exact .fK (h.mono e)
  | fT h => exact .fT (h.mono e)
  | ins n h g => exact .ins n h (g.mono e)
/-- the part He of the heap holds just what w tells -/
structure rep (K : PySem.W.Frag) (w : Om) (F He : Hp) : Prop where
  some_ : ∀ a c, w a = some c → ∃ o, He a = some o ∧ CR K F He a o c
  none_ : ∀ a, w a = none → He a = none ∨ ∃ p, He a = some (.own p)
theorem grow {K : PySem.W.Frag} {w : Om} {F F' He : Hp} (h : rep K w F He) (s : Same F F') : rep K w F' He :=
  ⟨fun a c e => let ⟨o, h1, h2⟩ := h.some_ a c e; ⟨o, h1, h2.mono s⟩, h.none_⟩
/-- what is read at a name -/
def Cell.toD : Cell → Option D
  | .lst ds => some (.lst ds) | .dK kvs => some (.dK kvs) | .dT kvs => some (.dT kvs) | .fK _ _ kvs => some (.fK kvs) | .fT _ _ kvs => some (.fT kvs) | .ins _ _ => none
def resC (d : D) : Option Cell → D
  | some (.lst ds) => .lst ds | some (.dK kvs) => .dK kvs | some (.dT kvs) => .dT kvs | some (.fK _ _ kvs) => .fK kvs | some (.fT _ _ kvs) => .fT kvs | _ => d
def res (w : Om) : D → D
  | .ref a => resC (.ref a) (w a)
  | d => d
theorem res_ok {K : PySem.W.Frag} {w : Om} {F He H : Hp} {v : V} {d : D} (h : rep K w F He) (sh : Same He H) (r : DZ K F He H v d) : DT K F He H v (res w d) := by
  have key : ∀ {u : D}, res w u = u → DZ K F He H v u → DT K F He H v (res w u) := fun e r => by rw [e]; exact r.dt
  cases d with
  | ref a =>
    have hv : v = .ref a := by
      rcases r with r | ⟨_, _, _, _, _, q⟩
      · cases r; rfl
      · cases q
    subst hv
    cases e : w a with
    | none => exact key (by show resC (.ref a) (w a) = _; rw [e]; rfl) r
    | some c =>
      obtain ⟨o, h1, h2⟩ := h.some_ a c e
      have h3 := sh _ _ h1
      show DT K F He H (.ref a) (resC (.ref a) (w a))
      rw [e]
      cases h2 with
      | lst q => exact .inr ⟨a, _, rfl, h3, .own (.lst q)⟩
      | dK q => exact .inr ⟨a, _, rfl, h3, .own (.dK q)⟩
      | dT q => exact .inr ⟨a, _, rfl, h3, .own (.dT q)⟩
      | fK q => exact .inr ⟨a, _, rfl, h3, .fK q⟩
      | fT q => exact .inr ⟨a, _, rfl, h3, .fT q⟩
      | ins _ _ _ => exact r.dt
  | _ => exact key rfl r

/-- the heap in its parts: F frozen, He of the world beside -/
structure Wd  (K : PySem.W.Frag) (w : Om) (F He H : Hp) : Prop where
  sf : Same F H
  sh : Same He H
  dj : ∀ b o, He b = some o → F b = none
  ex : rep K w F He
/-- from one state to a later one -/
structure Step (F He H F' He' H' : Hp) : Prop where
  fz : Same F F'
  fzN : ∀ b, F' b ≠ none → F b ≠ none ∨ H b = none ∨ ∃ xs, H b = some (.tup xs)
  heN : ∀ b, He' b ≠ none → He b ≠ none ∨ H b = none
  keep : ∀ b o, H b = some o → He b = none → H' b = some o
  dom : ∀ b, H b ≠ none → H' b ≠ none
  tp : ∀ b xs, H' b = some (.tup xs) → H b = none ∨ H b = some (.tup xs)
theorem Step.refl {F He H : Hp} : Step F He H F He H := ⟨Same.refl _, fun _ h => .inl h, fun _ h => .inl h, fun _ _ h _ => h, fun _ h => h, fun _ _ h => .inr h⟩
theorem Step.trans {F He H F1 He1 H1 F2 He2 H2 : Hp} (a : Step F He H F1 He1 H1) (b : Step F1 He1 H1 F2 He2 H2) : Step F He H F2 He2 H2 where
  fz := a.fz.trans b.fz
  fzN := fun c h => by
    rcases b.fzN c h with h | h | ⟨xs, h⟩
    · exact a.fzN c h
    · exact .inr (.inl (Classical.byContradiction fun q => a.dom c q h))
    · rcases a.tp c xs h with h | h
      · exact .inr (.inl h)
      · exact .inr (.inr ⟨xs, h⟩)
  heN := fun c h => (b.heN c h).elim (fun h => a.heN c h) fun h => .inr (Classical.byContradiction fun q => a.dom c q h)
  keep := fun c o h n => b.keep c o (a.keep c o h n) (by
    cases e : He1 c with
    | none => rfl
    | some u =>
      rcases a.heN c (by rw [e]; exact fun z => nomatch z) with q | q
      · exact absurd n q
      · rw [q] at h; cases h)
  dom := fun c h => b.dom c (a.dom c h)
  tp := fun c xs h => (b.tp c xs h).elim (fun h => .inl (Classical.byContradiction fun q => a.dom c q h)) fun h => a.tp c xs h
section
variable  {K : PySem.W.Frag} {w : Om} {F He H F' He' H' : Hp} {p : Addr} {o : HO}
theorem Wd.fnone (x : Wd K w F He H) (h : H p = none) : F p = none := x.sf.free h
theorem Wd.henone (x : Wd K w F He H) (h : H p = none) : He p = none := x.sh.free h
/-- a new object -/
theorem Wd.alloc (x : Wd K w F He H) (h : H p = none) : Wd K w F He (upd H p o) where
  sf := fun b u e => by rw [upd_ne (ne_of_none (x.sf b u e) h)]; exact x.sf b u e
  sh := fun b u e => by rw [upd_ne (ne_of_none (x.sh b u e) h)]; exact x.sh b u e
  dj := x.dj
  ex := x.ex
theorem Step.alloc (h : H p = none) : Step F He H F He (upd H p o) where
  fz := Same.refl _
  fzN := fun _ h => .inl h
  heN := fun _ h => .inl h
  keep := fun b u e _ => by rw [upd_ne (ne_of_none e h)]; exact e
  dom := fun b e => by
    by_cases hb : b = p
    · subst hb; exact absurd h e
    · rw [upd_ne hb]; exact e
  tp := fun b xs e => by
    by_cases hb : b = p
    · subst hb; exact .inl h
    · rw [upd_ne hb] at e; exact .inr e
/-- an own object is frozen -/
theorem Wd.freeze (x : Wd K w F He H) (h : H p = some o) (n : F p = none) (m : He p = none) : Wd K w (upd F p o) He H where
  sf := fun b u e => by
    by_cases hb : b = p
    · subst hb; rw [upd_same] at e; rw [h]; exact e
    · rw [upd_ne hb] at e; exact x.sf b u e
  sh := x.sh
  dj := fun b u e => by rw [upd_ne (ne_of_none e m)]; exact x.dj b u e
  ex := grow x.ex fun b u e => by rw [upd_ne (ne_of_none e n)]; exact e
theorem same_upd (n : F p = none) : Same F (upd F p o) := fun b u e => by rw [upd_ne (ne_of_none e n)]; exact e
theorem Step.freeze (s : Step F He H F' He' H') (n : F' p = none) (h : H p = none) : Step F He H (upd F' p o) He' H' where
  fz := s.fz.trans (same_upd n)
  fzN := fun b e => by
    by_cases hb : b = p
    · subst hb; exact .inr (.inl h)
    · rw [upd_ne hb] at e; exact s.fzN b e
  heN := s.heN
  keep := s.keep
  dom := s.dom
  tp := s.tp
end

/-! ### the entry of a def: where its frame's story begins -/
structure Ent where
  K : PySem.W.Frag
  F0 : Hp
  He0 : Hp
  H0 : Hp
  w0 : Om
  rep0 : rep K w0 F0 He0
/-- a slot: nothing known, or own (true: a container that nothing else refers to), and the data -/
abbrev Sl := Option (Bool × D)
abbrev DSt := List Sl
def SlO (z : Ent) (F He H : Hp) : Sl → Option V → Prop
  | none, _ => True
  | some (false, d), v => ∃ x, v = some x ∧ DR z.K F x d
  | some (true, d), v => ∃ a o, v = some (.ref a) ∧ H a = some o ∧ F a = none ∧ He a = none ∧ z.H0 a = none ∧ OR z.K F o d
structure Rel (z : Ent) (δ : DSt) (w : Om) (F He : Hp) (σ : St) (H : Hp) : Prop where
  wd : Wd z.K w F He H
  st : Step z.F0 z.He0 z.H0 F He H
  len : σ.length = δ.length
  sl : ∀ (i : Nat) (s : Sl), δ[i]? = some s → ∃ v, σ[i]? = some v ∧ SlO z F He H s v
  inj : ∀ (i j : Nat) (d e : D) (a : Addr), δ[i]? = some (some (true, d)) → δ[j]? = some (some (true, e)) → σ[i]? = some (some (.ref a)) → σ[j]? = some (some (.ref a)) → i = j
section
variable {z : Ent} {δ : DSt} {w w' : Om} {F He H F' He' H' : Hp} {σ : St}
theorem SlO.step {s : Sl} {v : Option V} (x : SlO z F He H s v) (k : Step F He H F' He' H') : SlO z F' He' H' s v := by
  match s, x with
  | none, _ => exact True.intro
  | some (false, d), ⟨u, e, r⟩ => exact ⟨u, e, r.mono k.fz⟩
  | some (true, d), ⟨a, o, e, ho, n, m, f, r⟩ =>
    refine ⟨a, o, e, k.keep a o ho m, ?_, ?_, f, r.mono k.fz⟩
    · refine Classical.byContradiction fun q => ?_
      rcases k.fzN a q with q | q | ⟨xs, q⟩
      · exact q n
      · rw [ho] at q; cases q
      · rw [ho] at q; cases q; cases r
    · refine Classical.byContradiction fun q => (k.heN a q).elim (fun q => q m) fun q => ?_
      rw [ho] at q; cases q
theorem Rel.step (x : Rel z δ w F He σ H) (y : Wd z.K w' F' He' H') (k : Step F He H F' He' H') : Rel z δ w' F' He' σ H' where
  wd := y
  st := x.st.trans k
  len := x.len
  sl := fun i s e => let ⟨v, hv, r⟩ := x.sl i s e; ⟨v, hv, r.step k⟩
  inj := x.inj
end
/-- a result: own and new, or frozen -/
def Res (K : PySem.W.Frag) (F' He' Hb H' : Hp) : Bool → V → D → Prop
  | false, v, d => DR K F' v d
  | true, v, d => ∃ a o, v = .ref a ∧ H' a = some o ∧ F' a = none ∧ He' a = none ∧ Hb a = none ∧ OR K F' o d
section
variable  {K : PySem.W.Frag} {w w' : Om} {F He H F' He' H' F2 He2 H2 Hb : Hp} {v : V} {d : D}
theorem Res.thaw {b : Bool} (k : Step F He H F' He' H') (x : Wd K w' F' He' H') (r : Res K F' He' H H' b v d) :
    ∃ F2, Step F He H F2 He' H' ∧ Wd K w' F2 He' H' ∧ DR K F2 v d ∧ Same F' F2 := by
  cases b with
  | false => exact ⟨F', k, x, r, Same.refl _⟩
  | true =>
    obtain ⟨a, o, rfl, ho, n, m, f, q⟩ := r
    exact ⟨upd F' a o, k.freeze n f, x.freeze ho n m, (q.mono (same_upd n)).frozen upd_same, same_upd n⟩
theorem Res.dz {b : Bool} (r : Res K F' He' Hb H' b v d) : DZ K F' He' H' v d := by
  cases b with
  | false => exact .inl r
  | true =>
    obtain ⟨a, o, rfl, ho, n, m, f, q⟩ := r
    exact .inr ⟨a, o, rfl, ho, m, q⟩
theorem Res.dt {b : Bool} (r : Res K F' He' Hb H' b v d) : DT K F' He' H' v d := r.dz.dt
theorem Res.base {b : Bool} (k : Step F He H F' He' H') (r : Res K F2 He2 H' H2 b v d) : Res K F2 He2 H H2 b v d := by
  cases b with
  | false => exact r
  | true =>
    obtain ⟨a, o, e, ho, n, m, f, q⟩ := r
    exact ⟨a, o, e, ho, n, m, Classical.byContradiction fun q => k.dom a q f, q⟩
theorem DZ.step (r : DZ K F He H v d) (k : Step F He H F' He' H') : DZ K F' He' H' v d := by
  rcases r with r | ⟨a, o, e, ho, m, q⟩
  · exact .inl (r.mono k.fz)
  · refine .inr ⟨a, o, e, k.keep a o ho m, ?_, q.mono k.fz⟩
    refine Classical.byContradiction fun q => (k.heN a q).elim (fun q => q m) fun q => ?_
    rw [ho] at q; cases q
theorem DT.plain (h : ∀ o, ¬ RR K F o d) (r : DT K F He H v d) : DR K F v d := r.elim id fun ⟨_, _, _, _, q⟩ => absurd q (h _)
theorem DT.int {i : Int} (r : DT K F He H v (.int i)) : v = .int i := by
  cases r.plain fun o q => by cases q with | own q => cases q
  rfl
theorem DT.bl {i : Bool} (r : DT K F He H v (.bl i)) : v = .bl i := by
  cases r.plain fun o q => by cases q with | own q => cases q
  rfl
theorem DT.str {i : Str} (r : DT K F He H v (.str i)) : v = .str i := by
  cases r.plain fun o q => by cases q with | own q => cases q
  rfl
theorem DT.non (r : DT K F He H v .non) : v = .non := by
  cases r.plain fun o q => by cases q with | own q => cases q
  rfl
theorem DT.refV {a : Addr} (r : DT K F He H v (.ref a)) : v = .ref a := by
  cases r.plain fun o q => by cases q with | own q => cases q
  rfl
theorem DT.dr_tup {ds : List D} (r : DT K F He H v (.tup ds)) : DR K F v (.tup ds) := r.plain fun o q => by cases q with | own q => cases q
theorem DT.lst {ds : List D} (r : DT K F He H v (.lst ds)) (s : Same F H) : ∃ a vs, v = .ref a ∧ H a = some (.lst vs) ∧ DRs K F vs ds := by
  rcases r with r | ⟨a, o, e, ho, q⟩
  · cases r with | lst h hs => exact ⟨_, _, rfl, s _ _ h, hs⟩
  · cases q with | own q => cases q with | lst hs => exact ⟨a, _, e, ho, hs⟩
theorem DT.tup {ds : List D} (r : DT K F He H v (.tup ds)) (s : Same F H) : ∃ a vs, v = .ref a ∧ H a = some (.tup vs) ∧ DRs K F vs ds := by
  cases r.dr_tup with | tup h hs => exact ⟨_, _, rfl, s _ _ h, hs⟩
theorem DT.dK {ds : List (Key × D)} (r : DT K F He H v (.dK ds)) (s : Same F H) : ∃ a vs, v = .ref a ∧ H a = some (.dK vs) ∧ DKs K F vs ds := by
  rcases r with r | ⟨a, o, e, ho, q⟩
  · cases r with | dK h hs => exact ⟨_, _, rfl, s _ _ h, hs⟩
  · cases q with | own q => cases q with | dK hs => exact ⟨a, _, e, ho, hs⟩
theorem DT.dT {ds : List (List Key × D)} (r : DT K F He H v (.dT ds)) (s : Same F H) : ∃ a vs, v = .ref a ∧ H a = some (.dT vs) ∧ DTs K F vs ds := by
  rcases r with r | ⟨a, o, e, ho, q⟩
  · cases r with | dT h hs => exact ⟨_, _, rfl, s _ _ h, hs⟩
  · cases q with | own q => cases q with | dT hs => exact ⟨a, _, e, ho, hs⟩
theorem DT.fK {ds : List (Key × D)} (r : DT K F He H v (.fK ds)) : ∃ a ob vs, v = .ref a ∧ H a = some (.frz ob (.dK vs)) ∧ DKs K F vs ds := by
  rcases r with r | ⟨a, o, e, ho, q⟩
  · cases r
  · cases q with
    | own q => cases q
    | fK hs => exact ⟨a, _, _, e, ho, hs⟩
theorem DT.fT {ds : List (List Key × D)} (r : DT K F He H v (.fT ds)) : ∃ a ob vs, v = .ref a ∧ H a = some (.frz ob (.dT vs)) ∧ DTs K F vs ds := by
  rcases r with r | ⟨a, o, e, ho, q⟩
  · cases r
  · cases q with
    | own q => cases q
    | fT hs => exact ⟨a, _, _, e, ho, hs⟩
theorem DT.scr {ns : List Int} (r : DT K F He H v (.scr ns)) (s : Same F H) : ∃ a, v = .ref a ∧ SqL K H a (ns.map V.int) := by
  cases r.plain fun o q => by cases q with | own q => cases q
  exact ⟨_, rfl, s.seq (by assumption)⟩
theorem DT.of (r : DR K F v d) : DT K F He H v d := .inl r
end
end Lv

namespace Lv
open PySem PySem.Spec L2

/-! ### readings over data -/
abbrev DX  := DSt → Om → (Bool → D → Om → Prop) → Prop
abbrev DO  := DSt → Om → (D → Om → Prop) → Prop
abbrev DTs_  := DSt → Om → (Bool → Om → Prop) → Prop
abbrev DA  := DSt → Om → (List D → Om → Prop) → Prop
def liftX (z : Ent) (t : DX) : TE := fun σ H Q => ∃ δ w F He P, Rel z δ w F He σ H ∧ t δ w P ∧ ∀ b d w', P b d w' → ∀ v H' F' He', Wd z.K w' F' He' H' → Step F He H F' He' H' → Res z.K F' He' H H' b v d → Q v H'
def liftO (z : Ent) (t : DO) : TE := fun σ H Q => ∃ δ w F He P, Rel z δ w F He σ H ∧ t δ w P ∧ ∀ d w', P d w' → ∀ v H' F' He', Wd z.K w' F' He' H' → Step F He H F' He' H' → DZ z.K F' He' H' v d → Q v H'
def liftT (z : Ent) (t : DTs_) : TT := fun σ H Q => ∃ δ w F He P, Rel z δ w F He σ H ∧ t δ w P ∧ ∀ k w', P k w' → ∀ H' F' He', Wd z.K w' F' He' H' → Step F He H F' He' H' → Q k H'
def liftA (z : Ent) (t : DA) : TA := fun σ H Q => ∃ δ w F He P, Rel z δ w F He σ H ∧ t δ w P ∧ ∀ ds w', P ds w' → ∀ vs H' F' He', Wd z.K w' F' He' H' → Step F He H F' He' H' → DRs z.K F' vs ds → Q vs H'
/-- what is wanted behind a statement -/
structure DEnds  where
  nx : DSt → Om → Prop
  rt : Bool → D → Om → Prop
  bk : DSt → Om → Prop := fun _ _ => False
  ct : DSt → Om → Prop := fun _ _ => False
abbrev DS  := DEnds → DSt → Om → Prop
structure Conn (z : Ent) (F₀ : Hp) (E : DEnds) (D : Ends) : Prop where
  nx : ∀ δ w F He σ H, E.nx δ w → Rel z δ w F He σ H → Same F₀ F → D.nx σ H
  rt : ∀ b d w, E.rt b d w → ∀ v H F He, Wd z.K w F He H → Step z.F0 z.He0 z.H0 F He H → Res z.K F He z.H0 H b v d → D.rt v H
  bk : ∀ δ w F He σ H, E.bk δ w → Rel z δ w F He σ H → Same F₀ F → D.bk σ H
  ct : ∀ δ w F He σ H, E.ct δ w → Rel z δ w F He σ H → Same F₀ F → D.ct σ H
theorem Conn.mono {z : Ent} {F F' : Hp} {E : DEnds} {D : Ends} (c : Conn z F E D) (s : Same F F') : Conn z F' E D :=
  ⟨fun δ w G He σ H q R s' => c.nx δ w G He σ H q R (s.trans s'), c.rt, fun δ w G He σ H q R s' => c.bk δ w G He σ H q R (s.trans s'), fun δ w G He σ H q R s' => c.ct δ w G He σ H q R (s.trans s')⟩
def liftS (z : Ent) (t : DS) : TS := fun D σ H => ∃ δ w F He E, Rel z δ w F He σ H ∧ t E δ w ∧ Conn z F E D

theorem PE.imp {X : Cx} {e : Expr} {t t' : TE} (h : PE X e t) (f : ∀ σ H Q, t' σ H Q → t σ H Q) : PE X e t' := ⟨fun pins s σ H Q I q => h.run pins s σ H Q I (f σ H Q q)⟩
theorem PT.imp {X : Cx} {e : Expr} {t t' : TT} (h : PT X e t) (f : ∀ σ H Q, t' σ H Q → t σ H Q) : PT X e t' := ⟨fun pins s σ H Q I q => h.run pins s σ H Q I (f σ H Q q)⟩
theorem PW.imp {X : Cx} {e : Expr} {t t' : TT} (h : PW X e t) (f : ∀ σ H Q, t' σ H Q → t σ H Q) : PW X e t' := ⟨fun w pins s σ H Q I q => h.run w pins s σ H Q I (f σ H Q q)⟩
theorem PA.imp {X : Cx} {es : List Expr} {t t' : TA} (h : PA X es t) (f : ∀ σ H Q, t' σ H Q → t σ H Q) : PA X es t' := ⟨fun p pins s σ H Q I q => h.run p pins s σ H Q I (f σ H Q q)⟩
theorem PS.imp {X : Cx} {st : Stmt} {t t' : TS} (h : PS X st t) (f : ∀ D σ H, t' D σ H → t D σ H) : PS X st t' := ⟨fun pins s σ H D I q => h.run pins s σ H D I (f D σ H q)⟩
theorem PSs.imp {X : Cx} {st : List Stmt} {t t' : TS} (h : PSs X st t) (f : ∀ D σ H, t' D σ H → t D σ H) : PSs X st t' := ⟨fun pins s σ H D I q => h.run pins s σ H D I (f D σ H q)⟩

section
variable {X : Cx} {z : Ent} {pos : Pos}
abbrev JX (X : Cx) (z : Ent) (e : Expr) (t : DX) : Prop := PE X e (liftX z t)
abbrev JO (X : Cx) (z : Ent) (e : Expr) (t : DO) : Prop := PE X e (liftO z t)
abbrev JT (X : Cx) (z : Ent) (e : Expr) (t : DTs_) : Prop := PT X e (liftT z t)
abbrev JA (X : Cx) (z : Ent) (es : List Expr) (t : DA) : Prop := PA X es (liftA z t)
abbrev JS (X : Cx) (z : Ent) (st : Stmt) (t : DS) : Prop := PS X st (liftS z t)
abbrev JSs (X : Cx) (z : Ent) (st : List Stmt) (t : DS) : Prop := PSs X st (liftS z t)

/-! ### names and constants -/
def dVar  (i : Nat) : DX := fun δ w Q => match δ[i]? with
  | some (some (false, d)) => Q false d w
  | _ => False
def dVarR  (i : Nat) : DO := fun δ w Q => match δ[i]? with
  | some (some (_, d)) => Q d w
  | _ => False
def dC  (d : D) : DX := fun _ w Q => Q false d w
def oX  (t : DX) : DO := fun δ w Q => t δ w fun _ d w' => Q d w'
theorem jx_var {i : Nat} {e : Expr} (h : PE X e (tVar i)) : JX X z e (dVar i) := PE.imp h fun σ H Q ⟨δ, w, F, He, P, R, q, k⟩ => by
  unfold dVar at q
  split at q
  · next d e =>
    obtain ⟨v, hv, x, rfl, r⟩ := R.sl i _ e
    exact ⟨x, hv, k _ _ _ q x H F He R.wd .refl r⟩
  · exact q.elim
theorem jo_var {i : Nat} {e : Expr} (h : PE X e (tVar i)) : JO X z e (dVarR i) := PE.imp h fun σ H Q ⟨δ, w, F, He, P, R, q, k⟩ => by
  unfold dVarR at q
  split at q
  · next b d e =>
    obtain ⟨v, hv, r⟩ := R.sl i _ e
    cases b with
    | false =>
      obtain ⟨x, rfl, r⟩ := r
      exact ⟨x, hv, k _ _ q x H F He R.wd .refl (.inl r)⟩
    | true =>
      obtain ⟨a, o, rfl, ho, n, m, f, r⟩ := r
      exact ⟨.ref a, hv, k _ _ q _ H F He R.wd .refl (.inr ⟨a, o, rfl, ho, m, r⟩)⟩
  · exact q.elim
theorem jo_of {e : Expr} {t : DX} (h : JX X z e t) : JO X z e (oX t) := PE.imp h fun σ H Q ⟨δ, w, F, He, P, R, q, k⟩ =>
  ⟨δ, w, F, He, _, R, q, fun b d w' p v H' F' He' wd st r => k d w' p v H' F' He' wd st r.dz⟩
theorem jx_c {e : Expr} {v : V} {d : D} (h : PE X e (tC v)) (r : ∀ F, DR z.K F v d) : JX X z e (dC d) := PE.imp h fun σ H Q ⟨δ, w, F, He, P, R, q, k⟩ => k _ _ _ q v H F He R.wd .refl (r F)
theorem jx_int {i : Int} {j : Nat} : JX X z (.Constant (.int i) j pos) (dC (.int i)) := jx_c pe_int fun _ => .int i
theorem jx_bl {b : Bool} {j : Nat} : JX X z (.Constant (.bool b) j pos) (dC (.bl b)) := jx_c pe_bl fun _ => .bl b
theorem jx_non {j : Nat} : JX X z (.Constant .none j pos) (dC .non) := jx_c pe_non fun _ => .non
theorem jx_str {x : Str} {j : Nat} : JX X z (.Constant (.str x) j pos) (dC (.str x)) := jx_c pe_str fun _ => .str x

/-! ### operations of two operands -/
/-- sem: what comes, by the data; the ties of a value's rule -/
def Sem2 (z : Ent) (r : R2) (sem : D → D → (Bool → D → Prop) → Prop) : Prop := ∀ (w : Om) (F He H : Hp) (x y : V) (d e : D) (P : Bool → D → Prop) (Q : VK), Wd z.K w F He H → DT z.K F He H x d → DT z.K F He H y e → sem d e P →
  (∀ b d', P b d' → ∀ v H' F' He', Wd z.K w F' He' H' → Step F He H F' He' H' → Res z.K F' He' H H' b v d' → Q v H') → r x y H Q
def dBin  (sem : D → D → (Bool → D → Prop) → Prop) (ta tb : DO) : DX := fun δ w Q => ta δ w fun d w1 => tb δ w1 fun e w2 => sem (res w2 d) (res w2 e) fun b d' => Q b d' w2
theorem bin2 {r : R2} {sem : D → D → (Bool → D → Prop) → Prop} (hs : Sem2 z r sem) {ta tb : DO} {σ : St} {H : Hp} {Q : VK} (h : liftX z (dBin sem ta tb) σ H Q) : tOp r (liftO z ta) (liftO z tb) σ H Q := by
  obtain ⟨δ, w, F, He, P, R, q, k⟩ := h
  refine ⟨δ, w, F, He, _, R, q, fun d w1 q1 x H1 F1 He1 wd1 st1 r1 => ?_⟩
  refine ⟨δ, w1, F1, He1, _, R.step wd1 st1, q1, fun e w2 q2 y H2 F2 He2 wd2 st2 r2 => ?_⟩
  exact hs w2 F2 He2 H2 x y _ _ _ Q wd2 (res_ok wd2.ex wd2.sh (r1.step st2)) (res_ok wd2.ex wd2.sh r2) q2 fun b d' p v H' F' He' wd st rr => k b d' w2 p v H' F' He' wd ((st1.trans st2).trans st) (rr.base (st1.trans st2))
theorem jx_op {op : Operator} {r : R2} {sem : D → D → (Bool → D → Prop) → Prop} {a b : Expr} {ta tb : DO} (ho : OpR X (binaryOp op) r) (hs : Sem2 z r sem) (ha : JO X z a ta) (hb : JO X z b tb) : JX X z (.BinOp a op b pos) (dBin sem ta tb) :=
  PE.imp (pe_op ho ha hb) fun _ _ _ h => bin2 hs h
theorem jx_cmp {op : CmpOp} {r : R2} {sem : D → D → (Bool → D → Prop) → Prop} {a b : Expr} {ta tb : DO} (ho : OpR X (compareOp op) r) (hs : Sem2 z r sem) (ha : JO X z a ta) (hb : JO X z b tb) (hm : behindInMarks op b = false) : JX X z (.Compare a [op] [b] pos) (dBin sem ta tb) :=
  PE.imp (pe_cmpR ho ha hb hm) fun _ _ _ h => bin2 hs h
/-- the truth of a comparison -/
def dB  (t : DX) : DTs_ := fun δ w Q => t δ w fun _ d w' => match d with
  | .bl k => Q k w'
  | _ => False
theorem jt_cmp {op : CmpOp} {r : R2} {sem : D → D → (Bool → D → Prop) → Prop} {a b : Expr} {ta tb : DO} (ho : OpR X (compareOp op) r) (hs : Sem2 z r sem) (ha : JO X z a ta) (hb : JO X z b tb) (hm : behindInMarks op b = false) : JT X z (.Compare a [op] [b] pos) (dB (dBin sem ta tb)) :=
  PT.imp (pt_cmpR ho ha hb hm) fun σ H Q ⟨δ, w, F, He, P, R, q, k⟩ => by
    refine bin2 hs ⟨δ, w, F, He, _, R, q, fun b d w' p v H' F' He' wd st r => ?_⟩
    cases d with
    | bl c =>
      have e := r.dt.bl
      subst e
      exact ⟨c, rfl, k c w' p H' F' He' wd st⟩
    | _ => exact p.elim
/-- a new object as a result -/
theorem res_new {w : Om} {F He H : Hp} {p : Addr} {o : HO} {d : D} {P : Bool → D → Prop} {Q : VK} (wd : Wd z.K w F He H) (hp : H p = none) (r : OR z.K F o d) (q : P true d)
    (k : ∀ b d', P b d' → ∀ v H' F' He', Wd z.K w F' He' H' → Step F He H F' He' H' → Res z.K F' He' H H' b v d' → Q v H') : Q (.ref p) (upd H p o) :=
  k true d q _ _ F He (wd.alloc hp) (.alloc hp) ⟨p, o, rfl, upd_same, wd.fnone hp, wd.henone hp, hp, r⟩
/-- a new tuple -/
theorem res_tup {w : Om} {F He H : Hp} {p : Addr} {vs : List V} {ds : List D} {P : Bool → D → Prop} {Q : VK} (wd : Wd z.K w F He H) (hp : H p = none) (r : DRs z.K F vs ds) (q : P false (.tup ds))
    (k : ∀ b d', P b d' → ∀ v H' F' He', Wd z.K w F' He' H' → Step F He H F' He' H' → Res z.K F' He' H H' b v d' → Q v H') : Q (.ref p) (upd H p (.tup vs)) :=
  k false _ q _ _ (upd F p (.tup vs)) He ((wd.alloc hp).freeze upd_same (wd.fnone hp) (wd.henone hp)) ((Step.alloc hp).freeze (wd.fnone hp) hp)
    (.tup upd_same (r.mono (same_upd (wd.fnone hp))))
theorem res_at {w : Om} {F He H : Hp} {v : V} {d : D} {P : Bool → D → Prop} {Q : VK} (wd : Wd z.K w F He H) (r : DR z.K F v d) (q : P false d)
    (k : ∀ b d', P b d' → ∀ v H' F' He', Wd z.K w F' He' H' → Step F He H F' He' H' → Res z.K F' He' H H' b v d' → Q v H') : Q v H :=
  k false d q _ _ F He wd .refl r

def sAdd (d e : D) (P : Bool → D → Prop) : Prop := match d, e with
  | .int i, .int j => P false (.int (i + j))
  | .str x, .str y => x.length + y.length ≤ sizeLine ∧ P false (.str (x ++ y))
  | .lst xs, .lst ys => xs.length + ys.length ≤ sizeLine ∧ P true (.lst (xs ++ ys))
  | .tup xs, .tup ys => xs.length + ys.length ≤ sizeLine ∧ P false (.tup (xs ++ ys))
  | _, _ => False
def rAddD (K : PySem.W.Frag) : R2 := fun x y H Q => (∃ i j, x = .int i ∧ y = .int j ∧ Q (.int (i + j)) H) ∨ (∃ i j, x = .str i ∧ y = .str j ∧ i.length + j.length ≤ sizeLine ∧ Q (.str (i ++ j)) H) ∨ rCat x y H Q ∨ rCatA K x y H Q
theorem op_addD : OpR X (binaryOp .Add) (rAddD X.K) := op_add.or (op_add_str.or (op_cat.or op_catA))
end
end Lv

namespace Lv
open PySem PySem.Spec L2

/-! ### dicts over data -/
section
variable {κ : Type} [DecidableEq κ]
def valD (kvs : List (κ × D)) (k : κ) : Option D := (kvs.find? fun kv => decide (kv.1 = k)).map (·.2)
def putD (kvs : List (κ × D)) (k : κ) (v : D) : List (κ × D) :=
  if kvs.any fun kv => decide (kv.1 = k) then kvs.map fun kv => if kv.1 = k then (kv.1, v) else kv else kvs ++ [(k, v)]
def dropD (kvs : List (κ × D)) (k : κ) : List (κ × D) := kvs.filter fun kv => decide (kv.1 ≠ k)
end
def kD : Key → D
  | .inl i => .int i
  | .inr x => .str x
section
variable {K : PySem.W.Frag} {F : Hp}
theorem DKs.val {k : Key} : ∀ {vs : List (Key × V)} {ds : List (Key × D)}, DKs K F vs ds → (valV vs k = none ∧ valD ds k = none) ∨ ∃ v d, valV vs k = some v ∧ valD ds k = some d ∧ DR K F v d
  | _, _, .nil => .inl ⟨rfl, rfl⟩
  | _, _, .cons (k := j) (v := v) (d := d) h hs => by
    by_cases e : j = k
    · exact .inr ⟨v, d, by simp [valV, List.find?_cons, e], by simp [valD, List.find?_cons, e], h⟩
    · have := DKs.val (k := k) hs
      simpa [valV, valD, List.find?_cons, e] using this
theorem DTs.val {k : List Key} : ∀ {vs : List (List Key × V)} {ds : List (List Key × D)}, DTs K F vs ds → (valV vs k = none ∧ valD ds k = none) ∨ ∃ v d, valV vs k = some v ∧ valD ds k = some d ∧ DR K F v d
  | _, _, .nil => .inl ⟨rfl, rfl⟩
  | _, _, .cons (k := j) (v := v) (d := d) h hs => by
    by_cases e : j = k
    · exact .inr ⟨v, d, by simp [valV, List.find?_cons, e], by simp [valD, List.find?_cons, e], h⟩
    · have := DTs.val (k := k) hs
      simpa [valV, valD, List.find?_cons, e] using this
theorem DKs.app : ∀ {vs ws : List (Key × V)} {ds es : List (Key × D)}, DKs K F vs ds → DKs K F ws es → DKs K F (vs ++ ws) (ds ++ es)
  | _, _, _, _, .nil, s => s
  | _, _, _, _, .cons r t, s => .cons r (DKs.app t s)
theorem DTs.app : ∀ {vs ws : List (List Key × V)} {ds es : List (List Key × D)}, DTs K F vs ds → DTs K F ws es → DTs K F (vs ++ ws) (ds ++ es)
  | _, _, _, _, .nil, s => s
  | _, _, _, _, .cons r t, s => .cons r (DTs.app t s)
theorem DKs.any {k : Key} : ∀ {vs : List (Key × V)} {ds : List (Key × D)}, DKs K F vs ds → (vs.any fun kv => decide (kv.1 = k)) = ds.any fun kv => decide (kv.1 = k)
  | _, _, .nil => rfl
  | _, _, .cons r t => by simp [DKs.any t]
theorem DTs.any {k : List Key} : ∀ {vs : List (List Key × V)} {ds : List (List Key × D)}, DTs K F vs ds → (vs.any fun kv => decide (kv.1 = k)) = ds.any fun kv => decide (kv.1 = k)
  | _, _, .nil => rfl
  | _, _, .cons r t => by simp [DTs.any t]
theorem DKs.repl {k : Key} {x : V} {y : D} (r : DR K F x y) : ∀ {vs : List (Key × V)} {ds : List (Key × D)}, DKs K F vs ds → DKs K F (vs.map fun kv => if kv.1 = k then (kv.1, x) else kv) (ds.map fun kv => if kv.1 = k then (kv.1, y) else kv)
  | _, _, .nil => .nil
  | _, _, .cons (k := j) h t => by
    rw [List.map_cons, List.map_cons]
    by_cases e : j = k
    · simp only [e, if_true]; exact .cons r (DKs.repl r t)
    · simp only [e, if_false]; exact .cons h (DKs.repl r t)
theorem DTs.repl {k : List Key} {x : V} {y : D} (r : DR K F x y) : ∀ {vs : List (List Key × V)} {ds : List (List Key × D)}, DTs K F vs ds → DTs K F (vs.map fun kv => if kv.1 = k then (kv.1, x) else kv) (ds.map fun kv => if kv.1 = k then (kv.1, y) else kv)
  | _, _, .nil => .nil
  | _, _, .cons (k := j) h t => by
    rw [List.map_cons, List.map_cons]
    by_cases e : j = k
    · simp only [e, if_true]; exact .cons r (DTs.repl r t)
    · simp only [e, if_false]; exact .cons h (DTs.repl r t)
theorem DKs.put {k : Key} {x : V} {y : D} (r : DR K F x y) {vs : List (Key × V)} {ds : List (Key × D)} (h : DKs K F vs ds) : DKs K F (putK vs k x) (putD ds k y) := by
  unfold putK putD
  rw [h.any]
  split
  · exact h.repl r
  · exact h.app (.cons r .nil)
theorem DTs.put {k : List Key} {x : V} {y : D} (r : DR K F x y) {vs : List (List Key × V)} {ds : List (List Key × D)} (h : DTs K F vs ds) : DTs K F (putK vs k x) (putD ds k y) := by
  unfold putK putD
  rw [h.any]
  split
  · exact h.repl r
  · exact h.app (.cons r .nil)
theorem DKs.drop {k : Key} : ∀ {vs : List (Key × V)} {ds : List (Key × D)}, DKs K F vs ds → DKs K F (dropK vs k) (dropD ds k)
  | _, _, .nil => .nil
  | _, _, .cons (k := j) h t => by
    have ih := DKs.drop (k := k) t
    unfold dropK dropD at ih ⊢
    by_cases e : j = k
    · simpa [List.filter_cons, e] using ih
    · simpa [List.filter_cons, e] using DKs.cons h ih
theorem DR.key {v : V} {k : Key} (h : DR K F v (kD k)) : v = kV k := by
  cases k with
  | inl i => cases h; rfl
  | inr x => cases h; rfl
theorem DRs.keys : ∀ {ks : List Key} {vs : List V}, DRs K F vs (ks.map kD) → vs = ks.map kV
  | [], _, h => by cases h; rfl
  | k :: ks, _, h => by
    cases h with
    | cons h hs => rw [List.map_cons, h.key, DRs.keys hs]
theorem DRs.ofKeys : ∀ (ks : List Key), DRs K F (ks.map kV) (ks.map kD)
  | [] => .nil
  | .inl i :: ks => .cons (.int i) (DRs.ofKeys ks)
  | .inr x :: ks => .cons (.str x) (DRs.ofKeys ks)
end

/-! ### == over data -/
mutual
def D.py : D → PyData
  | .non => .none | .bl b => .bool b | .int i => .int i | .str x => .str x
  | .lst ds => .list (pyAll ds) | .tup ds => .tuple (pyAll ds)
  | .ref _ => .none | .ty _ => .none | .dK _ => .none | .dT _ => .none | .fK _ => .none | .fT _ => .none | .exc _ _ => .none | .cls _ => .none | .scr ns => .list (ns.map .int)
def pyAll : List D → List PyData
  | [] => []
  | d :: ds => d.py :: pyAll ds
end
mutual
/-- none of the things that == is not told of here -/
def D.pl : D → Bool
  | .non => true | .bl _ => true | .int _ => true | .str _ => true
  | .lst ds => plAll ds | .tup ds => plAll ds
  | .ref _ => false | .ty _ => false | .dK _ => false | .dT _ => false | .fK _ => false | .fT _ => false | .exc _ _ => false | .cls _ => false | .scr _ => true
def plAll : List D → Bool
  | [] => true
  | d :: ds => d.pl && plAll ds
end
section
variable {K : PySem.W.Frag} {F : Hp}
theorem dpInts (H : Hp) : ∀ ns : List Int, DpAll K H (ns.map V.int) (ns.map PyData.int)
  | [] => .nil
  | n :: ns => .cons (.int n) (dpInts H ns)
mutual
theorem DR.dp (F : Hp) : ∀ {v : V} {d : D}, DR K F v d → d.pl = true → Dp K F v d.py
  | _, _, .non, _ => by rw [D.py]; exact .non
  | _, _, .bl b, _ => by rw [D.py]; exact .bl b
  | _, _, .int i, _ => by rw [D.py]; exact .int i
  | _, _, .str x, _ => by rw [D.py]; exact .str x
  | _, _, .ref a, h => by simp [D.pl] at h
  | _, _, .ty n, h => by simp [D.pl] at h
  | _, _, .lst e hs, h => by rw [D.py]; exact .lst (.of e) (DRs.dp F hs (by simpa [D.pl] using h))
  | _, _, .tup e hs, h => by rw [D.py]; exact .tup (.of e) (DRs.dp F hs (by simpa [D.pl] using h))
  | _, _, .dK _ _, h => by simp [D.pl] at h
  | _, _, .dT _ _, h => by simp [D.pl] at h
  | _, _, .scr e, h => by rw [D.py]; exact .lst e (dpInts F _)
  | _, _, .exc0 _ _, h => by simp [D.pl] at h
  | _, _, .exc1 _ _ _ _, h => by simp [D.pl] at h
  | _, _, .cls _, h => by simp [D.pl] at h
theorem DRs.dp (F : Hp) : ∀ {vs : List V} {ds : List D}, DRs K F vs ds → plAll ds = true → DpAll K F vs (pyAll ds)
  | _, _, .nil, _ => by rw [pyAll]; exact .nil
  | _, _, .cons (d := d) (ds := ds) h hs, p => by
    have p' : d.pl = true ∧ plAll ds = true := by simpa [plAll] using p
    rw [pyAll]
    exact .cons (DR.dp F h p'.1) (DRs.dp F hs p'.2)
end
theorem DT.dp {He H : Hp} {v : V} {d : D} (h : DT K F He H v d) (s : Same F H) (p : d.pl = true) : Dp K H v d.py := by
  rcases h with h | ⟨a, o, rfl, ho, q⟩
  · exact DR.dp H (h.mono s) p
  · cases q with
    | fK _ => simp [D.pl] at p
    | fT _ => simp [D.pl] at p
    | own q =>
    cases q with
    | lst hs => rw [D.py]; exact .lst (.of ho) (DRs.dp H (hs.mono s) (by simpa [D.pl] using p))
    | dK _ => simp [D.pl] at p
    | dT _ => simp [D.pl] at p
end
mutual
theorem plain_py : ∀ d : D, d.py.plain = true
  | .non => by simp [D.py, PyData.plain]
  | .bl _ => by simp [D.py, PyData.plain]
  | .int _ => by simp [D.py, PyData.plain]
  | .str _ => by simp [D.py, PyData.plain]
  | .lst ds => by simp [D.py, PyData.plain, plain_pyAll ds]
  | .tup ds => by simp [D.py, PyData.plain, plain_pyAll ds]
  | .ref _ => by simp [D.py, PyData.plain]
  | .ty _ => by simp [D.py, PyData.plain]
  | .dK _ => by simp [D.py, PyData.plain]
  | .dT _ => by simp [D.py, PyData.plain]
  | .fK _ => by simp [D.py, PyData.plain]
  | .fT _ => by simp [D.py, PyData.plain]
  | .exc _ _ => by simp [D.py, PyData.plain]
  | .cls _ => by simp [D.py, PyData.plain]
  | .scr ns => by
    simp only [D.py, PyData.plain]
    induction ns with
    | nil => rfl
    | cons n ns ih => simp [PyData.plainAll, PyData.plain, ih]
theorem plain_pyAll : ∀ ds : List D, PyData.plainAll (pyAll ds) = true
  | [] => rfl
  | d :: ds => by simp [pyAll, PyData.plainAll, plain_py d, plain_pyAll ds]
end
/-- d == e -/
def D.eqv (d e : D) : Bool := PyData.eqv d.py e.py
def sEq (d e : D) (P : Bool → D → Prop) : Prop := (d.pl = true ∧ e.pl = true) ∧ (d.py.depth ≤ 64 ∨ e.py.depth ≤ 64) ∧ P false (.bl (d.eqv e))
def sNe (d e : D) (P : Bool → D → Prop) : Prop := (d.pl = true ∧ e.pl = true) ∧ (d.py.depth ≤ 64 ∨ e.py.depth ≤ 64) ∧ P false (.bl (!d.eqv e))
def rEqP (K : PySem.W.Frag) : R2 := fun x y H Q => ∃ d e, Dp K H x d ∧ Dp K H y e ∧ d.plain = true ∧ e.plain = true ∧ (d.depth ≤ 64 ∨ e.depth ≤ 64) ∧ Q (.bl (PyData.eqv d e)) H
def rNeP (K : PySem.W.Frag) : R2 := fun x y H Q => ∃ d e, Dp K H x d ∧ Dp K H y e ∧ d.plain = true ∧ e.plain = true ∧ (d.depth ≤ 64 ∨ e.depth ≤ 64) ∧ Q (.bl (!PyData.eqv d e)) H
theorem wp_eqPlain {prog : Program} {w : World} {A : Around} {E : Value → Shared → Prop} {s : Shared} {a b : Value} {da db : PyData} {as bs : List Addr} {Q : Value → Shared → Prop} (ra : Reads s.heap a da as) (rb : Reads s.heap b db bs) (ha : da.plain = true) (hb : db.plain = true)
    (hu : A.units + 64 < cLine) (hd : da.depth ≤ 64 ∨ db.depth ≤ 64) (h : Q (.bool (PyData.eqv da db)) s) : wpAny (model prog w) A (compareOp .Eq a b) Q E s := by
  have hm : A.units + min da.depth db.depth < cLine := by
    have h1 : min da.depth db.depth ≤ da.depth := Nat.min_le_left _ _
    have h2 : min da.depth db.depth ≤ db.depth := Nat.min_le_right _ _
    rcases hd with h | h <;> omega
  exact SeqAt.eq_plain ra rb ha hb hm h
theorem wp_nePlain {prog : Program} {w : World} {A : Around} {E : Value → Shared → Prop} {s : Shared} {a b : Value} {da db : PyData} {as bs : List Addr} {Q : Value → Shared → Prop} (ra : Reads s.heap a da as) (rb : Reads s.heap b db bs) (ha : da.plain = true) (hb : db.plain = true)
    (hu : A.units + 64 < cLine) (hd : da.depth ≤ 64 ∨ db.depth ≤ 64) (h : Q (.bool (!PyData.eqv da db)) s) : wpAny (model prog w) A (compareOp .NotEq a b) Q E s := by
  have hm : A.units + min da.depth db.depth < cLine := by
    have h1 : min da.depth db.depth ≤ da.depth := Nat.min_le_left _ _
    have h2 : min da.depth db.depth ≤ db.depth := Nat.min_le_right _ _
    rcases hd with h | h <;> omega
  exact SeqAt.ne_plain ra rb ha hb hm h
section
variable {X : Cx} {z : Ent} {pos : Pos}
theorem op_eqP (hu : X.A.units + 64 < cLine) : OpR X (compareOp .Eq) (rEqP X.K) := by
  intro pins s σ H x y v u Q I rx ry h
  obtain ⟨d, e, hd, he, sd, se, hh, q⟩ := h
  obtain ⟨as, r1⟩ := Dp.reads I d x v hd rx
  obtain ⟨bs, r2⟩ := Dp.reads I e y u he ry
  exact wp_eqPlain r1 r2 sd se hu hh ⟨.bl _, H, I, rfl, q⟩
theorem op_neP (hu : X.A.units + 64 < cLine) : OpR X (compareOp .NotEq) (rNeP X.K) := by
  intro pins s σ H x y v u Q I rx ry h
  obtain ⟨d, e, hd, he, sd, se, hh, q⟩ := h
  obtain ⟨as, r1⟩ := Dp.reads I d x v hd rx
  obtain ⟨bs, r2⟩ := Dp.reads I e y u he ry
  exact wp_nePlain r1 r2 sd se hu hh ⟨.bl _, H, I, rfl, q⟩
theorem sem_eq : Sem2 z (rEqP z.K) sEq := fun w F He H x y d e P Q wd dx dy ⟨⟨p1, p2⟩, p3, q⟩ k => ⟨d.py, e.py, dx.dp wd.sf p1, dy.dp wd.sf p2, plain_py d, plain_py e, p3, k false _ q _ H F He wd .refl (.bl _)⟩
theorem sem_ne : Sem2 z (rNeP z.K) sNe := fun w F He H x y d e P Q wd dx dy ⟨⟨p1, p2⟩, p3, q⟩ k => ⟨d.py, e.py, dx.dp wd.sf p1, dy.dp wd.sf p2, plain_py d, plain_py e, p3, k false _ q _ H F He wd .refl (.bl _)⟩
end
end Lv

namespace Lv
open PySem PySem.Spec L2
section
variable {X : Cx} {z : Ent} {pos : Pos}

/-! ### arithmetic -/
theorem dt_int {K : PySem.W.Frag} {F He H : Hp} {v : V} {i : Int} (r : DT K F He H v (.int i)) : v = .int i := r.int
theorem sem_add : Sem2 z (rAddD z.K) sAdd := fun w F He H x y d e P Q wd dx dy q k => by
  unfold sAdd at q
  split at q
  · exact .inl ⟨_, _, dx.int, dy.int, k _ _ q _ H F He wd .refl (.int _)⟩
  · exact .inr (.inl ⟨_, _, dx.str, dy.str, q.1, k _ _ q.2 _ H F He wd .refl (.str _)⟩)
  · obtain ⟨a, vs, rfl, ha, ra⟩ := dx.lst wd.sf
    obtain ⟨b, us, rfl, hb, rb⟩ := dy.lst wd.sf
    refine .inr (.inr (.inl ⟨a, b, vs, us, rfl, rfl, ha, hb, by rw [ra.length, rb.length]; exact q.1, fun p hp => res_new wd hp (.lst (ra.append rb)) q.2 k⟩))
  · obtain ⟨a, vs, rfl, ha, ra⟩ := dx.tup wd.sf
    obtain ⟨b, us, rfl, hb, rb⟩ := dy.tup wd.sf
    refine .inr (.inr (.inr ⟨a, b, vs, us, rfl, rfl, .of ha, .of hb, by rw [ra.length, rb.length]; exact q.1, fun e => ?_, fun _ e => ?_, fun _ _ p hp => res_tup wd hp (ra.append rb) q.2 k⟩))
    · subst e
      cases ra
      have q2 := q.2
      rw [List.nil_append] at q2
      exact res_at wd dy.dr_tup q2 k
    · subst e
      cases rb
      have q2 := q.2
      rw [List.append_nil] at q2
      exact res_at wd dx.dr_tup q2 k
  · exact q.elim
def sI2 (C : Int → Int → Prop) (g : Int → Int → D) (d e : D) (P : Bool → D → Prop) : Prop := match d, e with
  | .int i, .int j => C i j ∧ P false (g i j)
  | _, _ => False
theorem sem_I {C C' : Int → Int → Prop} {g : Int → Int → V} {g' : Int → Int → D} (h : ∀ i j, C' i j → C i j) (hg : ∀ F i j, DR z.K F (g i j) (g' i j)) : Sem2 z (rI C g) (sI2 C' g') := fun w F He H x y d e P Q wd dx dy q k => by
  unfold sI2 at q
  split at q
  · exact ⟨_, _, dx.int, dy.int, h _ _ q.1, k _ _ q.2 _ H F He wd .refl (hg _ _ _)⟩
  · exact q.elim
def sJ2 (g : Int → Int → D) (d e : D) (P : Bool → D → Prop) : Prop := match d, e with
  | .int i, .int j => P false (g i j)
  | _, _ => False
theorem sem_J {g : Int → Int → V} {g' : Int → Int → D} (hg : ∀ F i j, DR z.K F (g i j) (g' i j)) : Sem2 z (rI0 g) (sJ2 g') := fun w F He H x y d e P Q wd dx dy q k => by
  unfold sJ2 at q
  split at q
  · exact ⟨_, _, dx.int, dy.int, k _ _ q _ H F He wd .refl (hg _ _ _)⟩
  · exact q.elim
abbrev sSub := sJ2 fun i j => .int (i - j)
theorem sem_sub : Sem2 z (rI0 fun i j => .int (i - j)) sSub := sem_J fun _ _ _ => .int _
abbrev sFdiv := sI2 CDivW fun i j => .int (i / j)
theorem sem_fdiv : Sem2 z (rI CDivW fun i j => .int (i / j)) sFdiv := sem_I (fun _ _ h => h) fun _ _ _ => .int _
abbrev sMod := sI2 (fun _ j => 0 < j) fun i j => .int (i % j)
theorem sem_mod : Sem2 z (rI (fun _ j => 0 < j) fun i j => .int (i % j)) sMod := sem_I (fun _ _ h => h) fun _ _ _ => .int _
abbrev sPow := sI2 CPow fun i j => .int (i ^ j.toNat)
theorem sem_pow : Sem2 z (rI CPow fun i j => .int (i ^ j.toNat)) sPow := sem_I (fun _ _ h => h) fun _ _ _ => .int _
abbrev sLt0 := sJ2 fun i j => .bl (decide (i < j))
abbrev sLe := sJ2 fun i j => .bl (decide (i ≤ j))
abbrev sGt := sJ2 fun i j => .bl (decide (j < i))
abbrev sGe := sJ2 fun i j => .bl (decide (j ≤ i))
theorem sem_le : Sem2 z (rI0 fun i j => .bl (decide (i ≤ j))) sLe := sem_J fun _ _ _ => .bl _
theorem sem_gt : Sem2 z (rI0 fun i j => .bl (decide (j < i))) sGt := sem_J fun _ _ _ => .bl _
theorem sem_ge : Sem2 z (rI0 fun i j => .bl (decide (j ≤ i))) sGe := sem_J fun _ _ _ => .bl _
/-- < of numbers, of tuples of numbers -/
def toInts : List D → Option (List Int)
  | [] => some []
  | .int i :: ds => (toInts ds).map (i :: ·)
  | _ :: _ => none
theorem toInts_eq : ∀ {ds : List D} {ns : List Int}, toInts ds = some ns → ds = ns.map D.int
  | [], ns, h => by simp [toInts] at h; subst h; rfl
  | .int i :: ds, ns, h => by
    simp only [toInts, Option.map_eq_some_iff] at h
    obtain ⟨ms, h1, rfl⟩ := h
    rw [toInts_eq h1]; rfl
  | .non :: _, _, h => by simp [toInts] at h
  | .bl _ :: _, _, h => by simp [toInts] at h
  | .str _ :: _, _, h => by simp [toInts] at h
  | .ref _ :: _, _, h => by simp [toInts] at h
  | .ty _ :: _, _, h => by simp [toInts] at h
  | .lst _ :: _, _, h => by simp [toInts] at h
  | .tup _ :: _, _, h => by simp [toInts] at h
  | .dK _ :: _, _, h => by simp [toInts] at h
  | .dT _ :: _, _, h => by simp [toInts] at h
  | .scr _ :: _, _, h => by simp [toInts] at h
  | .fK _ :: _, _, h => by simp [toInts] at h
  | .fT _ :: _, _, h => by simp [toInts] at h
  | .exc _ _ :: _, _, h => by simp [toInts] at h
  | .cls _ :: _, _, h => by simp [toInts] at h
theorem toInts_map : ∀ (ns : List Int), toInts (ns.map D.int) = some ns
  | [] => rfl
  | n :: ns => by simp [toInts, toInts_map ns]
def sLt (d e : D) (P : Bool → D → Prop) : Prop := match d, e with
  | .int i, .int j => P false (.bl (decide (i < j)))
  | .tup xs, .tup ys => ∃ ns ms, toInts xs = some ns ∧ toInts ys = some ms ∧ P false (.bl (HT.lexLt ns ms))
  | _, _ => False
def rLtD (K : PySem.W.Frag) : R2 := fun x y H Q => (∃ i j, x = .int i ∧ y = .int j ∧ Q (.bl (decide (i < j))) H) ∨ rLtT K x y H Q
theorem op_ltD (hu : X.A.units < cLine) : OpR X (compareOp .Lt) (rLtD X.K) := op_lt.or (op_ltT hu)
theorem sem_lt : Sem2 z (rLtD z.K) sLt := fun w F He H x y d e P Q wd dx dy q k => by
  unfold sLt at q
  split at q
  · exact .inl ⟨_, _, dx.int, dy.int, k _ _ q _ H F He wd .refl (.bl _)⟩
  · obtain ⟨ns, ms, h1, h2, q⟩ := q
    have e1 := toInts_eq h1
    have e2 := toInts_eq h2
    subst e1 e2
    obtain ⟨a, vs, rfl, ha, ra⟩ := dx.tup wd.sf
    obtain ⟨b, us, rfl, hb, rb⟩ := dy.tup wd.sf
    have := ra.ints
    have := rb.ints
    subst vs us
    exact .inr ⟨a, b, ns, ms, rfl, rfl, .of ha, .of hb, k _ _ q _ H F He wd .refl (.bl _)⟩
  · exact q.elim
/-- a * b: numbers; a list so many times -/
def MulC (i j : Int) : Prop := CMul i j ∨ CMulW i j
theorem op_mulD : OpR X (binaryOp .Mult) (rI MulC fun i j => .int (i * j)) := opI fun _ _ _ _ _ _ _ hc q => PyProof.Rows.mul_int q (hc.elim CMul.ok CMulW.ok)
def sMul (d e : D) (P : Bool → D → Prop) : Prop := match d, e with
  | .int i, .int j => MulC i j ∧ P false (.int (i * j))
  | .lst xs, .int k => (-(2 ^ 63) ≤ k ∧ k < 2 ^ 63) ∧ xs.length * k.toNat ≤ sizeLine ∧ P true (.lst (List.replicate k.toNat xs).flatten)
  | _, _ => False
def rMulD : R2 := fun x y H Q => rI MulC (fun i j => .int (i * j)) x y H Q ∨ rRep x y H Q
theorem op_mulA : OpR X (binaryOp .Mult) rMulD := op_mulD.or op_rep
theorem sem_mul : Sem2 z rMulD sMul := fun w F He H x y d e P Q wd dx dy q k => by
  unfold sMul at q
  split at q
  · exact .inl ⟨_, _, dx.int, dy.int, q.1, k _ _ q.2 _ H F He wd .refl (.int _)⟩
  · obtain ⟨a, vs, rfl, ha, ra⟩ := dx.lst wd.sf
    exact .inr ⟨a, _, vs, rfl, dy.int, ha, q.1.1, q.1.2, by rw [ra.length]; exact q.2.1, fun p hp => res_new wd hp (.lst (ra.rep _)) q.2.2 k⟩
  · exact q.elim
end
section
variable {X : Cx} {z : Ent} {pos : Pos}
/-! ### operations of one operand -/
def Sem1 (z : Ent) (r : V → Hp → VK → Prop) (sem : D → (Bool → D → Prop) → Prop) : Prop := ∀ (w : Om) (F He H : Hp) (x : V) (d : D) (P : Bool → D → Prop) (Q : VK), Wd z.K w F He H → DT z.K F He H x d → sem d P →
  (∀ b d', P b d' → ∀ v H' F' He', Wd z.K w F' He' H' → Step F He H F' He' H' → Res z.K F' He' H H' b v d' → Q v H') → r x H Q
def dUn  (sem : D → (Bool → D → Prop) → Prop) (ta : DO) : DX := fun δ w Q => ta δ w fun d w1 => sem (res w1 d) fun b d' => Q b d' w1
theorem un1 {r : V → Hp → VK → Prop} {sem : D → (Bool → D → Prop) → Prop} (hs : Sem1 z r sem) {ta : DO} {σ : St} {H : Hp} {Q : VK} (h : liftX z (dUn sem ta) σ H Q) : liftO z ta σ H (fun x H1 => r x H1 Q) := by
  obtain ⟨δ, w, F, He, P, R, q, k⟩ := h
  refine ⟨δ, w, F, He, _, R, q, fun d w1 q1 x H1 F1 He1 wd1 st1 r1 => ?_⟩
  exact hs w1 F1 He1 H1 x _ _ Q wd1 (res_ok wd1.ex wd1.sh r1) q1 fun b d' p v H' F' He' wd st rr => k b d' w1 p v H' F' He' wd (st1.trans st) (rr.base st1)
theorem jx_un {op : UnaryOp} {r : V → Hp → VK → Prop} {sem : D → (Bool → D → Prop) → Prop} {a : Expr} {ta : DO} (ho : UnR X (unaryOp op) r) (hs : Sem1 z r sem) (ha : JO X z a ta) : JX X z (.UnaryOp op a pos) (dUn sem ta) :=
  PE.imp (pe_un ho ha) fun _ _ _ h => un1 hs h
def sNeg (d : D) (P : Bool → D → Prop) : Prop := match d with
  | .int i => P false (.int (-i))
  | _ => False
theorem sem_neg : Sem1 z (rU fun i => .int (-i)) sNeg := fun w F He H x d P Q wd dx q k => by
  unfold sNeg at q
  split at q
  · exact ⟨_, dx.int, k _ _ q _ H F He wd .refl (.int _)⟩
  · exact q.elim
/-- f(e) of a built-in -/
theorem jx_b1 {id : String} {r : List V → Hp → VK → Prop} {sem : D → (Bool → D → Prop) → Prop} {a : Expr} {ta : DO} {x : Str} {p : Pos} (hc : CallR X (.builtin id) r) (hs : Sem1 z (fun x H Q => r [x] H Q) sem) (hg : Gl X x) (hm : X.mg x = none) (hv : bootBuiltins x = some (.builtin id)) (ha : JO X z a ta)
    (hn : x ≠ "__name__" := by decide) (hdb : (x == ("__debug__" : Str)) = false := by decide)
    (he : starEach [a] X.env = (false, eval a X.env) :: starEach [] X.env := by rfl) (hpl : (backTo pos (starEach [] X.env)).any (·.1) = false := by rfl) : JX X z (.Call (.Name x p) [a] [] pos) (dUn sem ta) :=
  PE.imp (pe_callB hc hg hm hv (pa_cons ha pa_nil he) hn hdb he hpl) fun _ _ _ h => un1 hs h
/-- T(e) of a built-in class -/
theorem jx_t1 {id : String} {r : List V → Hp → VK → Prop} {sem : D → (Bool → D → Prop) → Prop} {a : Expr} {ta : DO} {x : Str} {p : Pos} (hc : CallR X (.type id) r) (hs : Sem1 z (fun x H Q => r [x] H Q) sem) (hg : Gl X x) (hm : X.mg x = none) (hv : bootBuiltins x = some (.type id)) (ha : JO X z a ta)
    (hn : x ≠ "__name__" := by decide) (hdb : (x == ("__debug__" : Str)) = false := by decide)
    (he : starEach [a] X.env = (false, eval a X.env) :: starEach [] X.env := by rfl) (hpl : (backTo pos (starEach [] X.env)).any (·.1) = false := by rfl) : JX X z (.Call (.Name x p) [a] [] pos) (dUn sem ta) :=
  PE.imp (pe_callTy hc hg hm hv (pa_cons ha pa_nil he) hn hdb he hpl) fun _ _ _ h => un1 hs h
/-- f(e, g) of a built-in -/
theorem jx_b2 {id : String} {r : List V → Hp → VK → Prop} {sem : D → D → (Bool → D → Prop) → Prop} {a b : Expr} {ta tb : DO} {x : Str} {p : Pos} (hc : CallR X (.builtin id) r) (hs : Sem2 z (fun x y H Q => r [x, y] H Q) sem) (hg : Gl X x) (hm : X.mg x = none) (hv : bootBuiltins x = some (.builtin id)) (ha : JO X z a ta) (hb : JO X z b tb)
    (hn : x ≠ "__name__" := by decide) (hdb : (x == ("__debug__" : Str)) = false := by decide)
    (he : starEach [a, b] X.env = (false, eval a X.env) :: starEach [b] X.env := by rfl) (he2 : starEach [b] X.env = (false, eval b X.env) :: starEach [] X.env := by rfl) (hpl : (backTo pos (starEach [b] X.env)).any (·.1) = false := by rfl) : JX X z (.Call (.Name x p) [a, b] [] pos) (dBin sem ta tb) :=
  PE.imp (pe_callB hc hg hm hv (pa_cons ha (pa_cons hb pa_nil he2) he) hn hdb he hpl) fun _ _ _ h => bin2 hs h
def sLen (d : D) (P : Bool → D → Prop) : Prop := match d with
  | .lst ds => P false (.int ds.length)
  | .tup ds => P false (.int ds.length)
  | .scr ds => P false (.int ds.length)
  | .str x => x.length ≤ sizeLine ∧ P false (.int x.length)
  | .dK ds => P false (.int ds.length)
  | _ => False
def rLenD (K : PySem.W.Frag) : List V → Hp → VK → Prop := fun xs H Q => (∃ x n, xs = [x] ∧ LenV K x H n ∧ Q (.int n) H) ∨ ∃ a kvs, xs = [V.ref a] ∧ H a = some (.dK kvs) ∧ Q (.int kvs.length) H
theorem call_lenA : CallR X (.builtin "len") (rLenD X.K) := call_len.or call_lenD
theorem sem_len : Sem1 z (fun x H Q => rLenD z.K [x] H Q) sLen := fun w F He H x d P Q wd dx q k => by
  unfold sLen at q
  split at q
  · obtain ⟨a, vs, rfl, ha, ra⟩ := dx.lst wd.sf
    exact .inl ⟨_, _, rfl, .inl ⟨_, .of ha, rfl⟩, by rw [ra.length]; exact res_at wd (.int _) q k⟩
  · obtain ⟨a, vs, rfl, ha, ra⟩ := dx.tup wd.sf
    exact .inl ⟨_, _, rfl, .inr ⟨_, .of ha, rfl⟩, by rw [ra.length]; exact res_at wd (.int _) q k⟩
  · obtain ⟨a, rfl, ha⟩ := dx.scr wd.sf
    exact .inl ⟨_, _, rfl, .inl ⟨_, ha, rfl⟩, by rw [List.length_map]; exact res_at wd (.int _) q k⟩
  · have := dx.str
    subst x
    exact .inl ⟨_, _, rfl, ⟨q.1, rfl⟩, k _ _ q.2 _ H F He wd .refl (.int _)⟩
  · obtain ⟨a, vs, rfl, ha, ra⟩ := dx.dK wd.sf
    exact .inr ⟨a, vs, rfl, ha, by rw [ra.length]; exact res_at wd (.int _) q k⟩
  · exact q.elim
def sAbs (d : D) (P : Bool → D → Prop) : Prop := match d with
  | .int i => P false (.int (if i < 0 then -i else i))
  | _ => False
theorem sem_abs : Sem1 z (fun x H Q => ∃ i, [x] = [V.int i] ∧ Q (.int (if i < 0 then -i else i)) H) sAbs := fun w F He H x d P Q wd dx q k => by
  unfold sAbs at q
  split at q
  · have := dx.int
    subst x
    exact ⟨_, rfl, k _ _ q _ H F He wd .refl (.int _)⟩
  · exact q.elim
abbrev sMax := sJ2 fun i j => .int (if j > i then j else i)
abbrev sMin := sJ2 fun i j => .int (if j < i then j else i)
theorem sem_max : Sem2 z (fun x y H Q => ∃ i j, [x, y] = [V.int i, V.int j] ∧ Q (.int (if j > i then j else i)) H) sMax := fun w F He H x y d e P Q wd dx dy q k => by
  unfold sMax sJ2 at q
  split at q
  · have := dx.int
    have := dy.int
    subst x y
    exact ⟨_, _, rfl, k _ _ q _ H F He wd .refl (.int _)⟩
  · exact q.elim
theorem sem_min : Sem2 z (fun x y H Q => ∃ i j, [x, y] = [V.int i, V.int j] ∧ Q (.int (if j < i then j else i)) H) sMin := fun w F He H x y d e P Q wd dx dy q k => by
  unfold sMin sJ2 at q
  split at q
  · have := dx.int
    have := dy.int
    subst x y
    exact ⟨_, _, rfl, k _ _ q _ H F He wd .refl (.int _)⟩
  · exact q.elim
/-- int(n), int(flag) -/
def sInt (d : D) (P : Bool → D → Prop) : Prop := match d with
  | .int i => P false (.int i)
  | .bl k => P false (.int (if k then 1 else 0))
  | .str x => ∃ n, PySem.intText? x = some n ∧ x.length ≤ 640 ∧ P false (.int n)
  | _ => False
def rIntD : List V → Hp → VK → Prop := fun xs H Q => ((∃ i, xs = [.int i] ∧ Q (.int i) H) ∨ ∃ k, xs = [.bl k] ∧ Q (.int (if k then 1 else 0)) H) ∨ ∃ a n, xs = [.str a] ∧ PySem.intText? a = some n ∧ a.length ≤ 640 ∧ Q (.int n) H
theorem call_intD : CallR X (.type "int") rIntD := call_int1.or call_int_str
theorem sem_int : Sem1 z (fun x H Q => rIntD [x] H Q) sInt := fun w F He H x d P Q wd dx q k => by
  unfold sInt at q
  split at q
  · have := dx.int; subst x
    exact .inl (.inl ⟨_, rfl, k _ _ q _ H F He wd .refl (.int _)⟩)
  · have := dx.bl; subst x
    exact .inl (.inr ⟨_, rfl, k _ _ q _ H F He wd .refl (.int _)⟩)
  · have := dx.str; subst x
    obtain ⟨n, h1, h2, q⟩ := q
    exact .inr ⟨_, n, rfl, h1, h2, k _ _ q _ H F He wd .refl (.int _)⟩
  · exact q.elim
/-- str(n) -/
def sStr (d : D) (P : Bool → D → Prop) : Prop := match d with
  | .int i => i.natAbs.log2 < 1920 ∧ P false (.str (toString i))
  | _ => False
theorem sem_str : Sem1 z (fun x H Q => ∃ i, [x] = [V.int i] ∧ i.natAbs.log2 < 1920 ∧ Q (.str (toString i)) H) sStr := fun w F He H x d P Q wd dx q k => by
  unfold sStr at q
  split at q
  · have := dx.int; subst x
    exact ⟨_, rfl, q.1, k _ _ q.2 _ H F He wd .refl (.str _)⟩
  · exact q.elim
/-- list(x), tuple(x) -/
def sList (d : D) (P : Bool → D → Prop) : Prop := match d with
  | .lst ds => P true (.lst ds)
  | .tup ds => P true (.lst ds)
  | .scr ns => P true (.lst (ns.map .int))
  | _ => False
theorem sem_list : Sem1 z (fun x H Q => ∃ p ys, [x] = [V.ref p] ∧ (SqL z.K H p ys ∨ SqT z.K H p ys) ∧ ∀ l, H l = none → Q (.ref l) (upd H l (.lst ys))) sList := fun w F He H x d P Q wd dx q k => by
  unfold sList at q
  split at q
  · obtain ⟨a, vs, rfl, ha, ra⟩ := dx.lst wd.sf
    exact ⟨a, vs, rfl, .inl (.of ha), fun p hp => res_new wd hp (.lst ra) q k⟩
  · obtain ⟨a, vs, rfl, ha, ra⟩ := dx.tup wd.sf
    exact ⟨a, vs, rfl, .inr (.of ha), fun p hp => res_new wd hp (.lst ra) q k⟩
  · obtain ⟨a, rfl, ha⟩ := dx.scr wd.sf
    exact ⟨a, _, rfl, .inl ha, fun p hp => res_new wd hp (.lst (DRs.ofInts _)) q k⟩
  · exact q.elim
def sTuple (d : D) (P : Bool → D → Prop) : Prop := match d with
  | .lst ds => P false (.tup ds)
  | .tup ds => P false (.tup ds)
  | .scr ns => P false (.tup (ns.map .int))
  | _ => False
theorem sem_tuple : Sem1 z (fun x H Q => ∃ p ys, [x] = [V.ref p] ∧ ((SqL z.K H p ys ∧ ∀ l, H l = none → Q (.ref l) (upd H l (.tup ys))) ∨ (SqT z.K H p ys ∧ Q (.ref p) H))) sTuple := fun w F He H x d P Q wd dx q k => by
  unfold sTuple at q
  split at q
  · obtain ⟨a, vs, rfl, ha, ra⟩ := dx.lst wd.sf
    exact ⟨a, vs, rfl, .inl ⟨.of ha, fun p hp => res_tup wd hp ra q k⟩⟩
  · obtain ⟨a, vs, e, ha, ra⟩ := dx.tup wd.sf
    refine ⟨a, vs, by rw [e], .inr ⟨.of ha, ?_⟩⟩
    rw [← e]; exact res_at wd dx.dr_tup q k
  · obtain ⟨a, rfl, ha⟩ := dx.scr wd.sf
    exact ⟨a, _, rfl, .inl ⟨ha, fun p hp => res_tup wd hp (DRs.ofInts _) q k⟩⟩
  · exact q.elim
/-- isinstance(x, T) for a built-in T -/
def tyD : D → Option String
  | .non => some "NoneType" | .bl _ => some "bool" | .int _ => some "int" | .str _ => some "str" | .lst _ => some "list" | .tup _ => some "tuple" | .dK _ => some "dict" | .dT _ => some "dict"
  | _ => none
def sIsi (d e : D) (P : Bool → D → Prop) : Prop := match e with
  | .ty n => ∃ t b, tyD d = some t ∧ kitB t n = some b ∧ P false (.bl b)
  | _ => False
theorem DT.ty {K : PySem.W.Frag} {F He H : Hp} {v : V} {n : String} (r : DT K F He H v (.ty n)) : v = .ty n := by
  cases r.plain fun o q => by cases q with | own q => cases q
  rfl
theorem tyx_of {K : PySem.W.Frag} {F He H : Hp} {v : V} {d : D} {t : String} (r : DT K F He H v d) (s : Same F H) (e : tyD d = some t) : TyX K H v (.type t) := by
  cases d with
  | non => cases r.non; cases e; exact .base .non
  | bl b => cases r.bl; cases e; exact .base (.bl b)
  | int i => cases r.int; cases e; exact .base (.int i)
  | str x => cases r.str; cases e; exact .base (.str x)
  | lst ds => obtain ⟨a, vs, rfl, ha, _⟩ := r.lst s; cases e; exact .base (.lst ha)
  | tup ds => obtain ⟨a, vs, rfl, ha, _⟩ := r.tup s; cases e; exact .base (.tup ha)
  | dK ds => obtain ⟨a, vs, rfl, ha, _⟩ := r.dK s; cases e; exact .base (.dK ha)
  | dT ds => obtain ⟨a, vs, rfl, ha, _⟩ := r.dT s; cases e; exact .base (.dT ha)
  | ref a => cases e
  | ty n => cases e
  | scr ns => cases e
  | fK ds => cases e
  | fT ds => cases e
  | exc cn fs => cases e
  | cls cn => cases e
theorem sem_isi : Sem2 z (fun x y H Q => rIsi z.K [x, y] H Q) sIsi := fun w F He H x y d e P Q wd dx dy q k => by
  unfold sIsi at q
  split at q
  · obtain ⟨t, b, h1, h2, q⟩ := q
    have := dy.ty; subst y
    exact ⟨x, _, _, _, b, rfl, .ty _, tyx_of dx wd.sf h1, kit_ty h2, k _ _ q _ H F He wd .refl (.bl _)⟩
  · exact q.elim
theorem jx_ty {x : Str} {n : String} (hg : Gl X x) (hm : X.mg x = none) (hv : bootBuiltins x = some (.type n)) (hn : x ≠ "__name__" := by decide) (hd : (x == ("__debug__" : Str)) = false := by decide) : JX X z (.Name x pos) (dC (.ty n)) :=
  jx_c (pe_bltn hg hm hv (show RelV (.ty n) (.type n) from rfl) hn hd) fun _ => .ty n
/-- a constant of the module -/
theorem jx_glob {x : Str} {v : V} {d : D} {u : Value} (hg : Gl X x) (hm : X.mg x = some u) (r : RelV v u) (rd : ∀ F, DR z.K F v d) (hd : (x == ("__debug__" : Str)) = false := by decide) : JX X z (.Name x pos) (dC d) := jx_c (pe_glob hg hm r hd) rd

/-! ### is None -/
def D.isNon : D → Bool
  | .non => true
  | _ => false
theorem isNon_of {K : PySem.W.Frag} {F He H : Hp} {v : V} {d : D} (r : DT K F He H v d) : decide (v = .non) = d.isNon := by
  cases d with
  | non => cases r.non; rfl
  | _ => rcases r with r | ⟨a, o, rfl, ho, q⟩ <;> (first | (cases r; done) | (cases r <;> rfl) | rfl)
def sIsN (d e : D) (P : Bool → D → Prop) : Prop := match e with
  | .non => P false (.bl d.isNon)
  | _ => False
def sNotN (d e : D) (P : Bool → D → Prop) : Prop := match e with
  | .non => P false (.bl (!d.isNon))
  | _ => False
theorem sem_isN : Sem2 z (fun x y H Q => y = .non ∧ Q (.bl (decide (x = .non))) H) sIsN := fun w F He H x y d e P Q wd dx dy q k => by
  unfold sIsN at q
  split at q
  · exact ⟨dy.non, by rw [isNon_of dx]; exact k _ _ q _ H F He wd .refl (.bl _)⟩
  · exact q.elim
theorem sem_notN : Sem2 z (fun x y H Q => y = .non ∧ Q (.bl (!decide (x = .non))) H) sNotN := fun w F He H x y d e P Q wd dx dy q k => by
  unfold sNotN at q
  split at q
  · exact ⟨dy.non, by rw [isNon_of dx]; exact k _ _ q _ H F He wd .refl (.bl _)⟩
  · exact q.elim

/-! ### subscripts -/
theorem ix_dct (hu : X.A.units + 1 < cLine) : IxR X (fun x y H Q => ∃ a v, x = .ref a ∧ DGet H a y (some v) ∧ Q v H) := by
  intro value slice pins s σ H x y v u Q I rx ry h hs
  obtain ⟨a, z, rfl, g, q⟩ := h
  cases rx
  exact PyProof.Rows.tail_any (dict_typeIs I g) PySem.F.slot_dict_getitem.lookup (d_getItem hu I g ry fun w' s3 I3 rw' => ⟨z, H, I3, rw', q⟩) hs
def rIxA (K : PySem.W.Frag) : R2 := fun x y H Q => rIx K x y H Q ∨ ∃ a v, x = .ref a ∧ DGet H a y (some v) ∧ Q v H
theorem ix_all (hu : X.A.units + 1 < cLine) : IxR X (rIxA X.K) := ix_seq.or (ix_dct hu)
def sIx (d e : D) (P : Bool → D → Prop) : Prop := match d, e with
  | .lst ds, .int i => ∃ x, atI ds i = some x ∧ P false x
  | .tup ds, .int i => ∃ x, atI ds i = some x ∧ P false x
  | .scr ns, .int i => ∃ x, atI ns i = some x ∧ P false (.int x)
  | .str x, .int i => x.length ≤ sizeLine ∧ ∃ c, atI x.cps.toList i = some c ∧ P false (.str ⟨#[c]⟩)
  | .dK kvs, .int i => ∃ x, valD kvs (.inl i) = some x ∧ P false x
  | .dK kvs, .str i => ∃ x, valD kvs (.inr i) = some x ∧ P false x
  | .dT kvs, .tup ds => ∃ ks x, ds = ks.map kD ∧ valD kvs ks = some x ∧ P false x
  | .fK kvs, .int i => ∃ x, valD kvs (.inl i) = some x ∧ P false x
  | .fT kvs, .tup ds => ∃ ks x, ds = ks.map kD ∧ valD kvs ks = some x ∧ P false x
  | _, _ => False
theorem atI_rel {K : PySem.W.Frag} {F : Hp} {vs : List V} {ds : List D} {i : Int} {x : D} (r : DRs K F vs ds) (e : atI ds i = some x) : ∃ v, atI vs i = some v ∧ DR K F v x := by
  unfold atI at e ⊢
  rw [r.length]
  cases h : ixN ds.length i with
  | none => rw [h] at e; cases e
  | some j =>
    rw [h] at e
    exact r.get e
theorem atI_map {α β : Type} (f : α → β) (xs : List α) (i : Int) : atI (xs.map f) i = (atI xs i).map f := by
  unfold atI
  rw [List.length_map]
  cases ixN xs.length i with
  | none => rfl
  | some j => simp
theorem sem_ix : Sem2 z (rIxA z.K) sIx := fun w F He H x y d e P Q wd dx dy q k => by
  unfold sIx at q
  split at q
  · obtain ⟨c, h, q⟩ := q
    obtain ⟨a, vs, rfl, ha, ra⟩ := dx.lst wd.sf
    obtain ⟨v, hv, rv⟩ := atI_rel ra h
    exact .inl (.inl ⟨a, vs, _, v, rfl, dy.int, .of ha, hv, res_at wd rv q k⟩)
  · obtain ⟨c, h, q⟩ := q
    obtain ⟨a, vs, rfl, ha, ra⟩ := dx.tup wd.sf
    obtain ⟨v, hv, rv⟩ := atI_rel ra h
    exact .inl (.inr (.inl ⟨a, vs, _, v, rfl, dy.int, .of ha, hv, res_at wd rv q k⟩))
  · obtain ⟨c, h, q⟩ := q
    obtain ⟨a, rfl, ha⟩ := dx.scr wd.sf
    exact .inl (.inl ⟨a, _, _, .int c, rfl, dy.int, ha, by rw [atI_map, h]; rfl, res_at wd (.int c) q k⟩)
  · obtain ⟨h1, c, h, q⟩ := q
    exact .inl (.inr (.inr ⟨_, _, c, dx.str, dy.int, h1, h, res_at wd (.str _) q k⟩))
  · obtain ⟨c, h, q⟩ := q
    obtain ⟨a, vs, rfl, ha, ra⟩ := dx.dK wd.sf
    have := dy.int; subst y
    rcases ra.val (k := .inl _) with ⟨_, h2⟩ | ⟨v, c', h1, h2, rv⟩
    · rw [h] at h2; cases h2
    · rw [h] at h2; cases h2
      exact .inr ⟨a, v, rfl, by rw [← h1]; exact DGet.k (k := .inl _) ha, res_at wd rv q k⟩
  · obtain ⟨c, h, q⟩ := q
    obtain ⟨a, vs, rfl, ha, ra⟩ := dx.dK wd.sf
    have := dy.str; subst y
    rcases ra.val (k := .inr _) with ⟨_, h2⟩ | ⟨v, c', h1, h2, rv⟩
    · rw [h] at h2; cases h2
    · rw [h] at h2; cases h2
      exact .inr ⟨a, v, rfl, by rw [← h1]; exact DGet.k (k := .inr _) ha, res_at wd rv q k⟩
  · obtain ⟨ks, c, rfl, h, q⟩ := q
    obtain ⟨a, vs, rfl, ha, ra⟩ := dx.dT wd.sf
    obtain ⟨b, us, rfl, hb, rb⟩ := dy.tup wd.sf
    have := rb.keys; subst us
    rcases ra.val (k := ks) with ⟨_, h2⟩ | ⟨v, c', h1, h2, rv⟩
    · rw [h] at h2; cases h2
    · rw [h] at h2; cases h2
      exact .inr ⟨a, v, rfl, by rw [← h1]; exact DGet.t ha hb, res_at wd rv q k⟩
  · obtain ⟨c, h, q⟩ := q
    obtain ⟨a, ob, vs, rfl, ha, ra⟩ := dx.fK
    have := dy.int; subst y
    rcases ra.val (k := .inl _) with ⟨_, h2⟩ | ⟨v, c', h1, h2, rv⟩
    · rw [h] at h2; cases h2
    · rw [h] at h2; cases h2
      exact .inr ⟨a, v, rfl, by rw [← h1]; exact .inl ⟨_, .inl _, .inr ⟨_, ha⟩, rfl, rfl⟩, res_at wd rv q k⟩
  · obtain ⟨ks, c, rfl, h, q⟩ := q
    obtain ⟨a, ob, vs, rfl, ha, ra⟩ := dx.fT
    obtain ⟨b, us, rfl, hb, rb⟩ := dy.tup wd.sf
    have := rb.keys; subst us
    rcases ra.val (k := ks) with ⟨_, h2⟩ | ⟨v, c', h1, h2, rv⟩
    · rw [h] at h2; cases h2
    · rw [h] at h2; cases h2
      exact .inr ⟨a, v, rfl, by rw [← h1]; exact .inr ⟨_, ks, b, .inr ⟨_, ha⟩, rfl, hb, rfl⟩, res_at wd rv q k⟩
  · exact q.elim
theorem jx_ix {a b : Expr} {ta tb : DO} (hK : z.K = X.K) (hu : X.A.units + 1 < cLine) (ha : JO X z a ta) (hb : JO X z b tb) (hs : PlainIx b := by exact fun _ _ => rfl) : JX X z (.Subscript a b pos) (dBin sIx ta tb) :=
  PE.imp (pe_ix (ix_all hu) ha hb hs) fun _ _ _ h => bin2 (by rw [← hK]; exact sem_ix) h
end
end Lv

/-! ### t[::-1] of a tuple -/
namespace HT
open PySem PySem.Spec PyProof.Rows PySem.Calls
section
variable {prog : Program} {w : World} {A : Around} {E : Value → Shared → Prop} {s : Shared}
theorem pick_back (xs : Array Value) : ((List.range xs.size).filterMap fun (m : Nat) => xs[(((xs.size : Int) - 1) + (m : Int) * (-1)).toNat]?).toArray = xs.toList.reverse.toArray := by
  have e : (List.range xs.size).filterMap (fun (m : Nat) => xs[(((xs.size : Int) - 1) + (m : Int) * (-1)).toNat]?) = ((List.range xs.size).map fun k => xs.size - 1 - k).filterMap (xs[·]?) := by
    rw [List.filterMap_map]
    have e : ∀ m : Nat, (((xs.size : Int) - 1) + (m : Int) * (-1)).toNat = xs.size - 1 - m := fun m => by omega
    have e2 : (fun (m : Nat) => xs[(((xs.size : Int) - 1) + (m : Int) * (-1)).toNat]?) = ((xs[·]?) ∘ fun k => xs.size - 1 - k) := by
      funext m
      rw [e m]
      rfl
    rw [e2]
  rw [e, PySem.W.krv_range, List.filterMap_reverse, PySem.W.krv_all]
theorem places_back (n : Nat) : Builtin.Slice.slicePlaces ((n : Int) - 1) (-1) (-1) = n := by
  unfold Builtin.Slice.slicePlaces
  have h1 : ¬ ((-1 : Int) > 0) := by omega
  simp only [h1, if_false, show (- -1 : Int) = 1 by decide, Int.ediv_one]
  split <;> omega
theorem sliceApplied_back {sl : Addr} {vl vu vs : Value} {n : Nat} {Q : Int × Int × Nat → Shared → Prop} (hs : s.heap.IsSliceOf sl vl vu vs) (pl : IsPart vl none) (pu : IsPart vu none) (ps : IsPart vs (some (-1)))
    (h : Q ((n : Int) - 1, -1, n) s) : wpAny (model prog w) A (Builtin.Slice.sliceApplied (.ref sl) (pure (n : Int))) Q E s := by
  obtain ⟨os, hos, hcs, hds⟩ := id hs
  unfold Builtin.Slice.sliceApplied Builtin.Slice.sliceFields
  refine wpAny_bind (wpAny_bind (wpAny_field hos hds (x := vl) rfl (wpAny_bind (wpAny_field hos hds (x := vu) rfl (wpAny_bind (wpAny_field hos hds (x := vs) rfl (wpAny_pure ?_)))))))
  refine wpAny_bind (slicePart_ ps ?_)
  show wpAny _ _ (if ((-1 : Int) == 0) = true then _ else _) _ _ s
  rw [if_neg (by decide)]
  refine wpAny_bind (slicePart_ pl (wpAny_bind (slicePart_ pu (wpAny_bind (wpAny_pure ?_)))))
  show wpAny _ _ (pure ((n : Int) - 1, (-1 : Int), Builtin.Slice.slicePlaces ((n : Int) - 1) (-1) (-1))) _ _ s
  rw [places_back]
  exact wpAny_pure h
theorem getItem_tuple_back {t sl : Addr} {items : Array Value} {vl vu vs : Value} {Q : Value → Shared → Prop} (ht : IsTup s.heap t items) (hs : s.heap.IsSliceOf sl vl vu vs) (pl : IsPart vl none) (pu : IsPart vu none) (ps : IsPart vs (some (-1)))
    (h : Q (.ref s.heap.objs.size) { s with heap := s.heap.push { cls := .type "tuple", data := .seq items.toList.reverse.toArray } })
    (hsz : items.size ≤ sizeLine) : wpAny (model prog w) A (getItem (.ref t) (.ref sl)) Q E s := by
  have htake : sizeOk (.seq items.toList.reverse.toArray) := by
    show items.toList.reverse.toArray.size ≤ sizeLine
    rw [List.size_toArray, List.length_reverse, Array.length_toList]
    exact hsz
  obtain ⟨os, hos, hcs, hds⟩ := id hs
  have hTs : s.TypeIs (.ref sl) "slice" := ⟨os, hos, hcs⟩
  unfold getItem
  try with_reducible refine wpAny_holding ?_
  first | refine wpAny_bind (wpAny_pure ?_) | skip
  refine wpAny_bind (wpAny_sequenceKey ht.typeIs (by decide) ?_)
  refine wpAny_bind (wpAny_callSpecial?_slot (name := Str.ofString "__getitem__") ht.typeIs PyProof.Rows.slot_tuple_getitem
    (wpAny_call_entry PyProof.Rows.slot_tuple_getitem ht.typeIs entry_tuple_getitem ?_ (args_tuple_getitem _ _)))
  show wpAny _ _ (Builtin.Tuple.tupleItemsOf (.ref t) >>= _) _ _ s
  refine wpAny_bind (tupleItemsOf_ ht ?_)
  refine wpAny_bind (wpAny_typeOf hTs ?_)
  rw [if_pos (by decide)]
  refine wpAny_bind (sliceApplied_back hs pl pu ps ?_)
  have hno : ¬ ((((items.size : Int) - 1) == 0 && (-1 : Int) == 1 && items.size == items.size) = true) := by
    intro q
    rw [Bool.and_eq_true, Bool.and_eq_true] at q
    exact absurd q.1.2 (by decide)
  show wpAny _ _ (if (((items.size : Int) - 1) == 0 && (-1 : Int) == 1 && items.size == items.size) = true then _ else _) _ _ s
  rw [if_neg hno, pick_back]
  first
    | exact wpAny_bind (m := Builtin.Tuple.tupleExact _) (wpAny_newObj_type (wpAny_pure ⟨_, rfl, wpAny_pure h⟩) htake)
    | exact wpAny_bind (m := Builtin.Tuple.tupleExact _) (wpAny_newObj_type (wpAny_bind (wpAny_pure (wpAny_pure ⟨_, rfl, wpAny_pure h⟩))) htake)
    | exact wpAny_bind (wpAny_bind (m := Builtin.Tuple.tupleExact _) (wpAny_newObj_type (wpAny_pure (wpAny_pure ⟨_, rfl, wpAny_pure h⟩)) htake))
    | exact wpAny_bind (wpAny_bind (m := Builtin.Tuple.tupleExact _) (wpAny_newObj_type (wpAny_pure ⟨_, rfl, wpAny_pure h⟩) htake))
end
end HT
namespace Lv
open PySem PySem.Spec L2
section
variable {X : Cx} {z : Ent} {pos : Pos}
open PyProof.Rows in
/-- x[::-1] of a list or a tuple -/
def tRev (K : PySem.W.Frag) (te : TE) : TE := fun σ H Q => te σ H fun x H1 => ∃ a xs, x = .ref a ∧ ((SqL K H1 a xs ∧ ∀ p, H1 p = none → Q (.ref p) (upd H1 p (.lst xs.reverse))) ∨ (SqT K H1 a xs ∧ ∀ p, H1 p = none → Q (.ref p) (upd H1 p (.tup xs.reverse))))
open PyProof.Rows in
theorem pe_rev {e : Expr} {te : TE} {k : Nat} {p1 p2 p3 pos : Pos} (he : PE X e te) : PE X (.Subscript e (.Slice none none (some (.UnaryOp .USub (.Constant (.int 1) k p1) p2)) p3) pos) (tRev X.K te) := by
  refine ⟨fun pins s σ H Q I h => ?_⟩
  refine PyProof.Rows.Subscript_ (thn (he.run pins s σ H _ I h) fun v s1 ⟨x, H1, I1, r1, q1⟩ => ?_)
  obtain ⟨a, xs, ex, hx⟩ := q1
  subst ex
  cases r1
  have hst : PO X (some (.UnaryOp .USub (.Constant (.int 1) k p1) p2)) (tPart (tUn (rU fun i => .int (-i)) (tC (.int 1)))) := po_some (pe_un un_neg pe_int)
  refine wpAny_Slice (thn (po_none.run pins s1 σ H1 (fun o H2 => o = none ∧ H2 = H1) I1 ⟨rfl, rfl⟩) fun vl s2 ⟨l, H2, I2, pl, el, e2⟩ => ?_)
  subst el e2
  refine thn (po_none.run pins s2 σ H2 (fun o H3 => o = none ∧ H3 = H2) I2 ⟨rfl, rfl⟩) fun vu s3 ⟨u, H3, I3, pu, eu, e3⟩ => ?_
  subst eu e3
  refine thn (hst.run pins s3 σ H3 (fun o H4 => o = some (-1) ∧ H4 = H3) I3 ⟨1, rfl, -1, rfl, rfl, rfl⟩) fun vs s4 ⟨o, H4, I4, ps, eo, e4⟩ => ?_
  subst eo e4
  have I5 : Inv X pins σ H4 { s4 with heap := s4.heap.push { cls := .type "slice", data := .fields #[vl, vu, vs] } } := I4.kept (t' := s4.toks) fun b ob q => Heap.get?_push_of_some _ q
  show wpAny (model X.prog X.w) X.A (subscriptTail e (.Slice none none (some (.UnaryOp .USub (.Constant (.int 1) k p1) p2)) p3) (.ref a) (.ref s4.heap.objs.size)) (EP X pins σ Q) X.xe { s4 with heap := s4.heap.push { cls := .type "slice", data := .fields #[vl, vu, vs] } }
  rcases hx with ⟨hx, q⟩ | ⟨hx, q⟩
  · obtain ⟨its, r, ht, hz⟩ := I5.list hx
    have hlen := r.length
    refine tail_any (ops := [.ref a, .ref s4.heap.objs.size]) ht.isList.typeIs (PySem.slot_list_getitem.lookup) ?_ (by with_unfolding_all rfl)
    refine wpAny_getItem_list_slice ht.isList (Heap.IsSliceOf.new _ vl vu vs) pl pu ps (by decide) ?_ (by rw [List.size_toArray]; omega)
    rw [PySem.W.krv_pick]
    refine ⟨.ref _, _, I5.laid (t' := s4.toks) (o := .lst xs.reverse) (fun b ob q => Heap.get?_push_of_some _ q) (Nat.le_refl _) ?_, rfl, q _ (I5.hok.fresh (Nat.le_refl _))⟩
    exact ⟨by rw [List.length_reverse]; exact hz, _, 0, r.reverse, Heap.get?_push_size _ rfl⟩
  · obtain ⟨its, r, ht, hz⟩ := I5.tuple hx
    have hlen := r.length
    refine tail_any (ops := [.ref a, .ref s4.heap.objs.size]) ht.typeIs (PyProof.Rows.slot_tuple_getitem.lookup) ?_ (by with_unfolding_all rfl)
    refine HT.getItem_tuple_back ht (Heap.IsSliceOf.new _ vl vu vs) pl pu ps ?_ (by rw [List.size_toArray]; omega)
    refine ⟨.ref _, _, I5.laid (t' := s4.toks) (o := .tup xs.reverse) (fun b ob q => Heap.get?_push_of_some _ q) (Nat.le_refl _) ?_, rfl, q _ (I5.hok.fresh (Nat.le_refl _))⟩
    exact ⟨by rw [List.length_reverse]; exact hz, _, r.reverse, ⟨_, Heap.get?_push_size _ rfl, rfl, _, rfl⟩⟩
def sRev (d : D) (P : Bool → D → Prop) : Prop := match d with
  | .lst ds => P true (.lst ds.reverse)
  | .tup ds => P false (.tup ds.reverse)
  | .scr ns => P true (.lst (ns.map .int).reverse)
  | _ => False
theorem sem_rev : Sem1 z (fun x H Q => ∃ a xs, x = .ref a ∧ ((SqL z.K H a xs ∧ ∀ p, H p = none → Q (.ref p) (upd H p (.lst xs.reverse))) ∨ (SqT z.K H a xs ∧ ∀ p, H p = none → Q (.ref p) (upd H p (.tup xs.reverse))))) sRev := fun w F He H x d P Q wd dx q k => by
  unfold sRev at q
  split at q
  · obtain ⟨a, vs, rfl, ha, ra⟩ := dx.lst wd.sf
    exact ⟨a, vs, rfl, .inl ⟨.of ha, fun p hp => res_new wd hp (.lst ra.reverse) q k⟩⟩
  · obtain ⟨a, vs, rfl, ha, ra⟩ := dx.tup wd.sf
    exact ⟨a, vs, rfl, .inr ⟨.of ha, fun p hp => res_tup wd hp ra.reverse q k⟩⟩
  · obtain ⟨a, rfl, ha⟩ := dx.scr wd.sf
    exact ⟨a, _, rfl, .inl ⟨ha, fun p hp => res_new wd hp (.lst (DRs.ofInts _).reverse) q k⟩⟩
  · exact q.elim
theorem jx_rev {e : Expr} {te : DO} {k : Nat} {p1 p2 p3 : Pos} (hK : z.K = X.K) (he : JO X z e te) : JX X z (.Subscript e (.Slice none none (some (.UnaryOp .USub (.Constant (.int 1) k p1) p2)) p3) pos) (dUn sRev te) :=
  PE.imp (pe_rev he) fun _ _ _ h => by rw [← hK]; exact un1 sem_rev h
end
end Lv

namespace Lv
open PySem PySem.Spec L2
section
variable {X : Cx} {z : Ent} {pos : Pos}

/-! ### in, not in -/
def inD (d : D) (ds : List D) : Bool := ds.any fun y => y.eqv d
def sIn (neg : Bool) (d e : D) (P : Bool → D → Prop) : Prop := match e, d with
  | .lst ds, d => d.pl = true ∧ plAll ds = true ∧ d.py.depth ≤ 64 ∧ P false (.bl (if neg then !inD d ds else inD d ds))
  | .tup ds, d => d.pl = true ∧ plAll ds = true ∧ d.py.depth ≤ 64 ∧ P false (.bl (if neg then !inD d ds else inD d ds))
  | .str y, .str x => P false (.bl (if neg then !(!(Builtin.Str.occurrences y x 0 y.length 1).isEmpty) else !(Builtin.Str.occurrences y x 0 y.length 1).isEmpty))
  | .dK kvs, .int i => P false (.bl (if neg then !(valD kvs (.inl i)).isSome else (valD kvs (.inl i)).isSome))
  | .dK kvs, .str i => P false (.bl (if neg then !(valD kvs (.inr i)).isSome else (valD kvs (.inr i)).isSome))
  | .dT kvs, .tup ds => ∃ ks, ds = ks.map kD ∧ P false (.bl (if neg then !(valD kvs ks).isSome else (valD kvs ks).isSome))
  | .fK kvs, .int i => P false (.bl (if neg then !(valD kvs (.inl i)).isSome else (valD kvs (.inl i)).isSome))
  | .fT kvs, .tup ds => ∃ ks, ds = ks.map kD ∧ P false (.bl (if neg then !(valD kvs ks).isSome else (valD kvs ks).isSome))
  | _, _ => False
def rInA (K : PySem.W.Frag) (neg : Bool) : R2 := fun x y H Q =>
  (∃ d ds, Dp K H x d ∧ (Dp K H y (.list ds) ∨ Dp K H y (.tuple ds)) ∧ d.plain = true ∧ PyData.plainAll ds = true ∧ d.depth ≤ 64 ∧ Q (.bl (if neg then !(ds.any fun w => PyData.eqv w d) else ds.any fun w => PyData.eqv w d)) H) ∨
  (∃ i j, x = .str i ∧ y = .str j ∧ Q (.bl (if neg then !(!(Builtin.Str.occurrences j i 0 j.length 1).isEmpty) else !(Builtin.Str.occurrences j i 0 j.length 1).isEmpty)) H) ∨
  ∃ a o, y = .ref a ∧ DGet H a x o ∧ Q (.bl (if neg then !o.isSome else o.isSome)) H
theorem op_inA (hu : X.A.units + 65 < cLine) : OpR X (compareOp .In) (rInA X.K false) := by
  intro pins s σ H x y v u Q I rx ry h
  rcases h with ⟨d, ds, hd, hl, pd, pl, dd, q⟩ | ⟨i, j, rfl, rfl, q⟩ | ⟨a, o, rfl, g, q⟩
  · obtain ⟨as, r1⟩ := Dp.reads I d x v hd rx
    have hm : X.A.units + 1 + min (PyData.depthAll ds) d.depth < cLine := by
      have := Nat.min_le_right (PyData.depthAll ds) d.depth
      omega
    rcases hl with hl | hl
    · obtain ⟨bs, r2⟩ := Dp.reads I (.list ds) y u hl ry
      exact SeqAt.in_list_data r2 r1 pl pd hm ⟨.bl _, H, I, rfl, q⟩
    · obtain ⟨bs, r2⟩ := Dp.reads I (.tuple ds) y u hl ry
      exact SeqAt.in_tuple_data r2 r1 pl pd hm ⟨.bl _, H, I, rfl, q⟩
  · exact op_in_str pins s σ H _ _ v u Q I rx ry ⟨i, j, rfl, rfl, q⟩
  · cases ry
    exact d_in (by omega) I g rx fun s' I' => ⟨.bl _, H, I', rfl, q⟩
theorem op_notInA (hu : X.A.units + 65 < cLine) : OpR X (compareOp .NotIn) (rInA X.K true) := by
  intro pins s σ H x y v u Q I rx ry h
  rcases h with ⟨d, ds, hd, hl, pd, pl, dd, q⟩ | ⟨i, j, rfl, rfl, q⟩ | ⟨a, o, rfl, g, q⟩
  · obtain ⟨as, r1⟩ := Dp.reads I d x v hd rx
    have hm : X.A.units + 1 + min (PyData.depthAll ds) d.depth < cLine := by
      have := Nat.min_le_right (PyData.depthAll ds) d.depth
      omega
    rcases hl with hl | hl
    · obtain ⟨bs, r2⟩ := Dp.reads I (.list ds) y u hl ry
      exact SeqAt.notIn_list_data r2 r1 pl pd hm ⟨.bl _, H, I, rfl, q⟩
    · obtain ⟨bs, r2⟩ := Dp.reads I (.tuple ds) y u hl ry
      exact SeqAt.notIn_tuple_data r2 r1 pl pd hm ⟨.bl _, H, I, rfl, q⟩
  · exact op_notin_str pins s σ H _ _ v u Q I rx ry ⟨i, j, rfl, rfl, q⟩
  · cases ry
    exact d_notIn (by omega) I g rx fun s' I' => ⟨.bl _, H, I', rfl, q⟩
theorem any_py (d : D) : ∀ ds : List D, ((pyAll ds).any fun w => PyData.eqv w d.py) = inD d ds
  | [] => rfl
  | e :: ds => by
    have := any_py d ds
    simp only [pyAll, List.any_cons, inD] at this ⊢
    rw [this]
    rfl
theorem sem_in (neg : Bool) : Sem2 z (rInA z.K neg) (sIn neg) := fun w F He H x y d e P Q wd dx dy q k => by
  unfold sIn at q
  split at q
  · next ds =>
    obtain ⟨p1, p2, p3, q⟩ := q
    have hl := dy.dp wd.sf (by simpa [D.pl] using p2)
    rw [D.py] at hl
    exact .inl ⟨d.py, pyAll ds, dx.dp wd.sf p1, .inl hl, plain_py d, plain_pyAll ds, p3, by rw [any_py]; exact res_at wd (.bl _) q k⟩
  · next ds =>
    obtain ⟨p1, p2, p3, q⟩ := q
    have hl := dy.dp wd.sf (by simpa [D.pl] using p2)
    rw [D.py] at hl
    exact .inl ⟨d.py, pyAll ds, dx.dp wd.sf p1, .inr hl, plain_py d, plain_pyAll ds, p3, by rw [any_py]; exact res_at wd (.bl _) q k⟩
  · exact .inr (.inl ⟨_, _, dx.str, dy.str, res_at wd (.bl _) q k⟩)
  · obtain ⟨a, vs, rfl, ha, ra⟩ := dy.dK wd.sf
    have := dx.int; subst x
    refine .inr (.inr ⟨a, _, rfl, DGet.k (k := .inl _) ha, ?_⟩)
    rcases ra.val (k := .inl _) with ⟨h1, h2⟩ | ⟨v, c', h1, h2, rv⟩
    · rw [h1]; rw [h2] at q; exact res_at wd (.bl _) q k
    · rw [h1]; rw [h2] at q; exact res_at wd (.bl _) q k
  · obtain ⟨a, vs, rfl, ha, ra⟩ := dy.dK wd.sf
    have := dx.str; subst x
    refine .inr (.inr ⟨a, _, rfl, DGet.k (k := .inr _) ha, ?_⟩)
    rcases ra.val (k := .inr _) with ⟨h1, h2⟩ | ⟨v, c', h1, h2, rv⟩
    · rw [h1]; rw [h2] at q; exact res_at wd (.bl _) q k
    · rw [h1]; rw [h2] at q; exact res_at wd (.bl _) q k
  · obtain ⟨ks, rfl, q⟩ := q
    obtain ⟨a, vs, rfl, ha, ra⟩ := dy.dT wd.sf
    obtain ⟨b, us, rfl, hb, rb⟩ := dx.tup wd.sf
    have := rb.keys; subst us
    refine .inr (.inr ⟨a, _, rfl, DGet.t ha hb, ?_⟩)
    rcases ra.val (k := ks) with ⟨h1, h2⟩ | ⟨v, c', h1, h2, rv⟩
    · rw [h1]; rw [h2] at q; exact res_at wd (.bl _) q k
    · rw [h1]; rw [h2] at q; exact res_at wd (.bl _) q k
  · obtain ⟨a, ob, vs, rfl, ha, ra⟩ := dy.fK
    have := dx.int; subst x
    refine .inr (.inr ⟨a, _, rfl, .inl ⟨_, .inl _, .inr ⟨_, ha⟩, rfl, rfl⟩, ?_⟩)
    rcases ra.val (k := .inl _) with ⟨h1, h2⟩ | ⟨v, c', h1, h2, rv⟩
    · rw [h1]; rw [h2] at q; exact res_at wd (.bl _) q k
    · rw [h1]; rw [h2] at q; exact res_at wd (.bl _) q k
  · obtain ⟨ks, rfl, q⟩ := q
    obtain ⟨a, ob, vs, rfl, ha, ra⟩ := dy.fT
    obtain ⟨b, us, rfl, hb, rb⟩ := dx.tup wd.sf
    have := rb.keys; subst us
    refine .inr (.inr ⟨a, _, rfl, .inr ⟨_, ks, b, .inr ⟨_, ha⟩, rfl, hb, rfl⟩, ?_⟩)
    rcases ra.val (k := ks) with ⟨h1, h2⟩ | ⟨v, c', h1, h2, rv⟩
    · rw [h1]; rw [h2] at q; exact res_at wd (.bl _) q k
    · rw [h1]; rw [h2] at q; exact res_at wd (.bl _) q k
  · exact q.elim

/-! ### argument lists, displays -/
def dNil  : DA := fun _ w Q => Q [] w
def dCons  (t : DX) (ts : DA) : DA := fun δ w Q => t δ w fun _ d w1 => ts δ w1 fun ds w2 => Q (d :: ds) w2
theorem ja_nil : JA X z [] dNil := PA.imp pa_nil fun σ H Q ⟨δ, w, F, He, P, R, q, k⟩ => k _ _ q [] H F He R.wd .refl .nil
theorem ja_cons {e : Expr} {es : List Expr} {t : DX} {ts : DA} (ha : JX X z e t) (hr : JA X z es ts) (hs : starEach (e :: es) X.env = (false, eval e X.env) :: starEach es X.env := by rfl) : JA X z (e :: es) (dCons t ts) :=
  PA.imp (pa_cons ha hr hs) fun σ H Q ⟨δ, w, F, He, P, R, q, k⟩ => by
    refine ⟨δ, w, F, He, _, R, q, fun b d w1 q1 x H1 F1 He1 wd1 st1 r1 => ?_⟩
    obtain ⟨F2, st2, wd2, r2, s2⟩ := r1.thaw st1 wd1
    refine ⟨δ, w1, F2, He1, _, R.step wd2 st2, q1, fun ds w2 q2 vs H3 F3 He3 wd3 st3 r3 => ?_⟩
    exact k _ _ q2 _ H3 F3 He3 wd3 (st2.trans st3) (.cons (r2.mono st3.fz) r3)
def dTup  (t : DA) : DX := fun δ w Q => t δ w fun ds w1 => ds.length ≤ sizeLine ∧ Q false (.tup ds) w1
def dLst  (t : DA) : DX := fun δ w Q => t δ w fun ds w1 => ds.length ≤ sizeLine ∧ Q true (.lst ds) w1
theorem jx_tup {es : List Expr} {t : DA} {x1 : Nat} (h : JA X z es t) : JX X z (.Tuple es x1 pos) (dTup t) := PE.imp (pe_tup h) fun σ H Q ⟨δ, w, F, He, P, R, q, k⟩ => by
  refine ⟨δ, w, F, He, _, R, q, fun ds w1 q1 vs H1 F1 He1 wd1 st1 r1 => ⟨by rw [r1.length]; exact q1.1, fun p hp => ?_⟩⟩
  exact res_tup (z := z) (P := fun b d => P b d w1) wd1 hp r1 q1.2 fun b d' p v H' F' He' wd st rr => k b d' w1 p v H' F' He' wd (st1.trans st) (rr.base st1)
theorem jx_lst {es : List Expr} {t : DA} (h : JA X z es t) : JX X z (.List es pos) (dLst t) := PE.imp (pe_lst h) fun σ H Q ⟨δ, w, F, He, P, R, q, k⟩ => by
  refine ⟨δ, w, F, He, _, R, q, fun ds w1 q1 vs H1 F1 He1 wd1 st1 r1 => ⟨by rw [r1.length]; exact q1.1, fun p hp => ?_⟩⟩
  exact res_new (z := z) (P := fun b d => P b d w1) wd1 hp (.lst r1) q1.2 fun b d' p v H' F' He' wd st rr => k b d' w1 p v H' F' He' wd (st1.trans st) (rr.base st1)
def dDicK  : DX := fun _ w Q => Q true (.dK []) w
def dDicT  : DX := fun _ w Q => Q true (.dT []) w
theorem jx_dicK : JX X z (.Dict [] [] pos) dDicK := PE.imp pe_dnewK fun σ H Q ⟨δ, w, F, He, P, R, q, k⟩ p hp => res_new (z := z) (P := fun b d => P b d w) R.wd hp (.dK .nil) q fun b d' p => k b d' w p
theorem jx_dicT : JX X z (.Dict [] [] pos) dDicT := PE.imp pe_dnewT fun σ H Q ⟨δ, w, F, He, P, R, q, k⟩ p hp => res_new (z := z) (P := fun b d => P b d w) R.wd hp (.dT .nil) q fun b d' p => k b d' w p

/-! ### slices -/
abbrev DP  := DSt → Om → (Option Int → Om → Prop) → Prop
def liftP (z : Ent) (t : DP) : TO := fun σ H Q => ∃ δ w F He P, Rel z δ w F He σ H ∧ t δ w P ∧ ∀ o w', P o w' → ∀ H' F' He', Wd z.K w' F' He' H' → Step F He H F' He' H' → Q o H'
theorem PO.imp {X : Cx} {e : Option Expr} {t t' : TO} (h : PO X e t) (f : ∀ σ H Q, t' σ H Q → t σ H Q) : PO X e t' := ⟨fun pins s σ H Q I q => h.run pins s σ H Q I (f σ H Q q)⟩
def dNoP  : DP := fun _ w Q => Q none w
def dP  (t : DO) : DP := fun δ w Q => t δ w fun d w1 => match d with
  | .int i => Q (some i) w1
  | _ => False
theorem jp_none : PO X none (liftP z dNoP) := PO.imp po_none fun σ H Q ⟨δ, w, F, He, P, R, q, k⟩ => k _ _ q H F He R.wd .refl
theorem jp_some {e : Expr} {t : DO} (h : JO X z e t) : PO X (some e) (liftP z (dP t)) := PO.imp (po_some h) fun σ H Q ⟨δ, w, F, He, P, R, q, k⟩ => by
  refine ⟨δ, w, F, He, _, R, q, fun d w1 q1 v H1 F1 He1 wd1 st1 r1 => ?_⟩
  cases d with
  | int i => exact ⟨i, r1.dt.int, k _ _ q1 H1 F1 He1 wd1 st1⟩
  | _ => exact q1.elim
def cutD {α : Type} (xs : List α) (lo hi : Option Int) : List α := (xs.drop (HT.sIx xs.length 0 lo)).take (HT.sIx xs.length xs.length hi - HT.sIx xs.length 0 lo)
def sSl (d : D) (lo hi : Option Int) (P : Bool → D → Prop) : Prop := match d with
  | .lst ds => P true (.lst (cutD ds lo hi))
  | .tup ds => P false (.tup (cutD ds lo hi))
  | .str x => x.length ≤ sizeLine ∧ P false (.str (cutS x lo hi))
  | .scr ns => P true (.lst ((cutD ns lo hi).map .int))
  | _ => False
def rSlD (K : PySem.W.Frag) : V → Option Int → Option Int → Hp → VK → Prop := fun x lo hi H Q => rSlL K x lo hi H Q ∨ rSlA K x lo hi H Q ∨ rSlS x lo hi H Q
theorem sl_all : SlR X (rSlD X.K) := sl_list.or (sl_tupA.or sl_str)
theorem cut_rel {K : PySem.W.Frag} {F : Hp} {vs : List V} {ds : List D} (r : DRs K F vs ds) (lo hi : Option Int) : DRs K F (cutV vs lo hi) (cutD ds lo hi) := by
  unfold cutV cutD
  rw [r.length]
  exact (r.drop _).take _
theorem cut_whole {α : Type} {xs : List α} {lo hi : Option Int} (h : HT.sIx xs.length 0 lo = 0 ∧ HT.sIx xs.length xs.length hi = xs.length) : cutD xs lo hi = xs := by
  unfold cutD
  rw [h.1, h.2]
  simp
theorem sem_sl {w : Om} {F He H : Hp} {x : V} {d : D} {lo hi : Option Int} {P : Bool → D → Prop} {Q : VK} (wd : Wd z.K w F He H) (dx : DT z.K F He H x d) (q : sSl d lo hi P)
    (k : ∀ b d', P b d' → ∀ v H' F' He', Wd z.K w F' He' H' → Step F He H F' He' H' → Res z.K F' He' H H' b v d' → Q v H') : rSlD z.K x lo hi H Q := by
  unfold sSl at q
  split at q
  · obtain ⟨a, vs, rfl, ha, ra⟩ := dx.lst wd.sf
    exact .inl ⟨a, vs, rfl, .of ha, fun p hp => res_new wd hp (.lst (cut_rel ra lo hi)) q k⟩
  · obtain ⟨a, vs, e, ha, ra⟩ := dx.tup wd.sf
    refine .inr (.inl ⟨a, vs, e, .of ha, fun hw => ?_, fun _ p hp => res_tup wd hp (cut_rel ra lo hi) q k⟩)
    rw [ra.length] at hw
    rw [cut_whole hw] at q
    rw [← e]; exact res_at wd dx.dr_tup q k
  · exact .inr (.inr ⟨_, dx.str, q.1, res_at wd (.str _) q.2 k⟩)
  · next ns =>
    obtain ⟨a, rfl, ha⟩ := dx.scr wd.sf
    refine .inl ⟨a, _, rfl, ha, fun p hp => res_new wd hp (.lst ?_) q k⟩
    have e : cutV (List.map V.int ns) lo hi = (cutD ns lo hi).map V.int := by
      unfold cutV cutD
      rw [List.length_map, List.map_take, List.map_drop]
    rw [e]
    exact DRs.ofInts _
  · exact q.elim
def dSl  (t : DO) (l h : DP) : DX := fun δ w Q => t δ w fun d w1 => l δ w1 fun lo w2 => h δ w2 fun hi w3 => sSl (res w3 d) lo hi fun b d' => Q b d' w3
theorem jx_sl {e : Expr} {lo hi : Option Expr} {t : DO} {tl th : DP} {p2 : Pos} (hK : z.K = X.K) (he : JO X z e t) (hl : PO X lo (liftP z tl)) (hh : PO X hi (liftP z th)) : JX X z (.Subscript e (.Slice lo hi none p2) pos) (dSl t tl th) :=
  PE.imp (pe_slice sl_all he hl hh) fun σ H Q ⟨δ, w, F, He, P, R, q, k⟩ => by
    refine ⟨δ, w, F, He, _, R, q, fun d w1 q1 v H1 F1 He1 wd1 st1 r1 => ?_⟩
    refine ⟨δ, w1, F1, He1, _, R.step wd1 st1, q1, fun o w2 q2 H2 F2 He2 wd2 st2 => ?_⟩
    refine ⟨δ, w2, F2, He2, _, (R.step wd1 st1).step wd2 st2, q2, fun o' w3 q3 H3 F3 He3 wd3 st3 => ?_⟩
    have st := st1.trans (st2.trans st3)
    show rSlD X.K v o o' H3 Q
    rw [← hK]
    exact sem_sl wd3 (res_ok wd3.ex wd3.sh (r1.step (st2.trans st3))) q3 fun b d' p v H' F' He' wd s' rr => k b d' w3 p v H' F' He' wd (st.trans s') (rr.base st)

/-! ### truth, and, or, not, if -/
def dTru  (t : DO) : DTs_ := fun δ w Q => t δ w fun d w1 => match res w1 d with
  | .non => Q false w1
  | .bl k => Q k w1
  | .int i => Q (i != 0) w1
  | .str x => x.length ≤ sizeLine ∧ Q ((x.length : Int) != 0) w1
  | .lst ds => Q (!ds.isEmpty) w1
  | .tup ds => Q (!ds.isEmpty) w1
  | .scr ds => Q (!ds.isEmpty) w1
  | .dK ds => Q (!ds.isEmpty) w1
  | _ => False
theorem isEmpty_len {α β : Type} {xs : List α} {ys : List β} (h : xs.length = ys.length) : xs.isEmpty = ys.isEmpty := by
  cases xs <;> cases ys <;> simp at h <;> rfl
theorem jt_tru {e : Expr} {t : DO} (hK : z.K = X.K) (h : JO X z e t) (he : ∀ whole, isTrue e X.env whole = (do let v ← whole; standAt e.pos; holding [v] (truthy v)) := by exact fun _ => rfl) : JT X z e (dTru t) :=
  PT.imp (pt_truth h he) fun σ H Q ⟨δ, w, F, He, P, R, q, k⟩ => by
    refine ⟨δ, w, F, He, _, R, q, fun d w1 q1 v H1 F1 He1 wd1 st1 r1 => ?_⟩
    have fin : ∀ b, P b w1 → Q b H1 := fun b p => k b w1 p H1 F1 He1 wd1 st1
    show ∃ k, TruV X.K v H1 k ∧ Q k H1
    rw [← hK]
    have r1 := res_ok wd1.ex wd1.sh r1
    generalize res w1 d = d at q1 r1
    cases d with
    | non => cases r1.non; exact ⟨_, rfl, fin _ q1⟩
    | bl c => cases r1.bl; exact ⟨_, rfl, fin _ q1⟩
    | int i => cases r1.int; exact ⟨_, rfl, fin _ q1⟩
    | str x => cases r1.str; exact ⟨_, ⟨q1.1, rfl⟩, fin _ q1.2⟩
    | lst ds => obtain ⟨a, vs, rfl, ha, ra⟩ := r1.lst wd1.sf; exact ⟨_, .inl ⟨vs, .of ha, rfl⟩, fin _ (by rw [isEmpty_len ra.length]; exact q1)⟩
    | tup ds => obtain ⟨a, vs, rfl, ha, ra⟩ := r1.tup wd1.sf; exact ⟨_, .inr (.inl ⟨vs, .of ha, rfl⟩), fin _ (by rw [isEmpty_len ra.length]; exact q1)⟩
    | scr ds => obtain ⟨a, rfl, ha⟩ := r1.scr wd1.sf; exact ⟨_, .inl ⟨_, ha, rfl⟩, fin _ (by rw [isEmpty_len (List.length_map (as := ds) V.int)]; exact q1)⟩
    | dK ds => obtain ⟨a, vs, rfl, ha, ra⟩ := r1.dK wd1.sf; exact ⟨_, .inr (.inr ⟨vs, ha, rfl⟩), fin _ (by rw [isEmpty_len ra.length]; exact q1)⟩
    | _ => exact q1.elim
def dTNot  (t : DTs_) : DTs_ := fun δ w Q => t δ w fun k w1 => Q (!k) w1
def dTAnd  (t u : DTs_) : DTs_ := fun δ w Q => t δ w fun k w1 => if k = true then u δ w1 Q else Q false w1
def dTOr  (t u : DTs_) : DTs_ := fun δ w Q => t δ w fun k w1 => if k = true then Q true w1 else u δ w1 Q
theorem jt_not {a : Expr} {t : DTs_} (h : JT X z a t) : JT X z (.UnaryOp .Not a pos) (dTNot t) := PT.imp (pt_not h) fun σ H Q ⟨δ, w, F, He, P, R, q, k⟩ =>
  ⟨δ, w, F, He, _, R, q, fun b w1 q1 => k _ w1 q1⟩
abbrev JW (X : Cx) (z : Ent) (e : Expr) (t : DTs_) : Prop := PW X e (liftT z t)
theorem jw_and1 {a : Expr} {t : DTs_} (h : JT X z a t) : JW X z (.BoolOp .And [a] pos) t := pw_and1 h
theorem jw_or1 {a : Expr} {t : DTs_} (h : JT X z a t) : JW X z (.BoolOp .Or [a] pos) t := pw_or1 h
theorem jw_and {a b : Expr} {rest : List Expr} {t u : DTs_} (ha : JT X z a t) (hb : JW X z (.BoolOp .And (b :: rest) pos) u) : JW X z (.BoolOp .And (a :: b :: rest) pos) (dTAnd t u) := PW.imp (pw_and ha hb) fun σ H Q ⟨δ, w, F, He, P, R, q, k⟩ => by
  refine ⟨δ, w, F, He, _, R, q, fun b w1 q1 H1 F1 He1 wd1 st1 => ?_⟩
  cases b with
  | true => exact ⟨δ, w1, F1, He1, _, R.step wd1 st1, q1, fun c w2 q2 H2 F2 He2 wd2 st2 => k c w2 q2 H2 F2 He2 wd2 (st1.trans st2)⟩
  | false => exact k _ w1 q1 H1 F1 He1 wd1 st1
theorem jw_or {a b : Expr} {rest : List Expr} {t u : DTs_} (ha : JT X z a t) (hb : JW X z (.BoolOp .Or (b :: rest) pos) u) : JW X z (.BoolOp .Or (a :: b :: rest) pos) (dTOr t u) := PW.imp (pw_or ha hb) fun σ H Q ⟨δ, w, F, He, P, R, q, k⟩ => by
  refine ⟨δ, w, F, He, _, R, q, fun b w1 q1 H1 F1 He1 wd1 st1 => ?_⟩
  cases b with
  | false => exact ⟨δ, w1, F1, He1, _, R.step wd1 st1, q1, fun c w2 q2 H2 F2 He2 wd2 st2 => k c w2 q2 H2 F2 He2 wd2 (st1.trans st2)⟩
  | true => exact k _ w1 q1 H1 F1 He1 wd1 st1
theorem jt_w {e : Expr} {t : DTs_} (h : JW X z e t) : JT X z e t := PW.pt h
/-- as values, all but the last True or False -/
def dAndV  (t u : DX) : DX := fun δ w Q => t δ w fun _ d w1 => match d with
  | .bl k => if k = true then u δ w1 Q else Q false (.bl false) w1
  | _ => False
def dOrV  (t u : DX) : DX := fun δ w Q => t δ w fun _ d w1 => match d with
  | .bl k => if k = true then Q false (.bl true) w1 else u δ w1 Q
  | _ => False
def dNotV  (t : DX) : DX := fun δ w Q => t δ w fun _ d w1 => match d with
  | .bl k => Q false (.bl (!k)) w1
  | _ => False
theorem jx_one {op : BoolOp} {a : Expr} {t : DX} (h : JX X z a t) : JX X z (.BoolOp op [a] pos) t := pe_one h
theorem jx_and {a b : Expr} {rest : List Expr} {t u : DX} (ha : JX X z a t) (hb : JX X z (.BoolOp .And (b :: rest) pos) u) : JX X z (.BoolOp .And (a :: b :: rest) pos) (dAndV t u) := PE.imp (pe_and ha hb) fun σ H Q ⟨δ, w, F, He, P, R, q, k⟩ => by
  refine ⟨δ, w, F, He, _, R, q, fun b d w1 q1 v H1 F1 He1 wd1 st1 r1 => ?_⟩
  cases d with
  | bl c =>
    have := r1.dt.bl; subst v
    refine ⟨c, rfl, ?_⟩
    cases c with
    | true => exact ⟨δ, w1, F1, He1, _, R.step wd1 st1, q1, fun b d w2 q2 v H2 F2 He2 wd2 st2 rr => k b d w2 q2 v H2 F2 He2 wd2 (st1.trans st2) (rr.base st1)⟩
    | false => exact k _ _ w1 q1 _ H1 F1 He1 wd1 st1 (.bl _)
  | _ => exact q1.elim
theorem jx_or {a b : Expr} {rest : List Expr} {t u : DX} (ha : JX X z a t) (hb : JX X z (.BoolOp .Or (b :: rest) pos) u) : JX X z (.BoolOp .Or (a :: b :: rest) pos) (dOrV t u) := PE.imp (pe_or ha hb) fun σ H Q ⟨δ, w, F, He, P, R, q, k⟩ => by
  refine ⟨δ, w, F, He, _, R, q, fun b d w1 q1 v H1 F1 He1 wd1 st1 r1 => ?_⟩
  cases d with
  | bl c =>
    have := r1.dt.bl; subst v
    refine ⟨c, rfl, ?_⟩
    cases c with
    | false => exact ⟨δ, w1, F1, He1, _, R.step wd1 st1, q1, fun b d w2 q2 v H2 F2 He2 wd2 st2 rr => k b d w2 q2 v H2 F2 He2 wd2 (st1.trans st2) (rr.base st1)⟩
    | true => exact k _ _ w1 q1 _ H1 F1 He1 wd1 st1 (.bl _)
  | _ => exact q1.elim
theorem jx_not {a : Expr} {t : DX} (h : JX X z a t) : JX X z (.UnaryOp .Not a pos) (dNotV t) := PE.imp (pe_not h) fun σ H Q ⟨δ, w, F, He, P, R, q, k⟩ => by
  refine ⟨δ, w, F, He, _, R, q, fun b d w1 q1 v H1 F1 He1 wd1 st1 r1 => ?_⟩
  cases d with
  | bl c =>
    have := r1.dt.bl; subst v
    exact ⟨c, rfl, k _ _ w1 q1 _ H1 F1 He1 wd1 st1 (.bl _)⟩
  | _ => exact q1.elim
def dIfX  (c : DTs_) (t u : DX) : DX := fun δ w Q => c δ w fun k w1 => if k = true then t δ w1 Q else u δ w1 Q
theorem jx_if {c a b : Expr} {tc : DTs_} {t u : DX} (hc : JT X z c tc) (ha : JX X z a t) (hb : JX X z b u) : JX X z (.IfExp c a b pos) (dIfX tc t u) := PE.imp (pe_ifExp hc ha hb) fun σ H Q ⟨δ, w, F, He, P, R, q, k⟩ => by
  refine ⟨δ, w, F, He, _, R, q, fun c w1 q1 H1 F1 He1 wd1 st1 => ?_⟩
  cases c <;> exact ⟨δ, w1, F1, He1, _, R.step wd1 st1, q1, fun b d w2 q2 v H2 F2 He2 wd2 st2 rr => k b d w2 q2 v H2 F2 He2 wd2 (st1.trans st2) (rr.base st1)⟩
/-- a op b op' c -/
def dChain  (s1 s2 : D → D → (Bool → D → Prop) → Prop) (ta tb tc : DO) : DX := fun δ w Q => ta δ w fun d w1 => tb δ w1 fun e w2 => s1 (res w2 d) (res w2 e) fun _ r => match r with
  | .bl k => if k = true then tc δ w2 fun f w3 => s2 (res w3 e) (res w3 f) fun b d' => Q b d' w3 else Q false (.bl false) w2
  | _ => False
theorem chain2 {r r' : R2} {s1 s2 : D → D → (Bool → D → Prop) → Prop} (hs : Sem2 z r s1) (hs' : Sem2 z r' s2) {ta tb tc : DO} {σ : St} {H : Hp} {Q : VK} (h : liftX z (dChain s1 s2 ta tb tc) σ H Q) : tChain r r' (liftO z ta) (liftO z tb) (liftO z tc) σ H Q := by
  obtain ⟨δ, w, F, He, P, R, q, k⟩ := h
  refine ⟨δ, w, F, He, _, R, q, fun d w1 q1 x H1 F1 He1 wd1 st1 r1 => ?_⟩
  refine ⟨δ, w1, F1, He1, _, R.step wd1 st1, q1, fun e w2 q2 y H2 F2 He2 wd2 st2 r2 => ?_⟩
  refine hs w2 F2 He2 H2 x y _ _ _ _ wd2 (res_ok wd2.ex wd2.sh (r1.step st2)) (res_ok wd2.ex wd2.sh r2) q2 fun b d' p v H3 F3 He3 wd3 st3 rr => ?_
  have st := st1.trans (st2.trans st3)
  cases d' with
  | bl c =>
    have := rr.dt.bl; subst v
    refine ⟨c, rfl, ?_⟩
    cases c with
    | false => exact k _ _ w2 p _ H3 F3 He3 wd3 st (.bl _)
    | true =>
      refine ⟨δ, w2, F3, He3, _, R.step wd3 st, p, fun f w4 q4 u H4 F4 He4 wd4 st4 r4 => ?_⟩
      exact hs' w4 F4 He4 H4 y u _ _ _ Q wd4 (res_ok wd4.ex wd4.sh ((r2.step st3).step st4)) (res_ok wd4.ex wd4.sh r4) q4 fun b d' p v H' F' He' wd s' rr => k b d' w4 p v H' F' He' wd ((st.trans st4).trans s') (rr.base (st.trans st4))
  | _ => exact p.elim
theorem jx_chain {op op' : CmpOp} {r r' : R2} {s1 s2 : D → D → (Bool → D → Prop) → Prop} {a b c : Expr} {ta tb tc : DO} (ho : OpR X (compareOp op) r) (ho' : OpR X (compareOp op') r') (hs : Sem2 z r s1) (hs' : Sem2 z r' s2) (ha : JO X z a ta) (hb : JO X z b tb) (hc : JO X z c tc)
    (hm : lastMarks [op, op'] [b, c] = false := by with_unfolding_all rfl) : JX X z (.Compare a [op, op'] [b, c] pos) (dChain s1 s2 ta tb tc) := PE.imp (pe_chain ho ho' ha hb hc hm) fun _ _ _ h => chain2 hs hs' h
theorem jt_chain {op op' : CmpOp} {r r' : R2} {s1 s2 : D → D → (Bool → D → Prop) → Prop} {a b c : Expr} {ta tb tc : DO} (ho : OpR X (compareOp op) r) (ho' : OpR X (compareOp op') r') (hs : Sem2 z r s1) (hs' : Sem2 z r' s2) (ha : JO X z a ta) (hb : JO X z b tb) (hc : JO X z c tc)
    (hm : lastMarks [op, op'] [b, c] = false := by with_unfolding_all rfl) : JT X z (.Compare a [op, op'] [b, c] pos) (dB (dChain s1 s2 ta tb tc)) := PT.imp (pt_chain ho ho' ha hb hc hm) fun σ H Q ⟨δ, w, F, He, P, R, q, k⟩ => by
  refine chain2 hs hs' ⟨δ, w, F, He, _, R, q, fun b d w' p v H' F' He' wd st r => ?_⟩
  cases d with
  | bl c =>
    have e := r.dt.bl
    subst e
    exact ⟨c, rfl, k c w' p H' F' He' wd st⟩
  | _ => exact p.elim
end
end Lv

/-! ### xs.extend(a tuple) -/
namespace HT
open PySem PySem.AutoSeq1 PySem.Spec
theorem list_extend_tuple_any (l : Addr) (items : Array Value) (n : Nat) (b : Addr) (items2 : Array Value) (n2 : Nat) (dd : Option Addr) (sl : Array (Option Value)) (hs0 : ¬(!items.isEmpty && Builtin.List.listTooLong (items.size + items2.size)) = true) (hs1 : items.size ≤ sizeLine) (hs2 : items.size + items2.size ≤ sizeLine + 1) :
    Meets (Builtin.«list.extend» ⟨[.ref l, .ref b], []⟩) (fun _ R s => s.heap.get? l = some { cls := .type "list", dict := none, data := .seq items n, slots := #[] } ∧ s.heap.get? b = some { cls := .type "tuple", dict := dd, data := .seq items2 n2, slots := sl } ∧ R (.ok (.ret Value.none)) { s with heap := s.heap.update l (Obj.mapSeq fun x => x ++ items2), toks := s.toks }) :=
  .of_wp fun prog w A R s h => by
    obtain ⟨hp, g, d, tk, os⟩ := s; obtain ⟨hl, hb, h⟩ := h; have f1 := idx_int; have f2 := sub_tuple_tuple; have f3 := sub_list_list; have f4 := sub_tuple_list; have f5 := sub_list_tuple;
    have hz' : (items ++ items2).size ≤ sizeLine + 1 := by rw [Array.size_append]; exact hs2
    wp_walk using (wpAny_updateSeq hl rfl (hz := hs1) (_hz' := hz')), wpAny_loadPart' hl, wpAny_loadPart' hb; exact ⟨_, rfl, h⟩
end HT
namespace Lv
open PySem PySem.Spec L2
section
variable {X : Cx}
def rExtendT (K : PySem.W.Frag) : V → List V → Hp → VK → Prop := fun x vs H Q => ∃ l b xs zs, x = .ref l ∧ vs = [.ref b] ∧ H l = some (.lst xs) ∧ SqT K H b zs ∧ xs.length + zs.length ≤ sizeLine ∧ Q .non (upd H l (.lst (xs ++ zs)))
theorem mt_extendT : MtM X "list.extend" (rExtendT X.K) := by
  intro pins s σ H x vs v us Q I rx rv h
  obtain ⟨l, b, xs, zs, rfl, rfl, hH, hB, hz, q⟩ := h
  cases rx
  obtain ⟨u, rfl, ru⟩ := rv.one
  cases ru
  obtain ⟨z, its, n, r, hl, e⟩ := I.lstM hH
  obtain ⟨its2, r2, ⟨⟨cls, dd, data, sl⟩, e2, hc, n2, hd⟩, z2⟩ := I.tuple hB
  simp only at hc hd
  subst hc hd
  have hl2 := r2.length
  have hsz : its.toArray.size + its2.toArray.size ≤ sizeLine := by rw [List.size_toArray, List.size_toArray]; omega
  have hlong : ¬ (!its.toArray.isEmpty && Builtin.List.listTooLong (its.toArray.size + its2.toArray.size)) = true := by
    rw [notLongL hsz, Bool.and_false]
    exact Bool.false_ne_true
  refine call_meets F.slot_list_extend ⟨_, e, rfl⟩ F.entry_list_extend (F.args_list_extend_2 _ _)
    (HT.list_extend_tuple_any l its.toArray n b its2.toArray n2 dd sl hlong (by rw [List.size_toArray]; omega) (by omega)) ⟨e, e2, ?_⟩
  refine ⟨.non, _, I.lset (its' := its ++ its2) hH e (by simp) (r.append r2) ?_, rfl, q⟩
  rw [List.length_append]
  omega
end
section
variable {z : Ent} {δ : DSt} {w : Om} {F He H F' He' H' : Hp} {σ : St} {i : Nat} {v : V} {d : D}
theorem get_set {α : Type} {l : List α} {i j : Nat} {x y : α} (h : (l.set i x)[j]? = some y) : (i = j ∧ y = x) ∨ (i ≠ j ∧ l[j]? = some y) := by
  by_cases e : i = j
  · subst e
    by_cases hl : i < l.length
    · rw [List.getElem?_set_self hl] at h
      exact .inl ⟨rfl, (Option.some.inj h).symm⟩
    · rw [List.getElem?_eq_none (by simpa using hl)] at h; cases h
  · rw [List.getElem?_set_ne e] at h; exact .inr ⟨e, h⟩
/-- a name is given a value -/
theorem Rel.assign {b : Bool} {w' : Om} (R : Rel z δ w F He σ H) (wd : Wd z.K w' F' He' H') (st : Step F He H F' He' H') (r : Res z.K F' He' H H' b v d) : Rel z (δ.set i (some (b, d))) w' F' He' (σ.set i (some v)) H' := by
  have R' := R.step wd st
  refine ⟨wd, R'.st, by rw [List.length_set, List.length_set]; exact R.len, fun j s e => ?_, fun j k d1 d2 a e1 e2 a1 a2 => ?_⟩
  · rcases get_set e with ⟨rfl, rfl⟩ | ⟨hj, e'⟩
    · have hi : i < δ.length := by
        have := (List.getElem?_eq_some_iff.mp e).1
        simpa using this
      refine ⟨some v, List.getElem?_set_self (by rw [R.len]; exact hi), ?_⟩
      cases b with
      | false => exact ⟨v, rfl, r⟩
      | true =>
        obtain ⟨a, o, e, ho, n, m, f, q⟩ := r
        exact ⟨a, o, by rw [e], ho, n, m, Classical.byContradiction fun q => R.st.dom a q f, q⟩
    · obtain ⟨u, hu, q⟩ := R'.sl j s e'
      exact ⟨u, by rw [List.getElem?_set_ne hj]; exact hu, q⟩
  · have key : ∀ (j : Nat) (d1 : D) (a : Addr), i ≠ j → δ[j]? = some (some (true, d1)) → σ[j]? = some (some (.ref a)) → H a ≠ none := by
      intro j d1 a _ e1 a1
      obtain ⟨u, hu, a', o, e, ho, _⟩ := R.sl j _ e1
      rw [a1] at hu
      cases hu
      cases e
      rw [ho]; exact fun q => nomatch q
    rcases get_set e1 with ⟨hj, x1⟩ | ⟨hj, e1'⟩ <;> rcases get_set e2 with ⟨hk, x2⟩ | ⟨hk, e2'⟩
    · exact hj.symm.trans hk
    · subst hj
      cases x1
      obtain ⟨a0, o, e, ho, n, m, f, q⟩ := r
      rcases get_set a1 with ⟨_, y⟩ | ⟨hh, _⟩
      · cases y
        cases e
        rw [List.getElem?_set_ne hk] at a2
        exact absurd f (key k d2 a hk e2' a2)
      · exact absurd rfl hh
    · subst hk
      cases x2
      obtain ⟨a0, o, e, ho, n, m, f, q⟩ := r
      rcases get_set a2 with ⟨_, y⟩ | ⟨hh, _⟩
      · cases y
        cases e
        rw [List.getElem?_set_ne hj] at a1
        exact absurd f (key j d1 a hj e1' a1)
      · exact absurd rfl hh
    · rw [List.getElem?_set_ne hj] at a1
      rw [List.getElem?_set_ne hk] at a2
      exact R.inj j k d1 d2 a e1' e2' a1 a2
theorem Rel.put (R : Rel z δ w F He σ H) (r : DR z.K F v d) : Rel z (δ.set i (some (false, d))) w F He (σ.set i (some v)) H := R.assign (b := false) R.wd .refl r
/-- an own container is written -/
theorem Rel.write {a : Addr} {o' : HO} {d' : D} (R : Rel z δ w F He σ H) (e : δ[i]? = some (some (true, d))) (hs : σ[i]? = some (some (.ref a))) (r : OR z.K F o' d') : Rel z (δ.set i (some (true, d'))) w F He σ (upd H a o') := by
  obtain ⟨u, hu, a', o, ea, ho, n, m, f, q⟩ := R.sl i _ e
  rw [hs] at hu
  cases hu
  cases ea
  have hne : ∀ (b : Addr) (u : HO), F b = some u → b ≠ a := fun b u h z => by subst z; rw [n] at h; cases h
  have hne2 : ∀ (b : Addr) (u : HO), He b = some u → b ≠ a := fun b u h z => by subst z; rw [m] at h; cases h
  refine ⟨⟨fun b u h => by rw [upd_ne (hne b u h)]; exact R.wd.sf b u h, fun b u h => by rw [upd_ne (hne2 b u h)]; exact R.wd.sh b u h, R.wd.dj, R.wd.ex⟩,
    ⟨R.st.fz, R.st.fzN, R.st.heN, fun b u h x => by
      rw [upd_ne (fun z => by subst z; rw [f] at h; cases h)]; exact R.st.keep b u h x, fun b h => by
      by_cases hb : b = a
      · subst hb; exact absurd f h
      · rw [upd_ne hb]; exact R.st.dom b h, fun b xs e => by
      by_cases hb : b = a
      · subst hb; exact .inl f
      · rw [upd_ne hb] at e; exact R.st.tp b xs e⟩, by rw [List.length_set]; exact R.len, fun j s es => ?_, fun j k d1 d2 c e1 e2 a1 a2 => ?_⟩
  · rcases get_set es with ⟨rfl, rfl⟩ | ⟨hj, e'⟩
    · exact ⟨_, hs, a, o', rfl, upd_same, n, m, f, r⟩
    · obtain ⟨u, hu, q'⟩ := R.sl j s e'
      refine ⟨u, hu, ?_⟩
      match s, q' with
      | none, _ => exact True.intro
      | some (false, d1), q' => exact q'
      | some (true, d1), ⟨c, oc, ec, hc, nc, mc, fc, qc⟩ =>
        refine ⟨c, oc, ec, ?_, nc, mc, fc, qc⟩
        have hca : c ≠ a := fun z => by
          subst z
          rw [ec] at hu
          exact hj (R.inj i j d d1 c e e' hs hu)
        rw [upd_ne hca]; exact hc
  · have h1 : ∃ x, δ[j]? = some (some (true, x)) := by
      rcases get_set e1 with ⟨rfl, _⟩ | ⟨_, e'⟩
      · exact ⟨_, e⟩
      · exact ⟨_, e'⟩
    have h2 : ∃ x, δ[k]? = some (some (true, x)) := by
      rcases get_set e2 with ⟨rfl, _⟩ | ⟨_, e'⟩
      · exact ⟨_, e⟩
      · exact ⟨_, e'⟩
    obtain ⟨x1, h1⟩ := h1
    obtain ⟨x2, h2⟩ := h2
    exact R.inj j k x1 x2 c h1 h2 a1 a2
/-- an own container is frozen -/
def frzD (δ : DSt) (i : Nat) : DSt := match δ[i]? with
  | some (some (_, d)) => δ.set i (some (false, d))
  | _ => δ
theorem Rel.frz (R : Rel z δ w F He σ H) (i : Nat) : ∃ F', Rel z (frzD δ i) w F' He σ H ∧ Same F F' := by
  unfold frzD
  split
  · next b d e =>
    obtain ⟨u, hu, q⟩ := R.sl i _ e
    cases b with
    | false =>
      refine ⟨F, ?_⟩
      have e2 : δ.set i (some (false, d)) = δ := by
        apply List.ext_getElem?
        intro j
        by_cases hj : i = j
        · subst hj
          rw [List.getElem?_set_self (List.getElem?_eq_some_iff.mp e).1, e]
        · rw [List.getElem?_set_ne hj]
      rw [e2]; exact ⟨R, Same.refl _⟩
    | true =>
      obtain ⟨a, o, rfl, ho, n, m, f, q⟩ := q
      refine ⟨upd F a o, ⟨R.wd.freeze ho n m, R.st.freeze n f, by rw [List.length_set]; exact R.len, fun j s es => ?_, fun j k d1 d2 c e1 e2 a1 a2 => ?_⟩, same_upd n⟩
      · rcases get_set es with ⟨rfl, rfl⟩ | ⟨hj, e'⟩
        · exact ⟨_, hu, .ref a, rfl, (q.mono (same_upd n)).frozen upd_same⟩
        · obtain ⟨u, hu', q'⟩ := R.sl j s e'
          refine ⟨u, hu', ?_⟩
          match s, q' with
          | none, _ => exact True.intro
          | some (false, d1), ⟨x, ex, qx⟩ => exact ⟨x, ex, qx.mono (same_upd n)⟩
          | some (true, d1), ⟨c, oc, ec, hc, nc, mc, fc, qc⟩ =>
            have hca : c ≠ a := fun z => by
              subst z
              rw [ec] at hu'
              exact hj (R.inj i j d d1 c e e' hu hu')
            exact ⟨c, oc, ec, hc, by rw [upd_ne hca]; exact nc, mc, fc, qc.mono (same_upd n)⟩
      · rcases get_set e1 with ⟨_, x⟩ | ⟨_, e1'⟩
        · cases x
        · rcases get_set e2 with ⟨_, x⟩ | ⟨_, e2'⟩
          · cases x
          · exact R.inj j k d1 d2 c e1' e2' a1 a2
  · exact ⟨F, R, Same.refl _⟩
end

/-! ### statements -/
section
variable {X : Cx} {z : Ent} {pos : Pos}
def dNext  : DS := fun E δ w => E.nx δ w
def dSeq  (t u : DS) : DS := fun E δ w => t { E with nx := u E } δ w
theorem jss_nil : JSs X z [] dNext := PSs.imp pss_nil fun D σ H ⟨δ, w, F, He, E, R, q, c⟩ => c.nx _ _ _ _ _ _ q R (Same.refl _)
theorem jss_cons {st : Stmt} {rest : List Stmt} {t u : DS} (h1 : JS X z st t) (h2 : JSs X z rest u) : JSs X z (st :: rest) (dSeq t u) := PSs.imp (pss_cons h1 h2) fun D σ H ⟨δ, w, F, He, E, R, q, c⟩ =>
  ⟨δ, w, F, He, _, R, q, ⟨fun δ' w' F' He' σ' H' n R' s' => ⟨δ', w', F', He', E, R', n, c.mono s'⟩, c.rt, c.bk, c.ct⟩⟩
theorem jss_one {st : Stmt} {t : DS} (h : JS X z st t) : JSs X z [st] t := pss_one h
def dFrz  (i : Nat) (t : DS) : DS := fun E δ w => t E (frzD δ i) w
theorem js_frz {st : Stmt} {t : DS} (i : Nat) (h : JS X z st t) : JS X z st (dFrz i t) := PS.imp h fun D σ H ⟨δ, w, F, He, E, R, q, c⟩ => let ⟨F', R', s'⟩ := R.frz i; ⟨_, w, F', He, E, R', q, c.mono s'⟩
/-- x = e; the container is one's own from then on, or it isn't -/
def dSet  (own : Bool) (i : Nat) (t : DX) : DS := fun E δ w => t δ w fun b d w1 => E.nx (δ.set i (some (b && own, d))) w1
theorem asg_set {own : Bool} {i : Nat} {t : DX} {D : Ends} {σ : St} {H : Hp} (h : liftS z (dSet own i t) D σ H) : tAsg (liftX z t) (gName i) D σ H := by
  obtain ⟨δ, w, F, He, E, R, q, c⟩ := h
  refine ⟨δ, w, F, He, _, R, q, fun b d w1 q1 v H1 F1 He1 wd1 st1 r1 => ?_⟩
  cases own with
  | true => rw [Bool.and_true] at q1; exact c.nx _ _ _ _ _ _ q1 (R.assign wd1 st1 r1) st1.fz
  | false =>
    rw [Bool.and_false] at q1
    obtain ⟨F2, st2, wd2, r2, _⟩ := r1.thaw st1 wd1
    exact c.nx _ _ _ _ _ _ q1 (R.assign (b := false) wd2 st2 r2) st2.fz
theorem js_set {i : Nat} {x : Str} {e : Expr} {t : DX} {pos' : Pos} (own : Bool) (hN : X.N.Nodup) (he : JX X z e t) (hi : X.N[i]? = some x := by rfl) (hx : Loc X.env.scope x := by first | exact Or.inl rfl | exact Or.inr rfl)
    (hs : swapsWith e (some (.Name x pos')) pos.line X.env = pure false := by rfl) (hf : X.fn x = true ∨ X.env.scope.names.lookup x = some .local := by first | exact .inl rfl | exact .inr rfl) : JS X z (.Assign [.Name x pos'] e pos) (dSet own i t) :=
  PS.imp (ps_set hN hi hx he hs hf) fun _ _ _ h => asg_set h
/-- x op= e, numbers or texts -/
def dAug  (i : Nat) (sem : D → D → (Bool → D → Prop) → Prop) (t : DO) : DS := fun E δ w => match δ[i]? with
  | some (some (false, d)) => t δ w fun e w1 => sem d (res w1 e) fun b r => E.nx (δ.set i (some (b, r))) w1
  | _ => False
theorem js_aug {i : Nat} {x : Str} {e : Expr} {t : DO} {op : Operator} {r : R2} {sem : D → D → (Bool → D → Prop) → Prop} {pos' : Pos} (ho : OpR X (inplaceOp op) r) (hs : Sem2 z r sem) (hN : X.N.Nodup) (he : JO X z e t) (hi : X.N[i]? = some x := by rfl) (hx : Loc X.env.scope x := by first | exact Or.inl rfl | exact Or.inr rfl)
    (hf : X.fn x = true ∨ X.env.scope.names.lookup x = some .local := by first | exact .inl rfl | exact .inr rfl) : JS X z (.AugAssign (.Name x pos') op e pos) (dAug i sem t) :=
  PS.imp (ps_aug (ti := r) hN hi hx he (fun pins s σ H x y v u Q I rx ry h => augR ho I rx ry h) hf) fun D σ H ⟨δ, w, F, He, E, R, q, c⟩ => by
    unfold dAug at q
    split at q
    · next d e =>
      obtain ⟨u, hu, v, rfl, rv⟩ := R.sl i _ e
      refine ⟨v, hu, δ, w, F, He, _, R, q, fun d2 w1 q1 y H1 F1 He1 wd1 st1 r1 => ?_⟩
      refine hs w1 F1 He1 H1 v y d _ _ _ wd1 (.inl (rv.mono st1.fz)) (res_ok wd1.ex wd1.sh r1) q1 fun b d' p v' H2 F2 He2 wd2 st2 rr => ?_
      exact c.nx _ _ _ _ _ _ p (R.assign wd2 (st1.trans st2) (rr.base st1)) (st1.trans st2).fz
    · exact q.elim
def rAddI : R2 := fun x y H Q => (∃ i j, x = .int i ∧ y = .int j ∧ Q (.int (i + j)) H) ∨ ∃ i j, x = .str i ∧ y = .str j ∧ i.length + j.length ≤ sizeLine ∧ Q (.str (i ++ j)) H
theorem iop_addI : OpR X (inplaceOp .Add) rAddI := iop_add.or iop_add_str
def sAddI (d e : D) (P : Bool → D → Prop) : Prop := match d, e with
  | .int i, .int j => P false (.int (i + j))
  | .str x, .str y => x.length + y.length ≤ sizeLine ∧ P false (.str (x ++ y))
  | _, _ => False
theorem sem_addI : Sem2 z rAddI sAddI := fun w F He H x y d e P Q wd dx dy q k => by
  unfold sAddI at q
  split at q
  · exact .inl ⟨_, _, dx.int, dy.int, k _ _ q _ H F He wd .refl (.int _)⟩
  · exact .inr ⟨_, _, dx.str, dy.str, q.1, k _ _ q.2 _ H F He wd .refl (.str _)⟩
  · exact q.elim
/-- a call as a statement -/
def dDrop  (t : DX) : DS := fun E δ w => t δ w fun _ _ w1 => E.nx δ w1
theorem js_expr {e : Expr} {t : DX} (he : JX X z e t) (hs : swapsWith e none pos.line X.env = pure false := by rfl) : JS X z (.Expr e pos) (dDrop t) := PS.imp (ps_expr he hs) fun D σ H ⟨δ, w, F, He, E, R, q, c⟩ =>
  ⟨δ, w, F, He, _, R, q, fun b d w1 q1 v H1 F1 He1 wd1 st1 r1 => c.nx _ _ _ _ _ _ q1 (R.step wd1 st1) st1.fz⟩
def dRet  (t : DX) : DS := fun E δ w => t δ w E.rt
theorem js_ret {e : Expr} {t : DX} (he : JX X z e t) : JS X z (.Return (some e) pos) (dRet t) := PS.imp (ps_ret he) fun D σ H ⟨δ, w, F, He, E, R, q, c⟩ =>
  ⟨δ, w, F, He, _, R, q, fun b d w1 q1 v H1 F1 He1 wd1 st1 r1 => c.rt _ _ _ q1 v H1 F1 He1 wd1 (R.st.trans st1) (r1.base R.st)⟩
def dRetV  (i : Nat) : DS := fun E δ w => match δ[i]? with
  | some (some (b, d)) => E.rt b d w
  | _ => False
theorem js_retV {i : Nat} {e : Expr} (he : PE X e (tVar i)) : JS X z (.Return (some e) pos) (dRetV i) := PS.imp (ps_ret he) fun D σ H ⟨δ, w, F, He, E, R, q, c⟩ => by
  unfold dRetV at q
  split at q
  · next b d e =>
    obtain ⟨u, hu, r⟩ := R.sl i _ e
    cases b with
    | false => obtain ⟨v, rfl, r⟩ := r; exact ⟨v, hu, c.rt _ _ _ q v H F He R.wd R.st r⟩
    | true => obtain ⟨a, o, rfl, ho, n, m, f, r⟩ := r; exact ⟨.ref a, hu, c.rt _ _ _ q _ H F He R.wd R.st ⟨a, o, rfl, ho, n, m, f, r⟩⟩
  · exact q.elim
def dRetN  : DS := fun E _ w => E.rt false .non w
theorem js_retN : JS X z (.Return none pos) dRetN := PS.imp ps_retN fun D σ H ⟨δ, w, F, He, E, R, q, c⟩ => c.rt _ _ _ q _ H F He R.wd R.st .non
def dBreak  : DS := fun E δ w => E.bk δ w
def dCont  : DS := fun E δ w => E.ct δ w
theorem js_break : JS X z (.Break pos) dBreak := PS.imp ps_break fun D σ H ⟨δ, w, F, He, E, R, q, c⟩ => c.bk _ _ _ _ _ _ q R (Same.refl _)
theorem js_cont : JS X z (.Continue pos) dCont := PS.imp ps_continue fun D σ H ⟨δ, w, F, He, E, R, q, c⟩ => c.ct _ _ _ _ _ _ q R (Same.refl _)
theorem js_pass : JS X z (.Pass pos) dNext := PS.imp ps_pass fun D σ H ⟨δ, w, F, He, E, R, q, c⟩ => c.nx _ _ _ _ _ _ q R (Same.refl _)
def dIf  (c : DTs_) (t u : DS) : DS := fun E δ w => c δ w fun k w1 => if k = true then t E δ w1 else u E δ w1
theorem js_if {c : Expr} {a b : List Stmt} {tc : DTs_} {t u : DS} (hc : JT X z c tc) (ha : JSs X z a t) (hb : JSs X z b u) : JS X z (.If c a b pos) (dIf tc t u) := PS.imp (ps_if hc ha hb) fun D σ H ⟨δ, w, F, He, E, R, q, cn⟩ => by
  refine ⟨δ, w, F, He, _, R, q, fun k w1 q1 H1 F1 He1 wd1 st1 => ?_⟩
  cases k <;> exact ⟨δ, w1, F1, He1, E, R.step wd1 st1, q1, cn.mono st1.fz⟩
/-- while: n turns at most -/
def wN  (c : DTs_) (t : DS) (E : DEnds) : Nat → DSt → Om → Prop
  | 0, _, _ => False
  | n + 1, δ, w => c δ w fun k w1 => if k = true then t { E with nx := wN c t E n, ct := wN c t E n, bk := E.nx } δ w1 else E.nx δ w1
def dWhile  (c : DTs_) (t : DS) : DS := fun E δ w => ∃ n, wN c t E n δ w
theorem js_while {c : Expr} {body : List Stmt} {tc : DTs_} {t : DS} (hp : PassesOwn (model X.prog X.w) X.A X.env X.xe) (hc : JT X z c tc) (hb : JSs X z body t) : JS X z (.While c body [] pos) (dWhile tc t) :=
  PS.imp (ps_while hp hc hb) fun D σ H ⟨δ, w, F, He, E, R, q, cn⟩ => by
    obtain ⟨n, q⟩ := q
    refine ⟨fun m σ H => ∃ δ w F' He, Rel z δ w F' He σ H ∧ Same F F' ∧ wN tc t E m δ w, ⟨n, δ, w, F, He, R, Same.refl _, q⟩, ?_⟩
    rintro m σ H ⟨δ, w, F', He, R, s', q⟩
    cases m with
    | zero => exact q.elim
    | succ m =>
      refine ⟨δ, w, F', He, _, R, q, fun k w1 q1 H1 F1 He1 wd1 st1 => ?_⟩
      cases k with
      | false => exact cn.nx _ _ _ _ _ _ q1 (R.step wd1 st1) (s'.trans st1.fz)
      | true =>
        have s1 := s'.trans st1.fz
        refine ⟨fun σ' H' => ∃ δ w F' He, Rel z δ w F' He σ' H' ∧ Same F F' ∧ wN tc t E m δ w, fun σ' H' h => ⟨m, Nat.lt_succ_self m, h⟩, ?_⟩
        exact ⟨δ, w1, F1, He1, _, R.step wd1 st1, q1, ⟨fun δ' w' F' He' σ' H' p r s => ⟨δ', w', F', He', r, s1.trans s, p⟩, cn.rt, fun δ' w' F' He' σ' H' p r s => cn.nx _ _ _ _ _ _ p r (s1.trans s), fun δ' w' F' He' σ' H' p r s => ⟨δ', w', F', He', r, s1.trans s, p⟩⟩⟩
end
end Lv

namespace Lv
open PySem PySem.Spec L2
section
variable {X : Cx} {z : Ent} {pos : Pos}

/-! ### containers changed in place: x.m(e), x[i] = e -/
/-- what a name's own container is, at a state -/
theorem own_at {δ : DSt} {w : Om} {F He H : Hp} {σ : St} {i : Nat} {d : D} (R : Rel z δ w F He σ H) (e : δ[i]? = some (some (true, d))) : ∃ a o, σ[i]? = some (some (.ref a)) ∧ H a = some o ∧ He a = none ∧ OR z.K F o d := by
  obtain ⟨u, hu, a, o, rfl, ho, n, m, f, q⟩ := R.sl i _ e
  exact ⟨a, o, hu, ho, m, q⟩
/-- x.append(e) -/
def dApp  (i : Nat) (t : DX) : DS := fun E δ w => match δ[i]? with
  | some (some (true, .lst ds)) => t δ w fun _ d w1 => ds.length < sizeLine ∧ E.nx (δ.set i (some (true, .lst (ds ++ [d])))) w1
  | _ => False
theorem js_app {i : Nat} {o e : Expr} {t : DX} {apos cpos : Pos} (hK : z.K = X.K) (ho : PE X o (tVar i)) (he : JX X z e t)
    (hbase : attributeBase o "append" X.env (eval o X.env) = eval o X.env := by rfl)
    (hfew : ((backTo cpos (starEach [e] X.env)).all (fun x => !x.1) && (backToKw cpos (keywordEach [] X.env)).all (fun x => x.1.isSome)
      && decide (([e] : List Expr).length + ([] : List Keyword).length + (if ([] : List Keyword).isEmpty then 0 else 1) < 30)) = true := by rfl)
    (hline : (apos.endLine == cpos.line) = true := by rfl) (hs : starEach [e] X.env = (false, eval e X.env) :: starEach [] X.env := by rfl) (hplain : (backTo cpos (starEach [] X.env)).any (·.1) = false := by rfl)
    (hsw : swapsWith (.Call (.Attribute o "append" apos) [e] [] cpos) none pos.line X.env = pure false := by rfl) : JS X z (.Expr (.Call (.Attribute o "append" apos) [e] [] cpos) pos) (dApp i t) :=
  PS.imp (ps_expr (pe_bm PySem.F.plainAttrs_list PySem.F.slot_list_append PySem.F.type_list_append mt_append ho (pa_cons he pa_nil hs) hbase hfew hline hs hplain) hsw) fun D σ H ⟨δ, w, F, He, E, R, q, c⟩ => by
    unfold dApp at q
    split at q
    · next ds e =>
      obtain ⟨a, ob, hs, ha, m, r⟩ := own_at R e
      cases r with
      | lst r =>
        refine ⟨.ref a, hs, .inl ⟨rfl, _, .of ha⟩, δ, w, F, He, _, R, q, fun b d w1 q1 v H1 F1 He1 wd1 st1 r1 => ?_⟩
        obtain ⟨F2, st2, wd2, r2, s2⟩ := r1.thaw st1 wd1
        have R2 := R.step wd2 st2
        refine ⟨a, _, v, rfl, rfl, st2.keep a _ ha m, by rw [r.length]; exact q1.1, ?_⟩
        exact c.nx _ _ _ _ _ _ q1.2 (R2.write e hs (.lst ((r.mono st2.fz).append (.cons r2 .nil)))) st2.fz
    · exact q.elim
/-- x.extend(e), e a list or a tuple -/
def dExt  (i : Nat) (t : DO) : DS := fun E δ w => match δ[i]? with
  | some (some (true, .lst ds)) => t δ w fun d w1 => match res w1 d with
    | .lst es => ds.length + es.length ≤ sizeLine ∧ E.nx (δ.set i (some (true, .lst (ds ++ es)))) w1
    | .tup es => ds.length + es.length ≤ sizeLine ∧ E.nx (δ.set i (some (true, .lst (ds ++ es)))) w1
    | _ => False
  | _ => False
theorem js_ext {i : Nat} {o e : Expr} {t : DO} {apos cpos : Pos} (hK : z.K = X.K) (ho : PE X o (tVar i)) (he : JO X z e t)
    (hbase : attributeBase o "extend" X.env (eval o X.env) = eval o X.env := by rfl)
    (hfew : ((backTo cpos (starEach [e] X.env)).all (fun x => !x.1) && (backToKw cpos (keywordEach [] X.env)).all (fun x => x.1.isSome)
      && decide (([e] : List Expr).length + ([] : List Keyword).length + (if ([] : List Keyword).isEmpty then 0 else 1) < 30)) = true := by rfl)
    (hline : (apos.endLine == cpos.line) = true := by rfl) (hs : starEach [e] X.env = (false, eval e X.env) :: starEach [] X.env := by rfl) (hplain : (backTo cpos (starEach [] X.env)).any (·.1) = false := by rfl)
    (hsw : swapsWith (.Call (.Attribute o "extend" apos) [e] [] cpos) none pos.line X.env = pure false := by rfl) : JS X z (.Expr (.Call (.Attribute o "extend" apos) [e] [] cpos) pos) (dExt i t) :=
  PS.imp (ps_expr (pe_bm PySem.F.plainAttrs_list PySem.F.slot_list_extend PySem.F.type_list_extend (MtR.or mt_extend mt_extendT) ho (pa_cons he pa_nil hs) hbase hfew hline hs hplain) hsw) fun D σ H ⟨δ, w, F, He, E, R, q, c⟩ => by
    unfold dExt at q
    split at q
    · next ds e =>
      obtain ⟨a, ob, hs, ha, m, r⟩ := own_at R e
      cases r with
      | lst r =>
        refine ⟨.ref a, hs, .inl ⟨rfl, _, .of ha⟩, δ, w, F, He, _, R, q, fun d w1 q1 v H1 F1 He1 wd1 st1 r1 => ?_⟩
        have R2 := R.step wd1 st1
        have r1 := res_ok wd1.ex wd1.sh r1
        generalize res w1 d = d at q1 r1
        split at q1
        · obtain ⟨b, vs, rfl, hb, rb⟩ := r1.lst wd1.sf
          refine .inl ⟨a, b, _, vs, rfl, rfl, st1.keep a _ ha m, hb, by rw [r.length, rb.length]; exact q1.1, ?_⟩
          exact c.nx _ _ _ _ _ _ q1.2 (R2.write e hs (.lst ((r.mono st1.fz).append rb))) st1.fz
        · obtain ⟨b, vs, rfl, hb, rb⟩ := r1.tup wd1.sf
          refine .inr ⟨a, b, _, vs, rfl, rfl, st1.keep a _ ha m, .of hb, by rw [r.length, rb.length]; exact q1.1, ?_⟩
          exact c.nx _ _ _ _ _ _ q1.2 (R2.write e hs (.lst ((r.mono st1.fz).append rb))) st1.fz
        · exact q1.elim
    · exact q.elim
/-- x.pop(), x.clear(), x.reverse() as statements -/
def dUpd0  (i : Nat) (f : List D → Option (List D)) : DS := fun E δ w => match δ[i]? with
  | some (some (true, .lst ds)) => match f ds with
    | some es => E.nx (δ.set i (some (true, .lst es))) w
    | none => False
  | _ => False
def fPop (ds : List D) : Option (List D) := if ds.isEmpty then none else some ds.dropLast
theorem js_pop {i : Nat} {o : Expr} {apos cpos : Pos} (hK : z.K = X.K) (ho : PE X o (tVar i))
    (hbase : attributeBase o "pop" X.env (eval o X.env) = eval o X.env := by rfl) (hline : (apos.endLine == cpos.line) = true := by rfl)
    (hsw : swapsWith (.Call (.Attribute o "pop" apos) [] [] cpos) none pos.line X.env = pure false := by rfl) : JS X z (.Expr (.Call (.Attribute o "pop" apos) [] [] cpos) pos) (dUpd0 i fPop) :=
  PS.imp (ps_expr (pe_bm0 PySem.F.plainAttrs_list PySem.F.slot_list_pop PySem.F.type_list_pop mt_pop ho hbase hline) hsw) fun D σ H ⟨δ, w, F, He, E, R, q, c⟩ => by
    unfold dUpd0 fPop at q
    split at q
    · next ds e =>
      obtain ⟨a, ob, hs, ha, m, r⟩ := own_at R e
      cases r with
      | @lst vs _ r =>
        by_cases h0 : ds.isEmpty = true
        · rw [if_pos h0] at q; exact q.elim
        · rw [if_neg h0] at q
          have hl := r.length
          have h1 : vs.length - 1 < vs.length := by
            have : ds.length ≠ 0 := fun z => h0 (by simp at z; simp [z])
            omega
          refine ⟨.ref a, hs, .inl ⟨rfl, _, .of ha⟩, a, _, vs[vs.length - 1], rfl, rfl, ha, by simp [h1], ?_⟩
          exact c.nx _ _ _ _ _ _ q (R.write e hs (.lst r.dropLast)) (Same.refl _)
    · exact q.elim
theorem js_clear {i : Nat} {o : Expr} {apos cpos : Pos} (hK : z.K = X.K) (ho : PE X o (tVar i))
    (hbase : attributeBase o "clear" X.env (eval o X.env) = eval o X.env := by rfl) (hline : (apos.endLine == cpos.line) = true := by rfl)
    (hsw : swapsWith (.Call (.Attribute o "clear" apos) [] [] cpos) none pos.line X.env = pure false := by rfl) : JS X z (.Expr (.Call (.Attribute o "clear" apos) [] [] cpos) pos) (dUpd0 i fun _ => some []) :=
  PS.imp (ps_expr (pe_bm0 PySem.F.plainAttrs_list PySem.F.slot_list_clear PySem.F.type_list_clear mt_clear ho hbase hline) hsw) fun D σ H ⟨δ, w, F, He, E, R, q, c⟩ => by
    unfold dUpd0 at q
    split at q
    · next ds e =>
      obtain ⟨a, ob, hs, ha, m, r⟩ := own_at R e
      cases r with
      | @lst vs _ r => exact ⟨.ref a, hs, .inl ⟨rfl, _, .of ha⟩, a, _, rfl, rfl, ha, c.nx _ _ _ _ _ _ q (R.write e hs (.lst .nil)) (Same.refl _)⟩
    · exact q.elim
theorem js_reverse {i : Nat} {o : Expr} {apos cpos : Pos} (hK : z.K = X.K) (ho : PE X o (tVar i))
    (hbase : attributeBase o "reverse" X.env (eval o X.env) = eval o X.env := by rfl) (hline : (apos.endLine == cpos.line) = true := by rfl)
    (hsw : swapsWith (.Call (.Attribute o "reverse" apos) [] [] cpos) none pos.line X.env = pure false := by rfl) : JS X z (.Expr (.Call (.Attribute o "reverse" apos) [] [] cpos) pos) (dUpd0 i fun ds => some ds.reverse) :=
  PS.imp (ps_expr (pe_bm0 PySem.F.plainAttrs_list PySem.F.slot_list_reverse PySem.F.type_list_reverse mt_reverse ho hbase hline) hsw) fun D σ H ⟨δ, w, F, He, E, R, q, c⟩ => by
    unfold dUpd0 at q
    split at q
    · next ds e =>
      obtain ⟨a, ob, hs, ha, m, r⟩ := own_at R e
      cases r with
      | @lst vs _ r => exact ⟨.ref a, hs, .inl ⟨rfl, _, .of ha⟩, a, _, rfl, rfl, ha, c.nx _ _ _ _ _ _ q (R.write e hs (.lst r.reverse)) (Same.refl _)⟩
    · exact q.elim
/-- x[k] = e -/
def sPut (c k d : D) (P : D → Prop) : Prop := match c, k with
  | .lst ds, .int j => ∃ n, ixN ds.length j = some n ∧ P (.lst (ds.set n d))
  | .dK kvs, .int j => kvs.length < sizeLine ∧ P (.dK (putD kvs (.inl j) d))
  | .dK kvs, .str j => kvs.length < sizeLine ∧ P (.dK (putD kvs (.inr j) d))
  | .dT kvs, .tup ks => ∃ js, ks = js.map kD ∧ kvs.length < sizeLine ∧ P (.dT (putD kvs js d))
  | _, _ => False
def dPut  (i : Nat) (tk : DO) (t : DX) : DS := fun E δ w => match δ[i]? with
  | some (some (true, c)) => t δ w fun _ d w1 => tk δ w1 fun k w2 => sPut c k d fun c' => E.nx (δ.set i (some (true, c'))) w2
  | _ => False
theorem PSet.or {t t' : TSet} (h : PSet X t) (h' : PSet X t') : PSet X (fun o i v H Q => t o i v H Q ∨ t' o i v H Q) := fun pins s σ H o i v ov iv u Q I r1 r2 r3 q => by
  rcases q with q | q
  · exact h pins s σ H o i v ov iv u Q I r1 r2 r3 q
  · exact h' pins s σ H o i v ov iv u Q I r1 r2 r3 q
theorem js_put {i : Nat} {o k e : Expr} {tk : DO} {t : DX} {spos : Pos} (hK : z.K = X.K) (hu : X.A.units + 1 < cLine) (ho : PE X o (tVar i)) (hk : JO X z k tk) (he : JX X z e t)
    (hs : swapsWithSole [.Subscript o k spos] e pos.line X.env = pure false := by rfl) (hw : swappedStores [.Subscript o k spos] e X.env = pure none := by rfl)
    (h1 : (assignEach [.Subscript o k spos] X.env).map (·.2) = [assign (.Subscript o k spos) X.env] := by rfl)
    (ha : ∀ v, assign (.Subscript o k spos) X.env v = (do
      let ov ← holding [v] (eval o X.env)
      let iv ← holding [v, ov] (eval k X.env)
      standAt spos
      holding [v, ov, iv] (setItem ov iv v)
      release [v, ov, iv] []) := by intro _; rfl) : JS X z (.Assign [.Subscript o k spos] e pos) (dPut i tk t) :=
  PS.imp (ps_asg he (pg_sub ho hk (PSet.or set_list (set_dict hu)) ha) hs hw h1) fun D σ H ⟨δ, w, F, He, E, R, q, c⟩ => by
    unfold dPut at q
    split at q
    · next c0 e0 =>
      refine ⟨δ, w, F, He, _, R, q, fun b d w1 q1 v H1 F1 He1 wd1 st1 r1 => ?_⟩
      obtain ⟨F2, st2, wd2, r2, s2⟩ := r1.thaw st1 wd1
      have R2 := R.step wd2 st2
      obtain ⟨a, ob, hs, ha, m, r⟩ := own_at R2 e0
      refine ⟨.ref a, hs, δ, w1, F2, He1, _, R2, q1, fun kd w2 q2 kv H3 F3 He3 wd3 st3 r3 => ?_⟩
      have R3 := R2.step wd3 st3
      have r3 := r3.dt
      have r2' := r2.mono st3.fz
      have ha3 := st3.keep a _ ha m
      have rr := r.mono st3.fz
      unfold sPut at q2
      split at q2
      · obtain ⟨n, hn, q2⟩ := q2
        cases rr with
        | lst rr =>
          exact .inl ⟨a, _, _, n, rfl, r3.int, ha3, by rw [rr.length]; exact hn, c.nx _ _ _ _ _ _ q2 (R3.write e0 hs (.lst (rr.set r2' n))) (st2.trans st3).fz⟩
      · cases rr with
        | dK rr =>
          have := r3.int; subst kv
          exact .inr ⟨a, _, rfl, DPut.k (k := .inl _) ha3 (by rw [rr.length]; exact q2.1), c.nx _ _ _ _ _ _ q2.2 (R3.write e0 hs (.dK (rr.put r2'))) (st2.trans st3).fz⟩
      · cases rr with
        | dK rr =>
          have := r3.str; subst kv
          exact .inr ⟨a, _, rfl, DPut.k (k := .inr _) ha3 (by rw [rr.length]; exact q2.1), c.nx _ _ _ _ _ _ q2.2 (R3.write e0 hs (.dK (rr.put r2'))) (st2.trans st3).fz⟩
      · obtain ⟨js, rfl, hl, q2⟩ := q2
        cases rr with
        | dT rr =>
          obtain ⟨b, us, rfl, hb, rb⟩ := r3.tup wd3.sf
          have := rb.keys; subst us
          exact .inr ⟨a, _, rfl, DPut.t ha3 hb (by rw [rr.length]; exact hl), c.nx _ _ _ _ _ _ q2 (R3.write e0 hs (.dT (rr.put r2'))) (st2.trans st3).fz⟩
      · exact q2.elim
    · exact q.elim
end
end Lv

namespace Lv
open PySem PySem.Spec L2

/-! ### targets -/
/-- what a target does with data -/
abbrev DG := D → DSt → (DSt → Prop) → Prop
def GOk (z : Ent) (G : TG) (g : DG) : Prop := ∀ (δ : DSt) (w : Om) (F He H : Hp) (σ : St) (x : V) (d : D) (P : DSt → Prop) (Q : St → Hp → Prop), Rel z δ w F He σ H → DR z.K F x d → g d δ P → (∀ δ' σ', P δ' → Rel z δ' w F He σ' H → Q σ' H) → G x σ H Q
def gN (i : Nat) : DG := fun d δ P => P (δ.set i (some (false, d)))
theorem gok_name {z : Ent} (i : Nat) : GOk z (gName i) (gN i) := fun δ w F He H σ x d P Q R r q k => k _ _ q (R.put r)
abbrev DGs := List D → DSt → (DSt → Prop) → Prop
def GsOk (z : Ent) (G : TGs) (g : DGs) : Prop := ∀ (δ : DSt) (w : Om) (F He H : Hp) (σ : St) (xs : List V) (ds : List D) (P : DSt → Prop) (Q : St → Hp → Prop), Rel z δ w F He σ H → DRs z.K F xs ds → g ds δ P → (∀ δ' σ', P δ' → Rel z δ' w F He σ' H → Q σ' H) → G xs σ H Q
def gsN : DGs := fun ds δ P => match ds with
  | [] => P δ
  | _ => False
def gsC (g : DG) (gs : DGs) : DGs := fun ds δ P => match ds with
  | d :: ds => g d δ fun δ1 => gs ds δ1 P
  | [] => False
theorem gsok_nil {z : Ent} : GsOk z gNil gsN := fun δ w F He H σ xs ds P Q R r q k => by
  cases ds with
  | nil => cases r; exact ⟨rfl, k _ _ q R⟩
  | cons d ds => exact q.elim
theorem gsok_cons {z : Ent} {G : TG} {Gs : TGs} {g : DG} {gs : DGs} (h : GOk z G g) (hs : GsOk z Gs gs) : GsOk z (gCons G Gs) (gsC g gs) := fun δ w F He H σ xs ds P Q R r q k => by
  cases ds with
  | nil => exact q.elim
  | cons d ds =>
    cases r with
    | cons r rs => exact ⟨_, _, rfl, h δ w F He H σ _ d _ _ R r q fun δ1 σ1 q1 R1 => hs δ1 w F He H σ1 _ ds P Q R1 rs q1 k⟩
/-- a, b, .. = a tuple of n -/
def gT (n : Nat) (gs : DGs) : DG := fun d δ P => match d with
  | .tup ds => ds.length = n ∧ gs ds δ P
  | _ => False
theorem gok_tup {z : Ent} {Gs : TGs} {gs : DGs} {K : PySem.W.Frag} {n : Nat} (h : GsOk z Gs gs) : GOk z (gTup K n Gs) (gT n gs) := fun δ w F He H σ x d P Q R r q k => by
  unfold gT at q
  split at q
  · cases r with
    | tup e rs => exact ⟨_, _, rfl, .of (R.wd.sf _ _ e), by rw [rs.length]; exact q.1, h δ w F He H σ _ _ P Q R rs q.2 k⟩
  · exact q.elim
section
variable {X : Cx} {z : Ent} {pos : Pos}
/-- target = e -/
def dAsg  (t : DX) (g : DG) : DS := fun E δ w => t δ w fun _ d w1 => g d δ fun δ' => E.nx δ' w1
theorem js_asg {tg e : Expr} {t : DX} {G : TG} {g : DG} (he : JX X z e t) (hg : PG X tg G) (ok : GOk z G g) (hs : swapsWithSole [tg] e pos.line X.env = pure false := by rfl) (hw : swappedStores [tg] e X.env = pure none := by rfl)
    (h1 : (assignEach [tg] X.env).map (·.2) = [assign tg X.env] := by rfl) : JS X z (.Assign [tg] e pos) (dAsg t g) :=
  PS.imp (ps_asg he hg hs hw h1) fun D σ H ⟨δ, w, F, He, E, R, q, c⟩ => by
    refine ⟨δ, w, F, He, _, R, q, fun b d w1 q1 v H1 F1 He1 wd1 st1 r1 => ?_⟩
    obtain ⟨F2, st2, wd2, r2, s2⟩ := r1.thaw st1 wd1
    exact ok δ w1 F2 He1 H1 σ v d _ _ (R.step wd2 st2) r2 q1 fun δ' σ' q' R' => c.nx _ _ _ _ _ _ q' R' st2.fz
end

/-! ### what is walked -/
abbrev DI  := DSt → Om → (List D → Om → Prop) → Prop
structure ItOk (K : PySem.W.Frag) (J : It) (F : Hp) (ds : List D) : Prop where
  go : ∀ i H, Same F H → i < ds.length → J.go i H
  stop : ∀ H, Same F H → J.stop ds.length H
  yld : ∀ i H x H', Same F H → i < ds.length → J.yld i H x H' → (H' = H ∧ ∃ d, ds[i]? = some d ∧ DR K F x d) ∨ ∃ T vs es, x = .ref T ∧ H T = none ∧ H' = upd H T (.tup vs) ∧ ds[i]? = some (.tup es) ∧ DRs K F vs es
def liftI (z : Ent) (t : DI) : TI := fun σ H R => ∃ δ w F He P, Rel z δ w F He σ H ∧ t δ w P ∧ ∀ ds w', P ds w' → ∀ J H' F' He', Wd z.K w' F' He' H' → Step F He H F' He' H' → ItOk z.K J F' ds → R J H'
theorem PI.imp {X : Cx} {tg e : Expr} {t t' : TI} (h : PI X tg e t) (f : ∀ σ H R, t' σ H R → t σ H R) : PI X tg e t' := ⟨fun pins s σ H R I q => h.run pins s σ H R I (f σ H R q)⟩
theorem itok_list {K : PySem.W.Frag} {F : Hp} {a : Addr} {vs : List V} {ds : List D} (e : F a = some (.lst vs)) (r : DRs K F vs ds) : ItOk K (Itl K a) F ds where
  go := fun i H s h => let ⟨v, hv, _⟩ := r.get (List.getElem?_eq_getElem h); ⟨vs, v, .of (s _ _ e), hv⟩
  stop := fun H s => ⟨vs, .of (s _ _ e), by rw [r.length]; exact Nat.le_refl _⟩
  yld := fun i H x H' s h ⟨e1, y⟩ => .inl ⟨e1, by
    obtain ⟨d, hd, rd⟩ := r.getV (y vs (.of (s _ _ e)))
    exact ⟨d, hd, rd⟩⟩
theorem itok_tup {K : PySem.W.Frag} {F : Hp} {a : Addr} {vs : List V} {ds : List D} (e : F a = some (.tup vs)) (r : DRs K F vs ds) : ItOk K (Itt K a) F ds where
  go := fun i H s h => let ⟨v, hv, _⟩ := r.get (List.getElem?_eq_getElem h); ⟨vs, v, .of (s _ _ e), hv⟩
  stop := fun H s => ⟨vs, .of (s _ _ e), by rw [r.length]; exact Nat.le_refl _⟩
  yld := fun i H x H' s h ⟨e1, y⟩ => .inl ⟨e1, by
    obtain ⟨d, hd, rd⟩ := r.getV (y vs (.of (s _ _ e)))
    exact ⟨d, hd, rd⟩⟩
theorem itok_scr {K : PySem.W.Frag} {F : Hp} {a : Addr} {ns : List Int} (e : SqL K F a (ns.map V.int)) : ItOk K (Itl K a) F (ns.map .int) where
  go := fun i H s h => ⟨_, .int (ns[i]'(by simpa using h)), s.seq e, by rw [List.getElem?_map, List.getElem?_eq_getElem (by simpa using h)]; rfl⟩
  stop := fun H s => ⟨_, s.seq e, by simp⟩
  yld := fun i H x H' s h ⟨e1, y⟩ => .inl ⟨e1, by
    have h' : i < ns.length := by simpa using h
    have := y _ (s.seq e)
    rw [List.getElem?_map, List.getElem?_eq_getElem h'] at this
    cases this
    exact ⟨.int ns[i], by rw [List.getElem?_map, List.getElem?_eq_getElem h']; rfl, .int _⟩⟩
def strD (x : Str) : List D := x.cps.toList.map fun c => .str ⟨#[c]⟩
theorem itok_str {K : PySem.W.Frag} {F : Hp} {x : Str} : ItOk K (Its x) F (strD x) where
  go := fun i H s h => by
    have h' : i < x.cps.size := by simpa [strD] using h
    exact h'
  stop := fun H s => by simp [strD, Its]
  yld := fun i H v H' s h ⟨e1, c, hc, hv⟩ => .inl ⟨e1, .str ⟨#[c]⟩, by
    simp only [strD, List.getElem?_map, Array.getElem?_toList, hc]; rfl, by rw [hv]; exact .str _⟩
def rngD (lo : Int) (n : Nat) : List D := (List.range n).map fun k => .int (lo + (k : Nat))
theorem rngD_length (lo : Int) (n : Nat) : (rngD lo n).length = n := by simp [rngD]
theorem itok_rng {K : PySem.W.Frag} {F : Hp} {lo : Int} {n : Nat} : ItOk K (Itr lo n) F (rngD lo n) where
  go := fun i H s h => by
    have h' : i < n := by simpa [rngD] using h
    exact h'
  stop := fun H s => by simp [rngD, Itr]
  yld := fun i H v H' s h ⟨e1, hv⟩ => .inl ⟨e1, .int (lo + (i : Nat)), by
    have h' : i < n := by simpa [rngD] using h
    simp [rngD, h'], by rw [hv]; exact .int _⟩
section
variable {X : Cx} {z : Ent} {pos : Pos} {tg : Expr}
/-- for .. in a list, a tuple, a text, the script -/
def iAny (K : PySem.W.Frag) (te : TE) : TI := fun σ H R => te σ H fun x H1 => (∃ a, x = .ref a ∧ (∃ xs, SqL K H1 a xs) ∧ R (Itl K a) H1) ∨ (∃ a, x = .ref a ∧ (∃ xs, SqT K H1 a xs) ∧ R (Itt K a) H1) ∨ ∃ y, x = .str y ∧ R (Its y) H1
theorem pi_any {l : Expr} {te : TE} (hl : PE X l te) : PI X tg l (iAny X.K te) := by
  refine ⟨fun pins s σ H R I h => ?_⟩
  refine thn (hl.run pins s σ H _ I h) fun v s1 ⟨x, H1, I1, r1, q1⟩ => ?_
  rcases q1 with ⟨a, e, ⟨xs, hq⟩, q⟩ | ⟨a, e, ⟨xs, hq⟩, q⟩ | ⟨y, e, q⟩
  · subst e
    cases r1
    obtain ⟨its, rv, p, hz⟩ := I1.list hq
    refine wpAny_pyIter_list p.isList ?_
    refine ⟨s1.heap.objs.size, [s1.heap.objs.size], _, _, H1, rfl, I1.kept (t' := s1.toks) fun b o e => Heap.get?_push_of_some _ e, turn_list a _, ⟨_, Heap.get?_push_size _ rfl, rfl, rfl⟩, fun b hb => ?_, q⟩
    have e : b = s1.heap.objs.size := by simpa using hb
    subst e
    exact I1.fpOk (Nat.le_refl _) (I1.hok.fresh (Nat.le_refl _))
  · subst e
    cases r1
    obtain ⟨its, rv, p, hz⟩ := I1.tuple hq
    refine wpAny_pyIter_tuple (show s1.heap.IsTuple a its.toArray from p) ?_
    refine ⟨s1.heap.objs.size, [s1.heap.objs.size], _, _, H1, rfl, I1.kept (t' := s1.toks) fun b o e => Heap.get?_push_of_some _ e, turn_tuple a _, ⟨_, Heap.get?_push_size _ rfl, rfl, rfl⟩, fun b hb => ?_, q⟩
    have e : b = s1.heap.objs.size := by simpa using hb
    subst e
    exact I1.fpOk (Nat.le_refl _) (I1.hok.fresh (Nat.le_refl _))
  · subst e
    obtain ⟨t, rfl⟩ := r1
    cases ha : y.cps.all (· < 128)
    · exact PySem.wpAny_pyIter_wide ha (pi_one (tk := s1.toks) I1 _ (turn_str _ y t "str_iterator" (.inr rfl)) ⟨_, Heap.get?_push_size _ rfl, rfl, rfl⟩ q)
    · exact PySem.wpAny_pyIter_ascii ha (pi_one (tk := s1.toks) I1 _ (turn_str _ y t "str_ascii_iterator" (.inl rfl)) ⟨_, Heap.get?_push_size _ rfl, rfl, rfl⟩ q)
def dIt  (t : DX) : DI := fun δ w Q => t δ w fun _ d w1 => match d with
  | .lst ds => Q ds w1
  | .tup ds => Q ds w1
  | .scr ns => Q (ns.map .int) w1
  | .str x => Q (strD x) w1
  | _ => False
theorem ji_any {l : Expr} {t : DX} (hK : z.K = X.K) (hl : JX X z l t) : PI X tg l (liftI z (dIt t)) := PI.imp (pi_any hl) fun σ H R ⟨δ, w, F, He, P, Re, q, k⟩ => by
  refine ⟨δ, w, F, He, _, Re, q, fun b d w1 q1 v H1 F1 He1 wd1 st1 r1 => ?_⟩
  obtain ⟨F2, st2, wd2, r2, s2⟩ := r1.thaw st1 wd1
  rw [← hK]
  cases r2 with
  | lst e r => exact .inl ⟨_, rfl, ⟨_, .of (wd2.sf _ _ e)⟩, k _ _ q1 _ H1 F2 He1 wd2 st2 (itok_list e r)⟩
  | tup e r => exact .inr (.inl ⟨_, rfl, ⟨_, .of (wd2.sf _ _ e)⟩, k _ _ q1 _ H1 F2 He1 wd2 st2 (itok_tup e r)⟩)
  | scr e => exact .inl ⟨_, rfl, ⟨_, wd2.sf.seq e⟩, k _ _ q1 _ H1 F2 He1 wd2 st2 (itok_scr e)⟩
  | str x => exact .inr (.inr ⟨x, rfl, k _ _ q1 _ H1 F2 He1 wd2 st2 itok_str⟩)
  | _ => exact q1.elim
/-- range(b), range(a, b) -/
def dRng1  (t : DO) : DI := fun δ w Q => t δ w fun d w1 => match d with
  | .int j => (-(2 ^ 62) ≤ j ∧ j < 2 ^ 62) ∧ Q (rngD 0 j.toNat) w1
  | _ => False
def dRng2  (t u : DO) : DI := fun δ w Q => t δ w fun d w1 => u δ w1 fun e w2 => match d, e with
  | .int i, .int j => (-(2 ^ 62) ≤ i ∧ i < 2 ^ 62 ∧ -(2 ^ 62) ≤ j ∧ j < 2 ^ 62) ∧ Q (rngD i (j - i).toNat) w2
  | _, _ => False
theorem ji_rng1 {a : Expr} {t : DO} {p pos : Pos} (hm : X.mg "range" = none) (ha : JO X z a t) (hg : Gl X "range" := by rfl) (hs : starEach [a] X.env = [(false, eval a X.env)] := by rfl) : PI X tg (.Call (.Name "range" p) [a] [] pos) (liftI z (dRng1 t)) :=
  PI.imp (pi_range1 hg hm (pa_cons ha pa_nil hs) hs) fun σ H R ⟨δ, w, F, He, P, Re, q, k⟩ => by
    refine ⟨δ, w, F, He, _, Re, q, fun d w1 q1 v H1 F1 He1 wd1 st1 r1 => ?_⟩
    cases d with
    | int j => have := r1.dt.int; subst v; exact ⟨j, rfl, q1.1.1, q1.1.2, k _ _ q1.2 _ H1 F1 He1 wd1 st1 itok_rng⟩
    | _ => exact q1.elim
theorem ji_rng2 {a b : Expr} {t u : DO} {p pos : Pos} (hm : X.mg "range" = none) (ha : JO X z a t) (hb : JO X z b u) (hg : Gl X "range" := by rfl) (hs : starEach [a, b] X.env = [(false, eval a X.env), (false, eval b X.env)] := by rfl) (hs2 : starEach [b] X.env = [(false, eval b X.env)] := by rfl) :
    PI X tg (.Call (.Name "range" p) [a, b] [] pos) (liftI z (dRng2 t u)) :=
  PI.imp (pi_range2 hg hm (pa_cons ha (pa_cons hb pa_nil hs2) (by rw [hs, hs2])) hs hs2) fun σ H R ⟨δ, w, F, He, P, Re, q, k⟩ => by
    refine ⟨δ, w, F, He, _, Re, q, fun d w1 q1 v H1 F1 He1 wd1 st1 r1 => ?_⟩
    refine ⟨δ, w1, F1, He1, _, Re.step wd1 st1, q1, fun e w2 q2 u H2 F2 He2 wd2 st2 r2 => ?_⟩
    cases d with
    | int i =>
      cases e with
      | int j =>
        have := r1.dt.int; subst v
        have := r2.dt.int; subst u
        exact ⟨i, j, rfl, q2.1, k _ _ q2.2 _ H2 F2 He2 wd2 (st1.trans st2) itok_rng⟩
      | _ => exact q2.elim
    | _ => exact q2.elim

/-! ### for -/
def dForGo  (g : DG) (t : DS) (E : DEnds) : List D → DSt → Om → Prop
  | [], δ, w => E.nx δ w
  | d :: ds, δ, w => g d δ fun δ1 => t { E with nx := dForGo g t E ds, ct := dForGo g t E ds, bk := E.nx } δ1 w
def dFor  (it : DI) (g : DG) (t : DS) : DS := fun E δ w => it δ w fun ds w1 => dForGo g t E ds δ w1
theorem Rel.two {δ : DSt} {w : Om} {F He H H' : Hp} {σ : St} {T : Addr} {o : HO} (R : Rel z δ w F He σ H) (hT : H T = none) : Rel z δ w F He σ (upd H T o) := R.step (R.wd.alloc hT) (.alloc hT)
theorem js_for {iter : Expr} {body : List Stmt} {it : DI} {G : TG} {g : DG} {t : DS} (hp : PassesOwn (model X.prog X.w) X.A X.env X.xe) (hc : X.calm = true) (hi : PI X tg iter (liftI z it)) (hg : PG X tg G) (ok : GOk z G g) (hb : JSs X z body t)
    (hs : ∀ x, foldedSetIterable iter X.env x = pure x := by intro _; rfl) : JS X z (.For tg iter body [] pos) (dFor it g t) :=
  PS.imp (ps_for hp hc hi hg hb hs) fun D σ H ⟨δ, w, F, He, E, R, q, cn⟩ => by
    refine ⟨δ, w, F, He, _, R, q, fun ds w1 q1 J H1 F1 He1 wd1 st1 io => ?_⟩
    have R1 := R.step wd1 st1
    refine ⟨fun i m σ H => m = ds.length - i ∧ i ≤ ds.length ∧ ∃ δ w F He, Same F1 F ∧ Rel z δ w F He σ H ∧ dForGo g t E (ds.drop i) δ w, ⟨ds.length, by simp, Nat.zero_le _, δ, w1, F1, He1, Same.refl _, R1, q1⟩, ?_⟩
    rintro i m σ H ⟨rfl, hle, δ, w, F, He, sF, R, q⟩
    have sH : Same F1 H := sF.trans R.wd.sf
    by_cases hlt : i < ds.length
    · refine .inr ⟨io.go i H sH hlt, fun σ' H' => ∃ δ w F He, Same F1 F ∧ Rel z δ w F He σ' H' ∧ dForGo g t E (ds.drop (i + 1)) δ w, fun σ' H' h => ⟨ds.length - (i + 1), by omega, rfl, hlt, h⟩, fun x H' y => ?_⟩
      rw [List.drop_eq_getElem_cons hlt] at q
      have fin : ∀ {F' : Hp}, Same F1 F' → Rel z δ w F' He σ H' → DR z.K F' x ds[i] → G x σ H' fun σ2 H2 => liftS z t { D with nx := fun σ' H' => ∃ δ w F He, Same F1 F ∧ Rel z δ w F He σ' H' ∧ dForGo g t E (ds.drop (i + 1)) δ w, ct := fun σ' H' => ∃ δ w F He, Same F1 F ∧ Rel z δ w F He σ' H' ∧ dForGo g t E (ds.drop (i + 1)) δ w, bk := D.nx } σ2 H2 := by
        intro F' sF' R' rx
        refine ok δ w F' He H' σ x _ _ _ R' rx q fun δ2 σ2 q2 R2 => ?_
        have s1 := st1.fz.trans sF'
        exact ⟨δ2, w, F', He, _, R2, q2, ⟨fun δ3 w3 F3 He3 σ3 H3 p r s3 => ⟨δ3, w3, F3, He3, sF'.trans s3, r, p⟩, cn.rt, fun δ3 w3 F3 He3 σ3 H3 p r s3 => cn.nx _ _ _ _ _ _ p r (s1.trans s3), fun δ3 w3 F3 He3 σ3 H3 p r s3 => ⟨δ3, w3, F3, He3, sF'.trans s3, r, p⟩⟩⟩
      rcases io.yld i H x H' sH hlt y with ⟨rfl, d, hd, rd⟩ | ⟨T, vs, es, rfl, hT, rfl, hd, rd⟩
      · rw [List.getElem?_eq_getElem hlt] at hd
        cases hd
        exact fin sF R (rd.mono sF)
      · rw [List.getElem?_eq_getElem hlt] at hd
        have hd' := Option.some.inj hd
        have R' := R.step (R.wd.alloc (o := .tup vs) hT) (.alloc hT)
        have hF : F T = none := R.wd.fnone hT
        have hHe : He T = none := R.wd.henone hT
        refine fin (F' := upd F T (.tup vs)) (sF.trans (same_upd hF)) (R.step ((R.wd.alloc hT).freeze upd_same hF hHe) ((Step.alloc hT).freeze hF hT)) ?_
        rw [hd']
        exact .tup upd_same ((rd.mono sF).mono (same_upd hF))
    · have e : i = ds.length := by omega
      subst e
      rw [List.drop_length] at q
      exact .inl ⟨io.stop H sH, cn.nx _ _ _ _ _ _ q R (st1.fz.trans sF)⟩
end
end Lv

namespace Lv
open PySem PySem.Spec L2

/-! ### list comprehensions -/
def wipeD (δ : DSt) : List Nat → DSt
  | [] => δ
  | v :: vs => (wipeD δ vs).set v none
section
variable {z : Ent} {δ : DSt} {w : Om} {F He H F' He' H' : Hp} {σ : St}
theorem Rel.forget (R : Rel z δ w F He σ H) (i : Nat) : Rel z (δ.set i none) w F He (σ.set i none) H := by
  refine ⟨R.wd, R.st, by rw [List.length_set, List.length_set]; exact R.len, fun j s e => ?_, fun j k d1 d2 a e1 e2 a1 a2 => ?_⟩
  · rcases get_set e with ⟨rfl, rfl⟩ | ⟨hj, e'⟩
    · have hi : i < δ.length := by
        have := (List.getElem?_eq_some_iff.mp e).1
        simpa using this
      exact ⟨none, List.getElem?_set_self (by rw [R.len]; exact hi), True.intro⟩
    · obtain ⟨u, hu, q⟩ := R.sl j s e'
      exact ⟨u, by rw [List.getElem?_set_ne hj]; exact hu, q⟩
  · rcases get_set e1 with ⟨_, x⟩ | ⟨hj, e1'⟩
    · cases x
    · rcases get_set e2 with ⟨_, x⟩ | ⟨hk, e2'⟩
      · cases x
      · rw [List.getElem?_set_ne hj] at a1
        rw [List.getElem?_set_ne hk] at a2
        exact R.inj j k d1 d2 a e1' e2' a1 a2
theorem Rel.wipe (R : Rel z δ w F He σ H) : ∀ vs : List Nat, Rel z (wipeD δ vs) w F He (L2.wipe σ vs) H
  | [] => R
  | v :: vs => (Rel.wipe R vs).forget v
end
theorem wipe_comm {σ : St} {i : Nat} {v : Option V} (h : ∀ (j : Nat), j = i → True) : ∀ vs : List Nat, i ∉ vs → L2.wipe (σ.set i v) vs = (L2.wipe σ vs).set i v
  | [], _ => rfl
  | u :: vs, hn => by
    simp only [List.mem_cons, not_or] at hn
    rw [L2.wipe, L2.wipe, wipe_comm h vs hn.2, List.set_comm _ _ hn.1]
theorem wipe_set {σ : St} {i : Nat} {v : Option V} : ∀ {vs : List Nat}, i ∈ vs → L2.wipe (σ.set i v) vs = L2.wipe σ vs
  | u :: vs, hm => by
    rw [L2.wipe, L2.wipe]
    by_cases hu : i ∈ vs
    · rw [wipe_set hu]
    · have e : i = u := by
        rcases List.mem_cons.mp hm with e | e
        · exact e
        · exact absurd e hu
      subst e
      rw [wipe_comm (fun _ _ => True.intro) vs hu, List.set_set]
theorem wipe_wipe {σ : St} : ∀ (us vs : List Nat), (∀ i ∈ us, i ∈ vs) → L2.wipe (L2.wipe σ us) vs = L2.wipe σ vs
  | [], _, _ => rfl
  | u :: us, vs, h => by
    rw [L2.wipe, wipe_set (h u List.mem_cons_self), wipe_wipe us vs fun i hi => h i (List.mem_cons_of_mem _ hi)]
/-- a target that keeps to the slots vs -/
def GOkV (z : Ent) (vs : List Nat) (G : TG) (g : DG) : Prop := ∀ (δ : DSt) (w : Om) (F He H : Hp) (σ : St) (x : V) (d : D) (P : DSt → Prop) (Q : St → Hp → Prop), Rel z δ w F He σ H → DR z.K F x d → g d δ P → (∀ δ' σ', P δ' → Rel z δ' w F He σ' H → L2.wipe σ' vs = L2.wipe σ vs → Q σ' H) → G x σ H Q
theorem gokv_name {z : Ent} {vs : List Nat} (i : Nat) (h : i ∈ vs) : GOkV z vs (gName i) (gN i) := fun δ w F He H σ x d P Q R r q k => k _ _ q (R.put r) (wipe_set h)
def GsOkV (z : Ent) (vs : List Nat) (G : TGs) (g : DGs) : Prop := ∀ (δ : DSt) (w : Om) (F He H : Hp) (σ : St) (xs : List V) (ds : List D) (P : DSt → Prop) (Q : St → Hp → Prop), Rel z δ w F He σ H → DRs z.K F xs ds → g ds δ P → (∀ δ' σ', P δ' → Rel z δ' w F He σ' H → L2.wipe σ' vs = L2.wipe σ vs → Q σ' H) → G xs σ H Q
theorem gsokv_nil {z : Ent} {vs : List Nat} : GsOkV z vs gNil gsN := fun δ w F He H σ xs ds P Q R r q k => by
  cases ds with
  | nil => cases r; exact ⟨rfl, k _ _ q R rfl⟩
  | cons d ds => exact q.elim
theorem gsokv_cons {z : Ent} {vs : List Nat} {G : TG} {Gs : TGs} {g : DG} {gs : DGs} (h : GOkV z vs G g) (hs : GsOkV z vs Gs gs) : GsOkV z vs (gCons G Gs) (gsC g gs) := fun δ w F He H σ xs ds P Q R r q k => by
  cases ds with
  | nil => exact q.elim
  | cons d ds =>
    cases r with
    | cons r rs => exact ⟨_, _, rfl, h δ w F He H σ _ d _ _ R r q fun δ1 σ1 q1 R1 e1 => hs δ1 w F He H σ1 _ ds P Q R1 rs q1 fun δ' σ' q' R' e' => k δ' σ' q' R' (e'.trans e1)⟩
theorem gokv_tup {z : Ent} {vs : List Nat} {Gs : TGs} {gs : DGs} {K : PySem.W.Frag} {n : Nat} (h : GsOkV z vs Gs gs) : GOkV z vs (gTup K n Gs) (gT n gs) := fun δ w F He H σ x d P Q R r q k => by
  unfold gT at q
  split at q
  · cases r with
    | tup e rs => exact ⟨_, _, rfl, .of (R.wd.sf _ _ e), by rw [rs.length]; exact q.1, h δ w F He H σ _ _ P Q R rs q.2 k⟩
  · exact q.elim
def dLcGo  (g : DG) (tt : DTs_) (te : DX) (δ : DSt) : List D → List D → Om → (Bool → D → Om → Prop) → Prop
  | [], acc, w, Q => Q true (.lst acc) w
  | d :: ds, acc, w, Q => g d δ fun δ1 => tt δ1 w fun k w1 => if k = true then te δ1 w1 fun _ e w2 => acc.length < sizeLine ∧ dLcGo g tt te δ ds (acc ++ [e]) w2 Q else dLcGo g tt te δ ds acc w1 Q
def dLc  (it : DI) (g : DG) (tt : DTs_) (te : DX) (vs : List Nat) : DX := fun δ w Q => it δ w fun ds w1 => dLcGo g tt te (wipeD δ vs) ds [] w1 Q
theorem Step.write {F He H F' He' H' : Hp} {p : Addr} {o : HO} (s : Step F He H F' He' H') (h : H p = none) : Step F He H F' He' (upd H' p o) where
  fz := s.fz
  fzN := s.fzN
  heN := s.heN
  keep := fun b u e n => by rw [upd_ne (ne_of_none e h)]; exact s.keep b u e n
  dom := fun b e => by
    by_cases hb : b = p
    · subst hb; exact absurd h e
    · rw [upd_ne hb]; exact s.dom b e
  tp := fun b xs e => by
    by_cases hb : b = p
    · subst hb; exact .inl h
    · rw [upd_ne hb] at e; exact s.tp b xs e
theorem Wd.write  {K : PySem.W.Frag} {w : Om} {F He H : Hp} {p : Addr} {o : HO} (x : Wd K w F He H) (n : F p = none) (m : He p = none) : Wd K w F He (upd H p o) where
  sf := fun b u e => by rw [upd_ne (ne_of_none e n)]; exact x.sf b u e
  sh := fun b u e => by rw [upd_ne (ne_of_none e m)]; exact x.sh b u e
  dj := x.dj
  ex := x.ex
theorem Step.fresh {F He H F' He' H' : Hp} {p : Addr} {o : HO} (s : Step F He H F' He' H') (h : H p = some o) (n : F p = none) (ht : ∀ xs, o ≠ .tup xs := by intro xs e; cases e) : F' p = none := by
  refine Classical.byContradiction fun q => ?_
  rcases s.fzN p q with q | q | ⟨xs, q⟩
  · exact q n
  · rw [h] at q; cases q
  · rw [h] at q; cases q; exact ht xs rfl
theorem Step.freshE {F He H F' He' H' : Hp} {p : Addr} (s : Step F He H F' He' H') (h : H p ≠ none) (n : He p = none) : He' p = none :=
  Classical.byContradiction fun q => (s.heN p q).elim (fun q => q n) fun q => h q
section
variable {X : Cx} {z : Ent} {pos : Pos}
theorem PTs.imp {X : Cx} {es : List Expr} {t t' : TT} (h : PTs X es t) (f : ∀ σ H Q, t' σ H Q → t σ H Q) : PTs X es t' := ⟨fun pins s σ H Q I q => h.run pins s σ H Q I (f σ H Q q)⟩
def dYes  : DTs_ := fun _ w Q => Q true w
theorem jts_nil : PTs X [] (liftT z dYes) := PTs.imp pts_nil fun σ H Q ⟨δ, w, F, He, P, R, q, k⟩ => k _ _ q H F He R.wd .refl
theorem jts_one {c : Expr} {t : DTs_} (h : JT X z c t) : PTs X [c] (liftT z t) := pts_one h
theorem lc_lift {it : DI} {G : TG} {g : DG} {tt : DTs_} {te : DX} {vs : List Nat} (ok : GOkV z vs G g) {σ : St} {H : Hp} {Q : VK} (h : liftX z (dLc it g tt te vs) σ H Q) : tLc (liftI z it) G (liftT z tt) (liftX z te) vs σ H Q := by
  obtain ⟨δ, w, F, He, P, R, q, k⟩ := h
  refine ⟨δ, w, F, He, _, R, q, fun ds w1 q1 J H1 F1 He1 wd1 st1 io D hD => ?_⟩
  have R1 := (R.step wd1 st1).wipe vs
  have hF1 : F1 D = none := wd1.fnone hD
  have hE1 : He1 D = none := wd1.henone hD
  refine ⟨fun i m H => m = ds.length - i ∧ i ≤ ds.length ∧ ∃ w F He accV accD, Wd z.K w F He H ∧ Step F1 He1 H1 F He H ∧ H D = some (.lst accV) ∧ F D = none ∧ He D = none ∧ DRs z.K F accV accD ∧ dLcGo g tt te (wipeD δ vs) (ds.drop i) accD w P,
    ⟨ds.length, by simp, Nat.zero_le _, w1, F1, He1, [], [], wd1.alloc hD, .alloc hD, upd_same, hF1, hE1, .nil, q1⟩, ?_⟩
  rintro i m H2 ⟨rfl, hle, w2, F2, He2, accV, accD, wd2, st2, hD2, hF2, hE2, ra, q2⟩
  have sH : Same F1 H2 := st2.fz.trans wd2.sf
  by_cases hlt : i < ds.length
  · refine .inr ⟨io.go i H2 sH hlt, fun H' => ∃ w F He accV accD, Wd z.K w F He H' ∧ Step F1 He1 H1 F He H' ∧ H' D = some (.lst accV) ∧ F D = none ∧ He D = none ∧ DRs z.K F accV accD ∧ dLcGo g tt te (wipeD δ vs) (ds.drop (i + 1)) accD w P,
      fun H' h => ⟨ds.length - (i + 1), by omega, rfl, hlt, h⟩, fun x H3 y => ?_⟩
    rw [List.drop_eq_getElem_cons hlt] at q2
    -- the item is there: the heap is as it was, or one tuple more
    have go : ∀ F3, Wd z.K w2 F3 He2 H3 → Step F2 He2 H2 F3 He2 H3 → DR z.K F3 x ds[i] → G x (L2.wipe σ vs) H3 fun σ2 H2 => L2.wipe σ2 vs = L2.wipe σ vs ∧ liftT z tt σ2 H2 fun b H3 => if b = true then liftX z te σ2 H3 fun y H4 => ∃ acc, H4 D = some (.lst acc) ∧ acc.length < sizeLine ∧
        (∃ w F He accV accD, Wd z.K w F He (upd H4 D (.lst (acc ++ [y]))) ∧ Step F1 He1 H1 F He (upd H4 D (.lst (acc ++ [y]))) ∧ (upd H4 D (.lst (acc ++ [y]))) D = some (.lst accV) ∧ F D = none ∧ He D = none ∧ DRs z.K F accV accD ∧ dLcGo g tt te (wipeD δ vs) (ds.drop (i + 1)) accD w P)
        else ∃ w F He accV accD, Wd z.K w F He H3 ∧ Step F1 He1 H1 F He H3 ∧ H3 D = some (.lst accV) ∧ F D = none ∧ He D = none ∧ DRs z.K F accV accD ∧ dLcGo g tt te (wipeD δ vs) (ds.drop (i + 1)) accD w P := by
      intro F3 wd3 st3 rx
      have nD2 : H2 D ≠ none := by rw [hD2]; exact fun z => nomatch z
      have hF3 := st3.fresh hD2 hF2
      have hD3 := st3.keep D _ hD2 hE2
      have nD3 : H3 D ≠ none := by rw [hD3]; exact fun z => nomatch z
      have st3' := st2.trans st3
      refine ok (wipeD δ vs) w2 F3 He2 H3 (L2.wipe σ vs) x ds[i] _ _ (R1.step wd3 st3') rx q2 fun δ4 σ4 q4 R4 e4 => ⟨e4.trans (wipe_wipe vs vs fun _ h => h), ?_⟩
      refine ⟨δ4, w2, F3, He2, _, R4, q4, fun b w5 q5 H5 F5 He5 wd5 st5 => ?_⟩
      have hF5 := st5.fresh hD3 hF3
      have hE5 := st5.freshE nD3 hE2
      have hD5 := st5.keep D _ hD3 hE2
      have nD5 : H5 D ≠ none := by rw [hD5]; exact fun z => nomatch z
      have st5' := st3'.trans st5
      have ra5 := (ra.mono st3.fz).mono st5.fz
      cases b with
      | false => exact ⟨w5, F5, He5, accV, accD, wd5, st5', hD5, hF5, hE5, ra5, q5⟩
      | true =>
        refine ⟨δ4, w5, F5, He5, _, R4.step wd5 st5, q5, fun bb e w6 q6 v H6 F6 He6 wd6 st6 r6 => ?_⟩
        obtain ⟨F7, st7, wd7, r7, s7⟩ := r6.thaw st6 wd6
        have hF7 := st7.fresh hD5 hF5
        have hE7 := st7.freshE nD5 hE5
        refine ⟨accV, st7.keep D _ hD5 hE5, by rw [ra.length]; exact q6.1, w6, F7, He6, accV ++ [v], accD ++ [e], wd7.write hF7 hE7, (st5'.trans st7).write hD, upd_same, hF7, hE7, (ra5.mono st7.fz).append (.cons r7 .nil), q6.2⟩
    rcases io.yld i H2 x H3 sH hlt y with ⟨rfl, d, hd, rd⟩ | ⟨T, us, es, rfl, hT, rfl, hd, rd⟩
    · rw [List.getElem?_eq_getElem hlt] at hd
      cases hd
      exact go F2 wd2 .refl (rd.mono st2.fz)
    · rw [List.getElem?_eq_getElem hlt] at hd
      have hd' := Option.some.inj hd
      have hF : F2 T = none := wd2.fnone hT
      have hE : He2 T = none := wd2.henone hT
      refine go (upd F2 T (.tup us)) ((wd2.alloc hT).freeze upd_same hF hE) ((Step.alloc hT).freeze hF hT) ?_
      rw [hd']
      exact .tup upd_same ((rd.mono st2.fz).mono (same_upd hF))
  · have e : i = ds.length := by omega
    subst e
    rw [List.drop_length] at q2
    refine .inl ⟨io.stop H2 sH, k _ _ _ q2 _ H2 F2 He2 wd2 (st1.trans st2) ⟨D, _, rfl, hD2, hF2, hE2, Classical.byContradiction fun q => st1.dom D q hD, .lst ra⟩⟩
theorem jx_lc {elt tg iter : Expr} {ifs : List Expr} {scope : Scope} {own : List (Str × Nat)} {it : DI} {G : TG} {g : DG} {tt : DTs_} {te : DX} (hc : X.calm = true) (hN : X.N.Nodup) (hi : PI X tg iter (liftI z it)) (ok : BlkOk X.N X.env.scope scope own) (gok : GOkV z (own.map (·.2)) G g)
    (hg : ∀ (s : Shared) (H : Hp) (C : Addr) (cl : List (Str × Addr)) (fp : List Addr), PG (X.blk s H scope (compEnvC scope cl C X.env) fp) tg G) (ht : ∀ (s : Shared) (H : Hp) (C : Addr) (cl : List (Str × Addr)) (fp : List Addr), PTs (X.blk s H scope (compEnvC scope cl C X.env) fp) ifs (liftT z tt))
    (he : ∀ (s : Shared) (H : Hp) (C : Addr) (cl : List (Str × Addr)) (fp : List Addr), JX (X.blk s H scope (compEnvC scope cl C X.env) fp) z elt te) (hs : ∀ x, foldedSetIterable iter X.env x = pure x := by intro _; rfl) :
    JX X z (.ListComp elt [⟨tg, iter, ifs, 0⟩] scope pos) (dLc it g tt te (own.map (·.2))) := PE.imp (pe_lc hc hN hi ok hg ht he hs) fun _ _ _ h => lc_lift gok h
theorem js_setLc {i : Nat} {y : Str} {py : Pos} {elt tg iter : Expr} {ifs : List Expr} {scope : Scope} {own : List (Str × Nat)} {it : DI} {G : TG} {g : DG} {tt : DTs_} {te : DX} {spos : Pos} (own' : Bool) (hc : X.calm = true) (hN : X.N.Nodup) (hy : X.N[i]? = some y) (hyl : X.env.scope.names.lookup y = some .local)
    (hsw : swapsWith (.ListComp elt [⟨tg, iter, ifs, 0⟩] scope pos) (some (.Name y py)) spos.line X.env = pure true) (hi : PI X tg iter (liftI z it)) (ok : BlkOk X.N X.env.scope scope own) (gok : GOkV z (own.map (·.2)) G g)
    (hg : ∀ (s : Shared) (H : Hp) (C : Addr) (cl : List (Str × Addr)) (fp : List Addr), PG (X.blk s H scope (compEnvC scope cl C X.env) fp) tg G) (ht : ∀ (s : Shared) (H : Hp) (C : Addr) (cl : List (Str × Addr)) (fp : List Addr), PTs (X.blk s H scope (compEnvC scope cl C X.env) fp) ifs (liftT z tt))
    (he : ∀ (s : Shared) (H : Hp) (C : Addr) (cl : List (Str × Addr)) (fp : List Addr), JX (X.blk s H scope (compEnvC scope cl C X.env) fp) z elt te) (hs : ∀ x, foldedSetIterable iter X.env x = pure x := by intro _; rfl) :
    JS X z (.Assign [.Name y py] (.ListComp elt [⟨tg, iter, ifs, 0⟩] scope pos) spos) (dSet own' i (dLc it g tt te (own.map (·.2)))) := PS.imp (ps_setLc hc hN hy hyl hsw hi ok hg ht he hs) fun D σ H h => by
  obtain ⟨δ, w, F, He, E, R, q, c⟩ := h
  refine lc_lift gok ⟨δ, w, F, He, _, R, q, fun b d w1 q1 v H1 F1 He1 wd1 st1 r1 => ?_⟩
  cases own' with
  | true => rw [Bool.and_true] at q1; exact c.nx _ _ _ _ _ _ q1 (R.assign wd1 st1 r1) st1.fz
  | false =>
    rw [Bool.and_false] at q1
    obtain ⟨F2, st2, wd2, r2, _⟩ := r1.thaw st1 wd1
    exact c.nx _ _ _ _ _ _ q1 (R.assign (b := false) wd2 st2 r2) st2.fz
end

/-! ### defs -/
/-- what a def is worth over data: arguments, the world, what is wanted of its result -/
abbrev DSp  := List D → Om → (Bool → D → Om → Prop) → Prop
def toSp (K : PySem.W.Frag) (T : DSp) : Sp := fun vs H Q _ => ∃ ds w F He P, Wd K w F He H ∧ DRs K F vs ds ∧ T ds w P ∧ ∀ b d w', P b d w' → ∀ v H' F' He', Wd K w' F' He' H' → Step F He H F' He' H' → Res K F' He' H H' b v d → Q v H'
/-- the def of this name keeps T -/
structure Fn (P : Program) (w : World) (K : PySem.W.Frag) (mg : Str → Option Value) (base : Heap)  (k : Nat) (x : Str) (T : DSp) : Prop where
  ex : ∃ (f : Addr) (fd : FuncData) (ps : List Str), FnOk P w K mg base CX0 k f fd ps (toSp K T) ∧ mg x = some (.ref f) ∧ PySem.W.keepIn K (.ref f) = true ∧ Binds K fd ps []
theorem Fn.mono {P : Program} {w : World} {K : PySem.W.Frag} {mg : Str → Option Value} {base : Heap}  {j k : Nat} {x : Str} {T : DSp} (F : Fn P w K mg base j x T) (h : j ≤ k) : Fn P w K mg base k x T :=
  let ⟨f, fd, ps, a, b, c, d⟩ := F.ex; ⟨f, fd, ps, a.mono h, b, c, d⟩
def dCall  (T : DSp) (t : DA) : DX := fun δ w Q => t δ w fun ds w1 => T ds w1 Q
section
variable {X : Cx} {z : Ent} {pos : Pos}
theorem call_lift {T : DSp} {t : DA} {σ : St} {H : Hp} {Q : VK} {K : PySem.W.Frag} (hK : z.K = K) (h : liftX z (dCall T t) σ H Q) : tCall (toSp K T) [] E0 (liftA z t) σ H Q := by
  subst hK
  obtain ⟨δ, w, F, He, P, R, q, k⟩ := h
  refine ⟨δ, w, F, He, _, R, q, fun ds w1 q1 vs H1 F1 He1 wd1 st1 r1 => ?_⟩
  show toSp z.K T (vs ++ []) H1 Q E0
  rw [List.append_nil]
  exact ⟨ds, w1, F1, He1, P, wd1, r1, q1, fun b d w' p v H' F' He' wd st r => k b d w' p v H' F' He' wd (st1.trans st) (r.base st1)⟩
theorem jx_call {k : Nat} {T : DSp} {t : DA} {x : Str} {p : Pos} {e : Expr} {es : List Expr} (f : Fn X.prog X.w X.K X.mg X.base k x T) (hK : z.K = X.K) (hr : Room k X.A) (ha : JA X z (e :: es) t) (hg : Gl X x := by rfl)
    (hdb : (x == ("__debug__" : Str)) = false := by decide) (he : starEach (e :: es) X.env = (false, eval e X.env) :: starEach es X.env := by rfl) (hpl : (backTo pos (starEach es X.env)).any (·.1) = false := by rfl) : JX X z (.Call (.Name x p) (e :: es) [] pos) (dCall T t) := by
  obtain ⟨fa, fd, ps, a, b, c, d⟩ := f.ex
  exact PE.imp (pe_call a hr hg b c d .nil pass0 ha hdb he hpl) fun _ _ _ h => call_lift hK h
theorem jx_call0 {k : Nat} {T : DSp} {x : Str} {p : Pos} (f : Fn X.prog X.w X.K X.mg X.base k x T) (hK : z.K = X.K) (hr : Room k X.A) (hg : Gl X x := by rfl) (hdb : (x == ("__debug__" : Str)) = false := by decide) : JX X z (.Call (.Name x p) [] [] pos) (dCall T dNil) := by
  obtain ⟨fa, fd, ps, a, b, c, d⟩ := f.ex
  refine PE.imp (pe_call0 a hr hg b c d .nil pass0 hdb) fun σ H Q h => ?_
  obtain ⟨δ, w, F, He, P, R, q, k⟩ := h
  show toSp X.K T [] H Q E0
  rw [← hK]
  exact ⟨[], w, F, He, P, R.wd, .nil, q, fun b d w' p v H' F' He' wd st r => k b d w' p v H' F' He' wd st r⟩
end
def startD (N : List Str) (ds : List D) : DSt := ds.map (fun d => some (false, d)) ++ List.replicate (N.length - ds.length) none
theorem DRs.getAt {K : PySem.W.Frag} {F : Hp} {vs : List V} {ds : List D} (r : DRs K F vs ds) {i : Nat} {d : D} (h : ds[i]? = some d) : ∃ v, vs[i]? = some v ∧ DR K F v d := r.get h
theorem rel_start  {K : PySem.W.Frag} {w : Om} {F He H : Hp} {N : List Str} {vs : List V} {ds : List D} (wd : Wd K w F He H) (r : DRs K F vs ds) : Rel ⟨K, F, He, H, w, wd.ex⟩ (startD N ds) w F He (start N vs) H := by
  have hl := r.length
  refine ⟨wd, .refl, ?_, fun i s e => ?_, fun i j d1 d2 a e1 e2 a1 a2 => ?_⟩
  · unfold L2.start startD
    rw [List.length_append, List.length_append, List.length_map, List.length_map, List.length_replicate, List.length_replicate, hl]
  · unfold startD at e
    unfold L2.start
    by_cases hi : i < ds.length
    · rw [List.getElem?_append_left (by simpa using hi), List.getElem?_map, List.getElem?_eq_getElem hi] at e
      cases e
      obtain ⟨v, hv, rv⟩ := r.get (List.getElem?_eq_getElem hi)
      refine ⟨some v, ?_, v, rfl, rv⟩
      rw [List.getElem?_append_left (by simpa [hl] using hi), List.getElem?_map, hv]
      rfl
    · rw [List.getElem?_append_right (by simpa using hi), List.length_map, List.getElem?_replicate] at e
      split at e
      · next hlt =>
        cases e
        refine ⟨none, ?_, True.intro⟩
        rw [List.getElem?_append_right (by rw [List.length_map]; omega), List.length_map, List.getElem?_replicate, if_pos (by omega)]
      · cases e
  · unfold startD at e1
    by_cases hi : i < ds.length
    · rw [List.getElem?_append_left (by simpa using hi), List.getElem?_map, List.getElem?_eq_getElem hi] at e1
      cases e1
    · rw [List.getElem?_append_right (by simpa using hi), List.length_map, List.getElem?_replicate] at e1
      split at e1 <;> cases e1
section
variable {P : Program} {w : World} {K : PySem.W.Frag} {mg : Str → Option Value} {base : Heap}
/-- a def by its body's reading over data -/
theorem fn_ok  {T : DSp} {x qual : Str} {st : Stmt} {f : Addr} {fd : FuncData} {N ps : List Str} {k : Nat} (F : L2.Fun K x qual st f fd) (S : FnScope N ps (defScope st)) (hm : mg x = some (.ref f))
    (hbd : ∀ (kV doc pm : Value) (an : Option Addr) (cdv ct : Value) (us : List Value), us.length = ps.length → bindArgs (PySem.W.fnOf x qual (defArgs st) (defBody st) (defScope st) .none kV doc pm an cdv ct) ⟨us, []⟩ = pure (ps.zip us))
    (len : ∀ ds w P, T ds w P → ds.length = ps.length)
    (h : ∃ tb : Om → DS, (∀ (cdv : Value) (A : Around) (outer : List Env) (s : Shared) (H F0 He0 : Hp) (w0 : Om) (rep0 : rep K w0 F0 He0) (E : XK), Room k (A.deeper (PyProof.Rows.envOfC qual (defScope st) s.heap.objs.size f cdv)) → JSs (cxOf CX0 P w K mg base N qual (defScope st) f cdv A outer s H E).nox ⟨K, F0, He0, H, w0, rep0⟩ (defBody st) (tb w0)) ∧
      ∀ ds w P, T ds w P → tb w { nx := fun _ w => P false .non w, rt := P } (startD N ds) w) : Fn P w K mg base (k + 1) x T := by
  obtain ⟨tb, hb, hT⟩ := h
  refine ⟨f, fd, ps, F.ok S (fun vs H Q E h => ?_) (fun cdv A outer s H vs Q E hr h => ?_), hm, F.kp, F.binds hbd⟩
  · obtain ⟨ds, w, F, He, P, _, r, q, _⟩ := h
    rw [r.length]
    exact len _ _ _ q
  · obtain ⟨ds, w, F, He, P, wd, r, q, k⟩ := h
    refine ⟨_, hb cdv A outer s H F He w wd.ex E hr, startD N ds, w, F, He, _, rel_start wd r, hT ds w P q, ?_⟩
    exact ⟨fun δ w' F' He' σ H' p R _ => k _ _ _ p .non H' F' He' R.wd R.st .non, fun b d w' p v H' F' He' wd' st' rr => k b d w' p v H' F' He' wd' st' rr, fun _ _ _ _ _ _ p => p.elim, fun _ _ _ _ _ _ p => p.elim⟩
end
end Lv

namespace Lv
open PySem PySem.Spec L2

/-! ### a call that gives a plain thing back: its arguments stay one's own -/
def D.scal : D → Bool
  | .non => true | .bl _ => true | .int _ => true | .str _ => true | _ => false

/-! ### builtins of the top that nobody has bound -/
theorem bt_int : bootBuiltins "int" = some (.type "int") := by decide +kernel
theorem bt_bool : bootBuiltins "bool" = some (.type "bool") := by decide +kernel
theorem bt_list : bootBuiltins "list" = some (.type "list") := by decide +kernel
theorem bt_tuple : bootBuiltins "tuple" = some (.type "tuple") := by decide +kernel
theorem bt_str : bootBuiltins "str" = some (.type "str") := by decide +kernel
theorem bt_dict : bootBuiltins "dict" = some (.type "dict") := by decide +kernel
theorem bb_len : bootBuiltins "len" = some (.builtin "len") := by decide +kernel
theorem bb_abs : bootBuiltins "abs" = some (.builtin "abs") := by decide +kernel
theorem bb_max : bootBuiltins "max" = some (.builtin "max") := by decide +kernel
theorem bb_min : bootBuiltins "min" = some (.builtin "min") := by decide +kernel
theorem bb_sum : bootBuiltins "sum" = some (.builtin "sum") := by decide +kernel
theorem bb_sorted : bootBuiltins "sorted" = some (.builtin "sorted") := by decide +kernel
theorem bb_isinstance : bootBuiltins "isinstance" = some (.builtin "isinstance") := by decide +kernel
theorem hu0 {k : Nat} {A : Around} (r : Room k A) : A.units < cLine := by have := r.un; omega
theorem hu1 {k : Nat} {A : Around} (r : Room k A) : A.units + 1 < cLine := by have := r.un; omega
theorem hu64 {k : Nat} {A : Around} (r : Room k A) : A.units + 64 < cLine := by have := r.un; omega
theorem hu65 {k : Nat} {A : Around} (r : Room k A) : A.units + 65 < cLine := by have := r.un; omega
/-- a def as the top has left it -/
structure TopFn (K : PySem.W.Frag) (mg : Str → Option Value) (x qual : Str) (st : Stmt) (f : Addr) (fd : FuncData) : Prop where
  fn : L2.Fun K x qual st f fd
  at_ : mg x = some (.ref f)

theorem if_t {p : Prop} [Decidable p] {a b : Prop} (h : p) (q : a) : if p then a else b := by rw [if_pos h]; exact q
theorem if_f {p : Prop} [Decidable p] {a b : Prop} (h : ¬p) (q : b) : if p then a else b := by rw [if_neg h]; exact q
/-! ### loops over data -/
section
theorem seq_i {t u : DS} {E : DEnds} {δ : DSt} {w : Om} (h : t ⟨u E, E.rt, E.bk, E.ct⟩ δ w) : dSeq t u E δ w := h
/-- a block cut behind its first statement -/
theorem seq_cut {t u : DS} {E : DEnds} {δ : DSt} {w : Om} (S : DSt → Om → Prop) (h1 : ∀ N : DSt → Om → Prop, (∀ δ w, S δ w → N δ w) → t ⟨N, E.rt, E.bk, E.ct⟩ δ w) (h2 : ∀ δ w, S δ w → u E δ w) : dSeq t u E δ w := h1 _ h2
theorem for_inv {α : Type} {g : DG} {t : DS} {E : DEnds} (f : α → D) (I : List α → DSt → Om → Prop) (xs : List α)
    (hs : ∀ pre x post δ w (N C : DSt → Om → Prop), xs = pre ++ x :: post → I pre δ w → (∀ δ' w', I (pre ++ [x]) δ' w' → N δ' w') → (∀ δ' w', I (pre ++ [x]) δ' w' → C δ' w') → g (f x) δ fun δ1 => t ⟨N, E.rt, E.nx, C⟩ δ1 w)
    (hd : ∀ δ w, I xs δ w → E.nx δ w) : ∀ (post pre : List α), xs = pre ++ post → ∀ δ w, I pre δ w → dForGo g t E (post.map f) δ w
  | [], pre, e, δ, w, h => by
    rw [List.append_nil] at e
    subst e
    exact hd δ w h
  | x :: post, pre, e, δ, w, h => by
    have e2 : xs = (pre ++ [x]) ++ post := by rw [e]; simp
    have ih := for_inv f I xs hs hd post (pre ++ [x]) e2
    exact hs pre x post δ w _ _ e h ih ih
/-- a for over data that are told by f of some list -/
theorem for_go {α : Type} {g : DG} {t : DS} {E : DEnds} (f : α → D) (I : List α → DSt → Om → Prop) (xs : List α) {δ : DSt} {w : Om} (h0 : I [] δ w)
    (hs : ∀ pre x post δ w (N C : DSt → Om → Prop), xs = pre ++ x :: post → I pre δ w → (∀ δ' w', I (pre ++ [x]) δ' w' → N δ' w') → (∀ δ' w', I (pre ++ [x]) δ' w' → C δ' w') → g (f x) δ fun δ1 => t ⟨N, E.rt, E.nx, C⟩ δ1 w)
    (hd : ∀ δ w, I xs δ w → E.nx δ w) : dForGo g t E (xs.map f) δ w := for_inv f I xs hs hd xs [] rfl δ w h0
/-- a for over a range -/
theorem for_rng {g : DG} {t : DS} {E : DEnds} (lo : Int) (n : Nat) (I : Nat → DSt → Om → Prop) {δ : DSt} {w : Om} (h0 : I 0 δ w)
    (hs : ∀ k δ w (N C : DSt → Om → Prop), k < n → I k δ w → (∀ δ' w', I (k + 1) δ' w' → N δ' w') → (∀ δ' w', I (k + 1) δ' w' → C δ' w') → g (.int (lo + (k : Nat))) δ fun δ1 => t ⟨N, E.rt, E.nx, C⟩ δ1 w)
    (hd : ∀ δ w, I n δ w → E.nx δ w) : dForGo g t E (rngD lo n) δ w := by
  refine for_go (fun k : Nat => D.int (lo + (k : Nat))) (fun pre δ w => I pre.length δ w) (List.range n) h0 (fun pre x post δ w N C e h hN hC => ?_) (fun δ w h => hd δ w (by simpa using h))
  have hx : x = pre.length ∧ pre.length < n := by
    have h1 : (List.range n)[pre.length]? = some x := by rw [e]; simp
    have h2 : pre.length < n := by
      have := (List.getElem?_eq_some_iff.mp h1).1
      simpa using this
    rw [List.getElem?_range h2] at h1
    exact ⟨(Option.some.inj h1).symm, h2⟩
  obtain ⟨rfl, hlt⟩ := hx
  exact hs _ δ w N C hlt h (fun δ' w' h => hN δ' w' (by simpa using h)) (fun δ' w' h => hC δ' w' (by simpa using h))
/-- a while, by a word I over states a of one's own with a measure -/
theorem while_go {α : Type} {c : DTs_} {t : DS} {E : DEnds} (I : α → DSt → Om → Prop) (μ : α → Nat)
    (hs : ∀ a δ w, I a δ w → ∀ N : DSt → Om → Prop, (∀ a' δ' w', I a' δ' w' → μ a' < μ a → N δ' w') → c δ w fun k w1 => if k = true then t ⟨N, E.rt, E.nx, N⟩ δ w1 else E.nx δ w1)
    (a : α) {δ : DSt} {w : Om} (h : I a δ w) : dWhile c t E δ w := by
  have key : ∀ n a δ w, I a δ w → μ a < n → wN c t E n δ w := by
    intro n
    induction n with
    | zero => intro a δ w _ h; omega
    | succ n ih => exact fun a δ w hI hm => hs a δ w hI _ fun a' δ' w' hI' hlt => ih a' δ' w' hI' (by omega)
  exact ⟨μ a + 1, key _ a δ w h (Nat.lt_succ_self _)⟩
/-- a comprehension: f the item, h what comes of it -/
theorem lc_map {α : Type} {i : Nat} {te : DX} {δ : DSt} {w : Om} {Q : Bool → D → Om → Prop} (f : α → D) (h : α → D) (xs : List α)
    (hs : ∀ x ∈ xs, ∀ P : Bool → D → Om → Prop, (∀ b, P b (h x) w) → te (δ.set i (some (false, f x))) w P) :
    ∀ acc : List D, acc.length + xs.length ≤ sizeLine → Q true (.lst (acc ++ xs.map h)) w → dLcGo (gN i) dYes te δ (xs.map f) acc w Q := by
  induction xs with
  | nil => intro acc _ q; rw [List.map_nil, List.append_nil] at q; exact q
  | cons x xs ih =>
    intro acc hz q
    simp only [List.map_cons, dLcGo, gN, dYes, if_true]
    refine hs x List.mem_cons_self _ fun b => ⟨by simp at hz; omega, ?_⟩
    exact ih (fun y hy => hs y (List.mem_cons_of_mem _ hy)) _ (by simp at hz ⊢; omega) (by simpa using q)
/-- a comprehension with a test -/
theorem lc_filter {α : Type} {i : Nat} {tt : DTs_} {te : DX} {δ : DSt} {w : Om} {Q : Bool → D → Om → Prop} (f : α → D) (h : α → D) (p : α → Bool) (xs : List α)
    (ht : ∀ x ∈ xs, ∀ P : Bool → Om → Prop, P (p x) w → tt (δ.set i (some (false, f x))) w P)
    (hs : ∀ x ∈ xs, p x = true → ∀ P : Bool → D → Om → Prop, (∀ b, P b (h x) w) → te (δ.set i (some (false, f x))) w P) :
    ∀ acc : List D, acc.length + xs.length ≤ sizeLine → Q true (.lst (acc ++ (xs.filter p).map h)) w → dLcGo (gN i) tt te δ (xs.map f) acc w Q := by
  induction xs with
  | nil => intro acc _ q; rw [List.filter_nil, List.map_nil, List.append_nil] at q; exact q
  | cons x xs ih =>
    intro acc hz q
    simp only [List.map_cons, dLcGo, gN]
    refine ht x List.mem_cons_self _ ?_
    have ih' := ih (fun y hy => ht y (List.mem_cons_of_mem _ hy)) (fun y hy => hs y (List.mem_cons_of_mem _ hy))
    by_cases hp : p x = true
    · rw [if_pos hp]
      refine hs x List.mem_cons_self hp _ fun b => ⟨by simp at hz; omega, ?_⟩
      exact ih' _ (by simp at hz ⊢; omega) (by simpa [List.filter_cons, hp] using q)
    · rw [if_neg hp]
      exact ih' _ (by simp at hz ⊢; omega) (by simpa [List.filter_cons, hp] using q)
end
/-- words -/
def wD (ws : List Int) : D := .tup (ws.map .int)
def iD (ws : List Int) : D := .lst (ws.map .int)
theorem pyAll_ints : ∀ ns : List Int, pyAll (ns.map .int) = ns.map .int
  | [] => rfl
  | n :: ns => by simp [pyAll, D.py, pyAll_ints ns]
theorem plAll_ints : ∀ ns : List Int, plAll (ns.map .int) = true
  | [] => rfl
  | n :: ns => by simp [plAll, D.pl, plAll_ints ns]
theorem eqvAll_ints : ∀ ns ms : List Int, PyData.eqvAll (ns.map .int) (ms.map .int) = decide (ns = ms)
  | [], [] => rfl
  | [], _ :: _ => rfl
  | _ :: _, [] => rfl
  | n :: ns, m :: ms => by
    simp only [List.map_cons, PyData.eqvAll, PyData.eqv, eqvAll_ints ns ms]
    by_cases h : n = m <;> by_cases h2 : ns = ms <;> simp [h, h2]
theorem depthAll_ints : ∀ ns : List Int, PyData.depthAll (ns.map .int) = 0
  | [] => rfl
  | n :: ns => by simp [PyData.depthAll, PyData.depth, depthAll_ints ns]
theorem eqv_ww (ns ms : List Int) : D.eqv (.tup (ns.map .int)) (.tup (ms.map .int)) = decide (ns = ms) := by simp only [D.eqv, D.py, PyData.eqv, pyAll_ints, eqvAll_ints]
theorem eqv_ll (ns ms : List Int) : D.eqv (.lst (ns.map .int)) (.lst (ms.map .int)) = decide (ns = ms) := by simp only [D.eqv, D.py, PyData.eqv, pyAll_ints, eqvAll_ints]
theorem eqv_ii (n m : Int) : D.eqv (.int n) (.int m) = decide (n = m) := by
  show (n == m) = decide (n = m)
  exact Bool.beq_eq_decide_eq n m
theorem sEq_ii (n m : Int) (P : Bool → D → Prop) : sEq (.int n) (.int m) P = P false (.bl (decide (n = m))) := by
  unfold sEq
  rw [eqv_ii]
  simp [D.pl, D.py, PyData.depth]
theorem sNe_ii (n m : Int) (P : Bool → D → Prop) : sNe (.int n) (.int m) P = P false (.bl (!decide (n = m))) := by
  unfold sNe
  rw [eqv_ii]
  simp [D.pl, D.py, PyData.depth]
theorem sEq_ww (n m : List Int) (P : Bool → D → Prop) : sEq (.tup (n.map .int)) (.tup (m.map .int)) P = P false (.bl (decide (n = m))) := by
  unfold sEq
  rw [eqv_ww]
  simp [D.pl, D.py, PyData.depth, pyAll_ints, depthAll_ints, plAll_ints]
theorem sNe_ww (n m : List Int) (P : Bool → D → Prop) : sNe (.tup (n.map .int)) (.tup (m.map .int)) P = P false (.bl (!decide (n = m))) := by
  unfold sNe
  rw [eqv_ww]
  simp [D.pl, D.py, PyData.depth, pyAll_ints, depthAll_ints, plAll_ints]
theorem sEq_ll (n m : List Int) (P : Bool → D → Prop) : sEq (.lst (n.map .int)) (.lst (m.map .int)) P = P false (.bl (decide (n = m))) := by
  unfold sEq
  rw [eqv_ll]
  simp [D.pl, D.py, PyData.depth, pyAll_ints, depthAll_ints, plAll_ints]
theorem sNe_ll (n m : List Int) (P : Bool → D → Prop) : sNe (.lst (n.map .int)) (.lst (m.map .int)) P = P false (.bl (!decide (n = m))) := by
  unfold sNe
  rw [eqv_ll]
  simp [D.pl, D.py, PyData.depth, pyAll_ints, depthAll_ints, plAll_ints]
theorem kitB_ii : kitB "int" "int" = some true := by decide +kernel
theorem kitB_ib : kitB "int" "bool" = some false := by decide +kernel
theorem kitB_ll : kitB "list" "list" = some true := by decide +kernel
theorem kitB_tt : kitB "tuple" "tuple" = some true := by decide +kernel
theorem kitB_ss : kitB "str" "str" = some true := by decide +kernel
theorem sIsi_ii (i : Int) (P : Bool → D → Prop) : sIsi (.int i) (.ty "int") P = P false (.bl true) := by
  unfold sIsi; simp [tyD, kitB_ii]
theorem sIsi_ib (i : Int) (P : Bool → D → Prop) : sIsi (.int i) (.ty "bool") P = P false (.bl false) := by
  unfold sIsi; simp [tyD, kitB_ib]
theorem sIsi_ll (ds : List D) (P : Bool → D → Prop) : sIsi (.lst ds) (.ty "list") P = P false (.bl true) := by
  unfold sIsi; simp [tyD, kitB_ll]
theorem sIsi_tt (ds : List D) (P : Bool → D → Prop) : sIsi (.tup ds) (.ty "tuple") P = P false (.bl true) := by
  unfold sIsi; simp [tyD, kitB_tt]
theorem sIsi_ss (x : Str) (P : Bool → D → Prop) : sIsi (.str x) (.ty "str") P = P false (.bl true) := by
  unfold sIsi; simp [tyD, kitB_ss]
theorem atI_nn {α : Type} {xs : List α} {i : Int} (h : 0 ≤ i) (h2 : i < xs.length) : atI xs i = xs[i.toNat]? := by
  unfold atI ixN
  rw [if_pos h, if_pos h2]
  rfl
theorem divC {i j : Int} (h : 0 < j) (h2 : j < 2 ^ 64) : CDivW i j := by
  refine wide_div h (b := 64) ?_ (by decide) (by decide)
  omega
theorem mulC {i j : Int} (h : -(2 ^ 64) < i) (h2 : i < 2 ^ 64) : MulC i j := .inl (.inl ⟨h, h2⟩)
theorem mulC' {i j : Int} (h : -(2 ^ 64) < j) (h2 : j < 2 ^ 64) : MulC i j := .inl (.inr ⟨h, h2⟩)
end Lv
namespace Lv
open PySem PySem.Spec L2
section
variable {P : Program} {w : World} {K : PySem.W.Frag} {mg : Str → Option Value} {base : Heap}
theorem fn_okF  {T : DSp} {x qual : Str} {st : Stmt} {f : Addr} {fd : FuncData} {N ps : List Str} {k : Nat} (F : L2.Fun K x qual st f fd) (S : FnScope N ps (defScope st))
    (len : ∀ ds w P, T ds w P → ds.length = ps.length)
    (h : ∃ tb : Om → DS, (∀ (cdv : Value) (A : Around) (outer : List Env) (s : Shared) (H F0 He0 : Hp) (w0 : Om) (rep0 : rep K w0 F0 He0) (E : XK), Room k (A.deeper (PyProof.Rows.envOfC qual (defScope st) s.heap.objs.size f cdv)) → JSs (cxOf CX0 P w K mg base N qual (defScope st) f cdv A outer s H E).nox ⟨K, F0, He0, H, w0, rep0⟩ (defBody st) (tb w0)) ∧
      ∀ ds w P, T ds w P → tb w { nx := fun _ w => P false .non w, rt := P } (startD N ds) w) : FnOk P w K mg base CX0 (k + 1) f fd ps (toSp K T) := by
  obtain ⟨tb, hb, hT⟩ := h
  refine F.ok S (fun vs H Q E h => ?_) (fun cdv A outer s H vs Q E hr h => ?_)
  · obtain ⟨ds, w, F, He, P, _, r, q, _⟩ := h
    rw [r.length]
    exact len _ _ _ q
  · obtain ⟨ds, w, F, He, P, wd, r, q, k⟩ := h
    refine ⟨_, hb cdv A outer s H F He w wd.ex E hr, startD N ds, w, F, He, _, rel_start wd r, hT ds w P q, ?_⟩
    exact ⟨fun δ w' F' He' σ H' p R _ => k _ _ _ p .non H' F' He' R.wd R.st .non, fun b d w' p v H' F' He' wd' st' rr => k b d w' p v H' F' He' wd' st' rr, fun _ _ _ _ _ _ p => p.elim, fun _ _ _ _ _ _ p => p.elim⟩
end
/-- a law's promise: the script in, True out -/
def noMem : Om := fun _ => none
theorem rep_none {K : PySem.W.Frag} {F : Hp} : rep K noMem F (fun _ => none) := ⟨(fun _ _ e => nomatch e), fun _ _ => .inl rfl⟩
def lawT : DSp := fun ds w P => ∃ ns : List Int, ds = [.scr ns] ∧ ns.length ≤ 63 ∧ w = noMem ∧ ∀ w', P false (.bl true) w'
theorem law_sp {K : PySem.W.Frag} {a : Addr} {ns : List Int} {H : Hp} {Q : VK} {E : XK} (hl : ns.length ≤ 63) (hS : SqL K H a (ns.map V.int)) (hQ : ∀ H', Q (.bl true) H') : toSp K lawT [.ref a] H Q E := by
  refine ⟨[.scr ns], noMem, H, fun _ => none, fun b d _ => b = false ∧ d = .bl true, ⟨Same.refl _, (fun b o e => nomatch e), (fun b o e => nomatch e), rep_none⟩, .cons (.scr hS) .nil, ⟨ns, rfl, hl, rfl, fun _ => ⟨rfl, rfl⟩⟩, fun b d w' p v H' F' He' _ _ r => ?_⟩
  obtain ⟨rfl, rfl⟩ := p
  cases r
  exact hQ H'
end Lv

namespace Lv
open PySem PySem.Spec L2

/-! ### the results' readers, stuck where the result isn't known -/
section
variable {α : Type}
def kB (Q : Bool → α → Prop) (w : α) : D → Prop
  | .bl k => Q k w
  | _ => False
def kT (Q : Bool → α → Prop) (w : α) : D → Prop
  | .non => Q false w
  | .bl k => Q k w
  | .int i => Q (i != 0) w
  | .str x => x.length ≤ sizeLine ∧ Q ((x.length : Int) != 0) w
  | .lst ds => Q (!ds.isEmpty) w
  | .tup ds => Q (!ds.isEmpty) w
  | .scr ds => Q (!ds.isEmpty) w
  | .dK ds => Q (!ds.isEmpty) w
  | _ => False
def kAnd (u : α → Prop) (Q : Bool → D → α → Prop) (w : α) : D → Prop
  | .bl k => if k = true then u w else Q false (.bl false) w
  | _ => False
def kOr (u : α → Prop) (Q : Bool → D → α → Prop) (w : α) : D → Prop
  | .bl k => if k = true then Q false (.bl true) w else u w
  | _ => False
def kNot (Q : Bool → D → α → Prop) (w : α) : D → Prop
  | .bl k => Q false (.bl (!k)) w
  | _ => False
def kIt (Q : List D → α → Prop) (w : α) : D → Prop
  | .lst ds => Q ds w
  | .tup ds => Q ds w
  | .scr ns => Q (ns.map .int) w
  | .str x => Q (strD x) w
  | _ => False
def kP (Q : Option Int → α → Prop) (w : α) : D → Prop
  | .int i => Q (some i) w
  | _ => False
def kR1 (Q : List D → α → Prop) (w : α) : D → Prop
  | .int j => (-(2 ^ 62) ≤ j ∧ j < 2 ^ 62) ∧ Q (rngD 0 j.toNat) w
  | _ => False
def kR2 (Q : List D → α → Prop) (w : α) : D → D → Prop
  | .int i, .int j => (-(2 ^ 62) ≤ i ∧ i < 2 ^ 62 ∧ -(2 ^ 62) ≤ j ∧ j < 2 ^ 62) ∧ Q (rngD i (j - i).toNat) w
  | _, _ => False
end
section

theorem dB_u (t : DX) (δ : DSt) (w : Om) (Q : Bool → Om → Prop) : dB t δ w Q = t δ w fun _ d w' => kB Q w' d := rfl
theorem dTru_u (t : DO) (δ : DSt) (w : Om) (Q : Bool → Om → Prop) : dTru t δ w Q = t δ w fun d w' => kT Q w' (res w' d) := rfl
theorem dAndV_u (t u : DX) (δ : DSt) (w : Om) (Q : Bool → D → Om → Prop) : dAndV t u δ w Q = t δ w fun _ d w' => kAnd (fun w => u δ w Q) Q w' d := rfl
theorem dOrV_u (t u : DX) (δ : DSt) (w : Om) (Q : Bool → D → Om → Prop) : dOrV t u δ w Q = t δ w fun _ d w' => kOr (fun w => u δ w Q) Q w' d := rfl
theorem dNotV_u (t : DX) (δ : DSt) (w : Om) (Q : Bool → D → Om → Prop) : dNotV t δ w Q = t δ w fun _ d w' => kNot Q w' d := rfl
theorem dIt_u (t : DX) (δ : DSt) (w : Om) (Q : List D → Om → Prop) : dIt t δ w Q = t δ w fun _ d w' => kIt Q w' d := rfl
theorem dP_u (t : DO) (δ : DSt) (w : Om) (Q : Option Int → Om → Prop) : dP t δ w Q = t δ w fun d w' => kP Q w' d := rfl
theorem dRng1_u (t : DO) (δ : DSt) (w : Om) (Q : List D → Om → Prop) : dRng1 t δ w Q = t δ w fun d w' => kR1 Q w' d := rfl
theorem dRng2_u (t u : DO) (δ : DSt) (w : Om) (Q : List D → Om → Prop) : dRng2 t u δ w Q = t δ w fun d w1 => u δ w1 fun e w2 => kR2 Q w2 d e := rfl
theorem dChain_u (s1 s2 : D → D → (Bool → D → Prop) → Prop) (ta tb tc : DO) (δ : DSt) (w : Om) (Q : Bool → D → Om → Prop) : dChain s1 s2 ta tb tc δ w Q = ta δ w fun d w1 => tb δ w1 fun e w2 => s1 (res w2 d) (res w2 e) fun _ r => kAnd (fun w2 => tc δ w2 fun f w3 => s2 (res w3 e) (res w3 f) fun b d' => Q b d' w3) Q w2 r := rfl
end
theorem atI_ints {ns : List Int} {k : Int} {x : Int} (h0 : 0 ≤ k) (h : ns[k.toNat]? = some x) : atI (ns.map D.int) k = some (.int x) := by
  have hl := (List.getElem?_eq_some_iff.mp h).1
  rw [atI_nn h0 (by rw [List.length_map]; omega), List.getElem?_map, h]
  rfl
theorem atI_k {ns : List Int} {k : Nat} (h : k < ns.length) : atI (ns.map D.int) (0 + (k : Int)) = some (.int ns[k]) := atI_ints (by omega) (by rw [show (0 + (k : Int)).toNat = k by omega]; simp)
theorem atI_scr {ns : List Int} {k : Int} (h0 : 0 ≤ k) (h : k < ns.length) : ∃ x, atI ns k = some x := ⟨ns[k.toNat], by rw [atI_nn h0 h]; simp⟩
theorem atI_lastD (p : List D) (x : D) : atI (p ++ [x]) (-1) = some x := by
  unfold atI ixN
  have e : (-1 + ((p.length : Int) + 1)).toNat = p.length := by omega
  have e2 : (1 : Int) ≤ p.length + 1 := by omega
  simp [e, e2]
theorem atI_last (p : List Int) (x : Int) : atI ((p ++ [x]).map D.int) (-1) = some (.int x) := by
  rw [List.map_append]
  exact atI_lastD _ _
theorem fPop_snoc (p : List D) (x : D) : fPop (p ++ [x]) = some p := by simp [fPop]
theorem fPop_snoc' (p : List Int) (x : Int) : fPop ((p ++ [x]).map D.int) = some (p.map D.int) := by simp [fPop]
theorem mod_bd (i : Int) {j : Int} (h : 0 < j) : 0 ≤ i % j ∧ i % j < j := ⟨Int.emod_nonneg i (by omega), Int.emod_lt_of_pos i h⟩
theorem kR1_c {α : Type} {Q : List D → α → Prop} {w : α} {j : Int} (h : -(2 ^ 62) ≤ j) (h2 : j < 2 ^ 62) (q : Q (rngD 0 j.toNat) w) : kR1 Q w (.int j) := ⟨⟨h, h2⟩, q⟩
theorem rep1 {α : Type} (d : α) : ∀ n, (List.replicate n [d]).flatten = List.replicate n d
  | 0 => rfl
  | n + 1 => by rw [List.replicate_succ, List.flatten_cons, rep1 d n]; rfl
theorem cutD_le {α : Type} (ns : List α) (lo hi : Option Int) : (cutD ns lo hi).length ≤ ns.length := by unfold cutD; simp; omega
theorem cutD_map {α β : Type} (f : α → β) (ns : List α) (lo hi : Option Int) : cutD (ns.map f) lo hi = (cutD ns lo hi).map f := by unfold cutD; simp [List.map_take, List.map_drop]
theorem cutD_at {α : Type} (ns : List α) {k : Int} (h : 0 ≤ k) (h2 : k ≤ ns.length) : cutD ns none (some k) = ns.take k.toNat ∧ cutD ns (some k) none = ns.drop k.toNat := by
  have e1 : HT.sIx ns.length 0 (some k) = k.toNat := by
    unfold HT.sIx
    simp only []
    rw [if_neg (by omega)]
    omega
  have e2 : HT.sIx ns.length ns.length (some k) = k.toNat := by
    unfold HT.sIx
    simp only []
    rw [if_neg (by omega)]
    omega
  have e3 : HT.sIx ns.length 0 none = 0 := rfl
  have e4 : HT.sIx ns.length ns.length none = ns.length := rfl
  unfold cutD
  rw [e1, e2, e3, e4]
  constructor
  · simp
  · rw [List.take_of_length_le (by simp)]
end Lv

namespace Lv
open PySem PySem.Spec L2

/-! ### xs[a:b:n] of a list -/
def pickD {α : Type} (xs : List α) (lo hi st : Option Int) : List α :=
  (sliceRange (PySem.sliceBounds lo hi st xs.length).1 (PySem.sliceBounds lo hi st xs.length).2.1 (PySem.sliceBounds lo hi st xs.length).2.2).filterMap (xs[·]?)
theorem pick_vals {R : V → D → Prop} : ∀ (ks : List Nat) (vs : List V) (ds : List D), (∀ k : Nat, (vs[k]? = none ∧ ds[k]? = none) ∨ ∃ v d, vs[k]? = some v ∧ ds[k]? = some d ∧ R v d) → True := fun _ _ _ _ => trivial
section
variable {X : Cx} {z : Ent} {pos : Pos}
theorem vals_pick {xs : List V} {us : List Value} (r : Vals xs us) : ∀ ks : List Nat, Vals (ks.filterMap (xs[·]?)) (ks.filterMap (us[·]?)) := by
  intro ks
  induction ks with
  | nil => exact .nil
  | cons k ks ih =>
    rw [List.filterMap_cons, List.filterMap_cons]
    cases e : xs[k]? with
    | none =>
      have : us[k]? = none := by
        rw [List.getElem?_eq_none_iff] at e ⊢
        rw [← r.length]; exact e
      rw [this]
      exact ih
    | some x =>
      obtain ⟨u, hu, ru⟩ := r.get e
      rw [hu]
      exact .cons ru ih
theorem drs_pick {K : PySem.W.Frag} {F : Hp} {vs : List V} {ds : List D} (r : DRs K F vs ds) : ∀ ks : List Nat, DRs K F (ks.filterMap (vs[·]?)) (ks.filterMap (ds[·]?)) := by
  intro ks
  induction ks with
  | nil => exact .nil
  | cons k ks ih =>
    rw [List.filterMap_cons, List.filterMap_cons]
    cases e : ds[k]? with
    | none =>
      have : vs[k]? = none := by
        rw [List.getElem?_eq_none_iff] at e ⊢
        rw [r.length]; exact e
      rw [this]
      exact ih
    | some x =>
      obtain ⟨u, hu, ru⟩ := r.get e
      rw [hu]
      exact .cons ru ih
theorem pickD_le {α : Type} (xs : List α) (lo hi st : Option Int) : (pickD xs lo hi st).length ≤ xs.length := by
  have := PySem.slicePick_size_le (items := (xs.map fun _ => Value.none).toArray) lo hi st
  unfold PySem.slicePick at this
  rw [List.size_toArray, List.size_toArray, List.length_map] at this
  refine Nat.le_trans ?_ this
  unfold pickD
  generalize sliceRange _ _ _ = ks
  induction ks with
  | nil => simp
  | cons k ks ih =>
    rw [List.filterMap_cons, List.filterMap_cons]
    have e : ((xs.map fun _ => Value.none).toArray)[k]? = (xs[k]?).map fun _ => Value.none := by simp
    rw [e]
    cases xs[k]? with
    | none => exact ih
    | some x => simp only [Option.map, List.length_cons]; omega
def tSl3 (K : PySem.W.Frag) (te : TE) (tl th ts : TO) : TE := fun σ H Q => te σ H fun x H1 => tl σ H1 fun l H2 => th σ H2 fun u H3 => ts σ H3 fun st H4 => ∃ a xs, x = .ref a ∧ SqL K H4 a xs ∧ st ≠ some 0 ∧ ∀ p, H4 p = none → Q (.ref p) (upd H4 p (.lst (pickD xs l u st)))
open PyProof.Rows in
theorem pe_sl3 {e : Expr} {lo hi : Option Expr} {sx : Expr} {te : TE} {tl th ts : TO} {p3 pos : Pos} (he : PE X e te) (hl : PO X lo tl) (hh : PO X hi th) (hs : PO X (some sx) ts) : PE X (.Subscript e (.Slice lo hi (some sx) p3) pos) (tSl3 X.K te tl th ts) := by
  refine ⟨fun pins s σ H Q I h => ?_⟩
  refine PyProof.Rows.Subscript_ (thn (he.run pins s σ H _ I h) fun v s1 ⟨x, H1, I1, r1, q1⟩ => ?_)
  refine wpAny_Slice (thn (hl.run pins s1 σ H1 _ I1 q1) fun vl s2 ⟨l, H2, I2, pl, q2⟩ => ?_)
  refine thn (hh.run pins s2 σ H2 _ I2 q2) fun vu s3 ⟨u, H3, I3, pu, q3⟩ => ?_
  refine thn (hs.run pins s3 σ H3 _ I3 q3) fun vs s4 ⟨o, H4, I4, ps, q4⟩ => ?_
  obtain ⟨a, xs, ex, hx, h0, q⟩ := q4
  subst ex
  cases r1
  have I5 : Inv X pins σ H4 { s4 with heap := s4.heap.push { cls := .type "slice", data := .fields #[vl, vu, vs] } } := I4.kept (t' := s4.toks) fun b ob q => Heap.get?_push_of_some _ q
  show wpAny (model X.prog X.w) X.A (subscriptTail e (.Slice lo hi (some sx) p3) (.ref a) (.ref s4.heap.objs.size)) (EP X pins σ Q) X.xe { s4 with heap := s4.heap.push { cls := .type "slice", data := .fields #[vl, vu, vs] } }
  obtain ⟨its, r, ht, hz⟩ := I5.list hx
  have hlen := r.length
  refine tail_any (ops := [.ref a, .ref s4.heap.objs.size]) ht.isList.typeIs (PySem.slot_list_getitem.lookup) ?_ (by with_unfolding_all rfl)
  refine wpAny_getItem_list_slice ht.isList (Heap.IsSliceOf.new _ vl vu vs) pl pu ps h0 ?_ (by rw [List.size_toArray]; omega)
  have e : slicePick its.toArray l u o = (pickD its l u o).toArray := by
    unfold slicePick pickD
    rw [List.size_toArray]
    simp
  have e2 : Vals (pickD xs l u o) (pickD its l u o) := by
    unfold pickD
    rw [hlen]
    exact vals_pick r _
  rw [e]
  refine ⟨.ref _, _, I5.laid (t' := s4.toks) (o := .lst (pickD xs l u o)) (fun b ob q => Heap.get?_push_of_some _ q) (Nat.le_refl _) ?_, rfl, q _ (I5.hok.fresh (Nat.le_refl _))⟩
  exact ⟨Nat.le_trans (pickD_le xs l u o) hz, _, 0, e2, Heap.get?_push_size _ rfl⟩
def sSl3 (d : D) (lo hi st : Option Int) (P : Bool → D → Prop) : Prop := match d with
  | .lst ds => st ≠ some 0 ∧ P true (.lst (pickD ds lo hi st))
  | .scr ns => st ≠ some 0 ∧ P true (.lst ((pickD ns lo hi st).map .int))
  | _ => False
theorem pickD_map {α β : Type} (f : α → β) (xs : List α) (lo hi st : Option Int) : pickD (xs.map f) lo hi st = (pickD xs lo hi st).map f := by
  unfold pickD
  rw [List.length_map]
  generalize sliceRange _ _ _ = ks
  induction ks with
  | nil => rfl
  | cons k ks ih =>
    rw [List.filterMap_cons, List.filterMap_cons, ih, List.getElem?_map]
    cases xs[k]? <;> rfl
theorem sem_sl3 {w : Om} {F He H : Hp} {x : V} {d : D} {lo hi st : Option Int} {P : Bool → D → Prop} {Q : VK} (wd : Wd z.K w F He H) (dx : DT z.K F He H x d) (q : sSl3 d lo hi st P)
    (k : ∀ b d', P b d' → ∀ v H' F' He', Wd z.K w F' He' H' → Step F He H F' He' H' → Res z.K F' He' H H' b v d' → Q v H') : ∃ a xs, x = .ref a ∧ SqL z.K H a xs ∧ st ≠ some 0 ∧ ∀ p, H p = none → Q (.ref p) (upd H p (.lst (pickD xs lo hi st))) := by
  unfold sSl3 at q
  split at q
  · obtain ⟨a, vs, rfl, ha, ra⟩ := dx.lst wd.sf
    refine ⟨a, vs, rfl, .of ha, q.1, fun p hp => res_new wd hp (.lst ?_) q.2 k⟩
    unfold pickD
    rw [ra.length]
    exact drs_pick ra _
  · next ns =>
    obtain ⟨a, rfl, ha⟩ := dx.scr wd.sf
    refine ⟨a, _, rfl, ha, q.1, fun p hp => res_new wd hp (.lst ?_) q.2 k⟩
    rw [pickD_map]
    exact DRs.ofInts _
  · exact q.elim
def dSl3  (t : DO) (l h s : DP) : DX := fun δ w Q => t δ w fun d w1 => l δ w1 fun lo w2 => h δ w2 fun hi w3 => s δ w3 fun st w4 => sSl3 (res w4 d) lo hi st fun b d' => Q b d' w4
theorem jx_sl3 {e : Expr} {lo hi : Option Expr} {sx : Expr} {t : DO} {tl th ts : DP} {p2 : Pos} (hK : z.K = X.K) (he : JO X z e t) (hl : PO X lo (liftP z tl)) (hh : PO X hi (liftP z th)) (hs : PO X (some sx) (liftP z ts)) : JX X z (.Subscript e (.Slice lo hi (some sx) p2) pos) (dSl3 t tl th ts) :=
  PE.imp (pe_sl3 he hl hh hs) fun σ H Q ⟨δ, w, F, He, P, R, q, k⟩ => by
    refine ⟨δ, w, F, He, _, R, q, fun d w1 q1 v H1 F1 He1 wd1 st1 r1 => ?_⟩
    refine ⟨δ, w1, F1, He1, _, R.step wd1 st1, q1, fun o w2 q2 H2 F2 He2 wd2 st2 => ?_⟩
    refine ⟨δ, w2, F2, He2, _, (R.step wd1 st1).step wd2 st2, q2, fun o' w3 q3 H3 F3 He3 wd3 st3 => ?_⟩
    refine ⟨δ, w3, F3, He3, _, ((R.step wd1 st1).step wd2 st2).step wd3 st3, q3, fun o'' w4 q4 H4 F4 He4 wd4 st4 => ?_⟩
    have st := st1.trans (st2.trans (st3.trans st4))
    rw [← hK]
    exact sem_sl3 wd4 (res_ok wd4.ex wd4.sh (r1.step (st2.trans (st3.trans st4)))) q4 fun b d' p v H' F' He' wd s' rr => k b d' w4 p v H' F' He' wd (st.trans s') (rr.base st)
end
end Lv

namespace Lv
open PySem PySem.Spec L2

/-! ### told data: f writes an α as data, == is its own equality -/
structure Codec {α : Type} (f : α → D) (n : Nat) : Prop where
  pl : ∀ a, (f a).pl = true
  dep : ∀ a, (f a).py.depth ≤ n
  eq : ∀ a b, PyData.eqv (f a).py (f b).py = true ↔ a = b
theorem Codec.int : Codec D.int 0 := ⟨fun _ => rfl, fun _ => Nat.le_refl _, fun a b => by simp [D.py, PyData.eqv]⟩
theorem Codec.str : Codec D.str 0 := ⟨fun _ => rfl, fun _ => Nat.le_refl _, fun a b => by simp [D.py, PyData.eqv]⟩
theorem Codec.bl : Codec D.bl 0 := ⟨fun _ => rfl, fun _ => Nat.le_refl _, fun a b => by simp [D.py, PyData.eqv]⟩
section
variable {α β : Type} {f : α → D} {n : Nat}
theorem Codec.plAll (c : Codec f n) : ∀ as : List α, Lv.plAll (as.map f) = true
  | [] => rfl
  | a :: as => by rw [List.map_cons, Lv.plAll, c.pl, c.plAll as]; rfl
theorem Codec.depAll (c : Codec f n) : ∀ as : List α, PyData.depthAll (pyAll (as.map f)) ≤ n
  | [] => Nat.zero_le _
  | a :: as => by rw [List.map_cons, pyAll, PyData.depthAll]; exact Nat.max_le.mpr ⟨c.dep a, c.depAll as⟩
theorem Codec.eqAll (c : Codec f n) : ∀ as bs : List α, PyData.eqvAll (pyAll (as.map f)) (pyAll (bs.map f)) = true ↔ as = bs
  | [], [] => by simp [pyAll, PyData.eqvAll]
  | [], _ :: _ => by simp [pyAll, PyData.eqvAll]
  | _ :: _, [] => by simp [pyAll, PyData.eqvAll]
  | a :: as, b :: bs => by simp [pyAll, PyData.eqvAll, c.eq a b, c.eqAll as bs]
theorem Codec.lst (c : Codec f n) : Codec (fun as : List α => .lst (as.map f)) (n + 1) := ⟨fun as => c.plAll as, fun as => Nat.succ_le_succ (c.depAll as), fun as bs => by simpa [D.py, PyData.eqv] using c.eqAll as bs⟩
theorem Codec.tup (c : Codec f n) : Codec (fun as : List α => .tup (as.map f)) (n + 1) := ⟨fun as => c.plAll as, fun as => Nat.succ_le_succ (c.depAll as), fun as bs => by simpa [D.py, PyData.eqv] using c.eqAll as bs⟩
theorem Codec.up (c : Codec f n) {m : Nat} (h : n ≤ m) : Codec f m := ⟨c.pl, fun a => Nat.le_trans (c.dep a) h, c.eq⟩
theorem Codec.pair (c : Codec f n) {g : β → D} (d : Codec g n) : Codec (fun p : α × β => .tup [f p.1, g p.2]) (n + 1) :=
  ⟨fun p => by simp [D.pl, Lv.plAll, c.pl, d.pl], fun p => Nat.succ_le_succ (by simp only [pyAll, PyData.depthAll]; have := c.dep p.1; have := d.dep p.2; omega), fun p q => by simp [D.py, pyAll, PyData.eqv, PyData.eqvAll, c.eq, d.eq, Prod.ext_iff]⟩
theorem Codec.sEq [DecidableEq α] (c : Codec f n) (h : n ≤ 64) (a b : α) (P : Bool → D → Prop) : Lv.sEq (f a) (f b) P = P false (.bl (decide (a = b))) := by
  have e : (f a).eqv (f b) = decide (a = b) := by
    rw [Bool.eq_iff_iff, decide_eq_true_iff]
    exact c.eq a b
  unfold Lv.sEq
  rw [e]
  have := c.dep a
  simp [c.pl]
  intro _
  omega
theorem Codec.sNe [DecidableEq α] (c : Codec f n) (h : n ≤ 64) (a b : α) (P : Bool → D → Prop) : Lv.sNe (f a) (f b) P = P false (.bl (!decide (a = b))) := by
  have e : (f a).eqv (f b) = decide (a = b) := by
    rw [Bool.eq_iff_iff, decide_eq_true_iff]
    exact c.eq a b
  unfold Lv.sNe
  rw [e]
  have := c.dep a
  simp [c.pl]
  intro _
  omega
end
section
variable {α : Type} {f : α → D} {n : Nat}
theorem Codec.inD [DecidableEq α] (c : Codec f n) (a : α) : ∀ as : List α, Lv.inD (f a) (as.map f) = decide (a ∈ as)
  | [] => rfl
  | b :: as => by
    have ih := c.inD a as
    unfold Lv.inD at ih ⊢
    rw [List.map_cons, List.any_cons, ih]
    have e : (f b).eqv (f a) = decide (b = a) := by
      rw [Bool.eq_iff_iff, decide_eq_true_iff]
      exact c.eq b a
    rw [e]
    by_cases h : a = b
    · subst h; simp
    · have h' : ¬ b = a := fun e => h e.symm
      simp [h, h']
theorem Codec.sInL [DecidableEq α] (c : Codec f n) (h : n ≤ 64) (neg : Bool) (a : α) (as : List α) (P : Bool → D → Prop) : sIn neg (f a) (.lst (as.map f)) P = P false (.bl (if neg then !decide (a ∈ as) else decide (a ∈ as))) := by
  unfold sIn
  have := c.dep a
  simp only [c.inD, c.pl, c.plAll, true_and]
  simp
  intro _
  omega
theorem Codec.sInT [DecidableEq α] (c : Codec f n) (h : n ≤ 64) (neg : Bool) (a : α) (as : List α) (P : Bool → D → Prop) : sIn neg (f a) (.tup (as.map f)) P = P false (.bl (if neg then !decide (a ∈ as) else decide (a ∈ as))) := by
  unfold sIn
  have := c.dep a
  simp only [c.inD, c.pl, c.plAll, true_and]
  simp
  intro _
  omega
end
/-- lists of words, words of words -/
def lwD (ws : List (List Int)) : D := .lst (ws.map wD)
def llD (ws : List (List Int)) : D := .lst (ws.map iD)
theorem Codec.w : Codec wD 1 := Codec.int.tup
theorem Codec.i : Codec iD 1 := Codec.int.lst
theorem Codec.lw : Codec lwD 2 := Codec.w.lst
theorem Codec.ll : Codec llD 2 := Codec.i.lst
theorem sEq_w (a b : List Int) (P : Bool → D → Prop) : sEq (wD a) (wD b) P = P false (.bl (decide (a = b))) := Codec.w.sEq (by decide) a b P
theorem sEq_i (a b : List Int) (P : Bool → D → Prop) : sEq (iD a) (iD b) P = P false (.bl (decide (a = b))) := Codec.i.sEq (by decide) a b P
theorem sEq_lw (a b : List (List Int)) (P : Bool → D → Prop) : sEq (lwD a) (lwD b) P = P false (.bl (decide (a = b))) := Codec.lw.sEq (by decide) a b P
theorem sEq_lw' (a b : List (List Int)) (P : Bool → D → Prop) : sEq (.lst (a.map wD)) (.lst (b.map wD)) P = P false (.bl (decide (a = b))) := Codec.lw.sEq (by decide) a b P
theorem sEq_lle (a b : List (List Int)) (P : Bool → D → Prop) : sEq (llD a) (llD b) P = P false (.bl (decide (a = b))) := Codec.ll.sEq (by decide) a b P
theorem sEq_lle' (a b : List (List Int)) (P : Bool → D → Prop) : sEq (.lst (a.map iD)) (.lst (b.map iD)) P = P false (.bl (decide (a = b))) := Codec.ll.sEq (by decide) a b P
theorem sNe_w (a b : List Int) (P : Bool → D → Prop) : sNe (wD a) (wD b) P = P false (.bl (!decide (a = b))) := Codec.w.sNe (by decide) a b P
theorem sNe_i (a b : List Int) (P : Bool → D → Prop) : sNe (iD a) (iD b) P = P false (.bl (!decide (a = b))) := Codec.i.sNe (by decide) a b P
theorem sNe_lle' (a b : List (List Int)) (P : Bool → D → Prop) : sNe (.lst (a.map iD)) (.lst (b.map iD)) P = P false (.bl (!decide (a = b))) := Codec.ll.sNe (by decide) a b P
theorem sNe_lw' (a b : List (List Int)) (P : Bool → D → Prop) : sNe (.lst (a.map wD)) (.lst (b.map wD)) P = P false (.bl (!decide (a = b))) := Codec.lw.sNe (by decide) a b P
theorem sEq_ss (a b : Str) (P : Bool → D → Prop) : sEq (.str a) (.str b) P = P false (.bl (decide (a = b))) := Codec.str.sEq (by decide) a b P
theorem sNe_ss (a b : Str) (P : Bool → D → Prop) : sNe (.str a) (.str b) P = P false (.bl (!decide (a = b))) := Codec.str.sNe (by decide) a b P
theorem sEq_bb (a b : Bool) (P : Bool → D → Prop) : sEq (.bl a) (.bl b) P = P false (.bl (decide (a = b))) := Codec.bl.sEq (by decide) a b P
theorem sNe_bb (a b : Bool) (P : Bool → D → Prop) : sNe (.bl a) (.bl b) P = P false (.bl (!decide (a = b))) := Codec.bl.sNe (by decide) a b P
theorem sIn_iw (neg : Bool) (a : Int) (as : List Int) (P : Bool → D → Prop) : sIn neg (.int a) (.tup (as.map D.int)) P = P false (.bl (if neg then !decide (a ∈ as) else decide (a ∈ as))) := Codec.int.sInT (by decide) neg a as P
theorem sIn_ii (neg : Bool) (a : Int) (as : List Int) (P : Bool → D → Prop) : sIn neg (.int a) (.lst (as.map D.int)) P = P false (.bl (if neg then !decide (a ∈ as) else decide (a ∈ as))) := Codec.int.sInL (by decide) neg a as P
theorem sIn_wl (neg : Bool) (a : List Int) (as : List (List Int)) (P : Bool → D → Prop) : sIn neg (wD a) (.lst (as.map wD)) P = P false (.bl (if neg then !decide (a ∈ as) else decide (a ∈ as))) := (Codec.w.sInL (by decide) neg a as P).trans (by congr)
theorem sIn_wl' (neg : Bool) (a : List Int) (as : List (List Int)) (P : Bool → D → Prop) : sIn neg (.tup (a.map D.int)) (.lst (as.map wD)) P = P false (.bl (if neg then !decide (a ∈ as) else decide (a ∈ as))) := (Codec.w.sInL (by decide) neg a as P).trans (by congr)
theorem atI_f {α : Type} (f : α → D) {ns : List α} {k : Int} {x : α} (h0 : 0 ≤ k) (h : ns[k.toNat]? = some x) : atI (ns.map f) k = some (f x) := by
  have hl := (List.getElem?_eq_some_iff.mp h).1
  rw [atI_nn h0 (by rw [List.length_map]; omega), List.getElem?_map, h]
  rfl
theorem atI_fk {α : Type} (f : α → D) {ns : List α} {k : Nat} (h : k < ns.length) : atI (ns.map f) (0 + (k : Int)) = some (f ns[k]) := atI_f f (by omega) (by rw [show (0 + (k : Int)).toNat = k by omega]; simp)
/-- a comprehension whose items are only known by a word R -/
theorem lc_any  {α β : Type} {i : Nat} {te : DX} {δ : DSt} {w : Om} {Q : Bool → D → Om → Prop} (f : α → D) (g : β → D) (R : α → β → Prop) (xs : List α)
    (hs : ∀ x ∈ xs, ∀ P : Bool → D → Om → Prop, (∀ b y, R x y → P b (g y) w) → te (δ.set i (some (false, f x))) w P) :
    ∀ acc : List D, acc.length + xs.length ≤ sizeLine → (∀ ys : List β, ys.length = xs.length → (∀ y ∈ ys, ∃ x ∈ xs, R x y) → Q true (.lst (acc ++ ys.map g)) w) → dLcGo (gN i) dYes te δ (xs.map f) acc w Q := by
  induction xs with
  | nil =>
    intro acc _ q
    have := q [] rfl (fun _ h => nomatch h)
    rw [List.map_nil, List.append_nil] at this
    exact this
  | cons x xs ih =>
    intro acc hz q
    simp only [List.map_cons, dLcGo, gN, dYes, if_true]
    refine hs x List.mem_cons_self _ fun b y hy => ⟨by simp at hz; omega, ?_⟩
    refine ih (fun y hy => hs y (List.mem_cons_of_mem _ hy)) _ (by simp at hz ⊢; omega) fun ys hl hr => ?_
    have := q (y :: ys) (by simp [hl]) (fun y' h' => by
      rcases List.mem_cons.mp h' with e | e
      · subst e; exact ⟨x, List.mem_cons_self, hy⟩
      · obtain ⟨x', hx', r⟩ := hr y' e
        exact ⟨x', List.mem_cons_of_mem _ hx', r⟩)
    simpa using this
theorem if_join {p : Prop} [Decidable p] {a b : Prop} (h : p → a) (g : ¬p → b) : if p then a else b := by
  by_cases x : p
  · rw [if_pos x]; exact h x
  · rw [if_neg x]; exact g x
theorem cutD_nn {α : Type} (ns : List α) {i j : Int} (h : 0 ≤ i) (h2 : i ≤ j) (h3 : j ≤ ns.length) : cutD ns (some i) (some j) = (ns.drop i.toNat).take (j - i).toNat := by
  have e1 : HT.sIx ns.length 0 (some i) = i.toNat := by
    unfold HT.sIx
    simp only []
    rw [if_neg (by omega)]
    omega
  have e2 : HT.sIx ns.length ns.length (some j) = j.toNat := by
    unfold HT.sIx
    simp only []
    rw [if_neg (by omega)]
    omega
  unfold cutD
  rw [e1, e2]
  congr 1
  omega
theorem cutD_mid {α : Type} (a b c : List α) : cutD (a ++ b ++ c) (some (a.length : Int)) (some ((a.length : Int) + b.length)) = b := by
  rw [cutD_nn _ (by omega) (by omega) (by simp; omega), List.append_assoc]
  have e : ((a.length : Int) + b.length - a.length).toNat = b.length := by omega
  rw [e]
  simp
theorem cutD_upto {α : Type} (ns : List α) {j : Int} (h : 0 ≤ j) : cutD ns none (some j) = ns.take j.toNat := by
  have e2 : HT.sIx ns.length ns.length (some j) = min j.toNat ns.length := by
    unfold HT.sIx
    simp only []
    rw [if_neg (by omega)]
  have e3 : HT.sIx ns.length 0 none = 0 := rfl
  unfold cutD
  rw [e2, e3, List.drop_zero, Nat.sub_zero]
  by_cases x : j.toNat ≤ ns.length
  · rw [Nat.min_eq_left x]
  · rw [Nat.min_eq_right (by omega), List.take_of_length_le (Nat.le_refl _), List.take_of_length_le (by omega)]
end Lv

namespace Lv
open PySem PySem.Spec L2

/-! ### methods of texts and lists that give a value -/
def isS : D → Prop
  | .str _ => True
  | _ => False
def isL : D → Prop
  | .lst _ => True
  | .scr _ => True
  | _ => False
def isA : D → Prop
  | .tup _ => True
  | _ => False
def dM0  (ty : D → Prop) (sem : D → (Bool → D → Prop) → Prop) (ta : DO) : DX := fun δ w Q => ta δ w fun d w1 => ty (res w1 d) ∧ sem (res w1 d) fun b d' => Q b d' w1
def dM1  (ty : D → Prop) (sem : D → D → (Bool → D → Prop) → Prop) (ta tb : DO) : DX := fun δ w Q => ta δ w fun d w1 => ty (res w1 d) ∧ tb δ w1 fun e w2 => sem (res w2 d) (res w2 e) fun b d' => Q b d' w2
def TyOk (z : Ent) (T : String) (ty : D → Prop) : Prop := ∀ (F He H : Hp) (x : V) (d : D), Same F H → DT z.K F He H x d → ty d → tyV z.K T x H
theorem ty_str {z : Ent} : TyOk z "str" isS := fun F He H x d s r h => by
  cases d with
  | str y => cases r.str; exact rfl
  | _ => exact h.elim
theorem ty_list {z : Ent} : TyOk z "list" isL := fun F He H x d s r h => by
  cases d with
  | lst ds => obtain ⟨a, vs, rfl, ha, _⟩ := r.lst s; exact .inl ⟨rfl, vs, .of ha⟩
  | scr ns => obtain ⟨a, rfl, ha⟩ := r.scr s; exact .inl ⟨rfl, _, ha⟩
  | _ => exact h.elim
def SemM0 (z : Ent) (r : V → List V → Hp → VK → Prop) (sem : D → (Bool → D → Prop) → Prop) : Prop := Sem1 z (fun x H Q => r x [] H Q) sem
def SemM1 (z : Ent) (r : V → List V → Hp → VK → Prop) (sem : D → D → (Bool → D → Prop) → Prop) : Prop := Sem2 z (fun x y H Q => r x [y] H Q) sem
section
variable {X : Cx} {z : Ent} {pos : Pos}
theorem jx_m0 {T id : String} {name : Str} {r : V → List V → Hp → VK → Prop} {ty : D → Prop} {sem : D → (Bool → D → Prop) → Prop} {o : Expr} {to : DO} {apos cpos : Pos} (pa : PlainAttrs T) (slot : Slot T name id) (hty : typeOf (.builtin id) = pure (.type "method_descriptor")) (hm : MtR X id r) (ht : TyOk z T ty) (hs : SemM0 z r sem) (hK : z.K = X.K) (ho : JO X z o to)
    (hbase : attributeBase o name X.env (eval o X.env) = eval o X.env := by rfl) (hline : (apos.endLine == cpos.line) = true := by rfl) : JX X z (.Call (.Attribute o name apos) [] [] cpos) (dM0 ty sem to) :=
  PE.imp (pe_bm0 pa slot hty hm ho hbase hline) fun σ H Q ⟨δ, w, F, He, P, R, q, k⟩ => by
    refine ⟨δ, w, F, He, _, R, q, fun d w1 q1 x H1 F1 He1 wd1 st1 r1 => ⟨?_, ?_⟩⟩
    · rw [← hK]; exact ht F1 He1 H1 x _ wd1.sf (res_ok wd1.ex wd1.sh r1) q1.1
    · exact hs w1 F1 He1 H1 x _ _ Q wd1 (res_ok wd1.ex wd1.sh r1) q1.2 fun b d' p v H' F' He' wd st rr => k b d' w1 p v H' F' He' wd (st1.trans st) (rr.base st1)
theorem jx_m1 {T id : String} {name : Str} {r : V → List V → Hp → VK → Prop} {ty : D → Prop} {sem : D → D → (Bool → D → Prop) → Prop} {o e : Expr} {to te : DO} {apos cpos : Pos} (pa : PlainAttrs T) (slot : Slot T name id) (hty : typeOf (.builtin id) = pure (.type "method_descriptor")) (hm : MtR X id r) (ht : TyOk z T ty) (hs : SemM1 z r sem) (hK : z.K = X.K) (ho : JO X z o to) (he : JO X z e te)
    (hbase : attributeBase o name X.env (eval o X.env) = eval o X.env := by rfl)
    (hfew : ((backTo cpos (starEach [e] X.env)).all (fun x => !x.1) && (backToKw cpos (keywordEach [] X.env)).all (fun x => x.1.isSome)
      && decide ([e].length + ([] : List Keyword).length + (if ([] : List Keyword).isEmpty then 0 else 1) < 30)) = true := by rfl)
    (hline : (apos.endLine == cpos.line) = true := by rfl) (hs1 : starEach [e] X.env = [(false, eval e X.env)] := by rfl) (hplain : (backTo cpos (starEach ([] : List Expr) X.env)).any (·.1) = false := by rfl) : JX X z (.Call (.Attribute o name apos) [e] [] cpos) (dM1 ty sem to te) :=
  PE.imp (pe_bm pa slot hty hm ho (pa_cons he pa_nil hs1) hbase hfew hline hs1 hplain) fun σ H Q ⟨δ, w, F, He, P, R, q, k⟩ => by
    refine ⟨δ, w, F, He, _, R, q, fun d w1 q1 x H1 F1 He1 wd1 st1 r1 => ⟨?_, ?_⟩⟩
    · rw [← hK]; exact ht F1 He1 H1 x _ wd1.sf (res_ok wd1.ex wd1.sh r1) q1.1
    · refine ⟨δ, w1, F1, He1, _, R.step wd1 st1, q1.2, fun e w2 q2 y H2 F2 He2 wd2 st2 r2 => ?_⟩
      exact hs w2 F2 He2 H2 x y _ _ _ Q wd2 (res_ok wd2.ex wd2.sh (r1.step st2)) (res_ok wd2.ex wd2.sh r2) q2 fun b d' p v H' F' He' wd st rr => k b d' w2 p v H' F' He' wd ((st1.trans st2).trans st) (rr.base (st1.trans st2))
def sUpper (d : D) (P : Bool → D → Prop) : Prop := match d with
  | .str x => x.length ≤ 5592405 ∧ P false (.str (Txt.upper x))
  | _ => False
def sLower (d : D) (P : Bool → D → Prop) : Prop := match d with
  | .str x => x.length ≤ 5592405 ∧ P false (.str (Txt.lower x))
  | _ => False
theorem sem_upper : SemM0 z (fun x xs H Q => ∃ a, x = .str a ∧ xs = [] ∧ a.length ≤ 5592405 ∧ Q (.str (Txt.upper a)) H) sUpper := fun w F He H x d P Q wd dx q k => by
  unfold sUpper at q
  split at q
  · exact ⟨_, dx.str, rfl, q.1, res_at wd (.str _) q.2 k⟩
  · exact q.elim
theorem sem_lower : SemM0 z (fun x xs H Q => ∃ a, x = .str a ∧ xs = [] ∧ a.length ≤ 5592405 ∧ Q (.str (Txt.lower a)) H) sLower := fun w F He H x d P Q wd dx q k => by
  unfold sLower at q
  split at q
  · exact ⟨_, dx.str, rfl, q.1, res_at wd (.str _) q.2 k⟩
  · exact q.elim
def sStrip1 (d e : D) (P : Bool → D → Prop) : Prop := match d, e with
  | .str a, .str b => a.length ≤ sizeLine ∧ P false (.str (Txt.stripChars a b))
  | _, _ => False
theorem sem_sstrip : SemM1 z (fun x xs H Q => ∃ a b, x = .str a ∧ xs = [.str b] ∧ a.length ≤ sizeLine ∧ Q (.str (Txt.stripChars a b)) H) sStrip1 := fun w F He H x y d e P Q wd dx dy q k => by
  unfold sStrip1 at q
  split at q
  · exact ⟨_, _, dx.str, by rw [dy.str], q.1, res_at wd (.str _) q.2 k⟩
  · exact q.elim
def sSfind (d e : D) (P : Bool → D → Prop) : Prop := match d, e with
  | .str a, .str b => P false (.int (Txt.find a b))
  | _, _ => False
theorem sem_sfind : SemM1 z (fun x xs H Q => ∃ a b, x = .str a ∧ xs = [.str b] ∧ Q (.int (Txt.find a b)) H) sSfind := fun w F He H x y d e P Q wd dx dy q k => by
  unfold sSfind at q
  split at q
  · exact ⟨_, _, dx.str, by rw [dy.str], res_at wd (.int _) q k⟩
  · exact q.elim
def sScount (d e : D) (P : Bool → D → Prop) : Prop := match d, e with
  | .str a, .str b => P false (.int (Txt.count a b))
  | _, _ => False
theorem sem_scount : SemM1 z (fun x xs H Q => ∃ a b, x = .str a ∧ xs = [.str b] ∧ Q (.int (Txt.count a b)) H) sScount := fun w F He H x y d e P Q wd dx dy q k => by
  unfold sScount at q
  split at q
  · exact ⟨_, _, dx.str, by rw [dy.str], res_at wd (.int _) q k⟩
  · exact q.elim
def sSindex (d e : D) (P : Bool → D → Prop) : Prop := match d, e with
  | .str a, .str b => ∃ i rest, Builtin.Str.occurrences a b 0 a.length 1 = i :: rest ∧ P false (.int (i : Nat))
  | _, _ => False
theorem sem_sindex : SemM1 z (fun x xs H Q => ∃ a b i rest, x = .str a ∧ xs = [.str b] ∧ Builtin.Str.occurrences a b 0 a.length 1 = i :: rest ∧ Q (.int (i : Nat)) H) sSindex := fun w F He H x y d e P Q wd dx dy q k => by
  unfold sSindex at q
  split at q
  · obtain ⟨i, rest, e1, q⟩ := q
    exact ⟨_, _, i, rest, dx.str, by rw [dy.str], e1, res_at wd (.int _) q k⟩
  · exact q.elim
theorem drs_strs {K : PySem.W.Frag} {F : Hp} : ∀ ys : List Str, DRs K F (ys.map V.str) (ys.map D.str)
  | [] => .nil
  | y :: ys => .cons (.str y) (drs_strs ys)
theorem of_strs {K : PySem.W.Frag} {F : Hp} : ∀ {ys : List Str} {vs : List V}, DRs K F vs (ys.map D.str) → vs = ys.map V.str
  | [], _, .nil => rfl
  | y :: ys, _, .cons h hs => by
    cases h
    rw [of_strs hs]
    rfl
def sSsplit (d e : D) (P : Bool → D → Prop) : Prop := match d, e with
  | .str a, .str b => (b.length == 0) = false ∧ a.length + 2 ≤ sizeLine ∧ P true (.lst ((Txt.split a b).map .str))
  | _, _ => False
theorem sem_ssplit : SemM1 z (fun x xs H Q => ∃ a b, x = .str a ∧ xs = [.str b] ∧ (b.length == 0) = false ∧ a.length + 2 ≤ sizeLine ∧ rNewStrs (Txt.split a b) H Q) sSsplit := fun w F He H x y d e P Q wd dx dy q k => by
  unfold sSsplit at q
  split at q
  · exact ⟨_, _, dx.str, by rw [dy.str], q.1, q.2.1, fun p hp => res_new wd hp (.lst (drs_strs _)) q.2.2 k⟩
  · exact q.elim
def sSjoin (d e : D) (P : Bool → D → Prop) : Prop := match d, e with
  | .str a, .lst ds => ∃ ys : List Str, ds = ys.map .str ∧ (ys.map (·.length)).sum + ys.length * a.length ≤ 16777216 ∧ P false (.str (Txt.join a ys))
  | .str a, .tup ds => ∃ ys : List Str, ds = ys.map .str ∧ (ys.map (·.length)).sum + ys.length * a.length ≤ 16777216 ∧ P false (.str (Txt.join a ys))
  | _, _ => False
theorem sem_sjoin : SemM1 z (fun x xs H Q => ∃ a p, ∃ ys : List Str, x = .str a ∧ xs = [.ref p] ∧ (SqL z.K H p (ys.map V.str) ∨ SqT z.K H p (ys.map V.str)) ∧
    (ys.map (·.length)).sum + ys.length * a.length ≤ 16777216 ∧ Q (.str (Txt.join a ys)) H) sSjoin := fun w F He H x y d e P Q wd dx dy q k => by
  unfold sSjoin at q
  split at q
  · obtain ⟨ys, rfl, h, q⟩ := q
    obtain ⟨a, vs, rfl, ha, r⟩ := dy.lst wd.sf
    cases of_strs r
    exact ⟨_, a, ys, dx.str, rfl, .inl (.of ha), h, res_at wd (.str _) q k⟩
  · obtain ⟨ys, rfl, h, q⟩ := q
    obtain ⟨a, vs, rfl, ha, r⟩ := dy.tup wd.sf
    cases of_strs r
    exact ⟨_, a, ys, dx.str, rfl, .inr (.of ha), h, res_at wd (.str _) q k⟩
  · exact q.elim
end
end Lv

namespace Lv
open PySem PySem.Spec L2 SX

/-! ### texts by their code points -/
theorem cps_S (a : List Nat) : (S a).cps.toList = a := rfl
theorem len_S (a : List Nat) : (S a).length = a.length := S_len a
theorem cutS_to (a : List Nat) {i : Int} (h : 0 ≤ i) : cutS (S a) none (some i) = S (a.take i.toNat) := by rw [C8.cutS_slice, slice_to h]
theorem cutS_from (a : List Nat) {i : Int} (h : 0 ≤ i) : cutS (S a) (some i) none = S (a.drop i.toNat) := by rw [C8.cutS_slice, slice_from h]
theorem one_S (c : Nat) : (⟨#[c]⟩ : Str) = S [c] := rfl
theorem lit_small : Str.ofString "abcdefghijklmnopqrstuvwxyz" = S [97, 98, 99, 100, 101, 102, 103, 104, 105, 106, 107, 108, 109, 110, 111, 112, 113, 114, 115, 116, 117, 118, 119, 120, 121, 122] := by decide +kernel
theorem lit_large : Str.ofString "ABCDEFGHIJKLMNOPQRSTUVWXYZ" = S [65, 66, 67, 68, 69, 70, 71, 72, 73, 74, 75, 76, 77, 78, 79, 80, 81, 82, 83, 84, 85, 86, 87, 88, 89, 90] := by decide +kernel
theorem lit_hat : Str.ofString "^" = S [94] := by decide +kernel
theorem lit_one : Str.ofString "1" = S [49] := by decide +kernel
theorem lit_nil : Str.ofString "" = S [] := by decide +kernel
theorem occ_small {c : Nat} (h : 97 ≤ c) (h2 : c ≤ 122) : ∃ rest, Builtin.Str.occurrences (Str.ofString "abcdefghijklmnopqrstuvwxyz") (S [c]) 0 (Str.ofString "abcdefghijklmnopqrstuvwxyz").length 1 = (c - 97) :: rest := by
  have key : ∀ k : Fin 26, (Builtin.Str.occurrences (Str.ofString "abcdefghijklmnopqrstuvwxyz") (S [97 + k.1]) 0 (Str.ofString "abcdefghijklmnopqrstuvwxyz").length 1).head? = some k.1 := by decide +kernel
  have := key ⟨c - 97, by omega⟩
  rw [show 97 + (c - 97) = c by omega] at this
  cases e : Builtin.Str.occurrences (Str.ofString "abcdefghijklmnopqrstuvwxyz") (S [c]) 0 (Str.ofString "abcdefghijklmnopqrstuvwxyz").length 1 with
  | nil => rw [e] at this; cases this
  | cons i r => rw [e] at this; cases this; exact ⟨r, rfl⟩
theorem ix_large {c : Nat} (h : 97 ≤ c) (h2 : c ≤ 122) : atI (Str.ofString "ABCDEFGHIJKLMNOPQRSTUVWXYZ").cps.toList ((c - 97 : Nat) : Int) = some (c - 32) := by
  have key : ∀ k : Fin 26, atI (Str.ofString "ABCDEFGHIJKLMNOPQRSTUVWXYZ").cps.toList ((k.1 : Nat) : Int) = some (65 + k.1) := by decide +kernel
  have := key ⟨c - 97, by omega⟩
  rw [this]
  congr 1
  show 65 + (c - 97) = c - 32
  omega
theorem upper_one {c : Nat} (h : 97 ≤ c) (h2 : c ≤ 122) : Txt.upper (S [c]) = S [c - 32] := by
  rw [upper_S (by simp; omega)]
  have : PyProof.Rows.up1 c = c - 32 := by unfold PyProof.Rows.up1; rw [if_pos ⟨h, h2⟩]
  simp [this]
theorem str_num (n : Nat) : Str.ofString (toString ((n : Nat) : Int)) = S (TL.numL n) := num_S n
theorem join_nil : ∀ ys : List (List Nat), Txt.join (S []) (ys.map S) = S ys.flatten := fun ys => by
  rw [join_S]
  congr 2
  induction ys with
  | nil => rfl
  | cons y ys ih =>
    cases ys with
    | nil => simp [TL.joinL]
    | cons z zs =>
      show y ++ ([] ++ TL.joinL [] (z :: zs)) = _
      rw [ih]
      rfl
theorem sum_S : ∀ ys : List (List Nat), ((ys.map S).map (·.length)).sum = ys.flatten.length
  | [] => rfl
  | y :: ys => by
    have ih := sum_S ys
    rw [List.map_cons, List.map_cons, List.sum_cons, ih, S_len, List.flatten_cons, List.length_append]
theorem log2_sm {n : Nat} (h : n ≤ 1000000) : n.log2 < 1920 := by
  by_cases h0 : n = 0
  · subst h0; decide
  · have : n.log2 < 20 + 1 := (Nat.log2_lt h0).mpr (by omega)
    omega
end Lv

namespace Lv
open PySem PySem.Spec L2

/-! ### what is never come to; constants of the module -/
def dNever  : DS := fun _ _ _ => False
section
variable {X : Cx} {z : Ent} {pos : Pos}
theorem js_no {st : Stmt} : JS X z st dNever := ⟨fun pins s σ H D I ⟨_, _, _, _, _, _, q, _⟩ => q.elim⟩
theorem jss_no {st : List Stmt} : JSs X z st dNever := ⟨fun pins s σ H D I ⟨_, _, _, _, _, _, q, _⟩ => q.elim⟩
theorem jx_gcI {x : Str} {i : Int} (h : ∃ u, X.mg x = some u ∧ RelV (.int i) u) (hg : Gl X x := by rfl) (hd : (x == ("__debug__" : Str)) = false := by decide) : JX X z (.Name x pos) (dC (.int i)) := jx_c (C8.pe_gc hg h hd) fun _ => .int i
theorem jx_gcS {x : Str} {i : Str} (h : ∃ u, X.mg x = some u ∧ RelV (.str i) u) (hg : Gl X x := by rfl) (hd : (x == ("__debug__" : Str)) = false := by decide) : JX X z (.Name x pos) (dC (.str i)) := jx_c (C8.pe_gc hg h hd) fun _ => .str i
end
/-! ### more of texts -/
open SX
theorem cutS_cut (a : List Nat) (lo hi : Option Int) : cutS (S a) lo hi = S (cutD a lo hi) := by
  unfold cutS cutD
  rw [S_len]
theorem in_oneS (neg : Bool) (a : List Nat) (c : Nat) (P : Bool → D → Prop) : sIn neg (.str (S [c])) (.str (S a)) P = P false (.bl (if neg then !decide (c ∈ a) else decide (c ∈ a))) := by
  unfold sIn
  simp only [in_one]
open Builtin Builtin.Str StrLaws in
theorem occ_full (s sub : Str) (hi : Nat) : ∀ (l : List Nat) (st : Array Nat × Nat), 1 ≤ st.fst.size → (forIn l st (occBody s sub hi 1)).run.fst = st.fst
  | [], st, _ => rfl
  | a :: l, st, h => by
    rw [List.forIn_cons]
    unfold occBody
    rw [if_neg (by omega)]
    exact occ_full s sub hi l (st.fst, st.snd) h
open Builtin Builtin.Str StrLaws in
theorem occ_skip (s sub : Str) (hi i : Nat) (post : List Nat) : ∀ (pre : List Nat) (free : Nat), free ≤ i → (∀ a ∈ pre, ¬ (a + sub.length ≤ hi ∧ subAt s sub a = true)) → (i + sub.length ≤ hi ∧ subAt s sub i = true) →
    (forIn (pre ++ i :: post) ((#[] : Array Nat), free) (occBody s sub hi 1)).run.fst = #[i]
  | [], free, hf, _, hi' => by
    rw [List.nil_append, List.forIn_cons]
    unfold occBody
    rw [if_pos ⟨⟨⟨by simp, hf⟩, hi'.1⟩, hi'.2⟩]
    exact occ_full s sub hi post _ (by simp)
  | a :: pre, free, hf, hp, hi' => by
    rw [List.cons_append, List.forIn_cons]
    unfold occBody
    have ha := hp a List.mem_cons_self
    rw [if_neg (fun h => ha ⟨h.1.2, h.2⟩)]
    exact occ_skip s sub hi i post pre free hf (fun b hb => hp b (List.mem_cons_of_mem _ hb)) hi'
open StrLaws in
theorem occ_first {a : List Nat} {c i : Nat} (h : a[i]? = some c) (hn : ∀ j, j < i → a[j]? ≠ some c) : Builtin.Str.occurrences (S a) (S [c]) 0 (S a).length 1 = [i] := by
  have hl := (List.getElem?_eq_some_iff.mp h).1
  rw [occ_eq]
  have e : List.range' 0 ((S a).length + 1 - 0) = List.range' 0 i ++ i :: List.range' (i + 1) (a.length - i) := by
    rw [S_len, show a.length + 1 - 0 = i + ((a.length - i) + 1) by omega, ← List.range'_append_1, Nat.zero_add, List.range'_succ]
  rw [e]
  have := occ_skip (S a) (S [c]) (S a).length i (List.range' (i + 1) (a.length - i)) (List.range' 0 i) 0 (by omega) (fun j hj hc => hn j (by simp [List.mem_range'] at hj; omega) ((subAt_one (S a) c j).mp hc)) ((subAt_one (S a) c i).mpr h)
  rw [this]
theorem nodup_first {a : List Nat} (hd : a.Nodup) {c i : Nat} (h : a[i]? = some c) : ∀ j, j < i → a[j]? ≠ some c := by
  intro j hj h2
  have hl := (List.getElem?_eq_some_iff.mp h).1
  obtain ⟨h1a, h1b⟩ := List.getElem?_eq_some_iff.mp h
  obtain ⟨h3a, h3b⟩ := List.getElem?_eq_some_iff.mp h2
  exact List.pairwise_iff_getElem.mp hd j i h3a h1a hj (h3b.trans h1b.symm)
theorem lower_one {c : Nat} (h : 97 ≤ c) (h2 : c ≤ 122) : Txt.lower (S [c - 32]) = S [c] := by
  rw [lower_S (by simp; omega)]
  have : PyProof.Rows.lo1 (c - 32) = c := by unfold PyProof.Rows.lo1; rw [if_pos (by omega)]; omega
  simp [this]
theorem lower_sm {c : Nat} (h : 97 ≤ c) (h2 : c ≤ 122) : Txt.lower (S [c]) = S [c] := by
  rw [lower_S (by simp; omega)]
  have : PyProof.Rows.lo1 c = c := by unfold PyProof.Rows.lo1; rw [if_neg (by omega)]
  simp [this]
theorem lit_open : Str.ofString "(" = S [40] := by decide +kernel
theorem lit_close : Str.ofString ")" = S [41] := by decide +kernel
theorem lit_minus : Str.ofString "-" = S [45] := by decide +kernel
theorem lit_zero : Str.ofString "0" = S [48] := by decide +kernel
theorem lit_digits : Str.ofString "0123456789" = S [48, 49, 50, 51, 52, 53, 54, 55, 56, 57] := by decide +kernel
theorem num_lead : ∀ k : Nat, k ≤ 999 → (TL.numL k)[0]? = some 48 → (TL.numL k).length = 1 := by
  have key : ∀ k : Fin 1000, (TL.numL k.1)[0]? = some 48 → (TL.numL k.1).length = 1 := by decide +kernel
  exact fun k h => key ⟨k, by omega⟩
theorem num_len3 {k : Nat} (h : k ≤ 999) : (TL.numL k).length ≤ 3 := TL.numL_len (by omega) (by omega)
theorem num_dig {k c : Nat} (h : c ∈ TL.numL k) : 48 ≤ c ∧ c ≤ 57 := by
  refine Classical.byContradiction fun hn => ?_
  exact TL.numL_free (n := k) (s := c) (by omega) h
theorem num_int {k : Nat} (h : k ≤ 999) : intText? (S (TL.numL k)) = some (k : Int) := by
  rw [← str_num]
  exact TL.int_num (by have := num_len3 h; omega)
theorem cutD_nat {α : Type} (ns : List α) (i j : Nat) : cutD ns (some (i : Int)) (some (j : Int)) = (ns.drop i).take (j - i) := by
  have e1 : HT.sIx ns.length 0 (some (i : Int)) = min i ns.length := by
    unfold HT.sIx
    simp only []
    rw [if_neg (by omega), Int.toNat_natCast]
  have e2 : HT.sIx ns.length ns.length (some (j : Int)) = min j ns.length := by
    unfold HT.sIx
    simp only []
    rw [if_neg (by omega), Int.toNat_natCast]
  unfold cutD
  rw [e1, e2]
  by_cases hi : i ≤ ns.length
  · rw [Nat.min_eq_left hi]
    by_cases hj : j ≤ ns.length
    · rw [Nat.min_eq_left hj]
    · rw [Nat.min_eq_right (by omega), List.take_of_length_le (by simp), List.take_of_length_le (by simp; omega)]
  · rw [List.drop_eq_nil_of_le (by omega), List.drop_eq_nil_of_le (by omega)]
    simp
theorem cutD_nat1 {α : Type} (ns : List α) (i : Nat) : cutD ns (some (i : Int)) (some ((i : Int) + 1)) = (ns.drop i).take 1 := by
  have := cutD_nat ns i (i + 1)
  rw [show ((i + 1 : Nat) : Int) = (i : Int) + 1 by omega] at this
  rw [this, show i + 1 - i = 1 by omega]
theorem sEq_nil {ds : List D} (h : plAll ds = true) (hne : ds ≠ []) (P : Bool → D → Prop) : sEq (.lst ds) (.lst []) P = P false (.bl false) := by
  unfold sEq
  have e : (D.lst ds).eqv (.lst []) = false := by
    cases ds with
    | nil => exact absurd rfl hne
    | cons d ds => simp [D.eqv, D.py, pyAll, PyData.eqv, PyData.eqvAll]
  rw [e]
  simp [D.pl, h, plAll, D.py, pyAll, PyData.depth, PyData.depthAll]
theorem sEq_nil' (P : Bool → D → Prop) : sEq (.lst []) (.lst []) P = P false (.bl true) := by
  unfold sEq
  simp [D.pl, plAll, D.py, pyAll, PyData.depth, PyData.depthAll, D.eqv, PyData.eqv, PyData.eqvAll]
theorem kitB_tl : kitB "tuple" "list" = some false := by decide +kernel
theorem kitB_lt : kitB "list" "tuple" = some false := by decide +kernel
theorem sIsi_tl (ds : List D) (P : Bool → D → Prop) : sIsi (.tup ds) (.ty "list") P = P false (.bl false) := by
  unfold sIsi; simp [tyD, kitB_tl]
theorem sIsi_lt (ds : List D) (P : Bool → D → Prop) : sIsi (.lst ds) (.ty "tuple") P = P false (.bl false) := by
  unfold sIsi; simp [tyD, kitB_lt]
end Lv

set_option maxHeartbeats 4000000
namespace Lv
open PySem PySem.Spec PyProof.Rows L2

/-! ### tuple * int, any -/
theorem tuple_mulS (l : Addr) (items : Array Value) (n : Nat) (dd : Option Addr) (sl : Array (Option Value)) (x : Int) (u : Tok) (c0 : (decide (x < -(2 ^ 63)) || decide (x ≥ 2 ^ 63)) = false) (c1 : (items.isEmpty || x == 1) = true) :
    Meets (Builtin.«tuple.__mul__» ⟨[.ref l, .int x u], []⟩) (fun _ R s => s.heap.get? l = some { cls := .type "tuple", dict := dd, data := .seq items n, slots := sl } ∧ R (.ok (.ret (Value.ref l))) s) :=
  .of_wp fun prog w A R s h => by
    obtain ⟨hp, g, d, tk, os⟩ := s
    obtain ⟨hl, h⟩ := h
    have f1 := AutoSeq1.idx_int
    wp_walk using wpAny_loadPart' hl
    repeat (first
      | (refine wpAny_ite_false (decide_eq_false (by rw [c0]; exact Bool.false_ne_true)) ?_; wp_walk using wpAny_loadPart' hl)
      | (refine wpAny_ite_true (decide_eq_true (by rw [c1])) ?_; wp_walk using wpAny_loadPart' hl))
    exact ⟨_, rfl, h⟩
theorem tuple_mul0 (l : Addr) (items : Array Value) (n : Nat) (dd : Option Addr) (sl : Array (Option Value)) (x : Int) (u : Tok) (c0 : (decide (x < -(2 ^ 63)) || decide (x ≥ 2 ^ 63)) = false) (c1 : (items.isEmpty || x == 1) = false) (c2 : (decide (x ≤ 0) || items.isEmpty) = true) :
    Meets (Builtin.«tuple.__mul__» ⟨[.ref l, .int x u], []⟩) (fun _ R s => s.heap.get? l = some { cls := .type "tuple", dict := dd, data := .seq items n, slots := sl } ∧
      R (.ok (.ret (Value.ref s.heap.objs.size))) { s with heap := s.heap.push { cls := Value.type "tuple", data := Data.seq #[] }, toks := s.toks }) :=
  .of_wp fun prog w A R s h => by
    obtain ⟨hp, g, d, tk, os⟩ := s
    obtain ⟨hl, h⟩ := h
    have f1 := AutoSeq1.idx_int
    wp_walk using wpAny_loadPart' hl
    repeat (first
      | (refine wpAny_ite_false (decide_eq_false (by rw [c0]; exact Bool.false_ne_true)) ?_; wp_walk using wpAny_loadPart' hl)
      | (refine wpAny_ite_false (decide_eq_false (by rw [c1]; exact Bool.false_ne_true)) ?_; wp_walk using wpAny_loadPart' hl)
      | (refine wpAny_ite_true (decide_eq_true (by rw [c2])) ?_; wp_walk using wpAny_loadPart' hl))
    exact ⟨_, rfl, h⟩
def rRepA (K : PySem.W.Frag) : R2 := fun x y H Q => ∃ l k xs, x = .ref l ∧ y = .int k ∧ SqT K H l xs ∧ -(2 ^ 63) ≤ k ∧ k < 2 ^ 63 ∧ xs.length * k.toNat ≤ 1000000 ∧ ((xs = [] ∨ k = 1) → Q (.ref l) H) ∧ (¬ (xs = [] ∨ k = 1) → ∀ p, H p = none → Q (.ref p) (upd H p (.tup (List.replicate k.toNat xs).flatten)))
theorem op_repA {X : Cx} : OpR X (binaryOp .Mult) (rRepA X.K) := by
  intro pins s σ H x y v u Q I rx ry h
  obtain ⟨l, k, xs, rfl, rfl, hT, h1, h2, hz, q1, q2⟩ := h
  cases rx
  obtain ⟨t, rfl⟩ := ry
  obtain ⟨its, r, ⟨⟨cls, dd, data, sl⟩, ho, hc, n, hd⟩, hs⟩ := I.tuple hT
  simp only at hc hd
  subst hc hd
  have hle : its.length = xs.length := r.length.symm
  have hsz0 : its.toArray.size = xs.length := by rw [List.size_toArray, hle]
  have hi : its.toArray.isEmpty = decide (xs = []) := by
    cases its with
    | nil =>
      have : xs = [] := List.eq_nil_of_length_eq_zero hle.symm
      simp [this]
    | cons a b =>
      have : xs ≠ [] := fun e => by rw [e] at hle; simp at hle
      simp [this]
  have c0 : (decide (k < -(2 ^ 63)) || decide (k ≥ 2 ^ 63)) = false := by
    rw [decide_eq_false (by omega), decide_eq_false (by omega)] <;> rfl
  by_cases hc : xs = [] ∨ k = 1
  · have c1 : (its.toArray.isEmpty || k == 1) = true := by
      rw [hi]
      rcases hc with h | h <;> simp [h]
    refine wpAny_binaryOp_repeat_ref (T := "tuple") (U := "int") (by decide) ⟨_, ho, rfl⟩ (fun s' => typeIs_int s' k t) noFill_tuple_mul F.fills_int_mul F.slot_int_rmul repeat_tuple F.slot_int_index.lookup
      (call_meets F.slot_int_rmul (typeIs_int s k t) F.entry_int_rmul (F.args_int_rmul_2 _ _) (int_rmul_tuple k t l its.toArray n dd sl)
        ⟨ho, rfl, ⟨_, ho, rfl⟩, call_meets F.slot_tuple_mul ⟨_, ho, rfl⟩ F.entry_tuple_mul (F.args_tuple_mul_2 _ _) (tuple_mulS l its.toArray n dd sl k t c0 c1) ⟨ho, ?_⟩⟩)
    exact ⟨.ref l, H, I, rfl, q1 hc⟩
  · have c1 : (its.toArray.isEmpty || k == 1) = false := by
      rw [hi]
      simp only [not_or] at hc
      simp [hc.1, hc.2]
    have hne : xs ≠ [] := fun e => hc (.inl e)
    have hpos : 0 < xs.length := List.length_pos_iff.mpr hne
    by_cases h0 : k ≤ 0
    · have c2 : (decide (k ≤ 0) || its.toArray.isEmpty) = true := by simp [h0]
      refine wpAny_binaryOp_repeat_ref (T := "tuple") (U := "int") (by decide) ⟨_, ho, rfl⟩ (fun s' => typeIs_int s' k t) noFill_tuple_mul F.fills_int_mul F.slot_int_rmul repeat_tuple F.slot_int_index.lookup
        (call_meets F.slot_int_rmul (typeIs_int s k t) F.entry_int_rmul (F.args_int_rmul_2 _ _) (int_rmul_tuple k t l its.toArray n dd sl)
          ⟨ho, rfl, ⟨_, ho, rfl⟩, call_meets F.slot_tuple_mul ⟨_, ho, rfl⟩ F.entry_tuple_mul (F.args_tuple_mul_2 _ _) (tuple_mul0 l its.toArray n dd sl k t c0 c1 c2) ⟨ho, ?_⟩⟩)
      have q := q2 hc
      rw [show k.toNat = 0 by omega] at q
      refine ⟨.ref s.heap.objs.size, _, I.laid (t' := s.toks) (o := .tup []) (fun b ob q => Heap.get?_push_of_some _ q) (Nat.le_refl _) ?_, rfl, q _ (I.hok.fresh (Nat.le_refl _))⟩
      exact ⟨Nat.zero_le _, [], .nil, IsTup.new _ _⟩
    · have hk : k.toNat ≤ 1000000 := by
        have : 1 * k.toNat ≤ xs.length * k.toNat := Nat.mul_le_mul_right _ hpos
        omega
      have hm : ((its.toArray.size : Nat) : Int) * k ≤ 1000000 := by
        rw [hsz0]
        have : ((xs.length * k.toNat : Nat) : Int) = (xs.length : Int) * k := by rw [Int.natCast_mul, Int.toNat_of_nonneg (by omega)]
        omega
      have flen : (List.replicate k.toNat its).flatten.length ≤ sizeLine := by
        rw [PyProof.Rows.lm_len_rep_flat, hle, sizeLine_eq, Nat.mul_comm]
        omega
      have c2 : (decide (k ≤ 0) || its.toArray.isEmpty) = false := by
        rw [hi]; simp [hne]; omega
      have c4 : Builtin.Tuple.tupleTooMany (((its.toArray.size : Nat) : Int) * k) = false := by
        unfold Builtin.Tuple.tupleTooMany
        rw [sizeLine_eq]
        exact decide_eq_false (by omega)
      refine wpAny_binaryOp_repeat_ref (T := "tuple") (U := "int") (by decide) ⟨_, ho, rfl⟩ (fun s' => typeIs_int s' k t) noFill_tuple_mul F.fills_int_mul F.slot_int_rmul repeat_tuple F.slot_int_index.lookup
        (call_meets F.slot_int_rmul (typeIs_int s k t) F.entry_int_rmul (F.args_int_rmul_2 _ _) (int_rmul_tuple k t l its.toArray n dd sl)
          ⟨ho, rfl, ⟨_, ho, rfl⟩, call_meets F.slot_tuple_mul ⟨_, ho, rfl⟩ F.entry_tuple_mul (F.args_tuple_mul_2 _ _) (tuple_mulW l its.toArray n dd sl k t c0 c1 c2 (by omega) c4 (by rw [size_rep, List.size_toArray]; exact flen)) ⟨ho, ?_⟩⟩)
      rw [size_rep]
      refine ⟨.ref s.heap.objs.size, _, I.laid (t' := s.toks) (o := .tup (List.replicate k.toNat xs).flatten) (fun b ob q => Heap.get?_push_of_some _ q) (Nat.le_refl _) ?_, rfl, q2 hc _ (I.hok.fresh (Nat.le_refl _))⟩
      exact ⟨by rw [PyProof.Rows.lm_len_rep_flat, Nat.mul_comm, sizeLine_eq]; omega, _, r.rep k.toNat, IsTup.new _ _⟩
section
variable {X : Cx} {z : Ent} {pos : Pos}
def sMulB (d e : D) (P : Bool → D → Prop) : Prop := match d, e with
  | .int i, .int j => MulC i j ∧ P false (.int (i * j))
  | .lst xs, .int k => (-(2 ^ 63) ≤ k ∧ k < 2 ^ 63) ∧ xs.length * k.toNat ≤ sizeLine ∧ P true (.lst (List.replicate k.toNat xs).flatten)
  | .tup xs, .int k => (-(2 ^ 63) ≤ k ∧ k < 2 ^ 63) ∧ xs.length * k.toNat ≤ 1000000 ∧ P false (.tup (List.replicate k.toNat xs).flatten)
  | _, _ => False
def rMulB (K : PySem.W.Frag) : R2 := fun x y H Q => rMulD x y H Q ∨ rRepA K x y H Q
theorem op_mulB : OpR X (binaryOp .Mult) (rMulB X.K) := op_mulA.or op_repA
theorem sem_mulB : Sem2 z (rMulB z.K) sMulB := fun w F He H x y d e P Q wd dx dy q k => by
  unfold sMulB at q
  split at q
  · exact .inl (.inl ⟨_, _, dx.int, dy.int, q.1, k _ _ q.2 _ H F He wd .refl (.int _)⟩)
  · obtain ⟨a, vs, rfl, ha, ra⟩ := dx.lst wd.sf
    exact .inl (.inr ⟨a, _, vs, rfl, dy.int, ha, q.1.1, q.1.2, by rw [ra.length]; exact q.2.1, fun p hp => res_new wd hp (.lst (ra.rep _)) q.2.2 k⟩)
  · next xs j =>
    obtain ⟨a, vs, e, ha, ra⟩ := dx.tup wd.sf
    refine .inr ⟨a, _, vs, e, dy.int, .of ha, q.1.1, q.1.2, by rw [ra.length]; exact q.2.1, fun hc => ?_, fun _ p hp => res_tup wd hp (ra.rep _) q.2.2 k⟩
    have e2 : (List.replicate j.toNat xs).flatten = xs := by
      rcases hc with h | h
      · subst h
        have : xs = [] := List.eq_nil_of_length_eq_zero ra.length.symm
        subst this
        simp
      · subst h
        simp
    have q' := q.2.2
    rw [e2] at q'
    rw [← e]; exact res_at wd dx.dr_tup q' k
  · exact q.elim
/-! ### list(range), tuple(range) -/
theorem rgV_D {K : PySem.W.Frag} {F : Hp} (a b : Int) : DRs K F (rgV a b) (rngD a (b - a).toNat) := by
  unfold rgV rngD
  generalize (List.range (b - a).toNat) = ks
  induction ks with
  | nil => exact .nil
  | cons k ks ih => exact .cons (.int _) ih
def sLR1 (d : D) (P : Bool → D → Prop) : Prop := match d with
  | .int j => RgOk 0 j ∧ P true (.lst (rngD 0 (j - 0).toNat))
  | _ => False
def sLR2 (d e : D) (P : Bool → D → Prop) : Prop := match d, e with
  | .int i, .int j => RgOk i j ∧ P true (.lst (rngD i (j - i).toNat))
  | _, _ => False
def sTR1 (d : D) (P : Bool → D → Prop) : Prop := match d with
  | .int j => RgOk 0 j ∧ P false (.tup (rngD 0 (j - 0).toNat))
  | _ => False
def sTR2 (d e : D) (P : Bool → D → Prop) : Prop := match d, e with
  | .int i, .int j => RgOk i j ∧ P false (.tup (rngD i (j - i).toNat))
  | _, _ => False
theorem jx_listRng1 {a : Expr} {ta : DO} {p p2 pos2 : Pos} (hm : X.mg "list" = none) (hr : X.mg "range" = none) (ha : JO X z a ta) (hc : X.calm = true := by rfl) (hg : Gl X "list" := by rfl) (hg2 : Gl X "range" := by rfl) (na : starEach [a] X.env = (false, eval a X.env) :: starEach [] X.env := by rfl)
    (nb : starEach [Expr.Call (.Name "range" p2) [a] [] pos2] X.env = (false, eval (Expr.Call (.Name "range" p2) [a] [] pos2) X.env) :: starEach [] X.env := by rfl) : JX X z (.Call (.Name "list" p) [.Call (.Name "range" p2) [a] [] pos2] [] pos) (dUn sLR1 ta) :=
  PE.imp (pe_listRg hc hg hm (prg_1 hg2 hr ha na) nb) fun σ H Q ⟨δ, w, F, He, P, R, q, k⟩ => by
    refine ⟨δ, w, F, He, _, R, q, fun d w1 q1 x H1 F1 He1 wd1 st1 r1 => ?_⟩
    have r1 := res_ok wd1.ex wd1.sh r1
    generalize res w1 d = d at q1 r1
    unfold sLR1 at q1
    split at q1
    · exact ⟨_, r1.int, q1.1, fun p hp => res_new wd1 hp (.lst (rgV_D _ _)) q1.2 fun b d' p v H' F' He' wd st rr => k b d' w1 p v H' F' He' wd (st1.trans st) (rr.base st1)⟩
    · exact q1.elim
theorem jx_tupleRng1 {a : Expr} {ta : DO} {p p2 pos2 : Pos} (hm : X.mg "tuple" = none) (hr : X.mg "range" = none) (ha : JO X z a ta) (hc : X.calm = true := by rfl) (hg : Gl X "tuple" := by rfl) (hg2 : Gl X "range" := by rfl) (na : starEach [a] X.env = (false, eval a X.env) :: starEach [] X.env := by rfl)
    (nb : starEach [Expr.Call (.Name "range" p2) [a] [] pos2] X.env = (false, eval (Expr.Call (.Name "range" p2) [a] [] pos2) X.env) :: starEach [] X.env := by rfl) : JX X z (.Call (.Name "tuple" p) [.Call (.Name "range" p2) [a] [] pos2] [] pos) (dUn sTR1 ta) :=
  PE.imp (pe_tupRg hc hg hm (prg_1 hg2 hr ha na) nb) fun σ H Q ⟨δ, w, F, He, P, R, q, k⟩ => by
    refine ⟨δ, w, F, He, _, R, q, fun d w1 q1 x H1 F1 He1 wd1 st1 r1 => ?_⟩
    have r1 := res_ok wd1.ex wd1.sh r1
    generalize res w1 d = d at q1 r1
    unfold sTR1 at q1
    split at q1
    · exact ⟨_, r1.int, q1.1, fun p hp => res_tup wd1 hp (rgV_D _ _) q1.2 fun b d' p v H' F' He' wd st rr => k b d' w1 p v H' F' He' wd (st1.trans st) (rr.base st1)⟩
    · exact q1.elim
theorem jx_listRng2 {a b : Expr} {ta tb : DO} {p p2 pos2 : Pos} (hm : X.mg "list" = none) (hr : X.mg "range" = none) (ha : JO X z a ta) (hb : JO X z b tb) (hc : X.calm = true := by rfl) (hg : Gl X "list" := by rfl) (hg2 : Gl X "range" := by rfl) (na : starEach [a, b] X.env = (false, eval a X.env) :: starEach [b] X.env := by rfl)
    (nb1 : starEach [b] X.env = (false, eval b X.env) :: starEach [] X.env := by rfl) (hp : (backTo pos2 (starEach [b] X.env)).any (·.1) = false := by rfl)
    (nb : starEach [Expr.Call (.Name "range" p2) [a, b] [] pos2] X.env = (false, eval (Expr.Call (.Name "range" p2) [a, b] [] pos2) X.env) :: starEach [] X.env := by rfl) : JX X z (.Call (.Name "list" p) [.Call (.Name "range" p2) [a, b] [] pos2] [] pos) (dBin sLR2 ta tb) :=
  PE.imp (pe_listRg hc hg hm (prg_2 hg2 hr ha hb na nb1 hp) nb) fun σ H Q ⟨δ, w, F, He, P, R, q, k⟩ => by
    refine ⟨δ, w, F, He, _, R, q, fun d w1 q1 x H1 F1 He1 wd1 st1 r1 => ?_⟩
    refine ⟨δ, w1, F1, He1, _, R.step wd1 st1, q1, fun e w2 q2 y H2 F2 He2 wd2 st2 r2 => ?_⟩
    have r1' := res_ok wd2.ex wd2.sh (r1.step st2)
    have r2 := res_ok wd2.ex wd2.sh r2
    generalize res w2 d = d at q2 r1'
    generalize res w2 e = e at q2 r2
    unfold sLR2 at q2
    split at q2
    · exact ⟨_, _, r1'.int, r2.int, q2.1, fun p hp => res_new wd2 hp (.lst (rgV_D _ _)) q2.2 fun b d' p v H' F' He' wd st rr => k b d' w2 p v H' F' He' wd ((st1.trans st2).trans st) (rr.base (st1.trans st2))⟩
    · exact q2.elim
/-! ### is True -/
def sIsBl (d e : D) (P : Bool → D → Prop) : Prop := match d, e with
  | .bl a, .bl b => P false (.bl (decide (a = b)))
  | _, _ => False
theorem sem_isBl : Sem2 z rIsB sIsBl := fun w F He H x y d e P Q wd dx dy q k => by
  unfold sIsBl at q
  split at q
  · exact ⟨_, _, dx.bl, dy.bl, res_at wd (.bl _) q k⟩
  · exact q.elim
/-! ### xs.index(x) of a list -/
theorem pyAll_get (ds : List D) (j : Nat) : (pyAll ds)[j]? = (ds[j]?).map D.py := by
  induction ds generalizing j with
  | nil => rfl
  | cons d ds ih =>
    cases j with
    | zero => rfl
    | succ j => rw [pyAll, List.getElem?_cons_succ, List.getElem?_cons_succ, ih]
def sLindex (d e : D) (P : Bool → D → Prop) : Prop := match d with
  | .lst ds => (plAll ds = true ∧ e.pl = true ∧ SeqAt.shaped (.list (pyAll ds)) = true ∧ SeqAt.shaped e.py = true) ∧ ∃ (j : Nat) (u : D), ds[j]? = some u ∧ u.eqv e = true ∧ (∀ (m : Nat) (u' : D), m < j → ds[m]? = some u' → u'.eqv e = false) ∧ P false (.int (j : Nat))
  | _ => False
theorem sem_lindex : SemM1 z (rIndexD z.K) sLindex := fun w F He H x y d e P Q wd dx dy q k => by
  unfold sLindex at q
  split at q
  · next ds =>
    obtain ⟨⟨p1, p2, p3, p4⟩, j, u, h1, h2, h3, q⟩ := q
    have hl := dx.dp wd.sf (by simpa [D.pl] using p1)
    rw [D.py] at hl
    obtain ⟨a, vs, rfl, ha, ra⟩ := dx.lst wd.sf
    refine ⟨a, y, e.py, pyAll ds, j, u.py, rfl, rfl, hl, dy.dp wd.sf p2, p3, p4, by rw [pyAll_get, h1]; rfl, h2, fun m z' hm hz => ?_, res_at wd (.int _) q k⟩
    rw [pyAll_get] at hz
    cases e' : ds[m]? with
    | none => rw [e'] at hz; cases hz
    | some u' =>
      rw [e'] at hz
      cases hz
      exact h3 m u' hm e'
  · exact q.elim
end
/-- told data that list.index takes -/
structure CodecI {α : Type} (f : α → D) (n : Nat) : Prop extends Codec f n where
  can : ∀ a, (f a).py.canLay0 = true
theorem CodecI.int : CodecI D.int 0 := ⟨Codec.int, fun _ => rfl⟩
theorem CodecI.canAll {α : Type} {f : α → D} {n : Nat} (c : CodecI f n) : ∀ as : List α, PyData.canLayAll0 (pyAll (as.map f)) = true
  | [] => rfl
  | a :: as => by rw [List.map_cons, pyAll, PyData.canLayAll0, c.can, c.canAll as]; rfl
theorem CodecI.tup {α : Type} {f : α → D} {n : Nat} (c : CodecI f n) : CodecI (fun as : List α => .tup (as.map f)) (n + 1) := ⟨c.toCodec.tup, fun as => c.canAll as⟩
theorem CodecI.lst {α : Type} {f : α → D} {n : Nat} (c : CodecI f n) : CodecI (fun as : List α => .lst (as.map f)) (n + 1) := ⟨c.toCodec.lst, fun as => c.canAll as⟩
theorem CodecI.w : CodecI wD 1 := CodecI.int.tup
theorem CodecI.index {α : Type} {f : α → D} {n : Nat} (c : CodecI f n) (hn : n ≤ 60) {as : List α} {a : α} {j : Nat} (h : as[j]? = some a) (h2 : ∀ m, m < j → as[m]? ≠ some a) {P : Bool → D → Prop} (q : P false (.int (j : Nat))) : sLindex (.lst (as.map f)) (f a) P := by
  have d1 := c.toCodec.depAll as
  have d2 := c.toCodec.dep a
  refine ⟨⟨c.toCodec.plAll as, c.toCodec.pl a, ?_, ?_⟩, j, f a, by rw [List.getElem?_map, h]; rfl, (c.toCodec.eq a a).mpr rfl, fun m u' hm hu => ?_, q⟩
  · unfold SeqAt.shaped
    rw [Bool.and_eq_true]
    exact ⟨c.canAll as, decide_eq_true (show PyData.depthAll (pyAll (as.map f)) + 1 ≤ 64 by omega)⟩
  · unfold SeqAt.shaped
    rw [Bool.and_eq_true]
    exact ⟨c.can a, decide_eq_true (by omega)⟩
  · rw [List.getElem?_map] at hu
    cases e : as[m]? with
    | none => rw [e] at hu; cases hu
    | some b =>
      rw [e] at hu
      cases hu
      have hb : b ≠ a := fun z => h2 m hm (by rw [e, z])
      have : ¬ ((f b).eqv (f a) = true) := fun z => hb ((c.toCodec.eq b a).mp z)
      simpa using this
end Lv

namespace Lv
open PySem PySem.Spec L2

/-! ### zip of two lists, of two tuples -/
def zipD (xs ys : List D) : List D := List.zipWith (fun x y => .tup [x, y]) xs ys
theorem zipD_at (xs ys : List D) (i : Nat) {x y : D} (h : xs[i]? = some x) (h2 : ys[i]? = some y) : (zipD xs ys)[i]? = some (.tup [x, y]) := by
  unfold zipD
  rw [List.getElem?_zipWith, h, h2]
theorem itok_zip {K : PySem.W.Frag} {F : Hp} {a b : Addr} {us vs : List V} {xs ys : List D} (ha : F a = some (.lst us)) (ra : DRs K F us xs) (hb : F b = some (.lst vs)) (rb : DRs K F vs ys) : ItOk K (Itz K a b) F (zipD xs ys) where
  go := fun i H s h => by
    have h' : i < xs.length ∧ i < ys.length := by simp [zipD] at h; omega
    obtain ⟨u, hu, _⟩ := ra.get (List.getElem?_eq_getElem h'.1)
    obtain ⟨v, hv, _⟩ := rb.get (List.getElem?_eq_getElem h'.2)
    exact ⟨us, vs, u, v, .of (s _ _ ha), .of (s _ _ hb), hu, hv⟩
  stop := fun H s => ⟨us, vs, .of (s _ _ ha), .of (s _ _ hb), by have := ra.length; have := rb.length; simp [zipD]; omega⟩
  yld := fun i H x H' s h hy => by
    have h' : i < xs.length ∧ i < ys.length := by simp [zipD] at h; omega
    obtain ⟨T, u, v, rfl, hT, rfl, h1, h2⟩ := hy
    obtain ⟨d, hd, rd⟩ := ra.getV (h1 us (.of (s _ _ ha)))
    obtain ⟨e, he, re⟩ := rb.getV (h2 vs (.of (s _ _ hb)))
    exact .inr ⟨T, _, [d, e], rfl, hT, rfl, zipD_at xs ys i hd he, .cons rd (.cons re .nil)⟩
theorem itok_zipT {K : PySem.W.Frag} {F : Hp} {a b : Addr} {us vs : List V} {xs ys : List D} (ha : F a = some (.tup us)) (ra : DRs K F us xs) (hb : F b = some (.lst vs)) (rb : DRs K F vs ys) : True := trivial
def kZip {α : Type} (Q : List D → α → Prop) (w : α) : List D → Prop
  | [.lst xs, .lst ys] => Q (zipD xs ys) w
  | _ => False
def dZip  (ts : DA) : DI := fun δ w Q => ts δ w fun ds w1 => kZip Q w1 ds
section
variable {X : Cx} {z : Ent} {pos : Pos}
theorem ji_zip {e e2 : Expr} {ts : DA} {p tpos : Pos} {elts : List Expr} {kk : Nat} (hK : z.K = X.K) (hm : X.mg "zip" = none) (ha : JA X z [e, e2] ts) (hg : Gl X "zip" := by rfl)
    (hs : starEach [e, e2] X.env = (false, eval e X.env) :: starEach [e2] X.env := by rfl) (hpl : (backTo pos (starEach [e2] X.env)).any (·.1) = false := by rfl) : PI X (.Tuple elts kk tpos) (.Call (.Name "zip" p) [e, e2] [] pos) (liftI z (dZip ts)) :=
  PI.imp (RZ.pi_zipA hg hm ha hs hpl) fun σ H R ⟨δ, w, F, He, P, Re, q, k⟩ => by
    refine ⟨δ, w, F, He, _, Re, q, fun ds w1 q1 vs H1 F1 He1 wd1 st1 r1 => ?_⟩
    rw [← hK]
    unfold kZip at q1
    split at q1
    · next xs ys =>
      cases r1 with
      | cons ra rb =>
        cases rb with
        | cons rb rc =>
          cases rc
          cases ra with
          | lst ea ra =>
            cases rb with
            | lst eb rb => exact ⟨_, _, _, _, rfl, .inl ⟨.of (wd1.sf _ _ ea), .of (wd1.sf _ _ eb), k _ _ q1 _ H1 F1 He1 wd1 st1 (itok_zip ea ra eb rb)⟩⟩
    · exact q1.elim
/-! ### {k: e} -/
def keyOf : D → Option Key
  | .int i => some (.inl i)
  | .str x => some (.inr x)
  | _ => none
theorem keyOf_rel {F He H : Hp} {v : V} {d : D} {k : Key} {K : PySem.W.Frag} (r : DT K F He H v d) (h : keyOf d = some k) : v = kV k := by
  cases d with
  | int i => cases h; exact r.int
  | str x => cases h; exact r.str
  | _ => cases h
def dDisp1  (tk : DO) (tv : DX) : DX := fun δ w Q => tk δ w fun kd w1 => tv δ w1 fun _ d w2 => ∃ k, keyOf kd = some k ∧ Q true (.dK [(k, d)]) w2
theorem jx_disp1 {ke ve : Expr} {tk : DO} {tv : DX} (hk : JO X z ke tk) (hv : JX X z ve tv) : JX X z (.Dict [some ke] [ve] pos) (dDisp1 tk tv) :=
  PE.imp (pe_disp (pps_cons hk hv pps_nil) rfl rfl (List.cons_ne_nil _ _) (by simp)) fun σ H Q ⟨δ, w, F, He, P, R, q, k⟩ => by
    intro p hp
    have hF := R.wd.fnone hp
    have hE := R.wd.henone hp
    have R1 := R.step (R.wd.alloc (o := .dK []) hp) (.alloc hp)
    refine ⟨δ, w, F, He, _, R1, q, fun kd w1 q1 x H1 F1 He1 wd1 st1 r1 => ?_⟩
    refine ⟨δ, w1, F1, He1, _, R1.step wd1 st1, q1, fun b d w2 q2 y H2 F2 He2 wd2 st2 r2 => ?_⟩
    obtain ⟨key, hkey, q2⟩ := q2
    obtain ⟨F3, st3, wd3, r3, s3⟩ := r2.thaw st2 wd2
    have n0 : (upd H p (.dK [])) p ≠ none := by rw [upd_same]; exact fun z => nomatch z
    have hF1 := st1.fresh (o := .dK []) upd_same hF
    have hE1 := st1.freshE n0 hE
    have h1 := st1.keep p _ upd_same hE
    have n1 : H1 p ≠ none := by rw [h1]; exact fun z => nomatch z
    have hF3 := st3.fresh h1 hF1
    have hE3 := st3.freshE n1 hE1
    have h3 := st3.keep p _ h1 hE1
    have hx := keyOf_rel r1.dt hkey
    refine ⟨h3, [(key, y)], by rw [hx]; rfl, by simp, ?_⟩
    have st := ((Step.alloc (F := F) (He := He) (o := .dK []) hp).trans (st1.trans st3)).write (o := .dK (mergeK [] [(key, y)])) hp
    exact k true _ w2 q2 _ _ F3 He2 (wd3.write hF3 hE3) st ⟨p, _, rfl, upd_same, hF3, hE3, hp, .dK (.cons r3 .nil)⟩
end
end Lv

namespace Lv
open PySem PySem.Spec L2

/-! ### cells: named things that change -/
def updW (w : Om) (a : Addr) (c : Cell) : Om := fun b => if b = a then some c else w b
theorem updW_same {w : Om} {a : Addr} {c : Cell} : updW w a c a = some c := by simp [updW]
theorem updW_ne {w : Om} {a b : Addr} {c : Cell} (h : b ≠ a) : updW w a c b = w b := by simp [updW, h]
theorem updW_eq {w : Om} {a b : Addr} {c : Cell} : updW w a c b = if b = a then some c else w b := rfl
theorem updW_twice (w : Om) (a : Addr) (c c' : Cell) : updW (updW w a c) a c' = updW w a c' := by
  funext b
  unfold updW
  split <;> rfl
theorem updW_self {w : Om} {a : Addr} {c : Cell} (h : w a = some c) : updW w a c = w := by
  funext b
  unfold updW
  split
  · next e => rw [e, h]
  · rfl
section
variable {K : PySem.W.Frag} {w : Om} {F He H F' He' H' Hb : Hp}
theorem Wd.at (x : Wd K w F He H) {a : Addr} {c : Cell} (h : w a = some c) : ∃ o, H a = some o ∧ He a = some o ∧ CR K F He a o c := by
  obtain ⟨o, h1, h2⟩ := x.ex.some_ a c h
  exact ⟨o, x.sh _ _ h1, h1, h2⟩
theorem Wd.none_of (x : Wd K w F He H) {a : Addr} (h : He a = none) : w a = none := by
  cases e : w a with
  | none => rfl
  | some c =>
    obtain ⟨o, h1, _⟩ := x.ex.some_ a c e
    rw [h] at h1; cases h1
theorem CR.not_own {a p : Addr} {o : HO} {c : Cell} (h : CR K F He a o c) : o ≠ .own p := by
  intro e
  subst e
  cases h
/-- what a cell holds, at another He -/
theorem CR.other {a : Addr} {o : HO} {c : Cell} (h : CR K F He a o c) (k : ∀ dx p, He dx = some (.own p) → He' dx = some (.own p)) : CR K F He' a o c := by
  cases h with
  | lst h => exact .lst h
  | dK h => exact .dK h
  | dT h => exact .dT h
  | fK h => exact .fK h
  | fT h => exact .fT h
  | ins n h g => exact .ins n (k _ _ h) g
/-- a cell changes -/
theorem Wd.put (x : Wd K w F He H) {a : Addr} {c c' : Cell} {o o' : HO} (h : w a = some c) (ha : He a = some o) (hc : CR K F He a o c) (r : CR K F (upd He a o') a o' c') : Wd K (updW w a c') F (upd He a o') (upd H a o') := by
  have hF := x.dj _ _ ha
  have kp : ∀ dx p, He dx = some (.own p) → upd He a o' dx = some (.own p) := fun dx p e => by
    rw [upd_ne (fun z => by subst z; rw [ha] at e; cases e; exact hc.not_own rfl)]; exact e
  refine ⟨fun b u e => ?_, fun b u e => ?_, fun b u e => ?_, ⟨fun b d e => ?_, fun b e => ?_⟩⟩
  · rw [upd_ne (ne_of_none e hF)]; exact x.sf b u e
  · by_cases hb : b = a
    · subst hb; rw [upd_same] at e ⊢; exact e
    · rw [upd_ne hb] at e ⊢; exact x.sh b u e
  · by_cases hb : b = a
    · subst hb; exact hF
    · rw [upd_ne hb] at e; exact x.dj b u e
  · by_cases hb : b = a
    · subst hb
      rw [updW_same] at e
      cases e
      exact ⟨o', upd_same, r⟩
    · rw [updW_ne hb] at e
      obtain ⟨o2, h1, h2⟩ := x.ex.some_ b d e
      exact ⟨o2, by rw [upd_ne hb]; exact h1, h2.other kp⟩
  · have hb : b ≠ a := fun z => by subst z; rw [updW_same] at e; cases e
    rw [updW_ne hb] at e
    rw [upd_ne hb]
    exact x.ex.none_ b e
theorem Step.put {o o' : HO} {a : Addr} (h : He a = some o) (hH : H a = some o) (ht : ∀ xs, o' ≠ .tup xs := by intro xs e; cases e) : Step F He H F (upd He a o') (upd H a o') where
  fz := Same.refl _
  fzN := fun _ h => .inl h
  heN := fun b e => by
    by_cases hb : b = a
    · subst hb; exact .inl (by rw [h]; exact fun z => nomatch z)
    · rw [upd_ne hb] at e; exact .inl e
  keep := fun b u e n => by
    have hb : b ≠ a := fun z => by subst z; rw [h] at n; cases n
    rw [upd_ne hb]; exact e
  dom := fun b e => by
    by_cases hb : b = a
    · subst hb; rw [upd_same]; exact fun z => nomatch z
    · rw [upd_ne hb]; exact e
  tp := fun b xs e => by
    by_cases hb : b = a
    · subst hb; rw [upd_same] at e; cases e; exact absurd rfl (ht xs)
    · rw [upd_ne hb] at e; exact .inr e
/-- an own container gets a name -/
def cellOf : D → Option Cell
  | .lst ds => some (.lst ds) | .dK kvs => some (.dK kvs) | .dT kvs => some (.dT kvs) | _ => none
theorem OR.cell {a : Addr} {o : HO} {d : D} {c : Cell} (r : OR K F o d) (e : cellOf d = some c) : CR K F He a o c := by
  cases r with
  | lst r => cases e; exact .lst r
  | dK r => cases e; exact .dK r
  | dT r => cases e; exact .dT r
theorem Wd.name (x : Wd K w F He H) {a : Addr} {o : HO} {c : Cell} (h : H a = some o) (n : F a = none) (m : He a = none) (r : CR K F (upd He a o) a o c) : Wd K (updW w a c) F (upd He a o) H := by
  refine ⟨x.sf, fun b u e => ?_, fun b u e => ?_, ⟨fun b d e => ?_, fun b e => ?_⟩⟩
  · by_cases hb : b = a
    · subst hb; rw [upd_same] at e; rw [h]; exact e
    · rw [upd_ne hb] at e; exact x.sh b u e
  · by_cases hb : b = a
    · subst hb; exact n
    · rw [upd_ne hb] at e; exact x.dj b u e
  · by_cases hb : b = a
    · subst hb
      rw [updW_same] at e
      cases e
      exact ⟨o, upd_same, r⟩
    · rw [updW_ne hb] at e
      obtain ⟨o2, h1, h2⟩ := x.ex.some_ b d e
      exact ⟨o2, by rw [upd_ne hb]; exact h1, h2.other fun dx p e => by rw [upd_ne (ne_of_none e m)]; exact e⟩
  · have hb : b ≠ a := fun z => by subst z; rw [updW_same] at e; cases e
    rw [updW_ne hb] at e
    rw [upd_ne hb]
    exact x.ex.none_ b e
theorem Step.name {a : Addr} {o : HO} (s : Step F He Hb F' He' H') (h : Hb a = none) : Step F He Hb F' (upd He' a o) H' where
  fz := s.fz
  fzN := s.fzN
  heN := fun b e => by
    by_cases hb : b = a
    · subst hb; exact .inr h
    · rw [upd_ne hb] at e; exact s.heN b e
  keep := s.keep
  dom := s.dom
  tp := s.tp
/-- a value is taken in: an own new container gets a name -/
def nmK (Q : D → Om → Prop) (w : Om) : Bool → D → Prop
  | false, d => Q d w
  | true, .lst ds => ∀ c, w c = none → Q (.ref c) (updW w c (.lst ds))
  | true, .dK ds => ∀ c, w c = none → Q (.ref c) (updW w c (.dK ds))
  | true, .dT ds => ∀ c, w c = none → Q (.ref c) (updW w c (.dT ds))
  | true, _ => False
def kNm (nm : Bool) (Q : D → Om → Prop) (w : Om) (b : Bool) (d : D) : Prop := if nm = true then nmK Q w b d else Q d w
theorem kNm_use {F1 He1 H1 : Hp} {nm b : Bool} {u : V} {v : D} {Q : D → Om → Prop} (q : kNm nm Q w b v) (wd : Wd K w F1 He1 H1) (st : Step F He H F1 He1 H1) (r : Res K F1 He1 H H1 b u v) :
    ∃ x w3 F2 He2, Q x w3 ∧ Wd K w3 F2 He2 H1 ∧ Step F He H F2 He2 H1 ∧ DR K F2 u x ∧ Same F1 F2 := by
  unfold kNm at q
  cases nm with
  | false =>
    rw [if_neg Bool.false_ne_true] at q
    obtain ⟨F2, st2, wd2, r2, s2⟩ := r.thaw st wd
    exact ⟨v, w, F2, He1, q, wd2, st2, r2, s2⟩
  | true =>
    rw [if_pos rfl] at q
    unfold nmK at q
    split at q
    · exact ⟨v, w, F1, He1, q, wd, st, r, Same.refl _⟩
    all_goals first
      | exact q.elim
      | (obtain ⟨a, o, rfl, ho, n, m, f, rr⟩ := r
         exact ⟨.ref a, _, F1, _, q a (wd.none_of m), wd.name ho n m (rr.cell rfl), st.name f, .ref a, Same.refl _⟩)
end
section
variable {X : Cx} {z : Ent} {pos : Pos}
/-- x = e, e's own container gets a name -/
def dSetN (i : Nat) (t : DX) : DS := fun E δ w => t δ w fun b d w1 => nmK (fun x w2 => E.nx (δ.set i (some (false, x))) w2) w1 b d
theorem asg_setN {i : Nat} {t : DX} {D : Ends} {σ : St} {H : Hp} (h : liftS z (dSetN i t) D σ H) : tAsg (liftX z t) (gName i) D σ H := by
  obtain ⟨δ, w, F, He, E, R, q, c⟩ := h
  refine ⟨δ, w, F, He, _, R, q, fun b d w1 q1 v H1 F1 He1 wd1 st1 r1 => ?_⟩
  obtain ⟨x, w3, F2, He2, q3, wd2, st2, r2, s2⟩ := kNm_use (nm := true) q1 wd1 st1 r1
  exact c.nx _ _ _ _ _ _ q3 (R.assign (b := false) wd2 st2 r2) st2.fz
theorem js_setN {i : Nat} {x : Str} {e : Expr} {t : DX} {pos' : Pos} (hN : X.N.Nodup) (he : JX X z e t) (hi : X.N[i]? = some x := by rfl) (hx : Loc X.env.scope x := by first | exact Or.inl rfl | exact Or.inr rfl)
    (hs : swapsWith e (some (.Name x pos')) pos.line X.env = pure false := by rfl) (hf : X.fn x = true ∨ X.env.scope.names.lookup x = some .local := by first | exact .inl rfl | exact .inr rfl) : JS X z (.Assign [.Name x pos'] e pos) (dSetN i t) :=
  PS.imp (ps_set hN hi hx he hs hf) fun _ _ _ h => asg_setN h
theorem js_setLcN {i : Nat} {y : Str} {py : Pos} {elt tg iter : Expr} {ifs : List Expr} {scope : Scope} {own : List (Str × Nat)} {it : DI} {G : TG} {g : DG} {tt : DTs_} {te : DX} {spos : Pos} (hc : X.calm = true) (hN : X.N.Nodup) (hy : X.N[i]? = some y) (hyl : X.env.scope.names.lookup y = some .local)
    (hsw : swapsWith (.ListComp elt [⟨tg, iter, ifs, 0⟩] scope pos) (some (.Name y py)) spos.line X.env = pure true) (hi : PI X tg iter (liftI z it)) (ok : BlkOk X.N X.env.scope scope own) (gok : GOkV z (own.map (·.2)) G g)
    (hg : ∀ (s : Shared) (H : Hp) (C : Addr) (cl : List (Str × Addr)) (fp : List Addr), PG (X.blk s H scope (compEnvC scope cl C X.env) fp) tg G) (ht : ∀ (s : Shared) (H : Hp) (C : Addr) (cl : List (Str × Addr)) (fp : List Addr), PTs (X.blk s H scope (compEnvC scope cl C X.env) fp) ifs (liftT z tt))
    (he : ∀ (s : Shared) (H : Hp) (C : Addr) (cl : List (Str × Addr)) (fp : List Addr), JX (X.blk s H scope (compEnvC scope cl C X.env) fp) z elt te) (hs : ∀ x, foldedSetIterable iter X.env x = pure x := by intro _; rfl) :
    JS X z (.Assign [.Name y py] (.ListComp elt [⟨tg, iter, ifs, 0⟩] scope pos) spos) (dSetN i (dLc it g tt te (own.map (·.2)))) := PS.imp (ps_setLc hc hN hy hyl hsw hi ok hg ht he hs) fun D σ H h => by
  obtain ⟨δ, w, F, He, E, R, q, c⟩ := h
  refine lc_lift gok ⟨δ, w, F, He, _, R, q, fun b d w1 q1 v H1 F1 He1 wd1 st1 r1 => ?_⟩
  obtain ⟨x, w3, F2, He2, q3, wd2, st2, r2, s2⟩ := kNm_use (nm := true) q1 wd1 st1 r1
  exact c.nx _ _ _ _ _ _ q3 (R.assign (b := false) wd2 st2 r2) st2.fz
/-- an argument, an item of a display, its own container named -/
def dConsN (t : DX) (ts : DA) : DA := fun δ w Q => t δ w fun b d w1 => nmK (fun x w2 => ts δ w2 fun ds w3 => Q (x :: ds) w3) w1 b d
theorem ja_consN {e : Expr} {es : List Expr} {t : DX} {ts : DA} (ha : JX X z e t) (hr : JA X z es ts) (hs : starEach (e :: es) X.env = (false, eval e X.env) :: starEach es X.env := by rfl) : JA X z (e :: es) (dConsN t ts) :=
  PA.imp (pa_cons ha hr hs) fun σ H Q ⟨δ, w, F, He, P, R, q, k⟩ => by
    refine ⟨δ, w, F, He, _, R, q, fun b d w1 q1 x H1 F1 He1 wd1 st1 r1 => ?_⟩
    obtain ⟨y, w3, F2, He2, q3, wd2, st2, r2, s2⟩ := kNm_use (nm := true) (Q := fun x w2 => ts δ w2 fun ds w3 => P (x :: ds) w3) q1 wd1 st1 r1
    refine ⟨δ, w3, F2, He2, fun ds w4 => P (y :: ds) w4, R.step wd2 st2, q3, fun ds w4 q4 vs H3 F3 He3 wd3 st3 r3 => ?_⟩
    exact k _ _ q4 _ H3 F3 He3 wd3 (st2.trans st3) (.cons (r2.mono st3.fz) r3)
/-! ### writing to named things -/
/-- o.append(e) -/
def dAppN (nm : Bool) (tb : DO) (t : DX) : DS := fun E δ w => tb δ w fun d w1 => ∃ a ds, d = .ref a ∧ w1 a = some (.lst ds) ∧ t δ w1 fun b v w2 => kNm nm (fun x w3 => ∃ ds', w3 a = some (.lst ds') ∧ ds'.length < sizeLine ∧ E.nx δ (updW w3 a (.lst (ds' ++ [x])))) w2 b v
theorem js_appN (nm : Bool) {o e : Expr} {tb : DO} {t : DX} {apos cpos pos : Pos} (hK : z.K = X.K) (ho : JO X z o tb) (he : JX X z e t)
    (hbase : attributeBase o "append" X.env (eval o X.env) = eval o X.env := by rfl)
    (hfew : ((backTo cpos (starEach [e] X.env)).all (fun x => !x.1) && (backToKw cpos (keywordEach [] X.env)).all (fun x => x.1.isSome)
      && decide (([e] : List Expr).length + ([] : List Keyword).length + (if ([] : List Keyword).isEmpty then 0 else 1) < 30)) = true := by rfl)
    (hline : (apos.endLine == cpos.line) = true := by rfl) (hs : starEach [e] X.env = (false, eval e X.env) :: starEach [] X.env := by rfl) (hplain : (backTo cpos (starEach [] X.env)).any (·.1) = false := by rfl)
    (hsw : swapsWith (.Call (.Attribute o "append" apos) [e] [] cpos) none pos.line X.env = pure false := by rfl) : JS X z (.Expr (.Call (.Attribute o "append" apos) [e] [] cpos) pos) (dAppN nm tb t) :=
  PS.imp (ps_expr (pe_bm PySem.F.plainAttrs_list PySem.F.slot_list_append PySem.F.type_list_append mt_append ho (pa_cons he pa_nil hs) hbase hfew hline hs hplain) hsw) fun D σ H ⟨δ, w, F, He, E, R, q, c⟩ => by
    refine ⟨δ, w, F, He, _, R, q, fun d w1 q1 x H1 F1 He1 wd1 st1 r1 => ?_⟩
    obtain ⟨a, ds, rfl, hw, q1⟩ := q1
    obtain ⟨ob, h1, h2, rv⟩ := wd1.at hw
    cases rv with
    | lst rv =>
      have hx := r1.dt.refV
      subst hx
      refine ⟨.inl ⟨rfl, _, .of h1⟩, δ, w1, F1, He1, _, R.step wd1 st1, q1, fun b v w2 q2 u H2 F2 He2 wd2 st2 r2 => ?_⟩
      obtain ⟨y, w3, F3, He3, ⟨ds', hw3, hz, q3⟩, wd3, st3, r3, s3⟩ := kNm_use q2 wd2 st2 r2
      obtain ⟨ob', g1, g2, rv'⟩ := wd3.at hw3
      cases id rv' with
      | lst rl =>
        refine ⟨a, _, u, rfl, rfl, g1, by rw [rl.length]; exact hz, ?_⟩
        have R3 := (R.step wd1 st1).step wd3 st3
        exact c.nx _ _ _ _ _ _ q3 (R3.step (wd3.put hw3 g2 rv' (.lst (rl.append (.cons r3 .nil)))) (.put g2 g1)) (st1.fz.trans st3.fz)
/-- a[k] = x, of a cell -/
def putL (P : Cell → Prop) (x : D) (ds : List D) : D → Prop
  | .int j => ∃ n, ixN ds.length j = some n ∧ P (.lst (ds.set n x))
  | _ => False
def putK_ (P : Cell → Prop) (x : D) (kvs : List (Key × D)) : D → Prop
  | .int j => kvs.length < sizeLine ∧ P (.dK (putD kvs (.inl j) x))
  | .str j => kvs.length < sizeLine ∧ P (.dK (putD kvs (.inr j) x))
  | _ => False
def putT_ (P : Cell → Prop) (x : D) (kvs : List (List Key × D)) : D → Prop
  | .tup ks => ∃ js, ks = js.map kD ∧ kvs.length < sizeLine ∧ P (.dT (putD kvs js x))
  | _ => False
def sPutC (P : Cell → Prop) (k x : D) : Option Cell → Prop
  | some (.lst ds) => putL P x ds k
  | some (.dK kvs) => putK_ P x kvs k
  | some (.dT kvs) => putT_ P x kvs k
  | _ => False
def dPutN (nm : Bool) (tb tk : DO) (t : DX) : DS := fun E δ w => t δ w fun b v w1 => kNm nm (fun x w2 => tb δ w2 fun d w3 => tk δ w3 fun kd w4 => ∃ a, d = .ref a ∧ sPutC (fun c => E.nx δ (updW w4 a c)) kd x (w4 a)) w1 b v
theorem js_putN (nm : Bool) {o k e : Expr} {tb tk : DO} {t : DX} {spos pos : Pos} (hK : z.K = X.K) (hu : X.A.units + 1 < cLine) (ho : JO X z o tb) (hk : JO X z k tk) (he : JX X z e t)
    (hs : swapsWithSole [.Subscript o k spos] e pos.line X.env = pure false := by rfl) (hw : swappedStores [.Subscript o k spos] e X.env = pure none := by rfl)
    (h1 : (assignEach [.Subscript o k spos] X.env).map (·.2) = [assign (.Subscript o k spos) X.env] := by rfl)
    (ha : ∀ v, assign (.Subscript o k spos) X.env v = (do
      let ov ← holding [v] (eval o X.env)
      let iv ← holding [v, ov] (eval k X.env)
      standAt spos
      holding [v, ov, iv] (setItem ov iv v)
      release [v, ov, iv] []) := by intro _; rfl) : JS X z (.Assign [.Subscript o k spos] e pos) (dPutN nm tb tk t) :=
  PS.imp (ps_asg he (pg_sub ho hk (PSet.or set_list (set_dict hu)) ha) hs hw h1) fun D σ H ⟨δ, w, F, He, E, R, q, c⟩ => by
    refine ⟨δ, w, F, He, _, R, q, fun b d w1 q1 v H1 F1 He1 wd1 st1 r1 => ?_⟩
    obtain ⟨y, w2, F2, He2, q2, wd2, st2, r2, s2⟩ := kNm_use q1 wd1 st1 r1
    have R2 := R.step wd2 st2
    refine ⟨δ, w2, F2, He2, _, R2, q2, fun od w3 q3 ov H3 F3 He3 wd3 st3 r3 => ?_⟩
    have R3 := R2.step wd3 st3
    refine ⟨δ, w3, F3, He3, _, R3, q3, fun kd w4 q4 kv H4 F4 He4 wd4 st4 r4 => ?_⟩
    have R4 := R3.step wd4 st4
    obtain ⟨a, rfl, q4⟩ := q4
    have ho := (r3.step st4).dt.refV
    subst ho
    have ry := (r2.mono st3.fz).mono st4.fz
    have sF := st2.fz.trans (st3.fz.trans st4.fz)
    have r4 := r4.dt
    cases ew : w4 a with
    | none => rw [ew] at q4; exact q4.elim
    | some cl =>
      rw [ew] at q4
      obtain ⟨ob, g1, g2, rv⟩ := wd4.at ew
      cases id rv with
      | lst rl =>
        simp only [sPutC] at q4
        cases kd with
        | int j =>
          obtain ⟨n, hn, q4⟩ := q4
          exact .inl ⟨a, _, _, n, rfl, r4.int, g1, by rw [rl.length]; exact hn, c.nx _ _ _ _ _ _ q4 (R4.step (wd4.put ew g2 rv (.lst (rl.set ry n))) (.put g2 g1)) sF⟩
        | _ => exact (by simpa [putL, putK_, putT_] using q4)
      | dK rl =>
        simp only [sPutC] at q4
        cases kd with
        | int j =>
          have := r4.int; subst kv
          exact .inr ⟨a, _, rfl, DPut.k (k := .inl _) g1 (by rw [rl.length]; exact q4.1), c.nx _ _ _ _ _ _ q4.2 (R4.step (wd4.put ew g2 rv (.dK (rl.put ry))) (.put g2 g1)) sF⟩
        | str j =>
          have := r4.str; subst kv
          exact .inr ⟨a, _, rfl, DPut.k (k := .inr _) g1 (by rw [rl.length]; exact q4.1), c.nx _ _ _ _ _ _ q4.2 (R4.step (wd4.put ew g2 rv (.dK (rl.put ry))) (.put g2 g1)) sF⟩
        | _ => exact (by simpa [putL, putK_, putT_] using q4)
      | dT rl =>
        simp only [sPutC] at q4
        cases kd with
        | tup ks =>
          obtain ⟨js, rfl, hl, q4⟩ := q4
          obtain ⟨b, us, rfl, hb, rb⟩ := r4.tup wd4.sf
          have := rb.keys; subst us
          exact .inr ⟨a, _, rfl, DPut.t g1 hb (by rw [rl.length]; exact hl), c.nx _ _ _ _ _ _ q4 (R4.step (wd4.put ew g2 rv (.dT (rl.put ry))) (.put g2 g1)) sF⟩
        | _ => exact (by simpa [putL, putK_, putT_] using q4)
      | fK _ => exact q4.elim
      | fT _ => exact q4.elim
      | ins _ _ _ => exact q4.elim
end
end Lv

namespace Lv
open PySem PySem.Spec L2

/-! ### attributes -/
def putFD (f : Str) (x : D) : List (Str × D) → List (Str × D)
  | [] => [(f, x)]
  | (g, y) :: r => if g = f then (g, x) :: r else (g, y) :: putFD f x r
section
variable {K : PySem.W.Frag} {F He H : Hp} {w : Om}
theorem DFs.look {f : Str} : ∀ {vs : List (Str × V)} {ds : List (Str × D)}, DFs K F vs ds → (vs.lookup f = none ∧ ds.lookup f = none) ∨ ∃ v d, vs.lookup f = some v ∧ ds.lookup f = some d ∧ DR K F v d
  | _, _, .nil => .inl ⟨rfl, rfl⟩
  | _, _, .cons (k := g) (v := v) (d := d) h hs => by
    by_cases e : f = g
    · subst e
      exact .inr ⟨v, d, by simp [List.lookup], by simp [List.lookup], h⟩
    · have e2 : (f == g) = false := by simpa using e
      have := DFs.look (f := f) hs
      simpa [List.lookup, e2] using this
theorem DFs.put {f : Str} {x : V} {y : D} (r : DR K F x y) : ∀ {vs : List (Str × V)} {ds : List (Str × D)}, DFs K F vs ds → DFs K F (putF f x vs) (putFD f y ds)
  | _, _, .nil => .cons r .nil
  | _, _, .cons (k := g) h hs => by
    by_cases e : g = f
    · subst e
      show DFs K F (if g = g then _ else _) (if g = g then _ else _)
      rw [if_pos rfl, if_pos rfl]
      exact .cons r hs
    · show DFs K F (if g = f then _ else _) (if g = f then _ else _)
      rw [if_neg e, if_neg e]
      exact .cons h (DFs.put r hs)
theorem DFs.length : ∀ {vs : List (Str × V)} {ds : List (Str × D)}, DFs K F vs ds → vs.length = ds.length
  | _, _, .nil => rfl
  | _, _, .cons _ hs => by simp [DFs.length hs]
/-- an instance stands there -/
theorem Wd.ins {cn : Str} {C a : Addr} {fs : List (Str × D)} (x : Wd K w F He H) (aC : PySem.W.nsIn K mainGlobals cn = some (some (.ref C))) (h : w a = some (.ins cn fs)) : ∃ dx vs, H a = some (.ins C dx vs) ∧ He a = some (.ins C dx vs) ∧ He dx = some (.own a) ∧ DFs K F vs fs := by
  obtain ⟨o, h1, h2, r⟩ := x.at h
  cases r with
  | ins n hd hf =>
    rw [aC] at n
    cases n
    exact ⟨_, _, h1, h2, hd, hf⟩
/-- an attribute is set -/
theorem Wd.putIns {cn : Str} {C a dx : Addr} {fs fs' : List (Str × D)} {vs vs' : List (Str × V)} (x : Wd K w F He H) (aC : PySem.W.nsIn K mainGlobals cn = some (some (.ref C))) (h : w a = some (.ins cn fs)) (ha : He a = some (.ins C dx vs)) (hd : He dx = some (.own a)) (hf : DFs K F vs fs) (hf' : DFs K F vs' fs') :
    Wd K (updW w a (.ins cn fs')) F (upd He a (.ins C dx vs')) (upd H a (.ins C dx vs')) :=
  x.put h ha (.ins aC hd hf) (.ins aC (by rw [upd_ne (fun z => by subst z; rw [ha] at hd; cases hd)]; exact hd) hf')
end
section
variable {X : Cx} {z : Ent} {pos : Pos}
/-- o.f -/
def dFld (cn f : Str) (t : DO) : DX := fun δ w Q => t δ w fun d w1 => ∃ a fs x, d = .ref a ∧ w1 a = some (.ins cn fs) ∧ fs.lookup f = some x ∧ Q false x w1
theorem jx_fld {cn f : Str} {C : Addr} {e : Expr} {t : DO} (hK : z.K = X.K) (aC : PySem.W.nsIn X.K mainGlobals cn = some (some (.ref C))) (c : Cls X.K C) (n : NoAttr X.K C f) (he : JO X z e t) (hb : attributeBase e f X.env (eval e X.env) = eval e X.env := by rfl) : JX X z (.Attribute e f pos) (dFld cn f t) :=
  PE.imp (pe_fld he hb) fun σ H Q ⟨δ, w, F, He, P, R, q, k⟩ => by
    refine ⟨δ, w, F, He, _, R, q, fun d w1 q1 x H1 F1 He1 wd1 st1 r1 => ?_⟩
    obtain ⟨a, fs, y, rfl, hw, hl, q1⟩ := q1
    obtain ⟨dx, vs, g1, g2, g3, rf⟩ := wd1.ins (by rw [hK]; exact aC) hw
    rcases rf.look (f := f) with ⟨_, h2⟩ | ⟨v, d', h1, h2, rv⟩
    · rw [hl] at h2; cases h2
    · rw [hl] at h2; cases h2
      exact ⟨a, C, dx, vs, v, r1.dt.refV, g1, c, n, h1, k _ _ _ q1 v H1 F1 He1 wd1 st1 rv⟩
/-- o.f = e -/
def dFldS (nm : Bool) (cn f : Str) (to : DO) (t : DX) : DS := fun E δ w => t δ w fun b v w1 => kNm nm (fun x w2 => to δ w2 fun d w3 => ∃ a fs, d = .ref a ∧ w3 a = some (.ins cn fs) ∧ fs.length < 1000 ∧ E.nx δ (updW w3 a (.ins cn (putFD f x fs)))) w1 b v
theorem js_fld (nm : Bool) {cn f : Str} {C : Addr} {o e : Expr} {to : DO} {t : DX} {pos' : Pos} (hK : z.K = X.K) (aC : PySem.W.nsIn X.K mainGlobals cn = some (some (.ref C))) (c : Cls X.K C) (n : NoAttr X.K C f) (ho : JO X z o to) (he : JX X z e t)
    (hs : swapsWith e (some (.Attribute o f pos')) pos.line X.env = pure false := by rfl) : JS X z (.Assign [.Attribute o f pos'] e pos) (dFldS nm cn f to t) :=
  PS.imp (ps_fld ho he hs) fun D σ H ⟨δ, w, F, He, E, R, q, cn_⟩ => by
    refine ⟨δ, w, F, He, _, R, q, fun b d w1 q1 v H1 F1 He1 wd1 st1 r1 => ?_⟩
    obtain ⟨y, w2, F2, He2, q2, wd2, st2, r2, s2⟩ := kNm_use q1 wd1 st1 r1
    have R2 := R.step wd2 st2
    refine ⟨δ, w2, F2, He2, _, R2, q2, fun od w3 q3 ov H3 F3 He3 wd3 st3 r3 => ?_⟩
    obtain ⟨a, fs, rfl, hw, hl, q3⟩ := q3
    obtain ⟨dx, vs, g1, g2, g3, rf⟩ := wd3.ins (by rw [hK]; exact aC) hw
    refine ⟨a, C, dx, vs, r3.dt.refV, g1, c, n, by rw [rf.length]; exact hl, ?_⟩
    exact cn_.nx _ _ _ _ _ _ q3 ((R2.step wd3 st3).step (wd3.putIns (by rw [hK]; exact aC) hw g2 g3 rf (rf.put (r2.mono st3.fz))) (.put g2 g1)) (st2.fz.trans st3.fz)
/-- o.f += e, numbers -/
def dFldAug (cn f : Str) (to t : DO) : DS := fun E δ w => to δ w fun d w1 => ∃ a fs i, d = .ref a ∧ w1 a = some (.ins cn fs) ∧ fs.lookup f = some (.int i) ∧ t δ w1 fun e w2 => ∃ j fs', e = .int j ∧ w2 a = some (.ins cn fs') ∧ fs'.length < 1000 ∧ E.nx δ (updW w2 a (.ins cn (putFD f (.int (i + j)) fs')))
theorem js_fldAug {cn f : Str} {C : Addr} {o e : Expr} {to t : DO} {tpos : Pos} (hK : z.K = X.K) (aC : PySem.W.nsIn X.K mainGlobals cn = some (some (.ref C))) (c : Cls X.K C) (n : NoAttr X.K C f) (ho : JO X z o to) (he : JO X z e t) : JS X z (.AugAssign (.Attribute o f tpos) .Add e pos) (dFldAug cn f to t) :=
  PS.imp (ps_fldaug ho he in_add) fun D σ H ⟨δ, w, F, He, E, R, q, cn_⟩ => by
    refine ⟨δ, w, F, He, _, R, q, fun d w1 q1 x H1 F1 He1 wd1 st1 r1 => ?_⟩
    obtain ⟨a, fs, i, rfl, hw, hl, q1⟩ := q1
    obtain ⟨dx, vs, g1, g2, g3, rf⟩ := wd1.ins (by rw [hK]; exact aC) hw
    rcases rf.look (f := f) with ⟨_, h2⟩ | ⟨v, d', h1, h2, rv⟩
    · rw [hl] at h2; cases h2
    · rw [hl] at h2; cases h2
      cases rv
      refine ⟨a, C, dx, vs, .int i, r1.dt.refV, g1, c, n, h1, δ, w1, F1, He1, _, R.step wd1 st1, q1, fun e w2 q2 y H2 F2 He2 wd2 st2 r2 => ?_⟩
      obtain ⟨j, fs', rfl, hw2, hl2, q2⟩ := q2
      obtain ⟨dx', vs', k1, k2, k3, rf'⟩ := wd2.ins (by rw [hK]; exact aC) hw2
      refine ⟨i, j, rfl, r2.dt.int, dx', vs', k1, by rw [rf'.length]; exact hl2, ?_⟩
      exact cn_.nx _ _ _ _ _ _ q2 (((R.step wd1 st1).step wd2 st2).step (wd2.putIns (by rw [hK]; exact aC) hw2 k2 k3 rf' (rf'.put (.int _))) (.put k2 k1)) (st1.fz.trans st2.fz)
end
/-- the method m of the class cn keeps T -/
structure Mth (P : Program) (w : World) (K : PySem.W.Frag) (mg : Str → Option Value) (base : Heap) (k : Nat) (cn m : Str) (T : DSp) : Prop where
  ex : ∃ (C f : Addr) (fd : FuncData) (ps : List Str), PySem.W.nsIn K mainGlobals cn = some (some (.ref C)) ∧ Cls K C ∧ Meth K C m f ∧ FnOk P w K mg base CX0 k f fd ps (toSp K T) ∧ Binds K fd ps []
theorem Mth.mono {P : Program} {w : World} {K : PySem.W.Frag} {mg : Str → Option Value} {base : Heap} {j k : Nat} {cn m : Str} {T : DSp} (F : Mth P w K mg base j cn m T) (h : j ≤ k) : Mth P w K mg base k cn m T :=
  let ⟨C, f, fd, ps, a, b, c, d, e⟩ := F.ex; ⟨C, f, fd, ps, a, b, c, d.mono h, e⟩
/-- the class cn is made by an __init__ that keeps T -/
structure Mak (P : Program) (w : World) (K : PySem.W.Frag) (mg : Str → Option Value) (base : Heap) (k : Nat) (cn : Str) (T : DSp) : Prop where
  ex : ∃ (C f : Addr) (fd : FuncData) (ps : List Str), PySem.W.nsIn K mainGlobals cn = some (some (.ref C)) ∧ mg cn = some (.ref C) ∧ Mk K C f ∧ FnOk P w K mg base CX0 k f fd ps (toSp K T) ∧ Binds K fd ps []
section
variable {X : Cx} {z : Ent} {pos : Pos}
def dMeth (cn m : Str) (T : DSp) (to : DO) (t : DA) : DX := fun δ w Q => to δ w fun d w1 => ∃ a fs, d = .ref a ∧ w1 a = some (.ins cn fs) ∧ fs.lookup m = none ∧ t δ w1 fun ds w2 => T (.ref a :: ds) w2 Q
theorem meth_lift {C : Addr} {cn m : Str} {T : DSp} {to : DO} {t : DA} {σ : St} {H : Hp} {Q : VK} {K : PySem.W.Frag} (hK : z.K = K) (aC : PySem.W.nsIn K mainGlobals cn = some (some (.ref C))) (h : liftX z (dMeth cn m T to t) σ H Q) : tMeth C m (toSp K T) [] E0 (liftO z to) (liftA z t) σ H Q := by
  subst hK
  obtain ⟨δ, w, F, He, P, R, q, k⟩ := h
  refine ⟨δ, w, F, He, _, R, q, fun d w1 q1 x H1 F1 He1 wd1 st1 r1 => ?_⟩
  obtain ⟨a, fs, rfl, hw, hl, q1⟩ := q1
  obtain ⟨dx, vs, g1, g2, g3, rf⟩ := wd1.ins aC hw
  have hx := r1.dt.refV
  subst hx
  refine ⟨a, dx, vs, rfl, g1, ?_, δ, w1, F1, He1, _, R.step wd1 st1, q1, fun ds w2 q2 us H2 F2 He2 wd2 st2 r2 => ?_⟩
  · rcases rf.look (f := m) with ⟨h1, _⟩ | ⟨v, d', h1, h2, rv⟩
    · exact h1
    · rw [hl] at h2; cases h2
  show toSp z.K T (.ref a :: (us ++ [])) H2 Q E0
  rw [List.append_nil]
  exact ⟨.ref a :: ds, w2, F2, He2, P, wd2, .cons (.ref a) r2, q2, fun b d w' p v H' F' He' wd st r => k b d w' p v H' F' He' wd ((st1.trans st2).trans st) (r.base (st1.trans st2))⟩
theorem jx_meth {k : Nat} {cn m : Str} {T : DSp} {to : DO} {t : DA} {o e : Expr} {es : List Expr} {apos : Pos} (f : Mth X.prog X.w X.K X.mg X.base k cn m T) (hK : z.K = X.K) (hr : Room k X.A) (ho : JO X z o to) (ha : JA X z (e :: es) t)
    (hst : starEach (e :: es) X.env = (false, eval e X.env) :: starEach es X.env := by rfl) (hpl : (backTo pos (starEach es X.env)).any (·.1) = false := by rfl) {pl : Sem Bool}
    (ht : eval (.Call (.Attribute o m apos) (e :: es) [] pos) X.env = (do
      let ov ← eval o X.env
      standAt apos.atName
      let (f, first) ← holding [ov] (getMethod ov m pl)
      callWith pos f first (backTo pos (starEach (e :: es) X.env)) (backToKw pos (keywordEach [] X.env))) := by rfl) : JX X z (.Call (.Attribute o m apos) (e :: es) [] pos) (dMeth cn m T to t) := by
  obtain ⟨C, fa, fd, ps, aC, c, hm, a, d⟩ := f.ex
  exact PE.imp (pe_meth ho c hm a hr d .nil pass0 ha hst hpl ht) fun _ _ _ h => meth_lift hK aC h
theorem jx_meth0 {k : Nat} {cn m : Str} {T : DSp} {to : DO} {o : Expr} {apos : Pos} (f : Mth X.prog X.w X.K X.mg X.base k cn m T) (hK : z.K = X.K) (hr : Room k X.A) (ho : JO X z o to) {pl : Sem Bool}
    (ht : eval (.Call (.Attribute o m apos) [] [] pos) X.env = (do
      let ov ← eval o X.env
      standAt apos.atName
      let (f, first) ← holding [ov] (getMethod ov m pl)
      callWith pos f first (backTo pos (starEach [] X.env)) (backToKw pos (keywordEach [] X.env))) := by rfl) : JX X z (.Call (.Attribute o m apos) [] [] pos) (dMeth cn m T to dNil) := by
  obtain ⟨C, fa, fd, ps, aC, c, hm, a, d⟩ := f.ex
  refine PE.imp (pe_meth0 ho c hm a hr d .nil pass0 ht) fun σ H Q h => ?_
  have := meth_lift hK aC h
  unfold tMeth at this ⊢
  obtain ⟨δ, w, F, He, P, R, q, k⟩ := this
  refine ⟨δ, w, F, He, P, R, q, fun d w1 q1 x H1 F1 He1 wd1 st1 r1 => ?_⟩
  obtain ⟨a, dx, fs, e1, e2, e3, q2⟩ := k d w1 q1 x H1 F1 He1 wd1 st1 r1
  refine ⟨a, dx, fs, e1, e2, e3, ?_⟩
  obtain ⟨δ, w, F, He, P, R, q, k⟩ := q2
  exact k _ _ q [] H1 F He R.wd .refl .nil
/-- C(..) -/
def dMake (cn : Str) (T : DSp) (t : DA) : DX := fun δ w Q => t δ w fun ds w1 => ∀ x, w1 x = none → T (.ref x :: ds) (updW w1 x (.ins cn [])) fun _ d w2 => d = .non ∧ Q false (.ref x) w2
theorem make_lift {C : Addr} {cn : Str} {T : DSp} {t : DA} {σ : St} {H : Hp} {Q : VK} {K : PySem.W.Frag} (hK : z.K = K) (aC : PySem.W.nsIn K mainGlobals cn = some (some (.ref C))) (h : liftX z (dMake cn T t) σ H Q) : tMake C (toSp K T) [] E0 (liftA z t) σ H Q := by
  subst hK
  obtain ⟨δ, w, F, He, P, R, q, k⟩ := h
  refine ⟨δ, w, F, He, _, R, q, fun ds w1 q1 vs H1 F1 He1 wd1 st1 r1 x dx hx hdx hne => ?_⟩
  have m := wd1.henone hx
  have md := wd1.henone hdx
  have n := wd1.fnone hx
  have nd := wd1.fnone hdx
  have h1 : (upd H1 dx (.own x)) x = none := by rw [upd_ne (Ne.symm hne)]; exact hx
  have wd2 : Wd z.K (updW w1 x (.ins cn [])) F1 (upd (upd He1 dx (.own x)) x (.ins C dx [])) (upd (upd H1 dx (.own x)) x (.ins C dx [])) := by
    refine ⟨((wd1.alloc hdx).alloc h1).sf, fun b u e => ?_, fun b u e => ?_, ⟨fun b c e => ?_, fun b e => ?_⟩⟩
    · by_cases hb : b = x
      · subst hb; rw [upd_same] at e ⊢; exact e
      · rw [upd_ne hb] at e ⊢
        by_cases hb2 : b = dx
        · subst hb2; rw [upd_same] at e ⊢; exact e
        · rw [upd_ne hb2] at e ⊢; exact wd1.sh b u e
    · by_cases hb : b = x
      · subst hb; exact n
      · rw [upd_ne hb] at e
        by_cases hb2 : b = dx
        · subst hb2; exact nd
        · rw [upd_ne hb2] at e; exact wd1.dj b u e
    · by_cases hb : b = x
      · subst hb
        rw [updW_same] at e
        cases e
        exact ⟨_, upd_same, .ins aC (by rw [upd_ne hne, upd_same]) .nil⟩
      · rw [updW_ne hb] at e
        obtain ⟨o, g1, g2⟩ := wd1.ex.some_ b c e
        have hb2 : b ≠ dx := fun z => by subst z; rw [md] at g1; cases g1
        refine ⟨o, by rw [upd_ne hb, upd_ne hb2]; exact g1, g2.other fun d p e => ?_⟩
        rw [upd_ne (ne_of_none e m), upd_ne (ne_of_none e md)]
        exact e
    · have hb : b ≠ x := fun z => by subst z; rw [updW_same] at e; cases e
      rw [updW_ne hb] at e
      rw [upd_ne hb]
      by_cases hb2 : b = dx
      · subst hb2; exact .inr ⟨x, upd_same⟩
      · rw [upd_ne hb2]; exact wd1.ex.none_ b e
  have st2 : Step F1 He1 H1 F1 (upd (upd He1 dx (.own x)) x (.ins C dx [])) (upd (upd H1 dx (.own x)) x (.ins C dx [])) :=
    (Step.name (Step.name (((Step.alloc hdx).trans (Step.alloc h1))) hdx) hx)
  show toSp z.K T (.ref x :: (vs ++ [])) _ _ E0
  rw [List.append_nil]
  refine ⟨.ref x :: ds, _, F1, _, _, wd2, .cons (.ref x) r1, q1 x (wd1.none_of m), fun b d w' p v H' F' He' wd st r => ?_⟩
  obtain ⟨rfl, p⟩ := p
  exact ⟨r.dt.non, k false _ w' p _ H' F' He' wd ((st1.trans st2).trans st) (.ref x)⟩
theorem jx_make {k : Nat} {cn : Str} {T : DSp} {t : DA} {p : Pos} {e : Expr} {es : List Expr} (f : Mak X.prog X.w X.K X.mg X.base k cn T) (hK : z.K = X.K) (hr : Room (k + 1) X.A) (ha : JA X z (e :: es) t) (hg : Gl X cn := by rfl)
    (hdb : (cn == ("__debug__" : Str)) = false := by decide) (he : starEach (e :: es) X.env = (false, eval e X.env) :: starEach es X.env := by rfl) (hpl : (backTo pos (starEach es X.env)).any (·.1) = false := by rfl) : JX X z (.Call (.Name cn p) (e :: es) [] pos) (dMake cn T t) := by
  obtain ⟨C, fa, fd, ps, aC, mC, M, a, d⟩ := f.ex
  exact PE.imp (pe_make M a hr hg mC d .nil pass0 ha hdb he hpl) fun _ _ _ h => make_lift hK aC h
theorem jx_make0 {k : Nat} {cn : Str} {T : DSp} {p : Pos} (f : Mak X.prog X.w X.K X.mg X.base k cn T) (hK : z.K = X.K) (hr : Room (k + 1) X.A) (hg : Gl X cn := by rfl)
    (hdb : (cn == ("__debug__" : Str)) = false := by decide) : JX X z (.Call (.Name cn p) [] [] pos) (dMake cn T dNil) := by
  obtain ⟨C, fa, fd, ps, aC, mC, M, a, d⟩ := f.ex
  refine PE.imp (pe_make0 M a hr hg mC d .nil pass0 hdb) fun σ H Q h => ?_
  have := make_lift hK aC h
  obtain ⟨δ, w, F, He, P, R, q, k⟩ := this
  exact k _ _ q [] H F He R.wd .refl .nil
end
section
variable {P : Program} {w : World} {K : PySem.W.Frag} {mg : Str → Option Value} {base : Heap}
/-- a method by its body's reading over data -/
theorem mth_ok {T : DSp} {cn m qual : Str} {st : Stmt} {C f : Addr} {fd : FuncData} {N ps : List Str} {k : Nat} (F : L2.Fun K m qual st f fd) (S : FnScope N ps (defScope st)) (aC : PySem.W.nsIn K mainGlobals cn = some (some (.ref C))) (c : Cls K C) (hm : Meth K C m f)
    (hbd : ∀ (kV doc pm : Value) (an : Option Addr) (cdv ct : Value) (us : List Value), us.length = ps.length → bindArgs (PySem.W.fnOf m qual (defArgs st) (defBody st) (defScope st) .none kV doc pm an cdv ct) ⟨us, []⟩ = pure (ps.zip us))
    (len : ∀ ds w P, T ds w P → ds.length = ps.length)
    (h : ∃ tb : Om → DS, (∀ (cdv : Value) (A : Around) (outer : List Env) (s : Shared) (H F0 He0 : Hp) (w0 : Om) (rep0 : rep K w0 F0 He0) (E : XK), Room k (A.deeper (PyProof.Rows.envOfC qual (defScope st) s.heap.objs.size f cdv)) → JSs (cxOf CX0 P w K mg base N qual (defScope st) f cdv A outer s H E).nox ⟨K, F0, He0, H, w0, rep0⟩ (defBody st) (tb w0)) ∧
      ∀ ds w P, T ds w P → tb w { nx := fun _ w => P false .non w, rt := P } (startD N ds) w) : Mth P w K mg base (k + 1) cn m T :=
  ⟨C, f, fd, ps, aC, c, hm, fn_okF F S len h, F.binds hbd⟩
theorem mak_ok {T : DSp} {cn qual : Str} {st : Stmt} {C f : Addr} {fd : FuncData} {N ps : List Str} {k : Nat} (F : L2.Fun K "__init__" qual st f fd) (S : FnScope N ps (defScope st)) (aC : PySem.W.nsIn K mainGlobals cn = some (some (.ref C))) (mC : mg cn = some (.ref C)) (M : Mk K C f)
    (hbd : ∀ (kV doc pm : Value) (an : Option Addr) (cdv ct : Value) (us : List Value), us.length = ps.length → bindArgs (PySem.W.fnOf "__init__" qual (defArgs st) (defBody st) (defScope st) .none kV doc pm an cdv ct) ⟨us, []⟩ = pure (ps.zip us))
    (len : ∀ ds w P, T ds w P → ds.length = ps.length)
    (h : ∃ tb : Om → DS, (∀ (cdv : Value) (A : Around) (outer : List Env) (s : Shared) (H F0 He0 : Hp) (w0 : Om) (rep0 : rep K w0 F0 He0) (E : XK), Room k (A.deeper (PyProof.Rows.envOfC qual (defScope st) s.heap.objs.size f cdv)) → JSs (cxOf CX0 P w K mg base N qual (defScope st) f cdv A outer s H E).nox ⟨K, F0, He0, H, w0, rep0⟩ (defBody st) (tb w0)) ∧
      ∀ ds w P, T ds w P → tb w { nx := fun _ w => P false .non w, rt := P } (startD N ds) w) : Mak P w K mg base (k + 1) cn T :=
  ⟨C, f, fd, ps, aC, mC, M, fn_okF F S len h, F.binds hbd⟩
end
end Lv

namespace Lv
open PySem PySem.Spec L2

/-! ### d.get(k), d.get(k, x), d.pop(k) -/
def isDct : D → Prop
  | .dK _ => True | .dT _ => True | .fK _ => True | .fT _ => True | _ => False
def sGetO (d e : D) (P : Option D → Prop) : Prop := match d, e with
  | .dK kvs, .int i => P (valD kvs (.inl i))
  | .dK kvs, .str i => P (valD kvs (.inr i))
  | .dT kvs, .tup ds => ∃ ks, ds = ks.map kD ∧ P (valD kvs ks)
  | .fK kvs, .int i => P (valD kvs (.inl i))
  | .fT kvs, .tup ds => ∃ ks, ds = ks.map kD ∧ P (valD kvs ks)
  | _, _ => False
section
variable {K : PySem.W.Frag} {F He H : Hp}
theorem isD_of {v : V} {d : D} (r : DT K F He H v d) (s : Same F H) (h : isDct d) : ∃ a, v = .ref a ∧ IsD H a := by
  cases d with
  | dK ds => obtain ⟨a, vs, rfl, ha, _⟩ := r.dK s; exact ⟨a, rfl, .inl ⟨_, .inl ha⟩⟩
  | dT ds => obtain ⟨a, vs, rfl, ha, _⟩ := r.dT s; exact ⟨a, rfl, .inr ⟨_, .inl ha⟩⟩
  | fK ds => obtain ⟨a, ob, vs, rfl, ha, _⟩ := r.fK; exact ⟨a, rfl, .inl ⟨_, .inr ⟨_, ha⟩⟩⟩
  | fT ds => obtain ⟨a, ob, vs, rfl, ha, _⟩ := r.fT; exact ⟨a, rfl, .inr ⟨_, .inr ⟨_, ha⟩⟩⟩
  | _ => exact h.elim
theorem get_of {v u : V} {d e : D} {P : Option D → Prop} {a : Addr} (dx : DT K F He H v d) (dy : DT K F He H u e) (s : Same F H) (hv : v = .ref a) (q : sGetO d e P) : ∃ o o', DGet H a u o ∧ P o' ∧ ((o = none ∧ o' = none) ∨ ∃ x y, o = some x ∧ o' = some y ∧ DR K F x y) := by
  unfold sGetO at q
  split at q
  · obtain ⟨a, vs, rfl, ha, ra⟩ := dx.dK s; cases hv
    have := dy.int; subst u
    exact ⟨_, _, DGet.k (k := .inl _) ha, q, ra.val⟩
  · obtain ⟨a, vs, rfl, ha, ra⟩ := dx.dK s; cases hv
    have := dy.str; subst u
    exact ⟨_, _, DGet.k (k := .inr _) ha, q, ra.val⟩
  · obtain ⟨ks, rfl, q⟩ := q
    obtain ⟨a, vs, rfl, ha, ra⟩ := dx.dT s; cases hv
    obtain ⟨b, us, rfl, hb, rb⟩ := dy.tup s
    have := rb.keys; subst us
    exact ⟨_, _, DGet.t ha hb, q, ra.val⟩
  · obtain ⟨a, ob, vs, rfl, ha, ra⟩ := dx.fK; cases hv
    have := dy.int; subst u
    exact ⟨_, _, .inl ⟨_, .inl _, .inr ⟨_, ha⟩, rfl, rfl⟩, q, ra.val⟩
  · obtain ⟨ks, rfl, q⟩ := q
    obtain ⟨a, ob, vs, rfl, ha, ra⟩ := dx.fT; cases hv
    obtain ⟨b, us, rfl, hb, rb⟩ := dy.tup s
    have := rb.keys; subst us
    exact ⟨_, _, .inr ⟨_, ks, b, .inr ⟨_, ha⟩, rfl, hb, rfl⟩, q, ra.val⟩
  · exact q.elim
end
section
variable {X : Cx} {z : Ent} {pos : Pos}
def dGet1 (to tk : DO) : DX := fun δ w Q => to δ w fun d w1 => isDct (res w1 d) ∧ tk δ w1 fun e w2 => sGetO (res w2 d) (res w2 e) fun o => Q false (o.getD .non) w2
theorem jx_get1 {o e : Expr} {to tk : DO} {apos cpos : Pos} (hK : z.K = X.K) (hu : X.A.units + 1 < cLine) (ho : JO X z o to) (he : JO X z e tk) (m : M1 X o "get" apos e cpos := by exact ⟨rfl, rfl, rfl, rfl⟩) : JX X z (.Call (.Attribute o "get" apos) [e] [] cpos) (dGet1 to tk) :=
  PE.imp (pe_dget1 hu ho he m) fun σ H Q ⟨δ, w, F, He, P, R, q, k⟩ => by
    refine ⟨δ, w, F, He, _, R, q, fun d w1 q1 x H1 F1 He1 wd1 st1 r1 => ?_⟩
    obtain ⟨a, hx, hd⟩ := isD_of (res_ok wd1.ex wd1.sh r1) wd1.sf q1.1
    refine ⟨a, hx, hd, δ, w1, F1, He1, _, R.step wd1 st1, q1.2, fun e w2 q2 y H2 F2 He2 wd2 st2 r2 => ?_⟩
    obtain ⟨o, o', hg, q3, ho⟩ := get_of (res_ok wd2.ex wd2.sh (r1.step st2)) (res_ok wd2.ex wd2.sh r2) wd2.sf hx q2
    refine ⟨o, hg, k _ _ _ q3 _ H2 F2 He2 wd2 (st1.trans st2) ?_⟩
    rcases ho with ⟨rfl, rfl⟩ | ⟨u, v, rfl, rfl, r⟩
    · exact .non
    · exact r
def dGet2 (to tk : DO) (tx : DX) : DX := fun δ w Q => to δ w fun d w1 => isDct (res w1 d) ∧ tk δ w1 fun e w2 => tx δ w2 fun _ x w3 => sGetO (res w3 d) (res w3 e) fun o => Q false (o.getD x) w3
theorem jx_get2 {o e f : Expr} {to tk : DO} {tx : DX} {apos cpos : Pos} (hK : z.K = X.K) (hu : X.A.units + 1 < cLine) (ho : JO X z o to) (he : JO X z e tk) (hf : JX X z f tx) (m : M2 X o "get" apos e f cpos := by exact ⟨rfl, rfl, rfl, rfl⟩) : JX X z (.Call (.Attribute o "get" apos) [e, f] [] cpos) (dGet2 to tk tx) :=
  PE.imp (pe_dget2 hu ho he hf m) fun σ H Q ⟨δ, w, F, He, P, R, q, k⟩ => by
    refine ⟨δ, w, F, He, _, R, q, fun d w1 q1 x H1 F1 He1 wd1 st1 r1 => ?_⟩
    obtain ⟨a, hx, hd⟩ := isD_of (res_ok wd1.ex wd1.sh r1) wd1.sf q1.1
    refine ⟨a, hx, hd, δ, w1, F1, He1, _, R.step wd1 st1, q1.2, fun e w2 q2 y H2 F2 He2 wd2 st2 r2 => ?_⟩
    refine ⟨δ, w2, F2, He2, _, (R.step wd1 st1).step wd2 st2, q2, fun b y3 w3 q3 v3 H3 F3 He3 wd3 st3 r3 => ?_⟩
    obtain ⟨F4, st4, wd4, r4, s4⟩ := r3.thaw st3 wd3
    have st34 := st2.trans st4
    obtain ⟨o, o', hg, q4, ho⟩ := get_of (res_ok wd4.ex wd4.sh (r1.step st34)) (res_ok wd4.ex wd4.sh (r2.step st4)) wd4.sf hx q3
    refine ⟨o, hg, k _ _ _ q4 _ H3 F4 He3 wd4 (st1.trans st34) ?_⟩
    rcases ho with ⟨rfl, rfl⟩ | ⟨u, v, rfl, rfl, r⟩
    · exact r4
    · exact r
def dDPop (to tk : DO) : DX := fun δ w Q => to δ w fun d w1 => ∃ a kvs0, d = .ref a ∧ w1 a = some (.dK kvs0) ∧ tk δ w1 fun e w2 => ∃ kvs key x, w2 a = some (.dK kvs) ∧ keyOf e = some key ∧ valD kvs key = some x ∧ Q false x (updW w2 a (.dK (dropD kvs key)))
theorem jx_dpop {o e : Expr} {to tk : DO} {apos cpos : Pos} (hK : z.K = X.K) (ho : JO X z o to) (he : JO X z e tk) (m : M1 X o "pop" apos e cpos := by exact ⟨rfl, rfl, rfl, rfl⟩) : JX X z (.Call (.Attribute o "pop" apos) [e] [] cpos) (dDPop to tk) :=
  PE.imp (pe_dpop1 ho he m) fun σ H Q ⟨δ, w, F, He, P, R, q, k⟩ => by
    refine ⟨δ, w, F, He, _, R, q, fun d w1 q1 x H1 F1 He1 wd1 st1 r1 => ?_⟩
    obtain ⟨a, kvs0, rfl, hw, q1⟩ := q1
    obtain ⟨ob, h1, h2, rv⟩ := wd1.at hw
    cases rv with
    | dK rv =>
      refine ⟨a, r1.dt.refV, .inl ⟨_, .inl h1⟩, δ, w1, F1, He1, _, R.step wd1 st1, q1, fun e w2 q2 y H2 F2 He2 wd2 st2 r2 => ?_⟩
      obtain ⟨kvs, key, x, hw2, hk, hv, q2⟩ := q2
      obtain ⟨ob2, g1, g2, rv2⟩ := wd2.at hw2
      cases id rv2 with
      | dK rl =>
        rcases rl.val (k := key) with ⟨_, z2⟩ | ⟨u, d', z1, z2, ru⟩
        · rw [hv] at z2; cases z2
        · rw [hv] at z2; cases z2
          refine ⟨_, key, u, g1, keyOf_rel r2.dt hk, z1, ?_⟩
          exact k _ _ _ q2 u _ _ _ (wd2.put hw2 g2 rv2 (.dK rl.drop)) ((st1.trans st2).trans (.put g2 g1)) ru
/-! ### xs.pop(), xs.pop(i) of a named list -/
def dLPop (to : DO) : DX := fun δ w Q => to δ w fun d w1 => ∃ a ds x, d = .ref a ∧ w1 a = some (.lst ds) ∧ ds[ds.length - 1]? = some x ∧ Q false x (updW w1 a (.lst ds.dropLast))
theorem jx_lpop {o : Expr} {to : DO} {apos cpos : Pos} (hK : z.K = X.K) (ho : JO X z o to)
    (hbase : attributeBase o "pop" X.env (eval o X.env) = eval o X.env := by rfl) (hline : (apos.endLine == cpos.line) = true := by rfl) : JX X z (.Call (.Attribute o "pop" apos) [] [] cpos) (dLPop to) :=
  PE.imp (pe_bm0 PySem.F.plainAttrs_list PySem.F.slot_list_pop PySem.F.type_list_pop mt_pop ho hbase hline) fun σ H Q ⟨δ, w, F, He, P, R, q, k⟩ => by
    refine ⟨δ, w, F, He, _, R, q, fun d w1 q1 x H1 F1 He1 wd1 st1 r1 => ?_⟩
    obtain ⟨a, ds, y, rfl, hw, hy, q1⟩ := q1
    obtain ⟨ob, h1, h2, rv⟩ := wd1.at hw
    have hx := r1.dt.refV
    subst hx
    cases id rv with
    | lst rl =>
      obtain ⟨v, hv, ry⟩ := rl.get hy
      refine ⟨.inl ⟨rfl, _, .of h1⟩, a, _, v, rfl, rfl, h1, by rw [rl.length]; exact hv, ?_⟩
      exact k _ _ _ q1 v _ _ _ (wd1.put hw h2 rv (.lst rl.dropLast)) (st1.trans (.put h2 h1)) ry
def dLPopAt (to ti : DO) : DX := fun δ w Q => to δ w fun d w1 => ∃ a ds0, d = .ref a ∧ w1 a = some (.lst ds0) ∧ ti δ w1 fun e w2 => ∃ ds i n x, e = .int i ∧ w2 a = some (.lst ds) ∧ (-(2 ^ 63) ≤ i ∧ i < 2 ^ 63) ∧ ixN ds.length i = some n ∧ ds[n]? = some x ∧ Q false x (updW w2 a (.lst (ds.eraseIdx n)))
theorem seqIx_of {i : Int} {n k : Nat} (h : ixN n i = some k) : seqIndex? i n = some k := by
  unfold ixN at h
  unfold seqIndex?
  split at h
  · split at h
    · cases h
      first | (simp; omega) | (split <;> simp_all <;> omega)
    · cases h
  · split at h
    · cases h
      first | (simp; omega) | (split <;> simp_all <;> omega)
    · cases h
theorem jx_lpopAt {o e : Expr} {to ti : DO} {apos cpos : Pos} (hK : z.K = X.K) (ho : JO X z o to) (he : JO X z e ti)
    (hbase : attributeBase o "pop" X.env (eval o X.env) = eval o X.env := by rfl)
    (hfew : ((backTo cpos (starEach [e] X.env)).all (fun x => !x.1) && (backToKw cpos (keywordEach [] X.env)).all (fun x => x.1.isSome)
      && decide (([e] : List Expr).length + ([] : List Keyword).length + (if ([] : List Keyword).isEmpty then 0 else 1) < 30)) = true := by rfl)
    (hline : (apos.endLine == cpos.line) = true := by rfl) (hs : starEach [e] X.env = (false, eval e X.env) :: starEach [] X.env := by rfl) (hplain : (backTo cpos (starEach [] X.env)).any (·.1) = false := by rfl) : JX X z (.Call (.Attribute o "pop" apos) [e] [] cpos) (dLPopAt to ti) :=
  PE.imp (pe_bm PySem.F.plainAttrs_list PySem.F.slot_list_pop PySem.F.type_list_pop mt_popAt ho (pa_cons he pa_nil hs) hbase hfew hline hs hplain) fun σ H Q ⟨δ, w, F, He, P, R, q, k⟩ => by
    refine ⟨δ, w, F, He, _, R, q, fun d w1 q1 x H1 F1 He1 wd1 st1 r1 => ?_⟩
    obtain ⟨a, ds0, rfl, hw, q1⟩ := q1
    obtain ⟨ob, h1, h2, rv⟩ := wd1.at hw
    have hx := r1.dt.refV
    subst hx
    cases rv with
    | lst rl0 =>
      refine ⟨.inl ⟨rfl, _, .of h1⟩, δ, w1, F1, He1, _, R.step wd1 st1, q1, fun e w2 q2 y H2 F2 He2 wd2 st2 r2 => ?_⟩
      obtain ⟨ds, i, n, y, rfl, hw2, hb, hn, hy, q2⟩ := q2
      obtain ⟨ob2, g1, g2, rv2⟩ := wd2.at hw2
      cases id rv2 with
      | lst rl =>
        obtain ⟨v, hv, ry⟩ := rl.get hy
        refine ⟨a, _, i, n, v, rfl, by rw [r2.dt.int], g1, hb.1, hb.2, by rw [rl.length]; exact seqIx_of hn, hv, ?_⟩
        exact k _ _ _ q2 v _ _ _ (wd2.put hw2 g2 rv2 (.lst (rl.eraseIdx n))) ((st1.trans st2).trans (.put g2 g1)) ry
/-- xs.clear() of a named list -/
def dLClear (to : DO) : DX := fun δ w Q => to δ w fun d w1 => ∃ a ds, d = .ref a ∧ w1 a = some (.lst ds) ∧ Q false .non (updW w1 a (.lst []))
theorem jx_lclear {o : Expr} {to : DO} {apos cpos : Pos} (hK : z.K = X.K) (ho : JO X z o to)
    (hbase : attributeBase o "clear" X.env (eval o X.env) = eval o X.env := by rfl) (hline : (apos.endLine == cpos.line) = true := by rfl) : JX X z (.Call (.Attribute o "clear" apos) [] [] cpos) (dLClear to) :=
  PE.imp (pe_bm0 PySem.F.plainAttrs_list PySem.F.slot_list_clear PySem.F.type_list_clear mt_clear ho hbase hline) fun σ H Q ⟨δ, w, F, He, P, R, q, k⟩ => by
    refine ⟨δ, w, F, He, _, R, q, fun d w1 q1 x H1 F1 He1 wd1 st1 r1 => ?_⟩
    obtain ⟨a, ds, rfl, hw, q1⟩ := q1
    obtain ⟨ob, h1, h2, rv⟩ := wd1.at hw
    have hx := r1.dt.refV
    subst hx
    cases id rv with
    | lst rl =>
      refine ⟨.inl ⟨rfl, _, .of h1⟩, a, _, rfl, rfl, h1, ?_⟩
      exact k _ _ _ q1 .non _ _ _ (wd1.put hw h2 rv (.lst .nil)) (st1.trans (.put h2 h1)) .non
/-! ### more that is walked -/
def enumD (ds : List D) : List D := ds.zipIdx.map fun q => .tup [.int (q.2 : Nat), q.1]
theorem enumD_len (ds : List D) : (enumD ds).length = ds.length := by simp [enumD]
theorem enumD_at (ds : List D) (i : Nat) {d : D} (h : ds[i]? = some d) : (enumD ds)[i]? = some (.tup [.int (i : Nat), d]) := by
  unfold enumD
  rw [List.getElem?_map, List.getElem?_zipIdx, h]
  simp
theorem itok_enum {K : PySem.W.Frag} {F : Hp} {a : Addr} {vs : List V} {ds : List D} (ha : F a = some (.lst vs)) (ra : DRs K F vs ds) : ItOk K (Ite K a) F (enumD ds) where
  go := fun i H s h => by
    rw [enumD_len] at h
    obtain ⟨u, hu, _⟩ := ra.get (List.getElem?_eq_getElem h)
    exact ⟨vs, u, .of (s _ _ ha), hu⟩
  stop := fun H s => ⟨vs, .of (s _ _ ha), by rw [enumD_len, ra.length]; exact Nat.le_refl _⟩
  yld := fun i H x H' s h hy => by
    rw [enumD_len] at h
    obtain ⟨T, u, rfl, hT, rfl, h1⟩ := hy
    obtain ⟨d, hd, rd⟩ := ra.getV (h1 vs (.of (s _ _ ha)))
    exact .inr ⟨T, _, [.int (i : Nat), d], rfl, hT, rfl, enumD_at ds i hd, .cons (.int _) (.cons rd .nil)⟩
def kEnum {α : Type} (Q : List D → α → Prop) (w : α) : List D → Prop
  | [.lst xs] => Q (enumD xs) w
  | _ => False
def dEnum (ts : DA) : DI := fun δ w Q => ts δ w fun ds w1 => kEnum Q w1 ds
theorem ji_enum {e : Expr} {ts : DA} {p tpos : Pos} {elts : List Expr} {kk : Nat} (hK : z.K = X.K) (hm : X.mg "enumerate" = none) (ha : JA X z [e] ts) (hg : Gl X "enumerate" := by rfl)
    (hs : starEach [e] X.env = [(false, eval e X.env)] := by rfl) : PI X (.Tuple elts kk tpos) (.Call (.Name "enumerate" p) [e] [] pos) (liftI z (dEnum ts)) :=
  PI.imp (pi_enum hg hm ha hs) fun σ H R ⟨δ, w, F, He, P, Re, q, k⟩ => by
    refine ⟨δ, w, F, He, _, Re, q, fun ds w1 q1 vs H1 F1 He1 wd1 st1 r1 => ?_⟩
    rw [← hK]
    unfold kEnum at q1
    split at q1
    · next xs =>
      cases r1 with
      | cons ra rb =>
        cases rb
        cases ra with
        | lst ea ra => exact ⟨_, _, rfl, .of (wd1.sf _ _ ea), k _ _ q1 _ H1 F1 He1 wd1 st1 (itok_enum ea ra)⟩
    · exact q1.elim
/-- range(a, b, c) -/
def rngC (lo c : Int) (n : Nat) : List D := (List.range n).map fun k => .int (lo + (k : Nat) * c)
theorem itok_rngC {K : PySem.W.Frag} {F : Hp} {lo c : Int} {n : Nat} : ItOk K (Itc lo c n) F (rngC lo c n) where
  go := fun i H s h => by
    have h' : i < n := by simpa [rngC] using h
    exact h'
  stop := fun H s => by simp [rngC, Itc]
  yld := fun i H v H' s h ⟨e1, hv⟩ => .inl ⟨e1, .int (lo + (i : Nat) * c), by
    have h' : i < n := by simpa [rngC] using h
    simp [rngC, h'], by rw [hv]; exact .int _⟩
def kR3 {α : Type} (Q : List D → α → Prop) (w : α) : List D → Prop
  | [.int i, .int j, .int c] => ∃ n, RgC i j c n ∧ Q (rngC i c n) w
  | _ => False
def dRng3 (ts : DA) : DI := fun δ w Q => ts δ w fun ds w1 => kR3 Q w1 ds
theorem ji_rng3 {tg a b c : Expr} {ts : DA} {p : Pos} (hm : X.mg "range" = none) (ha : JA X z [a, b, c] ts) (hg : Gl X "range" := by rfl)
    (hs : starEach [a, b, c] X.env = (false, eval a X.env) :: starEach [b, c] X.env := by rfl) (hpl : (backTo pos (starEach [b, c] X.env)).any (·.1) = false := by rfl) : PI X tg (.Call (.Name "range" p) [a, b, c] [] pos) (liftI z (dRng3 ts)) :=
  PI.imp (pi_range3 hg hm ha hs hpl) fun σ H R ⟨δ, w, F, He, P, Re, q, k⟩ => by
    refine ⟨δ, w, F, He, _, Re, q, fun ds w1 q1 vs H1 F1 He1 wd1 st1 r1 => ?_⟩
    unfold kR3 at q1
    split at q1
    · obtain ⟨n, hn, q1⟩ := q1
      have e := DRs.ints (ns := [_, _, _]) r1
      subst e
      exact ⟨_, _, _, n, rfl, hn, k _ _ q1 _ H1 F1 He1 wd1 st1 itok_rngC⟩
    · exact q1.elim
/-! ### for over a named list that stays as it is -/
def dForGoN (a : Addr) (c : Cell) (g : DG) (t : DS) (E : DEnds) : List D → DSt → Om → Prop
  | [], δ, w => E.nx δ w
  | d :: ds, δ, w => g d δ fun δ1 => t { E with nx := fun δ w => w a = some c ∧ dForGoN a c g t E ds δ w, ct := fun δ w => w a = some c ∧ dForGoN a c g t E ds δ w, bk := E.nx } δ1 w
def dForN (to : DO) (g : DG) (t : DS) : DS := fun E δ w => to δ w fun d w1 => ∃ a ds, d = .ref a ∧ w1 a = some (.lst ds) ∧ dForGoN a (.lst ds) g t E ds δ w1
theorem js_forN {tg iter : Expr} {body : List Stmt} {to : DO} {G : TG} {g : DG} {t : DS} (hK : z.K = X.K) (hp : PassesOwn (model X.prog X.w) X.A X.env X.xe) (hc : X.calm = true) (hi : JO X z iter to) (hg : PG X tg G) (ok : GOk z G g) (hb : JSs X z body t)
    (hs : ∀ x, foldedSetIterable iter X.env x = pure x := by intro _; rfl) : JS X z (.For tg iter body [] pos) (dForN to g t) :=
  PS.imp (ps_for hp hc (pi_any hi) hg hb hs) fun D σ H ⟨δ, w, F, He, E, R, q, cn⟩ => by
    refine ⟨δ, w, F, He, _, R, q, fun d w1 q1 v H1 F1 He1 wd1 st1 r1 => ?_⟩
    obtain ⟨a, ds, rfl, hw, q1⟩ := q1
    obtain ⟨ob, h1, h2, rv⟩ := wd1.at hw
    have hv := r1.dt.refV
    subst hv
    cases rv with
    | lst rl =>
      refine .inl ⟨a, rfl, ⟨_, .of h1⟩, ?_⟩
      refine ⟨fun i m σ H => m = ds.length - i ∧ i ≤ ds.length ∧ ∃ δ w F He, Same F1 F ∧ Rel z δ w F He σ H ∧ w a = some (.lst ds) ∧ dForGoN a (.lst ds) g t E (ds.drop i) δ w, ⟨ds.length, by simp, Nat.zero_le _, δ, w1, F1, He1, Same.refl _, R.step wd1 st1, hw, q1⟩, ?_⟩
      rintro i m σ H ⟨rfl, hle, δ, w, F, He, sF, R, hw, q⟩
      obtain ⟨ob, g1, g2, rv⟩ := R.wd.at hw
      cases rv with
      | lst rl =>
        rename_i vs
        rw [← hK]
        by_cases hlt : i < ds.length
        · obtain ⟨u, hu, ru⟩ := rl.get (List.getElem?_eq_getElem hlt)
          refine .inr ⟨⟨vs, u, .of g1, hu⟩, fun σ' H' => ∃ δ w F He, Same F1 F ∧ Rel z δ w F He σ' H' ∧ w a = some (.lst ds) ∧ dForGoN a (.lst ds) g t E (ds.drop (i + 1)) δ w, fun σ' H' h => ⟨ds.length - (i + 1), by omega, rfl, hlt, h⟩, fun x H' y => ?_⟩
          obtain ⟨rfl, y⟩ := y
          have hx := y vs (.of g1)
          rw [hu] at hx
          cases hx
          rw [List.drop_eq_getElem_cons hlt] at q
          refine ok δ w F He _ σ u _ _ _ R ru q fun δ2 σ2 q2 R2 => ?_
          have s1 := st1.fz.trans sF
          exact ⟨δ2, w, F, He, _, R2, q2, ⟨fun δ3 w3 F3 He3 σ3 H3 p r s3 => ⟨δ3, w3, F3, He3, sF.trans s3, r, p.1, p.2⟩, cn.rt, fun δ3 w3 F3 He3 σ3 H3 p r s3 => cn.nx _ _ _ _ _ _ p r (s1.trans s3), fun δ3 w3 F3 He3 σ3 H3 p r s3 => ⟨δ3, w3, F3, He3, sF.trans s3, r, p.1, p.2⟩⟩⟩
        · have e : i = ds.length := by omega
          subst e
          rw [List.drop_length] at q
          exact .inl ⟨⟨vs, .of g1, by rw [rl.length]; exact Nat.le_refl _⟩, cn.nx _ _ _ _ _ _ q R (st1.fz.trans sF)⟩
/-! ### a dict that is walked: locked while it lasts -/
def lkE (a : Addr) (c c' : Cell) (E : DEnds) : DEnds where
  nx := fun δ w => w a = some c' ∧ E.nx δ (updW w a c)
  rt := fun b d w => w a = some c' ∧ E.rt b d (updW w a c)
  bk := fun δ w => w a = some c' ∧ E.bk δ (updW w a c)
  ct := fun δ w => w a = some c' ∧ E.ct δ (updW w a c)
def dLock (t : DS) : DS := fun E δ w => ∃ a, (∃ kvs, w a = some (.dK kvs) ∧ ∀ ob vs, t (lkE a (.dK kvs) (.fK ob vs kvs) E) δ (updW w a (.fK ob vs kvs))) ∨ ∃ kvs, w a = some (.dT kvs) ∧ ∀ ob vs, t (lkE a (.dT kvs) (.fT ob vs kvs) E) δ (updW w a (.fT ob vs kvs))
theorem lock_conn {a : Addr} {c c' : Cell} {o o' : HO} {F : Hp} {E : DEnds} {D : Ends} (cn : Conn z F E D) (hc : ∀ (F He : Hp) (u : HO), CR z.K F He a u c' → u = o' ∧ ∀ He', CR z.K F He' a o c) (ht : ∀ xs, o ≠ .tup xs) :
    Conn z F (lkE a c c' E) ⟨fun σ' H' => H' a = some o' ∧ D.nx σ' (upd H' a o), fun v H' => H' a = some o' ∧ D.rt v (upd H' a o), fun σ' H' => H' a = some o' ∧ D.bk σ' (upd H' a o), fun σ' H' => H' a = some o' ∧ D.ct σ' (upd H' a o)⟩ := by
  have key : ∀ {w : Om} {F He H : Hp}, Wd z.K w F He H → w a = some c' → H a = some o' ∧ He a = some o' ∧ Wd z.K (updW w a c) F (upd He a o) (upd H a o) := fun {w F He H} wd hw => by
    obtain ⟨u, h1, h2, rv⟩ := wd.at hw
    obtain ⟨rfl, q⟩ := hc _ _ _ rv
    exact ⟨h1, h2, wd.put hw h2 rv (q _)⟩
  refine ⟨fun δ w F' He σ H q R s => ?_, fun b d w q v H F' He wd st r => ?_, fun δ w F' He σ H q R s => ?_, fun δ w F' He σ H q R s => ?_⟩
  · obtain ⟨h1, h2, wd⟩ := key R.wd q.1
    exact ⟨h1, cn.nx _ _ _ _ _ _ q.2 (R.step wd (.put h2 h1 ht)) s⟩
  · obtain ⟨h1, h2, wd2⟩ := key wd q.1
    refine ⟨h1, cn.rt _ _ _ q.2 v _ F' _ wd2 (st.trans (.put h2 h1 ht)) ?_⟩
    cases b with
    | false => exact r
    | true =>
      obtain ⟨a', o2, e, ho, n, m, f, rr⟩ := r
      have hne : a' ≠ a := fun z => by subst z; rw [h2] at m; cases m
      exact ⟨a', o2, e, by rw [upd_ne hne]; exact ho, n, by rw [upd_ne hne]; exact m, f, rr⟩
  · obtain ⟨h1, h2, wd⟩ := key R.wd q.1
    exact ⟨h1, cn.bk _ _ _ _ _ _ q.2 (R.step wd (.put h2 h1 ht)) s⟩
  · obtain ⟨h1, h2, wd⟩ := key R.wd q.1
    exact ⟨h1, cn.ct _ _ _ _ _ _ q.2 (R.step wd (.put h2 h1 ht)) s⟩
theorem js_lock {st : Stmt} {t : DS} (h : JS X z st t) : JS X z st (dLock t) := PS.imp (ps_lock h) fun D σ H ⟨δ, w, F, He, E, R, q, cn⟩ => by
  obtain ⟨a, q⟩ := q
  rcases q with ⟨kvs, hw, q⟩ | ⟨kvs, hw, q⟩
  · obtain ⟨o, h1, h2, rv⟩ := R.wd.at hw
    cases id rv with
    | dK rl =>
      rename_i vs
      refine ⟨a, .dK vs, h1, trivial, fun od => ?_⟩
      refine ⟨δ, _, F, _, _, R.step (R.wd.put (o' := .frz od (.dK vs)) hw h2 rv (.fK rl)) (.put h2 h1), q od vs, lock_conn cn (fun F He u r => ?_) (by intro xs e; cases e)⟩
      cases r with
      | fK r => exact ⟨rfl, fun _ => .dK r⟩
  · obtain ⟨o, h1, h2, rv⟩ := R.wd.at hw
    cases id rv with
    | dT rl =>
      rename_i vs
      refine ⟨a, .dT vs, h1, trivial, fun od => ?_⟩
      refine ⟨δ, _, F, _, _, R.step (R.wd.put (o' := .frz od (.dT vs)) hw h2 rv (.fT rl)) (.put h2 h1), q od vs, lock_conn cn (fun F He u r => ?_) (by intro xs e; cases e)⟩
      cases r with
      | fT r => exact ⟨rfl, fun _ => .dT r⟩
/-- a tuple that stands is frozen -/
theorem Rel.tupF {δ : DSt} {w : Om} {F He H : Hp} {σ : St} {p : Addr} {vs : List V} {ds : List D} (R : Rel z δ w F He σ H) (h : H p = some (.tup vs)) (r : DRs z.K F vs ds) : ∃ F', Rel z δ w F' He σ H ∧ Same F F' ∧ DR z.K F' (.ref p) (.tup ds) := by
  cases e : F p with
  | some u =>
    have := R.wd.sf _ _ e
    rw [h] at this
    cases this
    exact ⟨F, R, Same.refl _, .tup e r⟩
  | none =>
    have hE : He p = none := by
      cases ew : w p with
      | none =>
        rcases R.wd.ex.none_ p ew with g | ⟨q, g⟩
        · exact g
        · have := R.wd.sh _ _ g; rw [h] at this; cases this
      | some c =>
        obtain ⟨o, g1, _, rc⟩ := R.wd.at ew
        rw [h] at g1
        cases g1
        cases rc
    refine ⟨upd F p (.tup vs), R.step (R.wd.freeze h e hE) ⟨same_upd e, fun b hb => ?_, fun _ h => .inl h, fun _ _ h _ => h, fun _ h => h, fun _ _ h => .inr h⟩, same_upd e, .tup upd_same (r.mono (same_upd e))⟩
    by_cases hbp : b = p
    · subst hbp; exact .inr (.inr ⟨vs, h⟩)
    · rw [upd_ne hbp] at hb; exact .inl hb
def keysC : Cell → Option (List D)
  | .fK _ _ kvs => some (kvs.map fun kv => kD kv.1)
  | .fT _ _ kvs => some (kvs.map fun kv => .tup (kv.1.map kD))
  | _ => none
theorem DR.ofKey {K : PySem.W.Frag} {F : Hp} (k : Key) : DR K F (kV k) (kD k) := by
  cases k with
  | inl i => exact .int i
  | inr x => exact .str x
theorem DKs.at {K : PySem.W.Frag} {F : Hp} : ∀ {vs : List (Key × V)} {ds : List (Key × D)} {i : Nat} {kv : Key × V}, DKs K F vs ds → vs[i]? = some kv → ∃ d, ds[i]? = some (kv.1, d) ∧ DR K F kv.2 d
  | _, _, _, _, .nil, e => by simp at e
  | _, _, 0, _, .cons (d := d) h _, e => by simp at e; subst e; exact ⟨d, by simp, h⟩
  | _, _, i + 1, kv, .cons _ hs, e => by
    obtain ⟨u, h1, h2⟩ := DKs.at (i := i) (kv := kv) hs (by simpa using e)
    exact ⟨u, by simpa using h1, h2⟩
theorem DTs.at {K : PySem.W.Frag} {F : Hp} : ∀ {vs : List (List Key × V)} {ds : List (List Key × D)} {i : Nat} {kv : List Key × V}, DTs K F vs ds → vs[i]? = some kv → ∃ d, ds[i]? = some (kv.1, d) ∧ DR K F kv.2 d
  | _, _, _, _, .nil, e => by simp at e
  | _, _, 0, _, .cons (d := d) h _, e => by simp at e; subst e; exact ⟨d, by simp, h⟩
  | _, _, i + 1, kv, .cons _ hs, e => by
    obtain ⟨u, h1, h2⟩ := DTs.at (i := i) (kv := kv) hs (by simpa using e)
    exact ⟨u, by simpa using h1, h2⟩
/-- for k in d, d walked -/
def dForKeys (to : DO) (g : DG) (t : DS) : DS := fun E δ w => to δ w fun d w1 => ∃ a c ks, d = .ref a ∧ w1 a = some c ∧ keysC c = some ks ∧ dForGoN a c g t E ks δ w1
theorem js_forKeys {tg iter : Expr} {body : List Stmt} {to : DO} {G : TG} {g : DG} {t : DS} (hp : PassesOwn (model X.prog X.w) X.A X.env X.xe) (hc : X.calm = true) (hi : JO X z iter to) (hg : PG X tg G) (ok : GOk z G g) (hb : JSs X z body t)
    (hs : ∀ x, foldedSetIterable iter X.env x = pure x := by intro _; rfl) : JS X z (.For tg iter body [] pos) (dForKeys to g t) :=
  PS.imp (ps_for hp hc (pi_keys hi) hg hb hs) fun Dn σ H ⟨δ, w, F, He, E, R, q, cn⟩ => by
    refine ⟨δ, w, F, He, _, R, q, fun d w1 q1 v H1 F1 He1 wd1 st1 r1 => ?_⟩
    obtain ⟨a, c, ks, rfl, hw, hks, q1⟩ := q1
    obtain ⟨ob, h1, h2, rv⟩ := wd1.at hw
    have hv := r1.dt.refV
    subst hv
    cases rv with
    | fK rl =>
      rename_i ob vs kvs
      cases hks
      refine ⟨a, ob, rfl, .inl ⟨vs, h1, ?_⟩⟩
      have hlen := rl.length
      refine ⟨fun i m σ H => m = vs.length - i ∧ i ≤ vs.length ∧ ∃ δ w F He, Same F1 F ∧ Rel z δ w F He σ H ∧ w a = some (.fK ob vs kvs) ∧ dForGoN a (.fK ob vs kvs) g t E ((List.map (fun kv : Key × D => kD kv.1) kvs).drop i) δ w, ⟨vs.length, by simp, Nat.zero_le _, δ, w1, F1, He1, Same.refl _, R.step wd1 st1, hw, q1⟩, ?_⟩
      rintro i m σ H ⟨rfl, hle, δ, w, F, He, sF, R, hw, q⟩
      obtain ⟨ob', g1, g2, rv⟩ := R.wd.at hw
      cases rv with
      | fK rl =>
        by_cases hlt : i < vs.length
        · refine .inr ⟨⟨g1, hlt⟩, fun σ' H' => ∃ δ w F He, Same F1 F ∧ Rel z δ w F He σ' H' ∧ w a = some (.fK ob vs kvs) ∧ dForGoN a (.fK ob vs kvs) g t E ((List.map (fun kv : Key × D => kD kv.1) kvs).drop (i + 1)) δ w, fun σ' H' h => ⟨vs.length - (i + 1), by omega, rfl, hlt, h⟩, fun x H' y => ?_⟩
          obtain ⟨rfl, k, v, hk, rfl⟩ := y
          obtain ⟨d, hd, rd⟩ := rl.at hk
          have hi : i < (List.map (fun kv : Key × D => kD kv.1) kvs).length := by simp; omega
          rw [List.drop_eq_getElem_cons hi] at q
          have e1 : (List.map (fun kv : Key × D => kD kv.1) kvs)[i] = kD k := by
            have := (List.getElem?_eq_some_iff.mp hd).2
            simp [this]
          rw [e1] at q
          refine ok δ w F He _ σ (kV k) _ _ _ R (.ofKey k) q fun δ2 σ2 q2 R2 => ?_
          have s1 := st1.fz.trans sF
          exact ⟨δ2, w, F, He, _, R2, q2, ⟨fun δ3 w3 F3 He3 σ3 H3 p r s3 => ⟨δ3, w3, F3, He3, sF.trans s3, r, p.1, p.2⟩, cn.rt, fun δ3 w3 F3 He3 σ3 H3 p r s3 => cn.nx _ _ _ _ _ _ p r (s1.trans s3), fun δ3 w3 F3 He3 σ3 H3 p r s3 => ⟨δ3, w3, F3, He3, sF.trans s3, r, p.1, p.2⟩⟩⟩
        · have e : i = vs.length := by omega
          subst e
          rw [List.drop_of_length_le (by simp; omega)] at q
          exact .inl ⟨⟨g1, Nat.le_refl _⟩, cn.nx _ _ _ _ _ _ q R (st1.fz.trans sF)⟩
    | fT rl =>
      rename_i ob vs kvs
      cases hks
      refine ⟨a, ob, rfl, .inr ⟨vs, h1, ?_⟩⟩
      have hlen := rl.length
      refine ⟨fun i m σ H => m = vs.length - i ∧ i ≤ vs.length ∧ ∃ δ w F He, Same F1 F ∧ Rel z δ w F He σ H ∧ w a = some (.fT ob vs kvs) ∧ dForGoN a (.fT ob vs kvs) g t E ((List.map (fun kv : List Key × D => D.tup (kv.1.map kD)) kvs).drop i) δ w, ⟨vs.length, by simp, Nat.zero_le _, δ, w1, F1, He1, Same.refl _, R.step wd1 st1, hw, q1⟩, ?_⟩
      rintro i m σ H ⟨rfl, hle, δ, w, F, He, sF, R, hw, q⟩
      obtain ⟨ob', g1, g2, rv⟩ := R.wd.at hw
      cases rv with
      | fT rl =>
        by_cases hlt : i < vs.length
        · refine .inr ⟨⟨g1, hlt⟩, fun σ' H' => ∃ δ w F He, Same F1 F ∧ Rel z δ w F He σ' H' ∧ w a = some (.fT ob vs kvs) ∧ dForGoN a (.fT ob vs kvs) g t E ((List.map (fun kv : List Key × D => D.tup (kv.1.map kD)) kvs).drop (i + 1)) δ w, fun σ' H' h => ⟨vs.length - (i + 1), by omega, rfl, hlt, h⟩, fun x H' y => ?_⟩
          obtain ⟨rfl, k, v, p, hk, rfl, hp⟩ := y
          obtain ⟨d, hd, rd⟩ := rl.at hk
          have hi : i < (List.map (fun kv : List Key × D => D.tup (kv.1.map kD)) kvs).length := by simp; omega
          rw [List.drop_eq_getElem_cons hi] at q
          have e1 : (List.map (fun kv : List Key × D => D.tup (kv.1.map kD)) kvs)[i] = .tup (k.map kD) := by
            have := (List.getElem?_eq_some_iff.mp hd).2
            simp [this]
          rw [e1] at q
          obtain ⟨F2, R2, s2, rp⟩ := R.tupF hp (DRs.ofKeys k)
          refine ok δ w F2 He _ σ (.ref p) _ _ _ R2 rp q fun δ2 σ2 q2 R3 => ?_
          have sF2 := sF.trans s2
          have s1 := st1.fz.trans sF2
          exact ⟨δ2, w, F2, He, _, R3, q2, ⟨fun δ3 w3 F3 He3 σ3 H3 p r s3 => ⟨δ3, w3, F3, He3, sF2.trans s3, r, p.1, p.2⟩, cn.rt, fun δ3 w3 F3 He3 σ3 H3 p r s3 => cn.nx _ _ _ _ _ _ p r (s1.trans s3), fun δ3 w3 F3 He3 σ3 H3 p r s3 => ⟨δ3, w3, F3, He3, sF2.trans s3, r, p.1, p.2⟩⟩⟩
        · have e : i = vs.length := by omega
          subst e
          rw [List.drop_of_length_le (by simp; omega)] at q
          exact .inl ⟨⟨g1, Nat.le_refl _⟩, cn.nx _ _ _ _ _ _ q R (st1.fz.trans sF)⟩
    | _ => cases hks
def itemsC : Cell → Option (List D)
  | .fK _ _ kvs => some (kvs.map fun kv => .tup [kD kv.1, kv.2])
  | _ => none
/-- for k, v in d.items(), d walked -/
def dForItems (to : DO) (g : DG) (t : DS) : DS := fun E δ w => to δ w fun d w1 => ∃ a c ks, d = .ref a ∧ w1 a = some c ∧ itemsC c = some ks ∧ dForGoN a c g t E ks δ w1
theorem js_forItems {e : Expr} {elts : List Expr} {kk : Nat} {tpos apos cpos : Pos} {body : List Stmt} {to : DO} {G : TG} {g : DG} {t : DS} (hp : PassesOwn (model X.prog X.w) X.A X.env X.xe) (hc : X.calm = true) (hi : JO X z e to) (hg : PG X (.Tuple elts kk tpos) G) (ok : GOk z G g) (hb : JSs X z body t)
    (hbase : attributeBase e "items" X.env (eval e X.env) = eval e X.env := by rfl) (hline : (apos.endLine == cpos.line) = true := by rfl)
    (hs : ∀ x, foldedSetIterable (.Call (.Attribute e "items" apos) [] [] cpos) X.env x = pure x := by intro _; rfl) : JS X z (.For (.Tuple elts kk tpos) (.Call (.Attribute e "items" apos) [] [] cpos) body [] pos) (dForItems to g t) :=
  PS.imp (ps_for hp hc (pi_items hi hbase hline) hg hb hs) fun Dn σ H ⟨δ, w, F, He, E, R, q, cn⟩ => by
    refine ⟨δ, w, F, He, _, R, q, fun d w1 q1 v H1 F1 He1 wd1 st1 r1 => ?_⟩
    obtain ⟨a, c, ks, rfl, hw, hks, q1⟩ := q1
    obtain ⟨ob, h1, h2, rv⟩ := wd1.at hw
    have hv := r1.dt.refV
    subst hv
    cases rv with
    | fK rl =>
      rename_i ob vs kvs
      cases hks
      refine ⟨a, ob, vs, rfl, h1, ?_⟩
      have hlen := rl.length
      refine ⟨fun i m σ H => m = vs.length - i ∧ i ≤ vs.length ∧ ∃ δ w F He, Same F1 F ∧ Rel z δ w F He σ H ∧ w a = some (.fK ob vs kvs) ∧ dForGoN a (.fK ob vs kvs) g t E ((List.map (fun kv : Key × D => D.tup [kD kv.1, kv.2]) kvs).drop i) δ w, ⟨vs.length, by simp, Nat.zero_le _, δ, w1, F1, He1, Same.refl _, R.step wd1 st1, hw, q1⟩, ?_⟩
      rintro i m σ H ⟨rfl, hle, δ, w, F, He, sF, R, hw, q⟩
      obtain ⟨ob', g1, g2, rv⟩ := R.wd.at hw
      cases rv with
      | fK rl =>
        by_cases hlt : i < vs.length
        · refine .inr ⟨⟨g1, hlt⟩, fun σ' H' => ∃ δ w F He, Same F1 F ∧ Rel z δ w F He σ' H' ∧ w a = some (.fK ob vs kvs) ∧ dForGoN a (.fK ob vs kvs) g t E ((List.map (fun kv : Key × D => D.tup [kD kv.1, kv.2]) kvs).drop (i + 1)) δ w, fun σ' H' h => ⟨vs.length - (i + 1), by omega, rfl, hlt, h⟩, fun x H' y => ?_⟩
          obtain ⟨T, k, v, hk, rfl, hT, rfl⟩ := y
          obtain ⟨d, hd, rd⟩ := rl.at hk
          have hi : i < (List.map (fun kv : Key × D => D.tup [kD kv.1, kv.2]) kvs).length := by simp; omega
          rw [List.drop_eq_getElem_cons hi] at q
          have e1 : (List.map (fun kv : Key × D => D.tup [kD kv.1, kv.2]) kvs)[i] = .tup [kD k, d] := by
            have := (List.getElem?_eq_some_iff.mp hd).2
            simp [this]
          rw [e1] at q
          have hF : F T = none := R.wd.fnone hT
          have hHe : He T = none := R.wd.henone hT
          have R2 : Rel z δ w (upd F T (.tup [kV k, v])) He σ (upd H T (.tup [kV k, v])) := R.step ((R.wd.alloc hT).freeze upd_same hF hHe) ((Step.alloc hT).freeze hF hT)
          refine ok δ w _ He _ σ (.ref T) _ _ _ R2 (.tup upd_same (.cons (.ofKey k) (.cons (rd.mono (same_upd hF)) .nil))) q fun δ2 σ2 q2 R3 => ?_
          have sF2 := sF.trans (same_upd (o := .tup [kV k, v]) hF)
          have s1 := st1.fz.trans sF2
          exact ⟨δ2, w, _, He, _, R3, q2, ⟨fun δ3 w3 F3 He3 σ3 H3 p r s3 => ⟨δ3, w3, F3, He3, sF2.trans s3, r, p.1, p.2⟩, cn.rt, fun δ3 w3 F3 He3 σ3 H3 p r s3 => cn.nx _ _ _ _ _ _ p r (s1.trans s3), fun δ3 w3 F3 He3 σ3 H3 p r s3 => ⟨δ3, w3, F3, He3, sF2.trans s3, r, p.1, p.2⟩⟩⟩
        · have e : i = vs.length := by omega
          subst e
          rw [List.drop_of_length_le (by simp; omega)] at q
          exact .inl ⟨⟨g1, Nat.le_refl _⟩, cn.nx _ _ _ _ _ _ q R (st1.fz.trans sF)⟩
    | _ => cases hks
end
/-! ### all that a def has made for itself is forgotten at its end -/
def back (w0 w : Om) : Om := fun a => match w0 a with
  | some _ => w a
  | none => none
theorem back_same {w0 w : Om} (h : ∀ a c, w0 a = some c → w a = some c) : back w0 w = w0 := by
  funext a
  unfold back
  cases e : w0 a with
  | none => rfl
  | some c => exact h a c e
theorem Wd.back {K : PySem.W.Frag} {w0 w : Om} {F He H : Hp} (x : Wd K w F He H) : ∃ He', Wd K (back w0 w) F He' H ∧ ∀ b, He' b ≠ none → He b ≠ none := by
  have e1 : ∀ b, (w b).isSome = true → (w0 b).isSome = false → (if ((w b).isSome && !(w0 b).isSome) = true then none else He b) = none := fun b h1 h2 => by simp [h1, h2]
  refine ⟨fun b => if ((w b).isSome && !(w0 b).isSome) = true then none else He b, ⟨x.sf, fun b u e => ?_, fun b u e => ?_, ⟨fun a c e => ?_, fun a e => ?_⟩⟩, fun b e => ?_⟩
  · split at e
    · cases e
    · exact x.sh b u e
  · split at e
    · cases e
    · exact x.dj b u e
  · unfold Lv.back at e
    split at e
    · next c0 h0 =>
      obtain ⟨o, h1, h2⟩ := x.ex.some_ a c e
      refine ⟨o, by simp [h0, h1], h2.other fun dx p h => ?_⟩
      have : w dx = none := by
        cases ew : w dx with
        | none => rfl
        | some c2 =>
          obtain ⟨o2, g1, g2⟩ := x.ex.some_ dx c2 ew
          rw [h] at g1
          cases g1
          cases g2
      simp [this, h]
    · cases e
  · split
    · exact .inl rfl
    · next hn =>
      have : w a = none := by
        cases ew : w a with
        | none => rfl
        | some c =>
          unfold Lv.back at e
          cases e0 : w0 a with
          | none => simp [ew, e0] at hn
          | some c0 => rw [e0] at e; rw [ew] at e; cases e
      exact x.ex.none_ a this
  · have e : (if ((w b).isSome && !(w0 b).isSome) = true then none else He b) ≠ none := e
    split at e
    · exact absurd rfl e
    · exact e
theorem Res.sub {K : PySem.W.Frag} {F He He' Hb H : Hp} {b : Bool} {v : V} {d : D} (r : Res K F He Hb H b v d) (h : ∀ b, He' b ≠ none → He b ≠ none) : Res K F He' Hb H b v d := by
  cases b with
  | false => exact r
  | true =>
    obtain ⟨a, o, e, ho, n, m, f, q⟩ := r
    exact ⟨a, o, e, ho, n, Classical.byContradiction fun z => h a z m, f, q⟩
theorem Step.sub {F He H F' He' He2 H' : Hp} (s : Step F He H F' He' H') (h : ∀ b, He2 b ≠ none → He' b ≠ none) : Step F He H F' He2 H' := ⟨s.fz, s.fzN, fun b e => s.heN b (h b e), s.keep, s.dom, s.tp⟩
def dBack (w0 : Om) (t : DS) : DS := fun E δ w => t { E with nx := fun δ w => E.nx δ (back w0 w), rt := fun b d w => E.rt b d (back w0 w) } δ w
theorem jss_back {X : Cx} {z : Ent} {st : List Stmt} {t : DS} (h : JSs X z st t) : JSs X z st (dBack z.w0 t) := PSs.imp h fun Dn σ H ⟨δ, w, F, He, E, R, q, cn⟩ => by
  refine ⟨δ, w, F, He, _, R, q, ⟨fun δ' w' F' He' σ' H' p R' s => ?_, fun b d w' p v H' F' He' wd st r => ?_, cn.bk, cn.ct⟩⟩
  · obtain ⟨He2, wd2, sub⟩ := R'.wd.back (w0 := z.w0)
    refine cn.nx _ _ _ _ _ _ p ⟨wd2, R'.st.sub sub, R'.len, fun i sl e => ?_, R'.inj⟩ s
    obtain ⟨u, hu, q'⟩ := R'.sl i sl e
    refine ⟨u, hu, ?_⟩
    match sl, q' with
    | none, _ => exact True.intro
    | some (false, d), q' => exact q'
    | some (true, d), ⟨c, o, ec, hc, nc, mc, fc, rc⟩ => exact ⟨c, o, ec, hc, nc, Classical.byContradiction fun z => sub c z mc, fc, rc⟩
  · obtain ⟨He2, wd2, sub⟩ := wd.back (w0 := z.w0)
    exact cn.rt _ _ _ p v _ F' He2 wd2 (st.sub sub) (r.sub sub)
end Lv

namespace Lv
open PySem PySem.Spec L2
section
variable {w : Om}
theorem rs_ref (a : Addr) : res w (.ref a) = resC (.ref a) (w a) := rfl
theorem rs_non : res w .non = .non := rfl
theorem rs_bl (b : Bool) : res w (.bl b) = .bl b := rfl
theorem rs_int (i : Int) : res w (.int i) = .int i := rfl
theorem rs_str (x : Str) : res w (.str x) = .str x := rfl
theorem rs_ty (n : String) : res w (.ty n) = .ty n := rfl
theorem rs_lst (ds : List D) : res w (.lst ds) = .lst ds := rfl
theorem rs_tup (ds : List D) : res w (.tup ds) = .tup ds := rfl
theorem rs_dK (kvs : List (Key × D)) : res w (.dK kvs) = .dK kvs := rfl
theorem rs_dT (kvs : List (List Key × D)) : res w (.dT kvs) = .dT kvs := rfl
theorem rs_scr (ns : List Int) : res w (.scr ns) = .scr ns := rfl
theorem rs_wD (ws : List Int) : res w (wD ws) = wD ws := rfl
theorem rs_iD (ws : List Int) : res w (iD ws) = iD ws := rfl
theorem rs_lwD (ws : List (List Int)) : res w (lwD ws) = lwD ws := rfl
theorem resC_lst (d : D) (ds : List D) : resC d (some (.lst ds)) = .lst ds := rfl
theorem resC_dK (d : D) (ds : List (Key × D)) : resC d (some (.dK ds)) = .dK ds := rfl
theorem resC_dT (d : D) (ds : List (List Key × D)) : resC d (some (.dT ds)) = .dT ds := rfl
theorem resC_fK (d : D) (ob : Obj) (vs : List (Key × V)) (ds : List (Key × D)) : resC d (some (.fK ob vs ds)) = .fK ds := rfl
theorem resC_fT (d : D) (ob : Obj) (vs : List (List Key × V)) (ds : List (List Key × D)) : resC d (some (.fT ob vs ds)) = .fT ds := rfl
theorem resC_ins (d : D) (cn : Str) (fs : List (Str × D)) : resC d (some (.ins cn fs)) = d := rfl
theorem kNm_t (Q : D → Om → Prop) (b : Bool) (d : D) : kNm true Q w b d = nmK Q w b d := rfl
theorem kNm_f (Q : D → Om → Prop) (b : Bool) (d : D) : kNm false Q w b d = Q d w := rfl
theorem nmK_f (Q : D → Om → Prop) (d : D) : nmK Q w false d = Q d w := rfl
theorem nmK_lst (Q : D → Om → Prop) (ds : List D) : nmK Q w true (.lst ds) = ∀ c, w c = none → Q (.ref c) (updW w c (.lst ds)) := rfl
theorem nmK_dK (Q : D → Om → Prop) (ds : List (Key × D)) : nmK Q w true (.dK ds) = ∀ c, w c = none → Q (.ref c) (updW w c (.dK ds)) := rfl
theorem nmK_dT (Q : D → Om → Prop) (ds : List (List Key × D)) : nmK Q w true (.dT ds) = ∀ c, w c = none → Q (.ref c) (updW w c (.dT ds)) := rfl
theorem isDct_dK (kvs : List (Key × D)) : isDct (.dK kvs) = True := rfl
theorem isDct_dT (kvs : List (List Key × D)) : isDct (.dT kvs) = True := rfl
theorem isDct_fK (kvs : List (Key × D)) : isDct (.fK kvs) = True := rfl
theorem isDct_fT (kvs : List (List Key × D)) : isDct (.fT kvs) = True := rfl
theorem sGetO_K (kvs : List (Key × D)) (i : Int) (P : Option D → Prop) : sGetO (.dK kvs) (.int i) P = P (valD kvs (.inl i)) := rfl
theorem sGetO_S (kvs : List (Key × D)) (i : Str) (P : Option D → Prop) : sGetO (.dK kvs) (.str i) P = P (valD kvs (.inr i)) := rfl
theorem sGetO_T (kvs : List (List Key × D)) (ds : List D) (P : Option D → Prop) : sGetO (.dT kvs) (.tup ds) P = ∃ ks, ds = ks.map kD ∧ P (valD kvs ks) := rfl
theorem sGetO_fK (kvs : List (Key × D)) (i : Int) (P : Option D → Prop) : sGetO (.fK kvs) (.int i) P = P (valD kvs (.inl i)) := rfl
theorem sGetO_fT (kvs : List (List Key × D)) (ds : List D) (P : Option D → Prop) : sGetO (.fT kvs) (.tup ds) P = ∃ ks, ds = ks.map kD ∧ P (valD kvs ks) := rfl
theorem sIn_K (neg : Bool) (kvs : List (Key × D)) (i : Int) (P : Bool → D → Prop) : sIn neg (.int i) (.dK kvs) P = P false (.bl (if neg then !(valD kvs (.inl i)).isSome else (valD kvs (.inl i)).isSome)) := rfl
theorem sIn_fK (neg : Bool) (kvs : List (Key × D)) (i : Int) (P : Bool → D → Prop) : sIn neg (.int i) (.fK kvs) P = P false (.bl (if neg then !(valD kvs (.inl i)).isSome else (valD kvs (.inl i)).isSome)) := rfl
theorem sIn_T (neg : Bool) (kvs : List (List Key × D)) (ds : List D) (P : Bool → D → Prop) : sIn neg (.tup ds) (.dT kvs) P = ∃ ks, ds = ks.map kD ∧ P false (.bl (if neg then !(valD kvs ks).isSome else (valD kvs ks).isSome)) := rfl
theorem sIn_fT (neg : Bool) (kvs : List (List Key × D)) (ds : List D) (P : Bool → D → Prop) : sIn neg (.tup ds) (.fT kvs) P = ∃ ks, ds = ks.map kD ∧ P false (.bl (if neg then !(valD kvs ks).isSome else (valD kvs ks).isSome)) := rfl
theorem sPutC_lst (P : Cell → Prop) (x : D) (ds : List D) (j : Int) : sPutC P (.int j) x (some (.lst ds)) = ∃ n, ixN ds.length j = some n ∧ P (.lst (ds.set n x)) := rfl
theorem sPutC_K (P : Cell → Prop) (x : D) (kvs : List (Key × D)) (j : Int) : sPutC P (.int j) x (some (.dK kvs)) = (kvs.length < sizeLine ∧ P (.dK (putD kvs (.inl j) x))) := rfl
theorem sPutC_S (P : Cell → Prop) (x : D) (kvs : List (Key × D)) (j : Str) : sPutC P (.str j) x (some (.dK kvs)) = (kvs.length < sizeLine ∧ P (.dK (putD kvs (.inr j) x))) := rfl
theorem sPutC_T (P : Cell → Prop) (x : D) (kvs : List (List Key × D)) (ds : List D) : sPutC P (.tup ds) x (some (.dT kvs)) = ∃ js, ds = js.map kD ∧ kvs.length < sizeLine ∧ P (.dT (putD kvs js x)) := rfl
theorem keyOf_int (i : Int) : keyOf (.int i) = some (.inl i) := rfl
theorem keyOf_str (i : Str) : keyOf (.str i) = some (.inr i) := rfl
end
/-! ### pairs of numbers as keys -/
def pk (a b : Int) : List Key := [.inl a, .inl b]
theorem pk_keys (a b : Int) : ∃ ks : List Key, [D.int a, D.int b] = ks.map kD ∧ ks = pk a b := ⟨pk a b, rfl, rfl⟩
theorem pk_use {a b : Int} {R : List Key → Prop} (h : R (pk a b)) : ∃ ks, [D.int a, D.int b] = ks.map kD ∧ R ks := ⟨pk a b, rfl, h⟩
def tk3 (a b c : Int) : List Key := [.inl a, .inl b, .inl c]
theorem tk3_use {a b c : Int} {R : List Key → Prop} (h : R (tk3 a b c)) : ∃ ks, [D.int a, D.int b, D.int c] = ks.map kD ∧ R ks := ⟨tk3 a b c, rfl, h⟩
theorem pk_inj {a b c d : Int} : pk a b = pk c d ↔ a = c ∧ b = d := by
  unfold pk
  simp
theorem ixN_nat {n i : Nat} (h : i < n) : ixN n (i : Int) = some i := by
  unfold ixN
  rw [if_pos (by omega), if_pos (by omega), Int.toNat_natCast]
/-! ### dicts as data -/
section
variable {κ : Type} [DecidableEq κ]
theorem valD_nil (j : κ) : valD ([] : List (κ × D)) j = none := rfl
theorem valD_cons (i : κ) (y : D) (kvs : List (κ × D)) (j : κ) : valD ((i, y) :: kvs) j = if i = j then some y else valD kvs j := by
  unfold valD
  rw [List.find?_cons]
  by_cases e : i = j
  · simp [e]
  · simp [e]
theorem valD_app (kvs ms : List (κ × D)) (j : κ) : valD (kvs ++ ms) j = (valD kvs j).or (valD ms j) := by
  induction kvs with
  | nil => rfl
  | cons kv kvs ih =>
    obtain ⟨i, y⟩ := kv
    rw [List.cons_append, valD_cons, valD_cons, ih]
    split <;> rfl
theorem valD_repl (kvs : List (κ × D)) (k j : κ) (x : D) : valD (kvs.map fun kv => if kv.1 = k then (kv.1, x) else kv) j = if j = k then (valD kvs k).map (fun _ => x) else valD kvs j := by
  induction kvs with
  | nil => rw [List.map_nil, valD_nil, valD_nil]; split <;> rfl
  | cons kv kvs ih =>
    obtain ⟨i, y⟩ := kv
    rw [List.map_cons]
    by_cases e : i = k
    · subst e
      rw [if_pos rfl, valD_cons, ih, valD_cons, valD_cons, if_pos rfl]
      by_cases e2 : i = j
      · subst e2; simp
      · rw [if_neg e2, if_neg (fun z => e2 z.symm), if_neg (fun z => e2 z.symm), if_neg e2]
    · rw [if_neg e, valD_cons, ih, valD_cons, valD_cons, if_neg e]
      by_cases e2 : i = j
      · subst e2; rw [if_pos rfl, if_neg e]; simp
      · rw [if_neg e2, if_neg e2]
theorem valD_any (kvs : List (κ × D)) (k : κ) : (kvs.any fun kv => decide (kv.1 = k)) = (valD kvs k).isSome := by
  induction kvs with
  | nil => rfl
  | cons kv kvs ih =>
    obtain ⟨i, y⟩ := kv
    rw [List.any_cons, ih, valD_cons]
    by_cases e : i = k <;> simp [e]
theorem valD_put (kvs : List (κ × D)) (k j : κ) (x : D) : valD (putD kvs k x) j = if j = k then some x else valD kvs j := by
  unfold putD
  rw [valD_any]
  split
  · next h =>
    rw [valD_repl]
    split
    · obtain ⟨y, hy⟩ := Option.isSome_iff_exists.mp h
      rw [hy]; rfl
    · rfl
  · next h =>
    rw [valD_app, valD_cons, valD_nil]
    have hn : valD kvs k = none := by simpa using h
    by_cases e : j = k
    · subst e; rw [hn]; simp
    · rw [if_neg (fun z => e z.symm), if_neg e]; simp
theorem valD_drop (kvs : List (κ × D)) (k j : κ) : valD (dropD kvs k) j = if j = k then none else valD kvs j := by
  unfold dropD
  induction kvs with
  | nil => rw [List.filter_nil, valD_nil]; split <;> rfl
  | cons kv kvs ih =>
    obtain ⟨i, y⟩ := kv
    rw [List.filter_cons]
    by_cases e : i = k
    · subst e
      simp only [ne_eq, not_true, decide_false, Bool.false_eq_true, if_false]
      rw [ih, valD_cons]
      by_cases e2 : j = i
      · subst e2; simp
      · rw [if_neg e2, if_neg e2, if_neg (fun z => e2 z.symm)]
    · simp only [ne_eq, e, not_false_eq_true, decide_true, if_true]
      rw [valD_cons, ih, valD_cons]
      by_cases e2 : i = j
      · subst e2; rw [if_pos rfl, if_pos rfl, if_neg e]
      · rw [if_neg e2, if_neg e2]
theorem valD_mem {kvs : List (κ × D)} {k : κ} {x : D} (h : valD kvs k = some x) : (k, x) ∈ kvs := by
  induction kvs with
  | nil => cases h
  | cons kv kvs ih =>
    obtain ⟨i, y⟩ := kv
    rw [valD_cons] at h
    split at h
    · next e => cases h; subst e; exact List.mem_cons_self
    · exact List.mem_cons_of_mem _ (ih h)
theorem valD_of_mem {kvs : List (κ × D)} {k : κ} {x : D} (nd : (kvs.map (·.1)).Nodup) (h : (k, x) ∈ kvs) : valD kvs k = some x := by
  induction kvs with
  | nil => cases h
  | cons kv kvs ih =>
    obtain ⟨i, y⟩ := kv
    rw [List.map_cons, List.nodup_cons] at nd
    rw [valD_cons]
    rcases List.mem_cons.mp h with e | e
    · cases e; simp
    · rw [if_neg (fun z => nd.1 (by subst z; exact List.mem_map.mpr ⟨_, e, rfl⟩))]
      exact ih nd.2 e
theorem valD_none {kvs : List (κ × D)} {k : κ} : valD kvs k = none ↔ k ∉ kvs.map (·.1) := by
  induction kvs with
  | nil => simp [valD_nil]
  | cons kv kvs ih =>
    obtain ⟨i, y⟩ := kv
    rw [valD_cons, List.map_cons, List.mem_cons]
    by_cases e : i = k
    · subst e; simp
    · have e2 : ¬ k = i := fun z => e z.symm
      rw [if_neg e, ih]
      simp [e2]
theorem keys_put (kvs : List (κ × D)) (k : κ) (x : D) : (putD kvs k x).map (·.1) = if k ∈ kvs.map (·.1) then kvs.map (·.1) else kvs.map (·.1) ++ [k] := by
  unfold putD
  rw [valD_any]
  by_cases h : k ∈ kvs.map (·.1)
  · have : (valD kvs k).isSome = true := by
      cases e : valD kvs k with
      | none => exact absurd h (valD_none.mp e)
      | some y => rfl
    rw [if_pos this, if_pos h, List.map_map]
    congr 1
    funext kv
    show (if kv.1 = k then (kv.1, x) else kv).1 = kv.1
    split <;> rfl
  · have : ¬ (valD kvs k).isSome = true := by rw [valD_none.mpr h]; simp
    rw [if_neg this, if_neg h]
    simp
theorem nodup_put {kvs : List (κ × D)} (h : (kvs.map (·.1)).Nodup) (k : κ) (x : D) : ((putD kvs k x).map (·.1)).Nodup := by
  rw [keys_put]
  split
  · exact h
  · next hn =>
    rw [List.nodup_append]
    refine ⟨h, by simp, fun a ha b hb => ?_⟩
    simp at hb
    subst hb
    exact fun e => hn (e ▸ ha)
theorem nodup_drop {kvs : List (κ × D)} (h : (kvs.map (·.1)).Nodup) (k : κ) : ((dropD kvs k).map (·.1)).Nodup := by
  unfold dropD
  exact h.sublist ((List.filter_sublist).map _)
theorem len_put (kvs : List (κ × D)) (k : κ) (x : D) : (putD kvs k x).length ≤ kvs.length + 1 := by
  unfold putD
  split <;> simp
end
end Lv

namespace Lv
open PySem PySem.Spec L2
theorem forN_inv {α : Type} {a : Addr} {c : Cell} {g : DG} {t : DS} {E : DEnds} (f : α → D) (I : List α → DSt → Om → Prop) (xs : List α)
    (hs : ∀ pre x post δ w (N C : DSt → Om → Prop), xs = pre ++ x :: post → I pre δ w → (∀ δ' w', w' a = some c → I (pre ++ [x]) δ' w' → N δ' w') → (∀ δ' w', w' a = some c → I (pre ++ [x]) δ' w' → C δ' w') → g (f x) δ fun δ1 => t ⟨N, E.rt, E.nx, C⟩ δ1 w)
    (hd : ∀ δ w, I xs δ w → E.nx δ w) : ∀ (post pre : List α), xs = pre ++ post → ∀ δ w, I pre δ w → dForGoN a c g t E (post.map f) δ w
  | [], pre, e, δ, w, h => by
    rw [List.append_nil] at e
    subst e
    exact hd δ w h
  | x :: post, pre, e, δ, w, h => by
    have e2 : xs = (pre ++ [x]) ++ post := by rw [e]; simp
    have ih := forN_inv f I xs hs hd post (pre ++ [x]) e2
    exact hs pre x post δ w _ _ e h (fun δ' w' hc h => ⟨hc, ih δ' w' h⟩) (fun δ' w' hc h => ⟨hc, ih δ' w' h⟩)
/-- a for over a named list, a walked dict -/
theorem forN_go {α : Type} {a : Addr} {c : Cell} {g : DG} {t : DS} {E : DEnds} (f : α → D) (I : List α → DSt → Om → Prop) (xs : List α) {δ : DSt} {w : Om} (h0 : I [] δ w)
    (hs : ∀ pre x post δ w (N C : DSt → Om → Prop), xs = pre ++ x :: post → I pre δ w → (∀ δ' w', w' a = some c → I (pre ++ [x]) δ' w' → N δ' w') → (∀ δ' w', w' a = some c → I (pre ++ [x]) δ' w' → C δ' w') → g (f x) δ fun δ1 => t ⟨N, E.rt, E.nx, C⟩ δ1 w)
    (hd : ∀ δ w, I xs δ w → E.nx δ w) : dForGoN a c g t E (xs.map f) δ w := forN_inv f I xs hs hd xs [] rfl δ w h0
theorem rng_nat (n : Nat) : rngD 0 n = (List.range n).map fun k : Nat => D.int k := by
  unfold rngD
  congr 1
  funext k
  rw [Int.zero_add]
theorem rng_nat' (n : Nat) : rngD 0 ((n : Int) - 0).toNat = (List.range n).map fun k : Nat => D.int k := by
  rw [← rng_nat, Int.sub_zero, Int.toNat_natCast]
theorem updW_new {w : Om} {a b : Addr} {c d : Cell} (h : w a = some c) (hn : w b = none) : updW w b d a = some c := by
  rw [updW_ne (fun z => by subst z; rw [h] at hn; cases hn)]; exact h
theorem updW_some {w : Om} {a b : Addr} {d : Cell} (h : w a ≠ none) : updW w b d a ≠ none := by
  unfold updW
  split
  · exact fun z => nomatch z
  · exact h
theorem none_upd {w : Om} {a b : Addr} {d : Cell} (h : updW w b d a = none) : w a = none ∧ a ≠ b := by
  have hne : a ≠ b := fun z => by subst z; rw [updW_same] at h; cases h
  rw [updW_ne hne] at h
  exact ⟨h, hne⟩
end Lv

namespace Lv
open PySem PySem.Spec L2
section
variable {X : Cx} {z : Ent} {pos : Pos}
/-- clear() of what an expression has just made -/
def dLClearT (t : DX) : DX := fun δ w Q => t δ w fun b d w1 => nmK (fun d w1 => ∃ a ds, d = .ref a ∧ w1 a = some (.lst ds) ∧ Q false .non (updW w1 a (.lst []))) w1 b d
theorem jx_lclearT {o : Expr} {t : DX} {apos cpos : Pos} (hK : z.K = X.K) (ho : JX X z o t)
    (hbase : attributeBase o "clear" X.env (eval o X.env) = eval o X.env := by rfl) (hline : (apos.endLine == cpos.line) = true := by rfl) : JX X z (.Call (.Attribute o "clear" apos) [] [] cpos) (dLClearT t) :=
  PE.imp (pe_bm0 PySem.F.plainAttrs_list PySem.F.slot_list_clear PySem.F.type_list_clear mt_clear ho hbase hline) fun σ H Q ⟨δ, w, F, He, P, R, q, k⟩ => by
    refine ⟨δ, w, F, He, _, R, q, fun b d w1 q1 x H1 F1 He1 wd1 st1 r1 => ?_⟩
    obtain ⟨y, w3, F2, He2, q3, wd2, st2, r2, s2⟩ := kNm_use (nm := true) (Q := fun d w1 => ∃ a ds, d = .ref a ∧ w1 a = some (.lst ds) ∧ P false .non (updW w1 a (.lst []))) q1 wd1 st1 r1
    obtain ⟨a, ds, rfl, hw, q1⟩ := q3
    obtain ⟨ob, h1, h2, rv⟩ := wd2.at hw
    have hx : x = .ref a := by cases r2; rfl
    subst hx
    cases id rv with
    | lst rl =>
      refine ⟨.inl ⟨rfl, _, .of h1⟩, a, _, rfl, rfl, h1, ?_⟩
      exact k _ _ _ q1 .non _ _ _ (wd2.put hw h2 rv (.lst .nil)) (st2.trans (.put h2 h1)) .non
/-- len, of dicts whose keys are tuples too -/
def sLenA (d : D) (P : Bool → D → Prop) : Prop := match d with
  | .lst ds => P false (.int ds.length)
  | .tup ds => P false (.int ds.length)
  | .scr ds => P false (.int ds.length)
  | .str x => x.length ≤ sizeLine ∧ P false (.int x.length)
  | .dK ds => P false (.int ds.length)
  | .dT ds => P false (.int ds.length)
  | _ => False
def rLenA (K : PySem.W.Frag) : List V → Hp → VK → Prop := fun xs H Q => rLenD K xs H Q ∨ rLenT xs H Q
theorem call_lenB : CallR X (.builtin "len") (rLenA X.K) := call_lenA.or call_len_dT
theorem dts_len {K : PySem.W.Frag} {F : Hp} : ∀ {vs : List (List Key × V)} {ds : List (List Key × D)}, DTs K F vs ds → vs.length = ds.length
  | _, _, .nil => rfl
  | _, _, .cons _ r => congrArg (· + 1) (dts_len r)
theorem sem_lenA : Sem1 z (fun x H Q => rLenA z.K [x] H Q) sLenA := fun w F He H x d P Q wd dx q k => by
  by_cases hd : ∃ ds, d = .dT ds
  · obtain ⟨ds, rfl⟩ := hd
    obtain ⟨a, vs, rfl, ha, ra⟩ := dx.dT wd.sf
    exact .inr ⟨a, vs, rfl, ha, by rw [dts_len ra]; exact res_at wd (.int _) q k⟩
  · refine .inl (sem_len w F He H x d P Q wd dx ?_ k)
    cases d with
    | dT ds => exact absurd ⟨ds, rfl⟩ hd
    | _ => exact q
/-- min and max of a list of numbers -/
def sMin1 (d : D) (P : Bool → D → Prop) : Prop := ∃ ns : List Int, d = .lst (ns.map D.int) ∧ 0 < ns.length ∧ ∀ m, m ∈ ns → (∀ y, y ∈ ns → m ≤ y) → P false (.int m)
def sMax1 (d : D) (P : Bool → D → Prop) : Prop := ∃ ns : List Int, d = .lst (ns.map D.int) ∧ 0 < ns.length ∧ ∀ m, m ∈ ns → (∀ y, y ∈ ns → y ≤ m) → P false (.int m)
theorem sem_min1 : Sem1 z (fun x H Q => rMin z.K [x] H Q) sMin1 := fun w F He H x d P Q wd dx q k => by
  obtain ⟨ns, rfl, hn, q⟩ := q
  obtain ⟨a, vs, rfl, ha, ra⟩ := dx.lst wd.sf
  have e := ra.ints
  subst e
  exact ⟨a, ns, rfl, .of ha, hn, fun m h1 h2 => res_at wd (.int _) (q m h1 h2) k⟩
theorem sem_max1 : Sem1 z (fun x H Q => rMax z.K [x] H Q) sMax1 := fun w F He H x d P Q wd dx q k => by
  obtain ⟨ns, rfl, hn, q⟩ := q
  obtain ⟨a, vs, rfl, ha, ra⟩ := dx.lst wd.sf
  have e := ra.ints
  subst e
  exact ⟨a, ns, rfl, .of ha, hn, fun m h1 h2 => res_at wd (.int _) (q m h1 h2) k⟩
theorem sMin1_two (i j : Int) (P : Bool → D → Prop) (h : P false (.int (if j < i then j else i))) : sMin1 (.lst [.int i, .int j]) P := ⟨[i, j], rfl, by simp, fun m h1 h2 => by
  have e : m = if j < i then j else i := by
    have a := h2 i (by simp)
    have b := h2 j (by simp)
    simp at h1
    split <;> omega
  rw [e]; exact h⟩
theorem sMax1_two (i j : Int) (P : Bool → D → Prop) (h : P false (.int (if j > i then j else i))) : sMax1 (.lst [.int i, .int j]) P := ⟨[i, j], rfl, by simp, fun m h1 h2 => by
  have e : m = if j > i then j else i := by
    have a := h2 i (by simp)
    have b := h2 j (by simp)
    simp at h1
    split <;> omega
  rw [e]; exact h⟩
theorem sLenA_lst (ds : List D) (P : Bool → D → Prop) : sLenA (.lst ds) P = P false (.int ds.length) := rfl
theorem sLenA_tup (ds : List D) (P : Bool → D → Prop) : sLenA (.tup ds) P = P false (.int ds.length) := rfl
theorem sLenA_scr (ds : List Int) (P : Bool → D → Prop) : sLenA (.scr ds) P = P false (.int ds.length) := rfl
theorem sLenA_str (x : Str) (P : Bool → D → Prop) : sLenA (.str x) P = (x.length ≤ sizeLine ∧ P false (.int x.length)) := rfl
theorem sLenA_dK (ds : List (Key × D)) (P : Bool → D → Prop) : sLenA (.dK ds) P = P false (.int ds.length) := rfl
theorem sLenA_dT (ds : List (List Key × D)) (P : Bool → D → Prop) : sLenA (.dT ds) P = P false (.int ds.length) := rfl
end
end Lv

namespace Lv
open PySem PySem.Spec L2
section
variable {X : Cx} {z : Ent} {pos : Pos}
/-- x.insert(k, e), k not below 0 -/
def dInsert (i : Nat) (tk : DO) (t : DX) : DS := fun E δ w => match δ[i]? with
  | some (some (true, .lst ds)) => tk δ w fun d w1 => match res w1 d with
    | .int k => t δ w1 fun _ x w2 => (ds.length < sizeLine ∧ 0 ≤ k ∧ k < 2 ^ 63) ∧ E.nx (δ.set i (some (true, .lst (ds.take k.toNat ++ [x] ++ ds.drop k.toNat)))) w2
    | _ => False
  | _ => False
theorem js_insert {i : Nat} {o k e : Expr} {tk : DO} {t : DX} {apos cpos : Pos} (hK : z.K = X.K) (ho : PE X o (tVar i)) (hk : JO X z k tk) (he : JX X z e t)
    (hbase : attributeBase o "insert" X.env (eval o X.env) = eval o X.env := by rfl)
    (hfew : ((backTo cpos (starEach [k, e] X.env)).all (fun x => !x.1) && (backToKw cpos (keywordEach [] X.env)).all (fun x => x.1.isSome)
      && decide (([k, e] : List Expr).length + ([] : List Keyword).length + (if ([] : List Keyword).isEmpty then 0 else 1) < 30)) = true := by rfl)
    (hline : (apos.endLine == cpos.line) = true := by rfl) (hs : starEach [k, e] X.env = (false, eval k X.env) :: starEach [e] X.env := by rfl) (hs2 : starEach [e] X.env = (false, eval e X.env) :: starEach [] X.env := by rfl) (hplain : (backTo cpos (starEach [e] X.env)).any (·.1) = false := by rfl)
    (hsw : swapsWith (.Call (.Attribute o "insert" apos) [k, e] [] cpos) none pos.line X.env = pure false := by rfl) : JS X z (.Expr (.Call (.Attribute o "insert" apos) [k, e] [] cpos) pos) (dInsert i tk t) :=
  PS.imp (ps_expr (pe_bm PySem.F.plainAttrs_list PySem.F.slot_list_insert PySem.F.type_list_insert mt_insert ho (pa_cons hk (pa_cons he pa_nil hs2) hs) hbase hfew hline hs hplain) hsw) fun D σ H ⟨δ, w, F, He, E, R, q, c⟩ => by
    unfold dInsert at q
    split at q
    · next ds e =>
      obtain ⟨a, ob, hs, ha, m, r⟩ := own_at R e
      cases r with
      | lst r =>
        refine ⟨.ref a, hs, .inl ⟨rfl, _, .of ha⟩, δ, w, F, He, _, R, q, fun d w1 q1 v H1 F1 He1 wd1 st1 r1 => ?_⟩
        have R1 := R.step wd1 st1
        have r1 := res_ok wd1.ex wd1.sh r1
        generalize res w1 d = d at q1 r1
        split at q1
        · next kk =>
          have ev := r1.int
          subst ev
          refine ⟨δ, w1, F1, He1, _, R1, q1, fun b x w2 q2 v2 H2 F2 He2 wd2 st2 r2 => ?_⟩
          obtain ⟨F3, st3, wd3, r3, s3⟩ := r2.thaw st2 wd2
          have st4 := st1.trans st3
          have R2 := R.step wd3 st4
          refine ⟨a, _, kk, v2, rfl, rfl, st4.keep a _ ha m, by rw [r.length]; exact q2.1.1, q2.1.2.1, q2.1.2.2, ?_⟩
          exact c.nx _ _ _ _ _ _ q2.2 (R2.write e hs (.lst (((r.mono st4.fz).take kk.toNat |>.append (.cons r3 .nil)).append ((r.mono st4.fz).drop kk.toNat)))) st4.fz
        · exact q1.elim
    · exact q.elim
end
end Lv

namespace Lv
open PySem PySem.Spec PyProof.Rows L2
/-! ### enumerate(tuple) -/
set_option maxHeartbeats 1000000 in
theorem enum_new1 {v : Value} {o : Obj} {Hq : Heap → Prop} (B : Begins v o Hq) :
    Meets (Builtin.«enumerate.__new__» ⟨[.type "enumerate", v], []⟩) (fun _ R s => Hq s.heap ∧
      R (.ok (.ret (.ref (s.heap.push o).objs.size))) { s with heap := (s.heap.push o).push { cls := .type "enumerate", data := .fields #[.none, .bool false, .ref s.heap.objs.size, rawInt 0, .none, .none] } }) :=
  .of_wp fun prog w A R s h => by
    obtain ⟨hp, g, d, tk, os⟩ := s; obtain ⟨h1, h⟩ := h
    have hsub := sub_enumerate
    have q1 : ∀ {A' : Around} {E : Value → Shared → Prop} {Q : Value → Shared → Prop}, Q (.ref hp.objs.size) ⟨hp.push o, g, d, tk, os⟩ → wpAny (model prog w) A' (pyIter v) Q E ⟨hp, g, d, tk, os⟩ :=
      fun q => B.iter prog w _ _ ⟨hp, g, d, tk, os⟩ _ h1 q
    wp_walk using q1
    refine wpAny_stack_any fun st => wpAny_pure ?_
    split
    · rename_i c _ _ _ _ _
      cases (c == Value.type "enumerate")
      · wp_walk using q1
        exact ⟨_, rfl, h⟩
      · wp_walk using q1
        exact ⟨_, rfl, h⟩
    · wp_walk using q1
      exact ⟨_, rfl, h⟩
theorem enum_call1 {prog : Program} {w : World} {A : Around} {E : Value → Shared → Prop} {s : Shared} {v : Value} {o : Obj} {Hq : Heap → Prop} {Q : Value → Shared → Prop} (B : Begins v o Hq) (h1 : Hq s.heap)
    (h : ∀ h', IsEnum h' (s.heap.objs.size + 1) s.heap.objs.size 0 .none → h'.get? s.heap.objs.size = some o → h'.objs.size = s.heap.objs.size + 2 →
      (∀ b o, s.heap.get? b = some o → h'.get? b = some o) → Q (.ref (s.heap.objs.size + 1)) { s with heap := h' }) :
    wpAny (model prog w) A (call (.type "enumerate") [v]) Q E s := by
  refine callType_new F.called_enumerate (by decide) (F.typeCall_enumerate_1 _) (F.newCall_enumerate_1 _) (fun obj => F.args_object_init_2 obj _) F.entry_enumerate_new (enum_new1 B) ⟨h1, ?_⟩
  have hz : (s.heap.push o).objs.size = s.heap.objs.size + 1 := Heap.size_push ..
  show _ ∧ _
  rw [hz]
  have he : IsEnum ((s.heap.push o).push { cls := .type "enumerate", data := .fields #[.none, .bool false, .ref s.heap.objs.size, rawInt 0, .none, .none] }) (s.heap.objs.size + 1) s.heap.objs.size 0 .none := by
    have := Heap.get?_push_size (s.heap.push o) (o := { cls := .type "enumerate", data := .fields #[.none, .bool false, .ref s.heap.objs.size, rawInt 0, .none, .none] }) rfl
    rw [hz] at this; exact this
  exact ⟨⟨_, he, rfl⟩, h _ he (Heap.get?_push_of_some _ (Heap.get?_push_size _ B.free)) (by rw [Heap.size_push, hz]) fun b o x => Heap.get?_push_of_some _ (Heap.get?_push_of_some _ x)⟩
/-- the tuple at a, each item in a new pair -/
def IteT (K : PySem.W.Frag) (a : Addr) : It :=
  ⟨fun i H => ∃ (xs : List V) (x : V), SqT K H a xs ∧ xs[i]? = some x, fun i H v H' => ∃ T x, v = .ref T ∧ H T = none ∧ H' = upd H T (.tup [.int (i : Nat), x]) ∧ ∀ xs, SqT K H a xs → xs[i]? = some x, fun i H => ∃ xs : List V, SqT K H a xs ∧ xs.length = i⟩
theorem turn_enumT {P : Program} {w : World} {K : PySem.W.Frag} {elts : List Expr} {kk : Nat} {tpos : Pos} (a e it : Addr) :
    Turn P w K (.Tuple elts kk tpos) (IteT K a) [e, it] e (fun i h => (∃ old, IsEnum h e it ((i : Nat) : Int) old) ∧ h.IsTupleIter it a i ∧ e ≠ it ∧ a ≠ it ∧ a ≠ e) where
  mem := by simp
  obj := fun i h st b hb => by
    obtain ⟨⟨old, he⟩, ⟨o, ho, hc, hd⟩, _⟩ := st
    have e' : b = e ∨ b = it := by simpa using hb
    rcases e' with z | z
    · rw [z]; exact ⟨_, he, fun v q => nomatch q⟩
    · rw [z]; exact ⟨o, ho, fun v q => by rw [hd] at q; cases q⟩
  keep := fun i h h' st k => let ⟨⟨old, he⟩, hi, hne⟩ := st; ⟨⟨old, k e (by simp) _ he⟩, hi.at fun o q => k it (by simp) o q, hne⟩
  item := by
    intro X hP hw hK hc i pins s σ H E I hf st hg
    subst hP hw hK
    obtain ⟨⟨old, he⟩, hit, hne, hai, hae⟩ := st
    obtain ⟨xs, x, hq, hx⟩ := hg
    obtain ⟨its, rv, p, hz⟩ := I.tuple hq
    obtain ⟨u, hu, ru⟩ := rv.get hx
    have hlen : i < its.toArray.size := by
      have := (List.getElem?_eq_some_iff.mp hu).1
      simpa using this
    have hel : e < s.heap.objs.size := Heap.lt_size he
    have hil : it < s.heap.objs.size := by obtain ⟨_, q, _⟩ := hit; exact Heap.lt_size q
    refine wpAny_pyNext_enum_itemD (Draws.tuple (A := X.A.in1) (I.ok.hd hc) it a hai its.toArray) he ⟨hit, p⟩ hlen hne (by simp; exact ⟨hne, fun z => hae z.symm⟩) fun y h' tk hy ho hit' hT hsz hk => ?_
    have hyu : y = u := by
      rw [List.getElem?_toArray, hu] at hy
      exact (Option.some.inj hy).symm
    subst hyu
    refine ⟨_, rfl, wpAny_letOwnedTupleGo_enum (s := { s with heap := h', toks := tk + 1 }) ho fun h'' he' sb => ?_⟩
    have hT2 : h''.get? s.heap.objs.size = some { cls := .type "tuple", data := .seq #[.int i tk, y] } := (sb.2 _ (Nat.ne_of_gt hel)).trans hT
    have new : ObjOk X.prog X.w (upd H s.heap.objs.size (.tup [.int (i : Nat), x])) h'' s.heap.objs.size (.tup [.int (i : Nat), x]) :=
      ⟨by show 2 ≤ sizeLine; decide, [.int i tk, y], .cons ⟨_, rfl⟩ (.cons ru .nil), ⟨_, hT2, rfl, _, rfl⟩⟩
    have I1 : Inv X pins σ (upd H s.heap.objs.size (.tup [.int (i : Nat), x])) { s with heap := h'', toks := tk + 1 } :=
      I.turnedNew (ch := [e, it]) (fun b ob hb q => (sb.2 b (fun z => hb (by simp [z]))).trans (hk b ob (fun z => hb (by simp [z])) (fun z => hb (by simp [z])) q)) hf (Nat.le_refl _) new
    refine ⟨.ref s.heap.objs.size, _, I1, rfl, ⟨_, x, rfl, I.hok.fresh (Nat.le_refl _), rfl, fun ys hy => by rw [I.tuple_inj hy hq]; exact hx⟩, ⟨⟨y, ?_⟩, hit'.1.at fun o q => (sb.2 it (Ne.symm hne)).trans q, hne, hai, hae⟩, fun b hb => ?_⟩
    · have e1 : ((i + 1 : Nat) : Int) = (i : Int) + 1 := by omega
      rw [e1]; exact he'
    · have hb' : b < s.heap.objs.size := by
        have e' : b = e ∨ b = it := by simpa using hb
        rcases e' with z | z
        · rw [z]; exact hel
        · rw [z]; exact hil
      rw [upd_ne (Nat.ne_of_lt hb')]
      exact (hf b hb).1
  done := by
    intro X hP hw hK hc i pins s σ H E I hf st hg
    subst hP hw hK
    obtain ⟨⟨old, he⟩, hit, hne, hai, hae⟩ := st
    obtain ⟨xs, hq, hx⟩ := hg
    obtain ⟨its, rv, p, hz⟩ := I.tuple hq
    obtain ⟨f0, f1, f2, f3, f4, f5⟩ := hf it (by simp)
    have hl := rv.length
    have hsz : its.toArray.size = i := by simp; omega
    exact wpAny_pyNext_enum_endD (Draws.tuple (A := X.A.in1) (I.ok.hd hc) it a hai its.toArray) he ⟨by rw [hsz]; exact hit, p⟩ fun h' eb => ⟨rfl, I.turned (t' := s.toks) (fun b o hb q => eb b o hb q) f0 f1 f3 f4 f5⟩
  self := fun A i s Q E st h => let ⟨⟨_, he⟩, _⟩ := st; wpAny_pyIter_enum he h
def iEnumT (K : PySem.W.Frag) (ta : TA) : TI := fun σ H R => ta σ H fun vs H1 => ∃ a xs, vs = [.ref a] ∧ ((SqL K H1 a xs ∧ R (Ite K a) H1) ∨ (SqT K H1 a xs ∧ R (IteT K a) H1))
theorem pi_enumT {X : Cx} {e : Expr} {ta : TA} {p pos tpos : Pos} {elts : List Expr} {kk : Nat} (hg : Gl X "enumerate") (hm : X.mg "enumerate" = none) (ha : PA X [e] ta) (hs : starEach [e] X.env = [(false, eval e X.env)] := by rfl) :
    PI X (.Tuple elts kk tpos) (.Call (.Name "enumerate" p) [e] [] pos) (iEnumT X.K ta) := by
  refine ⟨fun pins s σ H R I h => ?_⟩
  refine Call_ (ld_blt I hg hm boot_enumerate (PyProof.Rows.callWith_type1 (thn (ha.run pos pins s σ H _ I h) fun us s1 ⟨vs, H1, I1, r1, q1⟩ => ?_) hs rfl))
  obtain ⟨a, xs, ex, q⟩ := q1
  subst ex
  cases r1 with
  | cons r rr =>
    cases rr
    cases r
    have fin : ∀ b, b ∈ [s1.heap.objs.size + 1, s1.heap.objs.size] → s1.heap.objs.size ≤ b := fun b hb => by
      have e' : b = s1.heap.objs.size + 1 ∨ b = s1.heap.objs.size := by simpa using hb
      rcases e' with z | z
      · rw [z]; exact Nat.le_add_right _ _
      · rw [z]; exact Nat.le_refl _
    rcases q with ⟨hq, q⟩ | ⟨hq, q⟩
    · obtain ⟨its, rv, p', hz⟩ := I1.list hq
      refine call_enumerate_list p'.isList fun h' he hit hsz hk => wpAny_pyIter_enum he ?_
      have I2 : Inv X pins σ H1 { s1 with heap := h' } := I1.kept (t' := s1.toks) hk
      exact ⟨s1.heap.objs.size + 1, [s1.heap.objs.size + 1, s1.heap.objs.size], _, _, H1, rfl, I2, turn_enum a (s1.heap.objs.size + 1) s1.heap.objs.size, ⟨⟨.none, he⟩, hit, Nat.succ_ne_self _⟩, fun b hb => I1.fpOk (fin b hb) (I1.hok.fresh (fin b hb)), q⟩
    · obtain ⟨its, rv, p', hz⟩ := I1.tuple hq
      have hal : a < s1.heap.objs.size := by obtain ⟨_, q, _⟩ := (show s1.heap.IsTuple a its.toArray from p'); exact Heap.lt_size q
      refine enum_call1 (begins_tuple a its.toArray) p' fun h' he hit hsz hk => wpAny_pyIter_enum he ?_
      have I2 : Inv X pins σ H1 { s1 with heap := h' } := I1.kept (t' := s1.toks) hk
      exact ⟨s1.heap.objs.size + 1, [s1.heap.objs.size + 1, s1.heap.objs.size], _, _, H1, rfl, I2, turn_enumT a (s1.heap.objs.size + 1) s1.heap.objs.size, ⟨⟨.none, he⟩, ⟨_, hit, rfl, rfl⟩, Nat.succ_ne_self _, Nat.ne_of_lt hal, Nat.ne_of_lt (Nat.lt_succ_of_lt hal)⟩, fun b hb => I1.fpOk (fin b hb) (I1.hok.fresh (fin b hb)), q⟩
section
variable {X : Cx} {z : Ent} {pos : Pos}
theorem itok_enumT {K : PySem.W.Frag} {F : Hp} {a : Addr} {vs : List V} {ds : List D} (ha : F a = some (.tup vs)) (ra : DRs K F vs ds) : ItOk K (IteT K a) F (enumD ds) where
  go := fun i H s h => by
    rw [enumD_len] at h
    obtain ⟨u, hu, _⟩ := ra.get (List.getElem?_eq_getElem h)
    exact ⟨vs, u, .of (s _ _ ha), hu⟩
  stop := fun H s => ⟨vs, .of (s _ _ ha), by rw [enumD_len, ra.length]⟩
  yld := fun i H x H' s h hy => by
    rw [enumD_len] at h
    obtain ⟨T, u, rfl, hT, rfl, h1⟩ := hy
    obtain ⟨d, hd, rd⟩ := ra.getV (h1 vs (.of (s _ _ ha)))
    exact .inr ⟨T, _, [.int (i : Nat), d], rfl, hT, rfl, enumD_at ds i hd, .cons (.int _) (.cons rd .nil)⟩
/-- enumerate(a list or a tuple) -/
def kEnumT {α : Type} (Q : List D → α → Prop) (w : α) : List D → Prop
  | [.lst xs] => Q (enumD xs) w
  | [.tup xs] => Q (enumD xs) w
  | _ => False
def dEnumT (ts : DA) : DI := fun δ w Q => ts δ w fun ds w1 => kEnumT Q w1 ds
theorem ji_enumT {e : Expr} {ts : DA} {p tpos : Pos} {elts : List Expr} {kk : Nat} (hK : z.K = X.K) (hm : X.mg "enumerate" = none) (ha : JA X z [e] ts) (hg : Gl X "enumerate" := by rfl)
    (hs : starEach [e] X.env = [(false, eval e X.env)] := by rfl) : PI X (.Tuple elts kk tpos) (.Call (.Name "enumerate" p) [e] [] pos) (liftI z (dEnumT ts)) :=
  PI.imp (pi_enumT hg hm ha hs) fun σ H R ⟨δ, w, F, He, P, Re, q, k⟩ => by
    refine ⟨δ, w, F, He, _, Re, q, fun ds w1 q1 vs H1 F1 He1 wd1 st1 r1 => ?_⟩
    rw [← hK]
    unfold kEnumT at q1
    split at q1
    · next xs =>
      cases r1 with
      | cons ra rb =>
        cases rb
        cases ra with
        | lst ea ra => exact ⟨_, _, rfl, .inl ⟨.of (wd1.sf _ _ ea), k _ _ q1 _ H1 F1 He1 wd1 st1 (itok_enum ea ra)⟩⟩
    · next xs =>
      cases r1 with
      | cons ra rb =>
        cases rb
        cases ra with
        | tup ea ra => exact ⟨_, _, rfl, .inr ⟨.of (wd1.sf _ _ ea), k _ _ q1 _ H1 F1 He1 wd1 st1 (itok_enumT ea ra)⟩⟩
    · exact q1.elim
end
end Lv

namespace Lv
open PySem PySem.Spec L2

/-! ### an exception that was caught is kept as a value -/
section
variable {X : Cx} {pins : List (Addr × Obj)} {σ : L2.St} {H : Hp} {s : Shared}
theorem exk_ok {P : Program} {W : World} {H : Hp} {h : Heap} {a C : Addr} {d : Option Addr} {oe : Obj} {vs : Array Value} (e : h.get? a = some oe) (q : Zc (.ref C) d oe) (f : oe.data = .fields vs) : ObjOk P W H h a (exk a C d) :=
  ⟨⟨oe, vs, e, q.1, q.2, f⟩, ⟨oe, e⟩, fun h1 h2 ⟨o1, v1, g1, g2, g3, g4⟩ kp => ⟨o1, v1, kp _ g1, g2, g3, g4⟩⟩
/-- what stood beside the tracked things is tracked from now on -/
theorem Inv.grab {a : Addr} {o : HO} {oe : Obj} {vs : Array Value} (I : Inv X pins σ H s) (n : H a = none) (n0 : X.s_0.heap.get? a = none) (np : ∀ p ∈ X.pn ++ pins, p.1 ≠ a) (nl : a ≠ X.env.locals)
    (e : s.heap.get? a = some oe) (f : oe.data = .fields vs) (ok : ObjOk X.prog X.w (upd H a o) s.heap a o) : Inv X pins σ (upd H a o) s := by
  have there : ∀ {b : Addr} {u : HO}, H b = some u → b ≠ a := fun {b u} q z => by rw [z, n] at q; cases q
  have up : ∀ {b : Addr} {u : HO}, H b = some u → upd H a o b = some u := fun {b u} q => by rw [upd_ne (there q)]; exact q
  constructor
  case ok => exact I.ok
  case os => exact I.os
  case bare => exact I.bare
  case loc => exact I.loc
  case cell => exact I.cell
  case len => exact I.len
  case free => rw [upd_ne (Ne.symm nl)]; exact I.free
  case freeC =>
    intro x c hc
    have nc : c ≠ a := fun z => by
      obtain ⟨v, w1, w2, w3⟩ := I.cell x c hc
      rw [z, e] at w2
      cases w2
      rw [f] at w3
      cases w3
    rw [upd_ne nc]
    exact I.freeC x c hc
  case pin =>
    intro p hp
    obtain ⟨p1, p2, p3, p4, p5⟩ := I.pin p hp
    exact ⟨p1, by rw [upd_ne (np p hp)]; exact p2, p3, p4, p5⟩
  case hok =>
    intro b u hb
    by_cases z : b = a
    · subst z
      rw [upd_same] at hb
      cases hb
      exact ok
    · rw [upd_ne z] at hb
      exact (I.hok b u hb).stay (fun _ _ _ q => q) (fun _ q => up q) fun _ _ q => up q
  case base =>
    have B := I.base
    refine { keep := B.keep, slot := B.slot, there := B.there, free := fun b u h1 h2 h3 => ?_, tups := fun b xs q => up (B.tups b xs q), frzs := fun b u v q => up (B.frzs b u v q), tbls := fun b ps q => ?_ }
    · rw [upd_ne fun z => by subst z; rw [n0] at h1; cases h1]
      exact B.free b u h1 h2 h3
    · obtain ⟨more, q2⟩ := B.tbls b ps q
      exact ⟨more, up q2⟩
end
/-- what is wanted of the body's exception: it is kept at its place when the suite is through -/
def wKeep (K : PySem.W.Frag) (c : Value) (i : Nat) (ts : Addr → Value → Option Addr → TS) (Wo : WX) (D : Ends) : WX := fun cls d σ H =>
  ∃ b, PySem.W.exmOne K cls c = some b ∧ (b = true → ∃ C, cls = .ref C ∧ ∀ a, H a = none → ts a cls d ⟨fun σ' H' => H' a = none → D.nx (σ'.set i none) (upd H' a (exk a C d)), D.rt, fun σ' H' => H' a = none → D.bk (σ'.set i none) (upd H' a (exk a C d)), fun σ' H' => H' a = none → D.ct (σ'.set i none) (upd H' a (exk a C d))⟩ (σ.set i (some (.ref a))) H) ∧
    (b = false → Wo cls d σ H)
section
variable {X : Cx} {xn nm : Str} {c : Value} {i : Nat} {body suite : List Stmt} {st0 : Stmt} {q1 q2 pos : Pos} {tb : WX → TS} {ts : Addr → Value → Option Addr → TS} {Wo : WX}
/-- try: body, except xn as nm: suite; the exception may be kept by another name -/
theorem ps_keep (hst : X.stack = X.env :: X.outer) (hfm : X.env.frame = some X.env.locals) (hex : X.ex = []) (nd : X.N.Nodup) (hi : X.N[i]? = some nm) (hl : X.env.kindOf nm = some .local) (hc : Names X xn c) (tk : Takes X Wo)
    (hb : ∀ (W : WX) (pn : List (Addr × Obj)) (xe : Value → Shared → Prop), Takes (X.tr pn xe) W → PassesOwn (model X.prog X.w) X.A X.env xe → PSs (X.tr pn xe) body (tb W))
    (hsu : ∀ (a : Addr) (oe : Obj) (cls : Value) (d : Option Addr) (pn : List (Addr × Obj)), Zc cls d oe → (∃ vs, oe.data = .fields vs) → PSs (X.suite a ((a, oe) :: pn)) (st0 :: suite) (ts a cls d)) :
    PS X (.Try body [.ExceptHandler (some (.Name xn q1)) (some nm) (st0 :: suite) q2] [] [] pos) (fun D σ H => tb (wKeep X.K c i ts Wo D) D σ H) := by
  constructor
  intro pins s σ H D I hq
  have ok := I.ok
  have hfs : X.A.frames = some (X.env :: X.outer) := ok.frames.trans (congrArg some hst)
  refine wpAny_Try_except ?_
  have run := (hb (wKeep X.K c i ts Wo D) (X.pn ++ pins) (fun e s1 => wpAny (model X.prog X.w) X.A (noteFrame e X.env) (fun _ s2 => wpAny (model X.prog X.w) X.A (setFlight e none) (fun _ s3 =>
    wpAny (model X.prog X.w) X.A (handleBy e X.env [.ExceptHandler (some (.Name xn q1)) (some nm) (st0 :: suite) q2]) (SP X pins D) X.xe s3) X.xe s2) X.xe s1) ?air PassesOwn.looking).run [] s σ H D (I.toTry _) hq
  · refine wpAny_mono run (fun fl s1 hsp => ?_) fun _ _ z => z
    match fl, hsp with
    | .next, ⟨σ1, H1, J1, r⟩ => exact wpAny_execs_nil ⟨σ1, H1, J1.ofTry ok, r⟩
    | .brk, ⟨σ1, H1, J1, r⟩ => exact ⟨σ1, H1, J1.ofTry ok, r⟩
    | .cont, ⟨σ1, H1, J1, r⟩ => exact ⟨σ1, H1, J1.ofTry ok, r⟩
    | .ret u, ⟨v, σ1, H1, J1, rv, r⟩ => exact ⟨v, σ1, H1, J1.ofTry ok, rv, r⟩
  case air =>
    intro u s1 hx
    obtain ⟨a, G, sI, pins1, σ1, H1, cls, d, rfl, J1, gr, ups, sky, na, eos, bare, b, em, yes, no⟩ := hx
    have J : Inv X pins σ1 H1 sI := J1.ofTry ok
    rw [show Sky G (X.tr (X.pn ++ pins) _).stack a (Zc cls d) _ s1.heap = Sky G (X.env :: X.outer) a (Zc cls d) X.env.locals s1.heap by rw [show (X.tr (X.pn ++ pins) _).stack = X.stack from rfl, hst]] at sky
    -- the place of the exception is new
    have gn : G.get? a = none := by
      rcases sky with k | k | k
      · exact k.2.1
      · exact k.2.1
      · exact k.2.1
    refine Sky.land Zc.steady hfs hfm sky fun h2 fly up2 => ?_
    obtain ⟨oe, fv, ge, ze, de⟩ := fly.there
    have nfr : a ∉ frs (X.env :: X.outer) := fun hm => by
      obtain ⟨_, o', g', nf⟩ := fly.2.2.1.mem hm
      rw [ge] at g'
      cases g'
      exact nf _ de
    have nl : a ≠ X.env.locals := fun z => nfr (List.mem_filterMap.mpr ⟨X.env, List.mem_cons_self, by rw [hfm, z]⟩)
    have nfs : a ∉ X.fs := fun hm => by
      obtain ⟨ev, h1, h2⟩ := List.mem_filterMap.mp hm
      exact nfr (List.mem_filterMap.mpr ⟨ev, List.mem_cons_of_mem _ h1, h2⟩)
    have nI : sI.heap.get? a = none := by
      cases g : sI.heap.get? a with
      | none => rfl
      | some o =>
        have z := gr a o g (by rw [hst]; exact nfr)
        rw [gn] at z
        cases z
    have n0 : X.s_0.heap.get? a = none := by
      cases g : X.s_0.heap.get? a with
      | none => rfl
      | some o =>
        obtain ⟨o', z⟩ := J.base.there a o g (by rw [hex]; exact fun z => nomatch z)
        rw [nI] at z
        cases z
    have np : ∀ p ∈ X.pn ++ pins, p.1 ≠ a := fun p hp z => by
      have g := (J.pin p hp).1
      rw [z, nI] at g
      cases g
    have J2 : Inv X pins σ1 H1 { s1 with heap := h2 } := J.landed gr fly.1 (ups.trans up2) eos bare
    have S2 := J2.suite ge de na nl nfs
    refine wpAny_handleBy_cons (codeAny_handlers_test ?_) (fun z => nomatch z)
    have LK := PySem.W.exm_one (M := model X.prog X.w) J2.kIn (show PySem.W.Looks (model X.prog X.w) h2 (typeOf (.ref a)) cls from fun A Q E s kp q => wpAny_typeOf_ref (kp _ _ ge) (by rw [ze.1]; exact q)) em
    have look : ∀ {Q : Value → Shared → Prop} {E : Value → Shared → Prop}, Q c { s1 with heap := h2 } → wpAny (model X.prog X.w) (X.A.mark (some (.ref a))) (eval (.Name xn q1) X.env) Q E { s1 with heap := h2 } := fun {Q E} q => by
      obtain ⟨g1, g2, g3⟩ := hc
      rcases g3 with g3 | ⟨g3, g4, g5⟩
      · exact ld_glob (X := X.suite a ((a, oe) :: (X.pn ++ pins))) S2 g1 g3 q g2
      · exact ld_blt (X := X.suite a ((a, oe) :: (X.pn ++ pins))) S2 g1 g3 g4 q g5 g2
    refine look (LK.here ?_)
    cases b with
    | false =>
      show wpAny _ X.A (handleBy (.ref a) X.env []) _ _ _
      refine wpAny_handleBy_nil ?_
      obtain ⟨_, _, _, o4, v4, T4, _, _, g4, _, d4, t4, _⟩ := id fly
      unfold PySem.passOn
      refine wpAny_bind (wpAny_field g4 d4 t4 ?_)
      rw [if_neg (by simp)]
      have out : wpAny (model X.prog X.w) X.A (setFlight (.ref a) X.env.frame) (fun _ s4 => wpAny (model X.prog X.w) X.A (throw (.ref a) : Sem Flow) (SP X pins D) X.xe s4) X.xe { s1 with heap := h2 } := by
        rw [hfm]
        refine HandSPX.setFlight_upZ fly fun h5 held up5 => wpAny_throw (tk _ _ ?_)
        exact ⟨a, G, sI, pins, σ1, H1, cls, d, rfl, J, gr, (ups.trans up2).trans up5, .inr (.inr (by rw [hst]; exact held)), na, eos, bare, no rfl⟩
      first | exact wpAny_bind out | exact wpAny_bind (wpAny_pure (wpAny_bind out))
    | true =>
      obtain ⟨C, rfl, yes⟩ := yes rfl
      refine codeAny_handlers_suite_as ?_
      refine HandSPX.lands_againZ fly fun h3 fly3 up3 => ?_
      have J3 : Inv X pins σ1 H1 { s1 with heap := h3 } := J.landed gr fly3.1 ((ups.trans up2).trans up3) eos bare
      obtain ⟨o3, v3, g3, z3, d3⟩ := fly3.there
      refine store_ok (X := X.suite a ((a, o3) :: (X.pn ++ pins))) (v := .ref a) (J3.suite g3 d3 na nl nfs) nd hi (.inl hl) rfl (fun s5 S5 => ?_) (.inr hl)
      have fin : ∀ {σ6 : L2.St} {H6 : Hp} {Q : Shared → Prop} {s6 : Shared}, Inv (X.suite a ((a, o3) :: (X.pn ++ pins))) [] σ6 H6 s6 → (H6 a = none → ∀ s7, Inv X pins (σ6.set i none) (upd H6 a (exk a C d)) s7 → Q s7) →
          wpAny (model X.prog X.w) X.A (do bindName X.env nm .none; unbindBehindTheSuite X.env nm q2) (fun _ s7 => Q s7) X.xe s6 := fun {σ6 H6 Q s6} S6 hq => by
        obtain ⟨m1, m2, _⟩ := S6.pin (a, o3) (List.mem_append_left _ List.mem_cons_self)
        have m1' : s6.heap.get? a = some o3 := m1
        have m2' : H6 a = none := m2
        exact gone_ok (Inv.grab (S6.unsuite ok) m2' n0 np nl m1' d3 (exk_ok m1' z3 d3)) nd hi hl (hq m2')
      refine wpAny_mono ((hsu a o3 (.ref C) d (X.pn ++ pins) z3 ⟨_, d3⟩).run [] s5 _ H1 _ S5 (yes a na)) (fun fl s6 hsp => ?_) fun _ _ z => z.elim
      match fl, hsp with
      | .next, ⟨σ6, H6, S6, r⟩ => exact fin S6 fun z s7 J7 => ⟨_, _, J7, r z⟩
      | .brk, ⟨σ6, H6, S6, r⟩ => exact fin S6 fun z s7 J7 => ⟨_, _, J7, r z⟩
      | .cont, ⟨σ6, H6, S6, r⟩ => exact fin S6 fun z s7 J7 => ⟨_, _, J7, r z⟩
      | .ret u, ⟨v6, σ6, H6, S6, rv, r⟩ => exact gone_ok (S6.unsuite ok) nd hi hl fun s7 J7 => ⟨_, _, _, J7, rv, r⟩
end
end Lv

namespace Lv
open PySem PySem.Spec L2

/-! ### exceptions over data: what is wanted of one, by its class's name, its fields, the slots and the world -/
abbrev DXK := Str → List (Str × D) → DSt → Om → Prop
abbrev DSpX := List D → Om → (Bool → D → Om → Prop) → (Str → List (Str × D) → Om → Prop) → Prop
def xNo : DXK := fun _ _ _ _ => False
def XD (K : PySem.W.Frag) (F : Hp) (d : Option Addr) (fs : List (Str × D)) : Prop := (d = none ∧ fs = []) ∨ ∃ dd vs, d = some dd ∧ F dd = some (.xd vs) ∧ DFs K F vs fs
theorem XD.mono {K : PySem.W.Frag} {F F' : Hp} {d : Option Addr} {fs : List (Str × D)} (x : XD K F d fs) (s : Same F F') : XD K F' d fs :=
  x.elim .inl fun ⟨dd, vs, e, h, r⟩ => .inr ⟨dd, vs, e, s _ _ h, r.mono s⟩
def liftW (z : Ent) (x : DXK) : WX := fun cls d σ H => ∃ δ w F He cn fs C, Rel z δ w F He σ H ∧ cls = .ref C ∧ PySem.W.nsIn z.K mainGlobals cn = some (some (.ref C)) ∧ XD z.K F d fs ∧ x cn fs δ w
theorem takesNo {X : Cx} {z : Ent} : Takes X (liftW z xNo) := fun _ _ ⟨_, _, _, _, _, _, _, _, _, _, _, _, _, _, _, _, w⟩ => by
  obtain ⟨_, _, _, _, _, _, _, _, _, _, _, q⟩ := w
  exact q.elim
def toSpX (K : PySem.W.Frag) (T : DSpX) : Sp := fun vs H Q E => ∃ ds w F He P Px, Wd K w F He H ∧ DRs K F vs ds ∧ T ds w P Px ∧ (∀ b d w', P b d w' → ∀ v H' F' He', Wd K w' F' He' H' → Step F He H F' He' H' → Res K F' He' H H' b v d → Q v H') ∧
  ∀ cn fs w', Px cn fs w' → ∀ C d H' F' He', Wd K w' F' He' H' → Step F He H F' He' H' → PySem.W.nsIn K mainGlobals cn = some (some (.ref C)) → XD K F' d fs → E (.ref C) d H'
/-- the def of this name keeps T; it may raise -/
structure FnX (P : Program) (w : World) (K : PySem.W.Frag) (mg : Str → Option Value) (base : Heap) (k : Nat) (x : Str) (T : DSpX) : Prop where
  ex : ∃ (f : Addr) (fd : FuncData) (ps : List Str), FnOk P w K mg base (L2.CX P w) k f fd ps (toSpX K T) ∧ mg x = some (.ref f) ∧ PySem.W.keepIn K (.ref f) = true ∧ Binds K fd ps []
theorem FnX.mono {P : Program} {w : World} {K : PySem.W.Frag} {mg : Str → Option Value} {base : Heap} {j k : Nat} {x : Str} {T : DSpX} (F : FnX P w K mg base j x T) (h : j ≤ k) : FnX P w K mg base k x T :=
  let ⟨f, fd, ps, a, b, c, d⟩ := F.ex; ⟨f, fd, ps, a.mono h, b, c, d⟩
def dCallX (T : DSpX) (x : DXK) (t : DA) : DX := fun δ w Q => t δ w fun ds w1 => T ds w1 Q fun cn fs w2 => x cn fs δ w2
section
variable {X : Cx} {z : Ent} {pos : Pos}
theorem callX_lift {T : DSpX} {x : DXK} {t : DA} {σ : L2.St} {H : Hp} {Q : VK} {K : PySem.W.Frag} (hK : z.K = K) (h : liftX z (dCallX T x t) σ H Q) : tCallS (toSpX K T) (WE (liftW z x)) (liftA z t) σ H Q := by
  subst hK
  obtain ⟨δ, w, F, He, P, R, q, k⟩ := h
  refine ⟨δ, w, F, He, _, R, q, fun ds w1 q1 vs H1 F1 He1 wd1 st1 r1 => ?_⟩
  refine ⟨ds, w1, F1, He1, P, _, wd1, r1, q1, fun b d w' p v H' F' He' wd st r => k b d w' p v H' F' He' wd (st1.trans st) (r.base st1), fun cn fs w' p C d H' F' He' wd st n xd => ?_⟩
  exact ⟨δ, w', F', He', cn, fs, C, R.step wd (st1.trans st), rfl, n, xd, p⟩
theorem jx_callX {k : Nat} {T : DSpX} {xx : DXK} {t : DA} {x : Str} {p : Pos} {e : Expr} {es : List Expr} (f : FnX X.prog X.w X.K X.mg X.base k x T) (tk : Takes X (liftW z xx)) (hK : z.K = X.K) (hr : Room k X.A) (ha : JA X z (e :: es) t) (hg : Gl X x := by rfl)
    (hdb : (x == ("__debug__" : Str)) = false := by decide) (he : starEach (e :: es) X.env = (false, eval e X.env) :: starEach es X.env := by rfl) (hpl : (backTo pos (starEach es X.env)).any (·.1) = false := by rfl) : JX X z (.Call (.Name x p) (e :: es) [] pos) (dCallX T xx t) := by
  obtain ⟨fa, fd, ps, a, b, c, d⟩ := f.ex
  exact PE.imp (pe_callS a hr hg b c d (fun σ => passAt tk σ) ha hdb he hpl) fun _ _ _ h => callX_lift hK h

/-! ### raise -/
/-- what is known of an exception class of the program's own without a making of its own -/
structure XCls (K : PySem.W.Frag) (mg : Str → Option Value) (cn : Str) (C : Addr) : Prop where
  ns : PySem.W.nsIn K mainGlobals cn = some (some (.ref C))
  at_ : mg cn = some (.ref C)
  kp : PySem.W.keepIn K (.ref C) = true
  sub : PySem.W.subIn K (.ref C) (.type "BaseException") = some true
  ty : PySem.W.typeIn K (.ref C) = some (.type "type")
def dRaise (cn : Str) (x : DXK) : DS := fun _ δ w => x cn [] δ w
theorem js_raise {cn m : Str} {C : Addr} {x : DXK} {j : Nat} {p p2 p3 : Pos} (T : XCls X.K X.mg cn C) (q : PySem.W.excIn X.K C [.type "ValueError", .type "Exception", .type "BaseException", .type "object"] "ValueError.__new__" = true) (tk : Takes X (liftW z x)) (hK : z.K = X.K) (hc : X.calm = true) (hg : Gl X cn := by rfl)
    (hdb : (cn == ("__debug__" : Str)) = false := by decide) : JS X z (.Raise (some (.Call (.Name cn p) [.Constant (.str m) j p2] [] p3)) none pos) (dRaise cn x) :=
  PS.imp (ps_raise hc tk (pmk_own PySem.F.excBase_ValueError q T.at_ T.kp (raises_own T.sub T.ty) hg hdb)) fun D σ H ⟨δ, w, F, He, E, R, q, c⟩ => ⟨δ, w, F, He, cn, [], C, R, rfl, by rw [hK]; exact T.ns, .inl ⟨rfl, rfl⟩, q⟩

/-! ### try -/
/-- does an except clause of c take an exception of cn; L: the exceptions that are raised here -/
def subE (L : List Str) (cn c : Str) : Option Bool := if L.contains cn then some (decide (c = cn) || decide (c = "YardError") || decide (c = "ValueError")) else none
/-- the class that a clause names -/
structure Clause (X : Cx) (L : List Str) (c : Str) (v : Value) : Prop where
  nm : Names X c v
  mt : ∀ cn C b, subE L cn c = some b → PySem.W.nsIn X.K mainGlobals cn = some (some (.ref C)) → PySem.W.exmOne X.K (.ref C) v = some b
def noOwn (δ : DSt) : Bool := δ.all fun s => match s with
  | some (true, _) => false
  | _ => true
theorem noOwn_at {δ : DSt} (h : noOwn δ = true) {i : Nat} {d : D} (e : δ[i]? = some (some (true, d))) : False := by
  have := List.all_eq_true.mp h _ (List.mem_of_getElem? e)
  cases this
theorem Rel.root {δ : DSt} {w : Om} {F He H : Hp} {σ : L2.St} (R : Rel z δ w F He σ H) (no : noOwn δ = true) : Rel ⟨z.K, F, He, H, w, R.wd.ex⟩ δ w F He σ H where
  wd := R.wd
  st := .refl
  len := R.len
  sl := fun i s e => by
    obtain ⟨v, hv, r⟩ := R.sl i s e
    refine ⟨v, hv, ?_⟩
    match s, e, r with
    | none, _, _ => exact True.intro
    | some (false, d), _, r => exact r
    | some (true, d), e, _ => exact (noOwn_at no e).elim
  inj := fun i j d e a h1 _ _ _ => (noOwn_at no h1).elim
theorem Rel.unroot {δ δ' : DSt} {w w' : Om} {F He H F' He' H' : Hp} {σ σ' : L2.St} (R : Rel z δ w F He σ H) (S : Rel ⟨z.K, F, He, H, w, R.wd.ex⟩ δ' w' F' He' σ' H') : Rel z δ' w' F' He' σ' H' where
  wd := S.wd
  st := R.st.trans S.st
  len := S.len
  sl := fun i s e => by
    obtain ⟨v, hv, r⟩ := S.sl i s e
    refine ⟨v, hv, ?_⟩
    match s, r with
    | none, _ => exact True.intro
    | some (false, d), r => exact r
    | some (true, d), ⟨a, o, e1, ho, n, m, f, q⟩ => exact ⟨a, o, e1, ho, n, m, Classical.byContradiction fun c => R.st.dom a c f, q⟩
  inj := S.inj
/-- a name for the exception becomes what is known of it -/
def keepS (a : Addr) (e : D) : Sl → Sl
  | some (false, .ref b) => if b = a then some (false, e) else some (false, .ref b)
  | s => s
def keepD (a : Addr) (e : D) (δ : DSt) : DSt := δ.map (keepS a e)
theorem Rel.keepX {δ : DSt} {w : Om} {F He H : Hp} {σ : L2.St} {a C : Addr} {d : Option Addr} {cn : Str} {fs : List (Str × D)} (R : Rel z δ w F He σ H) (n : H a = none) (hC : PySem.W.nsIn z.K mainGlobals cn = some (some (.ref C))) (xd : XD z.K F d fs) :
    Rel z (keepD a (.exc cn fs) δ) w (upd F a (exk a C d)) He σ (upd H a (exk a C d)) ∧ Same F (upd F a (exk a C d)) := by
  have nF := R.wd.fnone n
  have nE := R.wd.henone n
  have st : Step F He H (upd F a (exk a C d)) He (upd H a (exk a C d)) := (Step.alloc n).freeze nF n
  have R1 := R.step ((R.wd.alloc (o := exk a C d) n).freeze upd_same nF nE) st
  have dr : DR z.K (upd F a (exk a C d)) (.ref a) (.exc cn fs) := by
    rcases xd.mono st.fz with ⟨rfl, rfl⟩ | ⟨dd, vs, rfl, h, r⟩
    · exact .exc0 upd_same hC
    · exact .exc1 upd_same hC h r
  refine ⟨⟨R1.wd, R1.st, by rw [R1.len]; simp [keepD], fun i s e => ?_, fun i j d1 d2 b e1 e2 h1 h2 => ?_⟩, st.fz⟩
  · unfold keepD at e
    rw [List.getElem?_map] at e
    cases e0 : δ[i]? with
    | none => rw [e0] at e; cases e
    | some s0 =>
      rw [e0] at e
      cases e
      obtain ⟨v, hv, r⟩ := R1.sl i s0 e0
      refine ⟨v, hv, ?_⟩
      unfold keepS
      split
      · next b =>
        split
        · next hb =>
          subst hb
          obtain ⟨x, rfl, q⟩ := r
          cases q
          exact ⟨_, rfl, dr⟩
        · exact r
      · exact r
  · have key : ∀ {i : Nat} {d : D}, (keepD a (.exc cn fs) δ)[i]? = some (some (true, d)) → δ[i]? = some (some (true, d)) := fun {i d} e => by
      unfold keepD at e
      rw [List.getElem?_map] at e
      cases e0 : δ[i]? with
      | none => rw [e0] at e; cases e
      | some s0 =>
        rw [e0] at e
        injection e with e
        unfold keepS at e
        split at e
        · split at e <;> cases e
        · rw [← e]
    exact R1.inj i j d1 d2 b (key e1) (key e2) h1 h2
/-- try: body, except c as n: suite, the exception's name in slot i -/
def xKeep (L : List Str) (i : Nat) (c : Str) (ts : Addr → DS) (E : DEnds) (x : DXK) : DXK := fun cn fs δ w => ∃ b, subE L cn c = some b ∧
  (b = true → ∀ a, w a = none → ts a ⟨fun δ' w' => E.nx (keepD a (.exc cn fs) (δ'.set i none)) w', E.rt, fun δ' w' => E.bk (keepD a (.exc cn fs) (δ'.set i none)) w', fun δ' w' => E.ct (keepD a (.exc cn fs) (δ'.set i none)) w'⟩ (δ.set i (some (false, .ref a))) w) ∧ (b = false → x cn fs δ w)
def dTryK (L : List Str) (i : Nat) (c : Str) (tb : DXK → DS) (ts : Addr → DS) (x : DXK) : DS := fun E δ w => noOwn δ = true ∧ tb (xKeep L i c ts E x) E δ w
theorem js_tryK {L : List Str} {c nm : Str} {cv : Value} {i : Nat} {body suite : List Stmt} {st0 : Stmt} {q1 q2 : Pos} {tb : DXK → DS} {ts : Addr → DS} {x : DXK} (hst : X.stack = X.env :: X.outer) (hfm : X.env.frame = some X.env.locals) (hex : X.ex = []) (hK : z.K = X.K) (nd : X.N.Nodup) (hi : X.N[i]? = some nm)
    (hl : X.env.kindOf nm = some .local) (hc : Clause X L c cv) (tk : Takes X (liftW z x))
    (hb : ∀ (F He H : Hp) (w : Om) (r : rep X.K w F He) (y : DXK) (pn : List (Addr × Obj)) (xe : Value → Shared → Prop), Takes (X.tr pn xe) (liftW ⟨X.K, F, He, H, w, r⟩ y) → PassesOwn (model X.prog X.w) X.A X.env xe → JSs (X.tr pn xe) ⟨X.K, F, He, H, w, r⟩ body (tb y))
    (hsu : ∀ (a : Addr) (oe : Obj) (pn : List (Addr × Obj)), JSs (X.suite a ((a, oe) :: pn)) z (st0 :: suite) (ts a)) :
    JS X z (.Try body [.ExceptHandler (some (.Name c q1)) (some nm) (st0 :: suite) q2] [] [] pos) (dTryK L i c tb ts x) := by
  refine PS.imp (ps_keep (tb := fun W D σ H => ∃ (z' : Ent) (y : DXK), z'.K = X.K ∧ (∀ cls d σ H, liftW z' y cls d σ H → W cls d σ H) ∧ liftS z' (tb y) D σ H) (ts := fun a _ _ => liftS z (ts a)) hst hfm hex nd hi hl hc.nm tk (fun W pn xe tW pw => ?_) (fun a oe cls d pn _ _ => hsu a oe pn)) fun D σ H hq => ?_
  · constructor
    intro pins s σ H D I ⟨z', y, hz, hy, hq⟩
    obtain ⟨K', F', He', H', w', r'⟩ := z'
    dsimp only at hz
    subst hz
    exact (hb F' He' H' w' r' y pn xe (tW.imp hy) pw).run pins s σ H D I hq
  · obtain ⟨δ, w, F, He, E, R, ⟨no, q⟩, cn⟩ := hq
    refine ⟨⟨z.K, F, He, H, w, R.wd.ex⟩, _, hK, fun cls d σ1 H1 hw => ?_, δ, w, F, He, E, R.root no, q, ?_⟩
    · obtain ⟨δ1, w1, F1, He1, cn1, fs, C, R1', rfl, hC, xd, b, e1, yes, no1⟩ := hw
      have R1 := R.unroot R1'
      have sF : Same F F1 := R1'.st.fz
      refine ⟨b, hc.mt cn1 C b e1 (by rw [← hK]; exact hC), fun hb => ⟨C, rfl, fun a na => ?_⟩, fun hb => ⟨δ1, w1, F1, He1, cn1, fs, C, R1, rfl, hC, xd, no1 hb⟩⟩
      have wa : w1 a = none := R1.wd.none_of (R1.wd.henone na)
      refine ⟨δ1.set i (some (false, .ref a)), w1, F1, He1, _, R1.put (.ref a), yes hb a wa, ?_⟩
      have go : ∀ {δ2 : DSt} {w2 : Om} {F2 He2 H2 : Hp} {σ2 : L2.St}, Rel z δ2 w2 F2 He2 σ2 H2 → Same F1 F2 → H2 a = none → Rel z (keepD a (.exc cn1 fs) (δ2.set i none)) w2 (upd F2 a (exk a C d)) He2 (σ2.set i none) (upd H2 a (exk a C d)) ∧ Same F (upd F2 a (exk a C d)) :=
        fun R2 s2 n2 => let ⟨h1, h2⟩ := (R2.forget i).keepX n2 hC (xd.mono s2); ⟨h1, (sF.trans s2).trans h2⟩
      exact ⟨fun δ2 w2 F2 He2 σ2 H2 p R2 s2 n2 => let ⟨h1, h2⟩ := go R2 s2 n2; cn.nx _ _ _ _ _ _ p h1 h2, cn.rt, fun δ2 w2 F2 He2 σ2 H2 p R2 s2 n2 => let ⟨h1, h2⟩ := go R2 s2 n2; cn.bk _ _ _ _ _ _ p h1 h2,
        fun δ2 w2 F2 He2 σ2 H2 p R2 s2 n2 => let ⟨h1, h2⟩ := go R2 s2 n2; cn.ct _ _ _ _ _ _ p h1 h2⟩
    · exact ⟨fun δ2 w2 F2 He2 σ2 H2 p R2 s2 => cn.nx _ _ _ _ _ _ p (R.unroot R2) s2, fun b d w2 p v H2 F2 He2 wd st rr => cn.rt b d w2 p v H2 F2 He2 wd (R.st.trans st) (rr.base R.st),
        fun δ2 w2 F2 He2 σ2 H2 p R2 s2 => cn.bk _ _ _ _ _ _ p (R.unroot R2) s2, fun δ2 w2 F2 He2 σ2 H2 p R2 s2 => cn.ct _ _ _ _ _ _ p (R.unroot R2) s2⟩
/-- several clauses without a name -/
def xMany (L : List Str) (E : DEnds) (x : DXK) : List (Str × DS) → DXK
  | [] => x
  | (c, u) :: r => fun cn fs δ w => ∃ b, subE L cn c = some b ∧ (b = true → u E δ w) ∧ (b = false → xMany L E x r cn fs δ w)
def dTryM (L : List Str) (tb : DXK → DS) (l : List (Str × DS)) (x : DXK) : DS := fun E δ w => noOwn δ = true ∧ tb (xMany L E x l) E δ w
inductive JHs (X : Cx) (z : Ent) (L : List Str) : List ExceptHandler → List (Str × DS) → List (Value × (Addr → Value → Option Addr → TS)) → Prop
  | nil : JHs X z L [] [] []
  | cons {c : Str} {cv : Value} {u : DS} {st0 : Stmt} {suite : List Stmt} {q1 q2 : Pos} {hs : List ExceptHandler} {l : List (Str × DS)} {r : List (Value × (Addr → Value → Option Addr → TS))} (hc : Clause X L c cv) (hsu : ∀ (a : Addr) (oe : Obj) (pn : List (Addr × Obj)), JSs (X.suite a ((a, oe) :: pn)) z (st0 :: suite) u) (t : JHs X z L hs l r) :
      JHs X z L (.ExceptHandler (some (.Name c q1)) none (st0 :: suite) q2 :: hs) ((c, u) :: l) ((cv, fun _ _ _ => liftS z u) :: r)
theorem JHs.ok {L : List Str} {hs : List ExceptHandler} {l : List (Str × DS)} {r : List (Value × (Addr → Value → Option Addr → TS))} (h : JHs X z L hs l r) : HdsOk X hs r := by
  induction h with
  | nil => exact .nil
  | cons hc hsu t ih => exact .cons hc.nm (fun a oe cls d pn _ _ => hsu a oe pn) ih
theorem JHs.wish {L : List Str} {hs : List ExceptHandler} {l : List (Str × DS)} {r : List (Value × (Addr → Value → Option Addr → TS))} (h : JHs X z L hs l r) (hK : z.K = X.K) {x : DXK} {E : DEnds} {Dn : Ends} {F : Hp} (cn : Conn z F E Dn) {δ1 : DSt} {w1 : Om} {F1 He1 H1 : Hp} {σ1 : L2.St} (R1 : Rel z δ1 w1 F1 He1 σ1 H1) (s1 : Same F F1)
    {cn1 : Str} {fs : List (Str × D)} {C : Addr} {d : Option Addr} (hC : PySem.W.nsIn z.K mainGlobals cn1 = some (some (.ref C))) (xd : XD z.K F1 d fs) (q : xMany L E x l cn1 fs δ1 w1) : wMany X.K (liftW z x) Dn r (.ref C) d σ1 H1 := by
  induction h with
  | nil => exact ⟨δ1, w1, F1, He1, cn1, fs, C, R1, rfl, hC, xd, q⟩
  | cons hc hsu t ih =>
    obtain ⟨b, e, yes, no⟩ := q
    exact ⟨b, hc.mt cn1 C b e (by rw [← hK]; exact hC), fun hb a na => ⟨δ1, w1, F1, He1, E, R1, yes hb, cn.mono s1⟩, fun hb => ih (no hb)⟩
theorem js_tryM {L : List Str} {body : List Stmt} {h0 : ExceptHandler} {hs : List ExceptHandler} {l : List (Str × DS)} {r : List (Value × (Addr → Value → Option Addr → TS))} {tb : DXK → DS} {x : DXK} (hst : X.stack = X.env :: X.outer) (hfm : X.env.frame = some X.env.locals) (hK : z.K = X.K) (hc : JHs X z L (h0 :: hs) l r) (tk : Takes X (liftW z x))
    (hb : ∀ (F He H : Hp) (w : Om) (r : rep X.K w F He) (y : DXK) (pn : List (Addr × Obj)) (xe : Value → Shared → Prop), Takes (X.tr pn xe) (liftW ⟨X.K, F, He, H, w, r⟩ y) → PassesOwn (model X.prog X.w) X.A X.env xe → JSs (X.tr pn xe) ⟨X.K, F, He, H, w, r⟩ body (tb y)) :
    JS X z (.Try body (h0 :: hs) [] [] pos) (dTryM L tb l x) := by
  refine PS.imp (ps_try_many (tb := fun W D σ H => ∃ (z' : Ent) (y : DXK), z'.K = X.K ∧ (∀ cls d σ H, liftW z' y cls d σ H → W cls d σ H) ∧ liftS z' (tb y) D σ H) hst hfm tk (fun W pn xe tW pw => ?_) hc.ok) fun D σ H hq => ?_
  · constructor
    intro pins s σ H D I ⟨z', y, hz, hy, hq⟩
    obtain ⟨K', F', He', H', w', r'⟩ := z'
    dsimp only at hz
    subst hz
    exact (hb F' He' H' w' r' y pn xe (tW.imp hy) pw).run pins s σ H D I hq
  · obtain ⟨δ, w, F, He, E, R, ⟨no, q⟩, cn⟩ := hq
    refine ⟨⟨z.K, F, He, H, w, R.wd.ex⟩, _, hK, fun cls d σ1 H1 hw => ?_, δ, w, F, He, E, R.root no, q, ?_⟩
    · obtain ⟨δ1, w1, F1, He1, cn1, fs, C, R1', rfl, hC, xd, q1⟩ := hw
      exact hc.wish hK cn (R.unroot R1') R1'.st.fz hC xd q1
    · exact ⟨fun δ2 w2 F2 He2 σ2 H2 p R2 s2 => cn.nx _ _ _ _ _ _ p (R.unroot R2) s2, fun b d w2 p v H2 F2 He2 wd st rr => cn.rt b d w2 p v H2 F2 He2 wd (R.st.trans st) (rr.base R.st),
        fun δ2 w2 F2 He2 σ2 H2 p R2 s2 => cn.bk _ _ _ _ _ _ p (R.unroot R2) s2, fun δ2 w2 F2 He2 σ2 H2 p R2 s2 => cn.ct _ _ _ _ _ _ p (R.unroot R2) s2⟩
end

/-! ### defs that may raise -/
def xDef (Px : Str → List (Str × D) → Om → Prop) : DXK := fun cn fs _ w => Px cn fs w
section
variable {P : Program} {w : World} {K : PySem.W.Frag} {mg : Str → Option Value} {base : Heap}
theorem fnX_ok {T : DSpX} {x qual : Str} {st : Stmt} {f : Addr} {fd : FuncData} {N ps : List Str} {k : Nat} (F : L2.Fun K x qual st f fd) (S : FnScope N ps (defScope st)) (hm : mg x = some (.ref f))
    (hbd : ∀ (kV doc pm : Value) (an : Option Addr) (cdv ct : Value) (us : List Value), us.length = ps.length → bindArgs (PySem.W.fnOf x qual (defArgs st) (defBody st) (defScope st) .none kV doc pm an cdv ct) ⟨us, []⟩ = pure (ps.zip us))
    (len : ∀ ds w P Px, T ds w P Px → ds.length = ps.length)
    (h : ∃ tb : Om → DXK → DS, (∀ (cdv : Value) (A : Around) (outer : List Env) (s : Shared) (H F0 He0 : Hp) (w0 : Om) (rep0 : rep K w0 F0 He0) (E : XK) (y : DXK), Room k (A.deeper (PyProof.Rows.envOfC qual (defScope st) s.heap.objs.size f cdv)) →
        Takes (cxOf (L2.CX P w) P w K mg base N qual (defScope st) f cdv A outer s H E) (liftW ⟨K, F0, He0, H, w0, rep0⟩ y) → JSs (cxOf (L2.CX P w) P w K mg base N qual (defScope st) f cdv A outer s H E) ⟨K, F0, He0, H, w0, rep0⟩ (defBody st) (tb w0 y)) ∧
      ∀ ds w P Px, T ds w P Px → tb w (xDef Px) { nx := fun _ w => P false .non w, rt := P } (startD N ds) w) : FnX P w K mg base (k + 1) x T := by
  obtain ⟨tb, hb, hT⟩ := h
  refine ⟨f, fd, ps, F.okX S (fun vs H Q E h => ?_) (fun cdv A outer s H vs Q E hr h => ?_), hm, F.kp, F.binds hbd⟩
  · obtain ⟨ds, w, F, He, P, Px, _, r, q, _⟩ := h
    rw [r.length]
    exact len _ _ _ _ q
  · obtain ⟨ds, w, F, He, P, Px, wd, r, q, k, kx⟩ := h
    refine ⟨_, hb cdv A outer s H F He w wd.ex E (xDef Px) hr ((takes_of rfl rfl rfl rfl).imp fun cls d σ1 H1 hw => ?_), startD N ds, w, F, He, _, rel_start wd r, hT ds w P Px q, ?_⟩
    · obtain ⟨δ1, w1, F1, He1, cn, fs, C, R1, rfl, hC, xd, p⟩ := hw
      exact kx cn fs w1 p C d H1 F1 He1 R1.wd R1.st hC xd
    · exact ⟨fun δ w' F' He' σ H' p R _ => k _ _ _ p .non H' F' He' R.wd R.st .non, fun b d w' p v H' F' He' wd' st' rr => k b d w' p v H' F' He' wd' st' rr, fun _ _ _ _ _ _ p => p.elim, fun _ _ _ _ _ _ p => p.elim⟩
end
end Lv

namespace Lv
open PySem PySem.Spec L2

/-! ### an exception with a making of its own: TooMany(made, rows) -/
section
variable {X : Cx} {p p1 p2 pos : Pos} {e : Expr} {es : List Expr} {ta : TA}
/-- C.__init__(self, ..) of a class over ValueError that has none of its own -/
theorem pe_oinit {x : Str} {C0 : Addr} {pl : Sem Bool} (hg : Gl X x) (gC : X.mg x = some (.ref C0)) (rd : PySem.W.readsIn X.K C0 (.type "type") = true) (ga : PySem.W.specialIn X.K (.ref C0) "__getattribute__" = some (some (.builtin "type.__getattribute__")))
    (fd : PySem.W.findCls X.K (.ref C0) (.type "type") "__init__" = some (.val (.builtin "ValueError.__init__"))) (ha : PA X (e :: es) ta)
    (hc : eval (.Call (.Attribute (.Name x p1) "__init__" p2) (e :: es) [] pos) X.env = (do
      let ov ← eval (.Name x p1) X.env
      standAt p2.atName
      let (f, first) ← holding [ov] (getMethod ov "__init__" pl)
      callWith pos f first (backTo pos (starEach (e :: es) X.env)) (backToKw pos (keywordEach [] X.env))) := by rfl)
    (hdb : (x == ("__debug__" : Str)) = false := by decide)
    (he : starEach (e :: es) X.env = (false, eval e X.env) :: starEach es X.env := by rfl) (hpl : (backTo pos (starEach es X.env)).any (·.1) = false := by rfl) :
    PE X (.Call (.Attribute (.Name x p1) "__init__" p2) (e :: es) [] pos) (tVeI X.K ta) := by
  constructor
  intro pins s σ H Q I h
  refine PySem.W.methodCall_KW (ld_glob I hg gC ?_ hdb) hc
  refine PySem.W.method_cls I.kIn ga (PySem.W.cls_value I.kIn rd fd (by decide +kernel) ?_)
  show wpAny _ _ (callWith pos (Value.builtin "ValueError.__init__") [] (backTo pos (starEach (e :: es) X.env)) []) _ _ _
  refine PyProof.Rows.callWith_method1 (thn (ha.run pos pins _ σ H _ (I.tok _) h) fun us s1 hh => ?_) he hpl
  obtain ⟨vs, H1, I1, r1, a, C, ws, rfl, hl, T, ea, q⟩ := hh
  cases r1 with
  | @cons _ u0 _ ur ra rw' =>
    cases (show u0 = Value.ref a from ra)
    exact oinit_ok T I1 ea (by rw [← Paired.length rw', sizeLine_eq]; omega) fun s' J => ⟨.non, H1, J, rfl, q⟩
end
/-- what its making leaves -/
def spTM (K : PySem.W.Frag) (C : Addr) : Sp := fun vs H Q _ => ∃ (a l : Addr) (y : V) (xs : List V), vs = [.ref a, y, .ref l] ∧ H a = some (exo a C none) ∧ H l = some (.lst xs) ∧
  ∀ dx p, H dx = none → H p = none → p ≠ dx → Q .non (upd (upd (upd (upd H dx (exd dx [("made", y)])) a (exo a C (some dx))) p (.lst xs)) dx (exd dx [("rows", .ref p), ("made", y)]))
/-- what is known of the class -/
structure TMCls (K : PySem.W.Frag) (mg : Str → Option Value) (C f : Addr) : Prop where
  ns : PySem.W.nsIn K mainGlobals "TooMany" = some (some (.ref C))
  at_ : mg "TooMany" = some (.ref C)
  ox : OexC K C
  ini : PySem.W.findIn K (.ref C) "__init__" = some (some (.ref f))
  tf : PySem.W.typeIn K (.ref f) = some (.type "function")
structure TMFn (P : Program) (w : World) (K : PySem.W.Frag) (mg : Str → Option Value) (base : Heap) (k : Nat) (C : Addr) : Prop where
  ex : ∃ (f : Addr) (fd : FuncData) (ps : List Str), TMCls K mg C f ∧ FnOk P w K mg base CX0 k f fd ps (spTM K C) ∧ Binds K fd ps []
section
variable {P : Program} {w : World} {K : PySem.W.Frag} {mg : Str → Option Value} {base : Heap}
theorem tm_ok {st : Stmt} {C C0 f : Addr} {fd : FuncData} {k : Nat} {q1 q2 q3 q4 q5 q6 q7 q8 q9 q10 q11 q12 q13 q14 q15 : Pos} {j : Nat} {m : Str} (F : L2.Fun K "__init__" "TooMany.__init__" st f fd) (S : FnScope ["self", "made", "rows"] ["self", "made", "rows"] (defScope st)) (T : TMCls K mg C f)
    (hbd : ∀ (kV doc pm : Value) (an : Option Addr) (cdv ct : Value) (us : List Value), us.length = 3 → bindArgs (PySem.W.fnOf "__init__" "TooMany.__init__" (defArgs st) (defBody st) (defScope st) .none kV doc pm an cdv ct) ⟨us, []⟩ = pure ((["self", "made", "rows"] : List Str).zip us))
    (gC : mg "YardError" = some (.ref C0)) (rd : PySem.W.readsIn K C0 (.type "type") = true) (ga : PySem.W.specialIn K (.ref C0) "__getattribute__" = some (some (.builtin "type.__getattribute__")))
    (fdc : PySem.W.findCls K (.ref C0) (.type "type") "__init__" = some (.val (.builtin "ValueError.__init__"))) (n1 : PySem.W.findIn K (.ref C) "made" = some none) (n2 : PySem.W.findIn K (.ref C) "rows" = some none) (hl : mg "list" = none)
    (body : ∀ (cdv : Value) (A : Around) (outer : List Env) (s : Shared) (H : Hp) (E : XK), PSs (cxOf CX0 P w K mg base ["self", "made", "rows"] "TooMany.__init__" (defScope st) f cdv A outer s H E).nox (defBody st)
      (fun D σ H => ∃ (a l : Addr) (y : V) (xs : List V), σ = start ["self", "made", "rows"] [.ref a, y, .ref l] ∧ H a = some (exo a C none) ∧ H l = some (.lst xs) ∧
        ∀ dx p, H dx = none → H p = none → p ≠ dx → D.nx σ (upd (upd (upd (upd H dx (exd dx [("made", y)])) a (exo a C (some dx))) p (.lst xs)) dx (exd dx [("rows", .ref p), ("made", y)])))) : TMFn P w K mg base (k + 1) C := by
  refine ⟨f, fd, _, T, F.ok S (fun vs H Q E h => ?_) (fun cdv A outer s H vs Q E hr h => ?_), F.binds hbd⟩
  · obtain ⟨a, l, y, xs, rfl, _⟩ := h
    rfl
  · obtain ⟨a, l, y, xs, rfl, h1, h2, h3⟩ := h
    exact ⟨_, body cdv A outer s H E, a, l, y, xs, rfl, h1, h2, h3⟩
end
def kTM (x : DXK) (δ : DSt) (w : Om) : List D → Prop
  | [d, .lst rows] => x "TooMany" [("rows", .lst rows), ("made", d)] δ w
  | _ => False
def dRaiseTM (t : DA) (x : DXK) : DS := fun _ δ w => t δ w fun ds w1 => kTM x δ w1 ds
theorem js_raiseTM {X : Cx} {z : Ent} {pos p p3 : Pos} {C : Addr} {k : Nat} {x : DXK} {t : DA} {e : Expr} {es : List Expr} (T : TMFn X.prog X.w X.K X.mg X.base k C) (tk : Takes X (liftW z x)) (hK : z.K = X.K) (hr : Room (k + 1) X.A) (hc : X.calm = true) (ha : JA X z (e :: es) t) (hg : Gl X "TooMany" := by rfl)
    (he : starEach (e :: es) X.env = (false, eval e X.env) :: starEach es X.env := by rfl) (hpl : (backTo p3 (starEach es X.env)).any (·.1) = false := by rfl) : JS X z (.Raise (some (.Call (.Name "TooMany" p) (e :: es) [] p3)) none pos) (dRaiseTM t x) := by
  obtain ⟨f, fd, ps, K1, F1, B⟩ := T.ex
  refine PS.imp (ps_raise hc tk (pmk_oex K1.ox K1.ini K1.tf F1 hr B .nil pass0 hg K1.at_ ha (by decide) he hpl)) fun D σ H hq => ?_
  obtain ⟨δ, w, F, He, E, R, q, c⟩ := hq
  refine ⟨δ, w, F, He, _, R, q, fun ds w1 q1 vs H1 F1 He1 wd1 st1 r1 => ?_⟩
  unfold kTM at q1
  split at q1
  case h_2 => exact q1.elim
  next d rows =>
  cases r1 with
  | cons rv r1 =>
  next v vs =>
  cases r1 with
  | cons rl r1 =>
  cases r1
  cases rl with
  | @lst l xs _ hl rx =>
  refine ⟨by simp, fun a na => ?_⟩
  have sl := wd1.sf _ _ hl
  have nla : l ≠ a := fun e => by rw [e, na] at sl; cases sl
  refine ⟨a, l, v, xs, rfl, upd_same, by rw [upd_ne nla]; exact sl, fun dx p hdx hp npd => ?_⟩
  have nda : dx ≠ a := fun e => by rw [e, upd_same] at hdx; cases hdx
  have npa : p ≠ a := fun e => by rw [e, upd_same] at hp; cases hp
  rw [upd_ne nda] at hdx
  rw [upd_ne npa] at hp
  refine ⟨rfl, dx, [("rows", .ref p), ("made", v)], ?_, upd_same, hdx, ?_⟩
  · rw [upd_ne (Ne.symm nda), upd_ne (Ne.symm npa), upd_same]
  · have eq : upd (del (upd (upd (upd (upd (upd H1 a (exo a C none)) dx (exd dx [("made", v)])) a (exo a C (some dx))) p (.lst xs)) dx (exd dx [("rows", .ref p), ("made", v)])) a) dx (.xd [("rows", .ref p), ("made", v)]) = upd (upd H1 p (.lst xs)) dx (.xd [("rows", .ref p), ("made", v)]) := by
      funext b
      by_cases h1 : b = dx
      · subst h1; rw [upd_same, upd_same]
      · rw [upd_ne h1, upd_ne h1]
        by_cases h2 : b = a
        · subst h2
          rw [del_same, upd_ne (Ne.symm npa), na]
        · rw [del_ne h2, upd_ne h1]
          by_cases h3 : b = p
          · subst h3; rw [upd_same, upd_same]
          · rw [upd_ne h3, upd_ne h2, upd_ne h1, upd_ne h2, upd_ne h3]
    rw [eq]
    have W1 := wd1.alloc (o := .lst xs) hp
    have n1 := wd1.fnone hp
    have m1 := wd1.henone hp
    have W2 := W1.freeze upd_same n1 m1
    have S2 : Step F1 He1 H1 (upd F1 p (.lst xs)) He1 (upd H1 p (.lst xs)) := (Step.alloc hp).freeze n1 hp
    have hd2 : upd H1 p (.lst xs) dx = none := by rw [upd_ne (Ne.symm npd)]; exact hdx
    have W3 := W2.alloc (o := .xd [("rows", .ref p), ("made", v)]) hd2
    have W4 := W3.freeze upd_same (W2.fnone hd2) (W2.henone hd2)
    have S4 : Step F1 He1 H1 (upd (upd F1 p (.lst xs)) dx (.xd [("rows", .ref p), ("made", v)])) He1 (upd (upd H1 p (.lst xs)) dx (.xd [("rows", .ref p), ("made", v)])) := S2.trans ((Step.alloc hd2).freeze (W2.fnone hd2) hd2)
    refine ⟨δ, w1, _, He1, "TooMany", _, C, R.step W4 (st1.trans S4), rfl, by rw [hK]; exact K1.ns, .inr ⟨dx, _, rfl, upd_same, .cons (.lst (vs := xs) ?_ (rx.mono S4.fz)) (.cons (rv.mono S4.fz) .nil)⟩, q1⟩
    rw [upd_ne npd, upd_same]
end Lv

namespace Lv
open PySem PySem.Spec L2

/-! ### isinstance of a kept exception, its fields -/
/-- what its class must say -/
structure ExcT (K : PySem.W.Frag) (C : Addr) : Prop where
  cl : (PySem.W.clsIn K C).isSome = true
  hd : PySem.W.hasDictIn K C = true
  ga : PySem.W.findIn K (.ref C) "__getattribute__" = some (some (.builtin "BaseException.__getattribute__"))
  gg : PySem.W.findIn K (.ref C) "__getattr__" = some none
  sb : PySem.W.subIn K (.ref C) (.type "BaseException") = some true
  cc : PySem.W.findIn K (.ref C) "__class__" = some (some (.builtin "object.__class__"))
  mo : PySem.W.mroIn K C (.type "object") = some true
structure ExcB (K : PySem.W.Frag) : Prop where
  hn : PySem.W.specialIn K (.builtin "object.__class__") "__get__" = some (some (.builtin "getset_descriptor.__get__"))
  ht : PySem.W.takesIn K (.builtin "object.__class__") = some true
theorem exk_at {P : Program} {W : World} {H : Hp} {h : Heap} {a C : Addr} {d : Option Addr} (ok : HOk P W H h) (e : H a = some (exk a C d)) : ∃ (oe : Obj) (vs : Array Value), h.get? a = some oe ∧ oe.cls = .ref C ∧ oe.dict = d ∧ oe.data = .fields vs := by
  have x : ObjOk P W H h a (.ext fun h => ∃ (oe : Obj) (vs : Array Value), h.get? a = some oe ∧ oe.cls = .ref C ∧ oe.dict = d ∧ oe.data = .fields vs) := ok a _ e
  exact x.1
/-- its dict, where it has one -/
def XDd (H : Hp) (d : Option Addr) : Prop := d = none ∨ ∃ dd vs, d = some dd ∧ H dd = some (.xd vs)
theorem inst_of {X : Cx} {pins : List (Addr × Obj)} {σ : L2.St} {H : Hp} {s : Shared} {a C : Addr} {d : Option Addr} (I : Inv X pins σ H s) (e : H a = some (exk a C d)) (xd : XDd H d) : ∃ ox od, PySem.W.InstAt s.heap a ox C od := by
  obtain ⟨oe, vs, h1, h2, h3, h4⟩ := exk_at I.hok e
  have nc : PySem.W.notCls oe := by unfold PySem.W.notCls; rw [h4] <;> rfl
  rcases xd with rfl | ⟨dd, fs, rfl, hx⟩
  · exact ⟨oe, none, h1, h2, nc, by rw [h3] <;> trivial⟩
  · have ob : ObjOk X.prog X.w H s.heap dd (.xd fs) := I.hok dd _ hx
    obtain ⟨mA, hns, hr⟩ := ob
    obtain ⟨od, ho, _⟩ := lookIn_ns hns
    exact ⟨oe, some od, h1, h2, nc, by rw [h3]; exact ho⟩
def rIsX (K : PySem.W.Frag) : List V → Hp → VK → Prop := fun xs H Q => ∃ (a C : Addr) (d : Option Addr) (c : V) (u : Value) (b : Bool), xs = [.ref a, c] ∧ ClsV c u ∧ H a = some (exk a C d) ∧ XDd H d ∧ ExcT K C ∧ ExcB K ∧ PySem.W.kitOne K (.ref C) u = some b ∧ Q (.bl b) H
def rIsXT (K : PySem.W.Frag) : List V → Hp → VK → Prop := fun xs H Q => ∃ (a C tp : Addr) (d : Option Addr) (cs : List V) (us : List Value) (b : Bool), xs = [.ref a, .ref tp] ∧ H tp = some (.tup cs) ∧ Paired ClsV cs us ∧ H a = some (exk a C d) ∧ XDd H d ∧ ExcT K C ∧ ExcB K ∧ PySem.W.kitAny K (.ref C) us = some b ∧ Q (.bl b) H
section
variable {X : Cx}
theorem call_isX : CallR X (.builtin "isinstance") (rIsX X.K) := by
  intro pins s σ H xs us Q I r h
  obtain ⟨a, C, d, c, u, b, rfl, k, e, xd, T, B, ki, q⟩ := h
  obtain ⟨u1, u2, rfl, r1, r2⟩ := vals2 r
  have e2 := k.eq r2
  subst e2
  cases (show u1 = Value.ref a from r1)
  obtain ⟨ox, od, J⟩ := inst_of I e xd
  exact PySem.W.kia_one (PySem.W.kitx_exc T.cl T.ga T.gg T.sb T.cc B.hn B.ht T.mo) I.kIn J ki (fun z => nomatch z) fun tk => ⟨.bl b, H, I.tok tk, rfl, q⟩
theorem call_isXT : CallR X (.builtin "isinstance") (rIsXT X.K) := by
  intro pins s σ H xs us Q I r h
  obtain ⟨a, C, tp, d, cs, ws, b, rfl, hT, k, e, xd, T, B, ki, q⟩ := h
  obtain ⟨u1, u2, rfl, r1, r2⟩ := vals2 r
  cases (show u2 = Value.ref tp from r2)
  cases (show u1 = Value.ref a from r1)
  obtain ⟨ox, od, J⟩ := inst_of I e xd
  obtain ⟨_, its, rv, ⟨oc, o2, dt, sl⟩, h1, h2, n, h3⟩ := (show ObjOk X.prog X.w H s.heap tp (.tup cs) from I.hok tp _ hT)
  have e3 := ClsV.all k rv
  simp only at h2 h3
  subst e3 h2 h3
  exact PySem.W.kia_tup (PySem.W.kitx_exc T.cl T.ga T.gg T.sb T.cc B.hn B.ht T.mo) I.kIn J h1 ki (fun z => nomatch z) fun tk => ⟨.bl b, H, I.tok tk, rfl, q⟩
end
/-- the class that such a thing names -/
def clsN : D → Option Str
  | .cls c => some c
  | .ty n => if n = "ValueError" then some "ValueError" else none
  | _ => none
/-- what is known of all classes of exceptions here (A: those that are asked for) -/
structure ExI (K : PySem.W.Frag) (L A : List Str) : Prop where
  bs : ExcB K
  ty : ∀ cn C, L.contains cn = true → PySem.W.nsIn K mainGlobals cn = some (some (.ref C)) → ExcT K C
  one : ∀ cn C c b v, subE L cn c = some b → A.contains c = true → PySem.W.nsIn K mainGlobals cn = some (some (.ref C)) → PySem.W.nsIn K mainGlobals c = some (some v) → PySem.W.kitOne K (.ref C) v = some b
  val : ∀ cn C, L.contains cn = true → PySem.W.nsIn K mainGlobals cn = some (some (.ref C)) → PySem.W.kitOne K (.ref C) (.type "ValueError") = some true
theorem DR.excAt {K : PySem.W.Frag} {F H : Hp} {v : V} {cn : Str} {fs : List (Str × D)} (r : DR K F v (.exc cn fs)) (s : Same F H) : ∃ a C d, v = .ref a ∧ H a = some (exk a C d) ∧ XDd H d ∧ PySem.W.nsIn K mainGlobals cn = some (some (.ref C)) := by
  cases r with
  | exc0 h n => exact ⟨_, _, _, rfl, s _ _ h, .inl rfl, n⟩
  | exc1 h n h2 _ => exact ⟨_, _, _, rfl, s _ _ h, .inr ⟨_, _, rfl, s _ _ h2⟩, n⟩
def sAskT (L : List Str) (A : List Str) (cn : Str) : List D → Option Bool
  | [] => some false
  | .cls c :: r => if A.contains c then (subE L cn c).bind fun b => (sAskT L A cn r).map fun b2 => b || b2 else none
  | _ :: _ => none
def sIsiE (L A : List Str) (d e : D) (P : Bool → D → Prop) : Prop := match d with
  | .exc cn _ => match e with
    | .cls c => A.contains c = true ∧ ∃ b, subE L cn c = some b ∧ P false (.bl b)
    | .ty n => n = "ValueError" ∧ L.contains cn = true ∧ P false (.bl true)
    | .tup cs => L.contains cn = true ∧ ∃ b, sAskT L A cn cs = some b ∧ P false (.bl b)
    | _ => False
  | _ => sIsi d e P
def rIsAll (K : PySem.W.Frag) : List V → Hp → VK → Prop := fun xs H Q => rIsi K xs H Q ∨ rIsX K xs H Q ∨ rIsXT K xs H Q
theorem call_isAll {X : Cx} : CallR X (.builtin "isinstance") (rIsAll X.K) := call_isi.or (call_isX.or call_isXT)
theorem ask_ok {K : PySem.W.Frag} {F : Hp} {L A : List Str} (T : ExI K L A) {cn : Str} {C : Addr} (hC : PySem.W.nsIn K mainGlobals cn = some (some (.ref C))) : ∀ {cs : List D} {vs : List V} {b : Bool}, DRs K F vs cs → sAskT L A cn cs = some b → ∃ us, Paired ClsV vs us ∧ PySem.W.kitAny K (.ref C) us = some b
  | [], _, b, r, h => by
    cases r
    cases h
    exact ⟨[], .nil, rfl⟩
  | d :: cs, _, b, r, h => by
    cases r with
    | cons rd r =>
    cases d with
    | cls c =>
      cases rd with
      | cls nc =>
      unfold sAskT at h
      split at h
      · next hA =>
        cases e1 : subE L cn c with
        | none => rw [e1] at h; cases h
        | some b1 =>
          cases e2 : sAskT L A cn cs with
          | none => rw [e1, e2] at h; cases h
          | some b2 =>
            rw [e1, e2] at h
            cases h
            obtain ⟨us, q1, q2⟩ := ask_ok T hC r e2
            refine ⟨_, .cons (.own _) q1, kitAny_cons (T.one _ _ _ _ _ e1 hA hC nc) (fun z => ?_) (fun z => ?_)⟩
            · subst z; simpa using q2
            · subst z; rfl
      · cases h
    | _ => cases h
theorem sem_isiE {z : Ent} {L A : List Str} (T : ExI z.K L A) : Sem2 z (fun x y H Q => rIsAll z.K [x, y] H Q) (sIsiE L A) := fun w F He H x y d e P Q wd dx dy q k => by
  unfold sIsiE at q
  split at q
  · next cn fs =>
    obtain ⟨a, C, dd, rfl, e1, xd, hC⟩ := (dx.plain fun o q => by cases q with | own q => cases q).excAt wd.sf
    split at q
    · next c =>
      obtain ⟨hA, b, e2, q⟩ := q
      have ry := dy.plain fun o q => by cases q with | own q => cases q
      cases ry with
      | cls nc => exact .inr (.inl ⟨a, C, dd, _, _, b, rfl, .own _, e1, xd, T.ty _ _ (by unfold subE at e2; split at e2; assumption; cases e2) hC, T.bs, T.one _ _ _ _ _ e2 hA hC nc, k _ _ q _ H F He wd .refl (.bl _)⟩)
    · next n =>
      obtain ⟨rfl, hL, q⟩ := q
      cases dy.ty
      exact .inr (.inl ⟨a, C, dd, _, _, true, rfl, .ty _, e1, xd, T.ty _ _ hL hC, T.bs, T.val _ _ hL hC, k _ _ q _ H F He wd .refl (.bl _)⟩)
    · next cs =>
      obtain ⟨hL, b, e2, q⟩ := q
      obtain ⟨tp, vs, rfl, ht, rt⟩ := dy.tup wd.sf
      obtain ⟨us, u1, u2⟩ := ask_ok T hC rt e2
      exact .inr (.inr ⟨a, C, tp, dd, vs, us, b, rfl, ht, u1, e1, xd, T.ty _ _ hL hC, T.bs, u2, k _ _ q _ H F He wd .refl (.bl _)⟩)
    · exact q.elim
  · exact .inl (sem_isi w F He H x y d e P Q wd dx dy q k)
/-- a class by its name -/
theorem jx_cls {X : Cx} {z : Ent} {pos : Pos} {cn : Str} {C : Addr} (hK : z.K = X.K) (n : PySem.W.nsIn X.K mainGlobals cn = some (some (.ref C))) (m : X.mg cn = some (.ref C)) (hg : Gl X cn := by rfl) (hd : (cn == ("__debug__" : Str)) = false := by decide) : JX X z (.Name cn pos) (dC (.cls cn)) :=
  jx_c (pe_glob (v := .ref C) hg m rfl hd) fun _ => .cls (by rw [hK]; exact n)

/-! ### e.f of a kept exception -/
def dXFld (f : Str) (t : DO) : DX := fun δ w Q => t δ w fun d w1 => ∃ cn fs x, d = .exc cn fs ∧ cn = "TooMany" ∧ fs.lookup f = some x ∧ Q false x w1
theorem jx_xfld {X : Cx} {z : Ent} {pos : Pos} {f : Str} {C : Addr} {e : Expr} {t : DO} (hK : z.K = X.K) (n : PySem.W.nsIn X.K mainGlobals "TooMany" = some (some (.ref C))) (T : XfC X.K C) (hno : PySem.W.findIn X.K (.ref C) f = some none) (he : JO X z e t) (hb : attributeBase e f X.env (eval e X.env) = eval e X.env := by rfl) : JX X z (.Attribute e f pos) (dXFld f t) := by
  constructor
  intro pins s σ H Q I h
  obtain ⟨δ, w, F, He, P, R, q, k⟩ := h
  refine attr_of hb (thn (he.run pins s σ H (fun v H1 => ∃ a dd vs v1 d w1 F1 He1, v = .ref a ∧ H1 a = some (exk a C (some dd)) ∧ H1 dd = some (.xd vs) ∧ vs.lookup f = some v1 ∧ DR z.K F1 v1 d ∧ P false d w1 ∧ Wd z.K w1 F1 He1 H1 ∧ Step F He H F1 He1 H1) I ⟨δ, w, F, He, _, R, q, fun d w1 q1 v H1 F1 He1 wd st r => ?_⟩) fun u s1 hh => ?_)
  · obtain ⟨cn, fs, x, rfl, rfl, lk, p⟩ := q1
    have rd : DR z.K F1 v (.exc "TooMany" fs) := by
      rcases r with r | ⟨_, _, _, _, _, q⟩
      · exact r
      · cases q
    cases rd with
    | exc0 _ _ => simp at lk
    | @exc1 a C' dd _ vs _ h1 h2 h3 h4 =>
      rw [hK, n] at h2
      cases h2
      have key : ∀ {vs : List (Str × V)} {fs : List (Str × D)}, DFs z.K F1 vs fs → fs.lookup f = some x → ∃ v1, vs.lookup f = some v1 ∧ DR z.K F1 v1 x := by
        intro vs fs h lk
        rcases h.look (f := f) with ⟨_, z2⟩ | ⟨v1, d1, z1, z2, z3⟩
        · rw [z2] at lk; cases lk
        · rw [z2] at lk; cases lk; exact ⟨v1, z1, z3⟩
      obtain ⟨v1, z1, z2⟩ := key h4 lk
      exact ⟨a, dd, vs, v1, x, w1, F1, He1, rfl, wd.sf _ _ h1, wd.sf _ _ h3, z1, z2, p, wd, st⟩
  · obtain ⟨v, H1, I1, rv, a, dd, vs, v1, d, w1, F1, He1, rfl, h1, h2, lk, r1, p, wd, st⟩ := hh
    cases (show u = Value.ref a from rv)
    have hx : ObjOk X.prog X.w H1 s1.heap dd (.xd vs) := I1.hok dd _ h2
    obtain ⟨mA, hns, hr⟩ := hx
    obtain ⟨od, ho, hl⟩ := lookIn_ns hns
    obtain ⟨u, hu, ru⟩ := RelO.some_of (v := v1) (o := mA f) (by rw [← lk]; exact hr f)
    obtain ⟨oe, fv, g1, g2, g3, g4⟩ := exk_at I1.hok h1
    have J : PySem.W.InstAt s1.heap a oe C (some od) := ⟨g1, g2, by unfold PySem.W.notCls; rw [g4] <;> rfl, by rw [g3]; exact ho⟩
    exact HandSPX.exc_get I1.kIn J T.ga T.gg T.exC (PySem.W.findObj_own T.hdC hno rfl (by rw [hl, hu])) (handed_of ru) ⟨v1, H1, I1.tok _, ru, k _ _ _ p v1 H1 F1 He1 wd st r1⟩
end Lv

namespace Lv
open PySem PySem.Spec L2

/-! ### the classes of exceptions, all of them at once -/
def EXN : List Str := ["NoWord", "TooLong", "NoOrder", "TooMany", "TooGreat"]
def XN : List Str := ["NoWord", "TooLong", "NoOrder", "TooMany", "TooGreat", "YardError"]
structure XOne (K : PySem.W.Frag) (cn : Str) (C : Addr) : Prop where
  ns : PySem.W.nsIn K mainGlobals cn = some (some (.ref C))
  cl : PySem.W.isClsIn K C = true
  ty : PySem.W.typeIn K (.ref C) = some (.type "type")
  sb : PySem.W.subIn K (.ref C) (.type "BaseException") = some true
  sv : PySem.W.subIn K (.ref C) (.type "ValueError") = some true
  hd : PySem.W.hasDictIn K C = true
  ga : PySem.W.findIn K (.ref C) "__getattribute__" = some (some (.builtin "BaseException.__getattribute__"))
  gg : PySem.W.findIn K (.ref C) "__getattr__" = some none
  cc : PySem.W.findIn K (.ref C) "__class__" = some (some (.builtin "object.__class__"))
  mo : PySem.W.mroIn K C (.type "object") = some true
theorem XOne.t {K : PySem.W.Frag} {cn : Str} {C : Addr} (o : XOne K cn C) : ExcT K C := ⟨o.cl, o.hd, o.ga, o.gg, o.sb, o.cc, o.mo⟩
structure XRow (K : PySem.W.Frag) (c c1 c2 c3 c4 c5 c0 : Addr) (b1 b2 b3 b4 b5 : Bool) : Prop where
  s1 : PySem.W.subIn K (.ref c) (.ref c1) = some b1
  s2 : PySem.W.subIn K (.ref c) (.ref c2) = some b2
  s3 : PySem.W.subIn K (.ref c) (.ref c3) = some b3
  s4 : PySem.W.subIn K (.ref c) (.ref c4) = some b4
  s5 : PySem.W.subIn K (.ref c) (.ref c5) = some b5
  s0 : PySem.W.subIn K (.ref c) (.ref c0) = some true
structure XTab (K : PySem.W.Frag) (c1 c2 c3 c4 c5 c0 : Addr) : Prop where
  o1 : XOne K "NoWord" c1
  o2 : XOne K "TooLong" c2
  o3 : XOne K "NoOrder" c3
  o4 : XOne K "TooMany" c4
  o5 : XOne K "TooGreat" c5
  o0 : XOne K "YardError" c0
  r1 : XRow K c1 c1 c2 c3 c4 c5 c0 true false false false false
  r2 : XRow K c2 c1 c2 c3 c4 c5 c0 false true false false false
  r3 : XRow K c3 c1 c2 c3 c4 c5 c0 false false true false false
  r4 : XRow K c4 c1 c2 c3 c4 c5 c0 false false false true false
  r5 : XRow K c5 c1 c2 c3 c4 c5 c0 false false false false true
  bs : ExcB K
section
variable {K : PySem.W.Frag} {c1 c2 c3 c4 c5 c0 : Addr}
/-- one of the five, at C -/
inductive Which (c1 c2 c3 c4 c5 : Addr) : Str → Addr → Prop
  | w1 : Which c1 c2 c3 c4 c5 "NoWord" c1
  | w2 : Which c1 c2 c3 c4 c5 "TooLong" c2
  | w3 : Which c1 c2 c3 c4 c5 "NoOrder" c3
  | w4 : Which c1 c2 c3 c4 c5 "TooMany" c4
  | w5 : Which c1 c2 c3 c4 c5 "TooGreat" c5
theorem XTab.which (T : XTab K c1 c2 c3 c4 c5 c0) {cn : Str} {C : Addr} (h : EXN.contains cn = true) (n : PySem.W.nsIn K mainGlobals cn = some (some (.ref C))) : Which c1 c2 c3 c4 c5 cn C := by
  have hm : cn ∈ EXN := by simpa using h
  simp only [EXN, List.mem_cons, List.not_mem_nil, or_false] at hm
  rcases hm with rfl | rfl | rfl | rfl | rfl
  · rw [T.o1.ns] at n; cases n; exact .w1
  · rw [T.o2.ns] at n; cases n; exact .w2
  · rw [T.o3.ns] at n; cases n; exact .w3
  · rw [T.o4.ns] at n; cases n; exact .w4
  · rw [T.o5.ns] at n; cases n; exact .w5
theorem XTab.one (T : XTab K c1 c2 c3 c4 c5 c0) {cn : Str} {C : Addr} (w : Which c1 c2 c3 c4 c5 cn C) : XOne K cn C := by
  cases w
  · exact T.o1
  · exact T.o2
  · exact T.o3
  · exact T.o4
  · exact T.o5
/-- a class among the six -/
inductive Which6 (c1 c2 c3 c4 c5 c0 : Addr) : Str → Addr → Prop
  | five {c : Str} {D : Addr} (w : Which c1 c2 c3 c4 c5 c D) : Which6 c1 c2 c3 c4 c5 c0 c D
  | w0 : Which6 c1 c2 c3 c4 c5 c0 "YardError" c0
theorem XTab.which6 (T : XTab K c1 c2 c3 c4 c5 c0) {c : Str} {v : Value} (h : XN.contains c = true) (n : PySem.W.nsIn K mainGlobals c = some (some v)) : ∃ D, v = .ref D ∧ Which6 c1 c2 c3 c4 c5 c0 c D := by
  have hm : c ∈ XN := by simpa using h
  simp only [XN, List.mem_cons, List.not_mem_nil, or_false] at hm
  rcases hm with rfl | rfl | rfl | rfl | rfl | rfl
  · rw [T.o1.ns] at n; cases n; exact ⟨_, rfl, .five .w1⟩
  · rw [T.o2.ns] at n; cases n; exact ⟨_, rfl, .five .w2⟩
  · rw [T.o3.ns] at n; cases n; exact ⟨_, rfl, .five .w3⟩
  · rw [T.o4.ns] at n; cases n; exact ⟨_, rfl, .five .w4⟩
  · rw [T.o5.ns] at n; cases n; exact ⟨_, rfl, .five .w5⟩
  · rw [T.o0.ns] at n; cases n; exact ⟨_, rfl, .w0⟩
theorem XTab.one6 (T : XTab K c1 c2 c3 c4 c5 c0) {c : Str} {D : Addr} (w : Which6 c1 c2 c3 c4 c5 c0 c D) : XOne K c D := by
  cases w with
  | five w => exact T.one w
  | w0 => exact T.o0
theorem XTab.sub (T : XTab K c1 c2 c3 c4 c5 c0) {cn c : Str} {C D : Addr} {b : Bool} (w : Which c1 c2 c3 c4 c5 cn C) (w' : Which6 c1 c2 c3 c4 c5 c0 c D) (e : subE EXN cn c = some b) : PySem.W.subIn K (.ref C) (.ref D) = some b := by
  have key : ∀ {b' : Bool}, PySem.W.subIn K (.ref C) (.ref D) = some b' → subE EXN cn c = some b' → PySem.W.subIn K (.ref C) (.ref D) = some b := fun h1 h2 => by rw [h2] at e; cases e; exact h1
  cases w <;> cases w' <;> (try rename_i w2; cases w2) <;> first
    | exact key T.r1.s1 (by decide +kernel) | exact key T.r1.s2 (by decide +kernel) | exact key T.r1.s3 (by decide +kernel) | exact key T.r1.s4 (by decide +kernel) | exact key T.r1.s5 (by decide +kernel) | exact key T.r1.s0 (by decide +kernel)
    | exact key T.r2.s1 (by decide +kernel) | exact key T.r2.s2 (by decide +kernel) | exact key T.r2.s3 (by decide +kernel) | exact key T.r2.s4 (by decide +kernel) | exact key T.r2.s5 (by decide +kernel) | exact key T.r2.s0 (by decide +kernel)
    | exact key T.r3.s1 (by decide +kernel) | exact key T.r3.s2 (by decide +kernel) | exact key T.r3.s3 (by decide +kernel) | exact key T.r3.s4 (by decide +kernel) | exact key T.r3.s5 (by decide +kernel) | exact key T.r3.s0 (by decide +kernel)
    | exact key T.r4.s1 (by decide +kernel) | exact key T.r4.s2 (by decide +kernel) | exact key T.r4.s3 (by decide +kernel) | exact key T.r4.s4 (by decide +kernel) | exact key T.r4.s5 (by decide +kernel) | exact key T.r4.s0 (by decide +kernel)
    | exact key T.r5.s1 (by decide +kernel) | exact key T.r5.s2 (by decide +kernel) | exact key T.r5.s3 (by decide +kernel) | exact key T.r5.s4 (by decide +kernel) | exact key T.r5.s5 (by decide +kernel) | exact key T.r5.s0 (by decide +kernel)
theorem subE_mem {L : List Str} {cn c : Str} {b : Bool} (e : subE L cn c = some b) : L.contains cn = true := by
  unfold subE at e
  split at e
  · assumption
  · cases e
theorem kitOne_of {C D : Addr} {b : Bool} (cl : PySem.W.isClsIn K D = true) (ty : PySem.W.typeIn K (.ref D) = some (.type "type")) (s : PySem.W.subIn K (.ref C) (.ref D) = some b) (ss : PySem.W.subIn K (.ref C) (.ref C) = some true) : PySem.W.kitOne K (.ref C) (.ref D) = some b := by
  unfold PySem.W.kitOne
  split
  · next h =>
    have e : C = D := Value.ref.inj (beq_iff_eq.mp h)
    subst e
    rw [ss] at s
    exact s
  · have e2 : ((PySem.W.clsIn K D).isSome && PySem.W.typeIn K (.ref D) == some (.type "type")) = true := by rw [show (PySem.W.clsIn K D).isSome = true from cl, ty] <;> rfl
    show (if ((PySem.W.clsIn K D).isSome && PySem.W.typeIn K (.ref D) == some (.type "type")) = true then PySem.W.subIn K (.ref C) (.ref D) else none) = some b
    rw [if_pos e2]
    exact s
theorem XTab.self (T : XTab K c1 c2 c3 c4 c5 c0) {cn : Str} {C : Addr} (w : Which c1 c2 c3 c4 c5 cn C) : PySem.W.subIn K (.ref C) (.ref C) = some true := by
  cases w
  · exact T.r1.s1
  · exact T.r2.s2
  · exact T.r3.s3
  · exact T.r4.s4
  · exact T.r5.s5
theorem kitMeta_VE : PySem.W.kitMeta "ValueError" = true := by decide +kernel
theorem XTab.exi (T : XTab K c1 c2 c3 c4 c5 c0) : ExI K EXN XN where
  bs := T.bs
  ty := fun cn C h n => (T.one (T.which h n)).t
  one := fun cn C c b v e hA n m => by
    obtain ⟨D, rfl, w'⟩ := T.which6 hA m
    have w := T.which (subE_mem e) n
    have o := T.one6 w'
    exact kitOne_of o.cl o.ty (T.sub w w' e) (T.self w)
  val := fun cn C h n => by
    have o := T.one (T.which h n)
    have e : PySem.W.kitCls K (.ref C) (.type "ValueError") = some true := by
      show (if PySem.W.kitMeta "ValueError" = true then PySem.W.subIn K (.ref C) (.type "ValueError") else none) = some true
      rw [if_pos kitMeta_VE]
      exact o.sv
    unfold PySem.W.kitOne
    split
    · rfl
    · exact e
theorem XTab.mt (T : XTab K c1 c2 c3 c4 c5 c0) {c : Str} {D : Addr} (w' : Which6 c1 c2 c3 c4 c5 c0 c D) : ∀ cn C b, subE EXN cn c = some b → PySem.W.nsIn K mainGlobals cn = some (some (.ref C)) → PySem.W.exmOne K (.ref C) (.ref D) = some b := fun cn C b e n => by
  have o := T.one6 w'
  have w := T.which (subE_mem e) n
  exact PySem.W.exm_ref o.sb o.hd o.ty (T.sub w w' e)
end
end Lv

namespace Lv
open PySem PySem.Spec L2

/-! ### one of two readings -/
def dOrX (t u : DX) : DX := fun δ w Q => t δ w Q ∨ u δ w Q
section
variable {X : Cx} {z : Ent} {pos : Pos}
theorem jx_or2 {e : Expr} {t u : DX} (h : JX X z e t) (g : JX X z e u) : JX X z e (dOrX t u) := by
  constructor
  intro pins s σ H Q I ⟨δ, w, F, He, P, R, q, k⟩
  rcases q with q | q
  · exact h.run pins s σ H Q I ⟨δ, w, F, He, P, R, q, k⟩
  · exact g.run pins s σ H Q I ⟨δ, w, F, He, P, R, q, k⟩

/-! ### C() of a class that has no __init__ -/
structure Mk0 (K : PySem.W.Frag) (mg : Str → Option Value) (cn : Str) (C : Addr) : Prop where
  ns : PySem.W.nsIn K mainGlobals cn = some (some (.ref C))
  at_ : mg cn = some (.ref C)
  makes : PySem.W.makesIn K C = true
  init : PySem.W.findIn K (.ref C) "__init__" = some (some (.builtin "object.__init__"))
  kp : PySem.W.keepIn K (.ref C) = true
def tMk0 (C : Addr) : TE := fun _ H Q => ∀ x dx, H x = none → H dx = none → dx ≠ x → Q (.ref x) (upd (upd H dx (.own x)) x (.ins C dx []))
theorem pe_mk0 {cn : Str} {C : Addr} {p : Pos} (M : Mk0 X.K X.mg cn C) (hg : Gl X cn) (hdb : (cn == ("__debug__" : Str)) = false := by decide) : PE X (.Call (.Name cn p) [] [] pos) (tMk0 C) := by
  constructor
  intro pins s σ H Q I h
  refine wpAny_Call_Name_kw (ld_glob I hg M.at_ ?_ hdb)
  refine PySem.W.callWith_K0 I.kIn M.kp ?_
  have hq := h (s.heap.objs.size + 1) s.heap.objs.size (I.hok.fresh (Nat.le_succ _)) (I.hok.fresh (Nat.le_refl _)) (Nat.ne_of_lt (Nat.lt_succ_self _))
  have I2 := Inv.made (C := C) I
  obtain ⟨hh, g, d, t, os⟩ := s
  refine wpAny_call (make_map0 I.kIn M.makes M.init (fun self => PySem.W.Looks.of_pure (PySem.W.oi_bind self)) ?_)
  have e0 : ((hh.push PySem.W.emptyDict).push (PySem.W.instObj C hh.objs.size)).get? (hh.objs.size + 1) = some (PySem.W.instObj C hh.objs.size) := by heap_get
  have Y := PySem.W.makes_of (M := model X.prog X.w) I.kIn M.makes
  have t1 : PySem.W.Looks (model X.prog X.w) ((hh.push PySem.W.emptyDict).push (PySem.W.instObj C hh.objs.size)) (typeOf (.ref (hh.objs.size + 1))) (.ref C) := (PySem.W.Looks.ld e0).andThen .now
  have t2 : PySem.W.Looks (model X.prog X.w) ((hh.push PySem.W.emptyDict).push (PySem.W.instObj C hh.objs.size)) (isInstance (.ref (hh.objs.size + 1)) (.type "object")) true := t1.andThen (Y.top.keeps fun b o e => Heap.get?_push_of_some _ (Heap.get?_push_of_some _ e))
  refine codeAny_call_builtin PySem.W.oi_plain PySem.W.entry_oi (@PySem.W.check_slot (model X.prog X.w) _ _ _ "object.__init__" "object" "__init__" (.ref (hh.objs.size + 1)) [] [] _ PySem.W.oi_kind PySem.W.oi_split t2 (PySem.W.oi_args (.ref (hh.objs.size + 1))) ?_)
  rw [PySem.W.oi_run]
  exact wpAny_pure (And.intro rfl ⟨V.ref (hh.objs.size + 1), _, I2, rfl, hq⟩)
def dNew (cn : Str) : DX := fun _ w Q => ∀ x, w x = none → Q false (.ref x) (updW w x (.ins cn []))
theorem jx_new {cn : Str} {C : Addr} {p : Pos} (M : Mk0 X.K X.mg cn C) (hK : z.K = X.K) (hg : Gl X cn := by rfl) (hdb : (cn == ("__debug__" : Str)) = false := by decide) : JX X z (.Call (.Name cn p) [] [] pos) (dNew cn) := PE.imp (pe_mk0 M hg hdb) fun σ H Q ⟨δ, w, F, He, P, R, q, k⟩ x dx hx hdx hne => by
  have wd1 := R.wd
  have m := wd1.henone hx
  have md := wd1.henone hdx
  have n := wd1.fnone hx
  have nd := wd1.fnone hdx
  have h1 : (upd H dx (.own x)) x = none := by rw [upd_ne (Ne.symm hne)]; exact hx
  have wd2 : Wd z.K (updW w x (.ins cn [])) F (upd (upd He dx (.own x)) x (.ins C dx [])) (upd (upd H dx (.own x)) x (.ins C dx [])) := by
    refine ⟨((wd1.alloc hdx).alloc h1).sf, fun b u e => ?_, fun b u e => ?_, ⟨fun b c e => ?_, fun b e => ?_⟩⟩
    · by_cases hb : b = x
      · subst hb; rw [upd_same] at e ⊢; exact e
      · rw [upd_ne hb] at e ⊢
        by_cases hb2 : b = dx
        · subst hb2; rw [upd_same] at e ⊢; exact e
        · rw [upd_ne hb2] at e ⊢; exact wd1.sh b u e
    · by_cases hb : b = x
      · subst hb; exact n
      · rw [upd_ne hb] at e
        by_cases hb2 : b = dx
        · subst hb2; exact nd
        · rw [upd_ne hb2] at e; exact wd1.dj b u e
    · by_cases hb : b = x
      · subst hb
        rw [updW_same] at e
        cases e
        exact ⟨_, upd_same, .ins (by rw [hK]; exact M.ns) (by rw [upd_ne hne, upd_same]) .nil⟩
      · rw [updW_ne hb] at e
        obtain ⟨o, g1, g2⟩ := wd1.ex.some_ b c e
        have hb2 : b ≠ dx := fun z => by subst z; rw [md] at g1; cases g1
        refine ⟨o, by rw [upd_ne hb, upd_ne hb2]; exact g1, g2.other fun d p e => ?_⟩
        rw [upd_ne (ne_of_none e m), upd_ne (ne_of_none e md)]
        exact e
    · have hb : b ≠ x := fun z => by subst z; rw [updW_same] at e; cases e
      rw [updW_ne hb] at e
      rw [upd_ne hb]
      by_cases hb2 : b = dx
      · subst hb2; exact .inr ⟨x, upd_same⟩
      · rw [upd_ne hb2]; exact wd1.ex.none_ b e
  have st2 : Step F He H F (upd (upd He dx (.own x)) x (.ins C dx [])) (upd (upd H dx (.own x)) x (.ins C dx [])) :=
    (Step.name (Step.name (((Step.alloc hdx).trans (Step.alloc h1))) hdx) hx)
  exact k _ _ _ (q x (wd1.none_of m)) _ _ F _ wd2 st2 (.ref x)

/-! ### isinstance of an instance -/
def dIsiI (c : Str) (ib : Str → Option Bool) (t : DO) : DX := fun δ w Q => t δ w fun d w1 => ∃ a cn fs b, d = .ref a ∧ w1 a = some (.ins cn fs) ∧ ib cn = some b ∧ Q false (.bl b) w1

/-! ### a def with defaults; it may raise -/
structure FnXD (P : Program) (w : World) (K : PySem.W.Frag) (mg : Str → Option Value) (base : Heap) (k : Nat) (x : Str) (n : Nat) (dv : V) (T : DSpX) : Prop where
  ex : ∃ (f : Addr) (fd : FuncData) (ps : List Str) (ds : List Value), FnOk P w K mg base (L2.CX P w) k f fd ps (toSpX K T) ∧ mg x = some (.ref f) ∧ PySem.W.keepIn K (.ref f) = true ∧ Binds K fd ps [] ∧ Vals [dv] ds ∧ Binds K fd ps ds ∧ ps.length = n + 1
theorem FnXD.mono {P : Program} {w : World} {K : PySem.W.Frag} {mg : Str → Option Value} {base : Heap} {j k n : Nat} {x : Str} {dv : V} {T : DSpX} (F : FnXD P w K mg base j x n dv T) (h : j ≤ k) : FnXD P w K mg base k x n dv T :=
  let ⟨f, fd, ps, ds, a, b⟩ := F.ex; ⟨f, fd, ps, ds, a.mono h, b⟩
theorem FnXD.fnx {P : Program} {w : World} {K : PySem.W.Frag} {mg : Str → Option Value} {base : Heap} {k n : Nat} {x : Str} {dv : V} {T : DSpX} (F : FnXD P w K mg base k x n dv T) : FnX P w K mg base k x T :=
  let ⟨f, fd, ps, ds, a, b, c, d, _⟩ := F.ex; ⟨f, fd, ps, a, b, c, d⟩
def tCallSD (sp : Sp) (dvs : List V) (E : St → XK) (t : TA) : TE := fun σ H Q => t σ H fun vs H1 => sp (vs ++ dvs) H1 Q (E σ)
theorem pe_callSD {CX : CXT} {k : Nat} {f : Addr} {fd : FuncData} {ps : List Str} {sp : Sp} {E : St → XK} {x : Str} {p : Pos} {e : Expr} {es : List Expr} {t : TA} {ds : List Value} {dvs : List V} (F : FnOk X.prog X.w X.K X.mg X.base CX k f fd ps sp) (hr : Room k X.A) (hg : Gl X x) (hm : X.mg x = some (.ref f)) (hk : PySem.W.keepIn X.K (.ref f) = true) (hb : Binds X.K fd ps ds) (hd : Vals dvs ds) (hx : ∀ σ, PassesAt CX X σ (E σ))
    (ha : PA X (e :: es) t) (hdb : (x == ("__debug__" : Str)) = false := by decide) (he : starEach (e :: es) X.env = (false, eval e X.env) :: starEach es X.env := by rfl) (hpl : (backTo pos (starEach es X.env)).any (·.1) = false := by rfl) :
    PE X (.Call (.Name x p) (e :: es) [] pos) (tCallSD sp dvs E t) := by
  constructor
  intro pins s σ H Q I h
  refine wpAny_Call_Name_kw (ld_glob I hg hm ?_ hdb)
  refine PySem.W.callWith_K (h₀ := X.base) I.ok.mod.kin hk (thn (ha.run pos pins s σ H _ I h) fun us s1 hq => ?_) he hpl
  obtain ⟨vs, H1, I1, r, q⟩ := hq
  have r2 : Vals (vs ++ dvs) (us ++ ds) := r.append hd
  have hl : (us ++ ds).length = ps.length := by rw [← r2.length]; exact F.len _ _ _ _ q
  refine ⟨I1.kIn, wpAny_call (codeAny_mono (F.run X.A X.stack s1 H1 ⟨us, []⟩ _ _ Q (E σ) hr I1.env0 (hb s1 us I1.kIn hl) r2 q) fun r s' hq => ?_)⟩
  match r, hq with
  | .error e, hq => exact hx σ pins H1 s1 e s' I1 hq
  | .ok (.ret u), hq => exact I1.after hq
  | .ok .next, hq => exact False.elim hq
  | .ok .brk, hq => exact False.elim hq
  | .ok .cont, hq => exact False.elim hq
def dCallXD (T : DSpX) (dd : D) (x : DXK) (t : DA) : DX := fun δ w Q => t δ w fun ds w1 => T (ds ++ [dd]) w1 Q fun cn fs w2 => x cn fs δ w2
theorem callXD_lift {T : DSpX} {x : DXK} {t : DA} {dd : D} {dv : V} {σ : L2.St} {H : Hp} {Q : VK} {K : PySem.W.Frag} (hK : z.K = K) (rd : ∀ F, DR K F dv dd) (h : liftX z (dCallXD T dd x t) σ H Q) : tCallSD (toSpX K T) [dv] (WE (liftW z x)) (liftA z t) σ H Q := by
  subst hK
  obtain ⟨δ, w, F, He, P, R, q, k⟩ := h
  refine ⟨δ, w, F, He, _, R, q, fun ds w1 q1 vs H1 F1 He1 wd1 st1 r1 => ?_⟩
  refine ⟨ds ++ [dd], w1, F1, He1, P, _, wd1, r1.append (.cons (rd F1) .nil), q1, fun b d w' p v H' F' He' wd st r => k b d w' p v H' F' He' wd (st1.trans st) (r.base st1), fun cn fs w' p C d H' F' He' wd st n xd => ?_⟩
  exact ⟨δ, w', F', He', cn, fs, C, R.step wd (st1.trans st), rfl, n, xd, p⟩
theorem jx_callXD {k n : Nat} {T : DSpX} {xx : DXK} {t : DA} {x : Str} {p : Pos} {e : Expr} {es : List Expr} {dv : V} {dd : D} (f : FnXD X.prog X.w X.K X.mg X.base k x n dv T) (rd : ∀ F, DR X.K F dv dd) (tk : Takes X (liftW z xx)) (hK : z.K = X.K) (hr : Room k X.A) (ha : JA X z (e :: es) t) (hg : Gl X x := by rfl)
    (hdb : (x == ("__debug__" : Str)) = false := by decide) (he : starEach (e :: es) X.env = (false, eval e X.env) :: starEach es X.env := by rfl) (hpl : (backTo pos (starEach es X.env)).any (·.1) = false := by rfl) : JX X z (.Call (.Name x p) (e :: es) [] pos) (dCallXD T dd xx t) := by
  obtain ⟨fa, fd, ps, dss, a, b, c, _, d1, d2, _⟩ := f.ex
  exact PE.imp (pe_callSD a hr hg b c d2 d1 (fun σ => passAt tk σ) ha hdb he hpl) fun σ H Q h => callXD_lift hK rd h
end
section
variable {P : Program} {w : World} {K : PySem.W.Frag} {mg : Str → Option Value} {base : Heap}
theorem fnXD_ok {T : DSpX} {x qual : Str} {st : Stmt} {f : Addr} {fd : FuncData} {N ps : List Str} {k n : Nat} {dv : V} (F : FunD K x qual (defArgs st) (defBody st) (defScope st) [dv] [] f fd) (S : FnScope N ps (defScope st)) (hm : mg x = some (.ref f)) (hn : ps.length = n + 1)
    (hb0 : ∀ (T : Addr) (kV doc pm : Value) (an : Option Addr) (cdv ct : Value) (us its : List Value), us.length = n + 1 → its.length = 1 →
      ∃ k, bindArgs (PySem.W.fnOf x qual (defArgs st) (defBody st) (defScope st) (.ref T) kV doc pm an cdv ct) ⟨us, []⟩ = seqItems? (.ref T) >>= k ∧ k (some its.toArray) = pure (ps.zip (us ++ its.drop 1)))
    (hb1 : ∀ (T : Addr) (kV doc pm : Value) (an : Option Addr) (cdv ct : Value) (us its : List Value), us.length = n → its.length = 1 →
      ∃ k, bindArgs (PySem.W.fnOf x qual (defArgs st) (defBody st) (defScope st) (.ref T) kV doc pm an cdv ct) ⟨us, []⟩ = seqItems? (.ref T) >>= k ∧ k (some its.toArray) = pure (ps.zip (us ++ its.drop 0)))
    (len : ∀ ds w P Px, T ds w P Px → ds.length = ps.length)
    (h : ∃ tb : Om → DXK → DS, (∀ (cdv : Value) (A : Around) (outer : List Env) (s : Shared) (H F0 He0 : Hp) (w0 : Om) (rep0 : rep K w0 F0 He0) (E : XK) (y : DXK), Room k (A.deeper (PyProof.Rows.envOfC qual (defScope st) s.heap.objs.size f cdv)) →
        Takes (cxOf (L2.CX P w) P w K mg base N qual (defScope st) f cdv A outer s H E) (liftW ⟨K, F0, He0, H, w0, rep0⟩ y) → JSs (cxOf (L2.CX P w) P w K mg base N qual (defScope st) f cdv A outer s H E) ⟨K, F0, He0, H, w0, rep0⟩ (defBody st) (tb w0 y)) ∧
      ∀ ds w P Px, T ds w P Px → tb w (xDef Px) { nx := fun _ w => P false .non w, rt := P } (startD N ds) w) : FnXD P w K mg base (k + 1) x n dv T := by
  obtain ⟨tb, hb, hT⟩ := h
  obtain ⟨d0, e0, B0⟩ := F.binds1 (ps := ps) (n + 1) 1 (by simp) (by simp [hn]) hb0
  obtain ⟨d1, e1, B1⟩ := F.binds1 (ps := ps) n 0 (by simp) (by simp [hn]) hb1
  cases e0
  refine ⟨f, fd, ps, d1, F.ok S (fun vs H Q E h => ?_) (fun cdv A outer s H vs Q E hr h => ?_), hm, F.kp, B0, e1, B1, hn⟩
  · obtain ⟨ds, w, F, He, P, Px, _, r, q, _⟩ := h
    rw [r.length]
    exact len _ _ _ _ q
  · obtain ⟨ds, w, F, He, P, Px, wd, r, q, k, kx⟩ := h
    refine ⟨_, hb cdv A outer s H F He w wd.ex E (xDef Px) hr ((takes_of rfl rfl rfl rfl).imp fun cls d σ1 H1 hw => ?_), startD N ds, w, F, He, _, rel_start wd r, hT ds w P Px q, ?_⟩
    · obtain ⟨δ1, w1, F1, He1, cn, fs, C, R1, rfl, hC, xd, p⟩ := hw
      exact kx cn fs w1 p C d H1 F1 He1 R1.wd R1.st hC xd
    · exact ⟨fun δ w' F' He' σ H' p R _ => k _ _ _ p .non H' F' He' R.wd R.st .non, fun b d w' p v H' F' He' wd' st' rr => k b d w' p v H' F' He' wd' st' rr, fun _ _ _ _ _ _ p => p.elim, fun _ _ _ _ _ _ p => p.elim⟩
/-- what a def has brought into the world beside is forgotten, also where it raises -/
def dBackX (w0 : Om) (t : DXK → DS) (x : DXK) : DS := fun E δ w => t (fun cn fs δ w => x cn fs δ (back w0 w)) { E with nx := fun δ w => E.nx δ (back w0 w), rt := fun b d w => E.rt b d (back w0 w) } δ w
theorem jss_backX {X : Cx} {z : Ent} {st : List Stmt} {t : DXK → DS} {x : DXK} (tk : Takes X (liftW z x)) (h : ∀ y, Takes X (liftW z y) → JSs X z st (t y)) : JSs X z st (dBackX z.w0 t x) := by
  have tk2 : Takes X (liftW z fun cn fs δ w => x cn fs δ (back z.w0 w)) := tk.imp fun cls d σ H hw => by
    obtain ⟨δ, w, F, He, cn, fs, C, R, e, n, xd, p⟩ := hw
    obtain ⟨He2, wd2, sub⟩ := R.wd.back (w0 := z.w0)
    refine ⟨δ, _, F, He2, cn, fs, C, ⟨wd2, R.st.sub sub, R.len, fun i sl e => ?_, R.inj⟩, e, n, xd, p⟩
    obtain ⟨u, hu, q'⟩ := R.sl i sl e
    refine ⟨u, hu, ?_⟩
    match sl, q' with
    | none, _ => exact True.intro
    | some (false, d), q' => exact q'
    | some (true, d), ⟨c, o, ec, hc, nc, mc, fc, rc⟩ => exact ⟨c, o, ec, hc, nc, Classical.byContradiction fun z => sub c z mc, fc, rc⟩
  exact PSs.imp (jss_back (h _ tk2)) fun Dn σ H q => q
end
/-- where the classes of exceptions stand for the program -/
structure XMg (K : PySem.W.Frag) (mg : Str → Option Value) (c1 c2 c3 c4 c5 c0 : Addr) : Prop where
  m1 : mg "NoWord" = some (.ref c1)
  m2 : mg "TooLong" = some (.ref c2)
  m3 : mg "NoOrder" = some (.ref c3)
  m4 : mg "TooMany" = some (.ref c4)
  m5 : mg "TooGreat" = some (.ref c5)
  m0 : mg "YardError" = some (.ref c0)
  k1 : PySem.W.keepIn K (.ref c1) = true
  k2 : PySem.W.keepIn K (.ref c2) = true
  k3 : PySem.W.keepIn K (.ref c3) = true
  k5 : PySem.W.keepIn K (.ref c5) = true
  q1 : PySem.W.excIn K c1 [.type "ValueError", .type "Exception", .type "BaseException", .type "object"] "ValueError.__new__" = true
  q2 : PySem.W.excIn K c2 [.type "ValueError", .type "Exception", .type "BaseException", .type "object"] "ValueError.__new__" = true
  q3 : PySem.W.excIn K c3 [.type "ValueError", .type "Exception", .type "BaseException", .type "object"] "ValueError.__new__" = true
  q5 : PySem.W.excIn K c5 [.type "ValueError", .type "Exception", .type "BaseException", .type "object"] "ValueError.__new__" = true
  n1 : PySem.W.findIn K (.ref c4) "made" = some none
  n2 : PySem.W.findIn K (.ref c4) "rows" = some none
end Lv

namespace Lv
open PySem PySem.Spec L2
/-- a def with one default as the top has left it -/
structure TopFnD (K : PySem.W.Frag) (mg : Str → Option Value) (x qual : Str) (st : Stmt) (dv : V) (f : Addr) (fd : FuncData) : Prop where
  fn : FunD K x qual (defArgs st) (defBody st) (defScope st) [dv] [] f fd
  at_ : mg x = some (.ref f)
theorem topfnD {K : PySem.W.Frag} {h : Heap} {mg : Str → Option Value} {x : Str} {st : Stmt} {f dT : Addr} {oc : Value} {od an : Option Addr} {osl : Array (Option Value)} {kV dc pm cd ct u : Value} {dv : V} {dtc : Value} {dtd : Option Addr} {dtn : Nat} {dts : Array (Option Value)} (X : K.In h) (G : h.Ns mainGlobals mg) (r : RelV dv u)
    (a : PySem.W.nsIn K mainGlobals x = some (some (.ref f))) (l : K.lookup f = some ⟨oc, od, .func (PySem.W.fnOf x x (defArgs st) (defBody st) (defScope st) (.ref dT) kV dc pm an cd ct), osl⟩) (lT : K.lookup dT = some ⟨dtc, dtd, .seq #[u] dtn, dts⟩) (c : PySem.W.codeIn K cd x = true) (k : PySem.W.keepIn K (.ref f) = true) :
    TopFnD K mg x x st dv f (PySem.W.fnOf x x (defArgs st) (defBody st) (defScope st) (.ref dT) kV dc pm an cd ct) :=
  ⟨⟨⟨oc, od, .ref dT, kV, dc, pm, an, cd, ct, osl, rfl, l, c, .inr ⟨by simp, dT, _, [u], dtn, rfl, lT, rfl, .cons r .nil⟩, .inl rfl⟩, k⟩, PySem.W.mg_of X G a⟩

/-! ### isinstance of an instance of a class of orders -/
def KND : List Str := ["Order", "ByLetters", "Newest"]
def kindB (c cn : Str) : Option Bool := if KND.contains cn then some (decide (c = cn) || decide (c = "Order")) else none
structure IsO (K : PySem.W.Frag) (C D : Addr) (b : Bool) : Prop where
  cl : Cls K C
  ha : PySem.W.findIn K (.ref C) "__class__" = some (some (.builtin "object.__class__"))
  hm : PySem.W.mroIn K C (.type "object") = some true
  ki : PySem.W.kitOne K (.ref C) (.ref D) = some b
structure IsT (K : PySem.W.Frag) (mg : Str → Option Value) (c : Str) (D : Addr) : Prop where
  ns : PySem.W.nsIn K mainGlobals c = some (some (.ref D))
  at_ : mg c = some (.ref D)
  bs : ExcB K
  one : ∀ cn C b, kindB c cn = some b → PySem.W.nsIn K mainGlobals cn = some (some (.ref C)) → IsO K C D b
theorem jx_isiI {X : Cx} {z : Ent} {pos p p2 : Pos} {c : Str} {D : Addr} {e : Expr} {t : DO} (T : IsT X.K X.mg c D) (hK : z.K = X.K) (hm : X.mg "isinstance" = none) (he : JO X z e t) (hg : Gl X "isinstance" := by rfl) (hgc : Gl X c := by rfl) (hd : (c == ("__debug__" : Str)) = false := by decide)
    (h1 : starEach [e, .Name c p2] X.env = (false, eval e X.env) :: starEach [.Name c p2] X.env := by rfl) (h2 : starEach [.Name c p2] X.env = (false, eval (.Name c p2) X.env) :: starEach [] X.env := by rfl) (hpl : (backTo pos (starEach [.Name c p2] X.env)).any (·.1) = false := by rfl) :
    JX X z (.Call (.Name "isinstance" p) [e, .Name c p2] [] pos) (dIsiI c (kindB c) t) :=
  PE.imp (pe_callB call_isi hg hm bb_isinstance (pa_cons he (pa_cons (pe_glob (v := .ref D) hgc T.at_ rfl hd) pa_nil h2) h1) (by decide) (by decide) h1 hpl) fun σ H Q ⟨δ, w, F, He, P, R, q, k⟩ => by
    refine ⟨δ, w, F, He, _, R, q, fun d w1 q1 x H1 F1 He1 wd1 st1 r1 => ?_⟩
    obtain ⟨a, cn, fs, b, rfl, hw, hb, q1⟩ := q1
    cases r1.dt.refV
    have key : ∃ C dx vs, PySem.W.nsIn z.K mainGlobals cn = some (some (.ref C)) ∧ H1 a = some (.ins C dx vs) := by
      obtain ⟨o, g1, g2, g3⟩ := wd1.at hw
      cases g3 with
      | @ins C dx _ vs _ n h g => exact ⟨C, dx, vs, n, g1⟩
    obtain ⟨C, dx, vs, n, e1⟩ := key
    obtain ⟨cl, ha, hmm, ki⟩ := T.one cn C b hb (by rw [← hK]; exact n)
    exact ⟨.ref a, .ref D, _, _, b, rfl, .own D, .base (.ins e1 cl ha T.bs.hn T.bs.ht hmm), ki, k _ _ _ q1 _ _ _ _ wd1 st1 (.bl b)⟩
theorem ist_of {K : PySem.W.Frag} {mg : Str → Option Value} {c : Str} {D c1 c2 c3 : Addr} {b1 b2 b3 : Bool} (n : PySem.W.nsIn K mainGlobals c = some (some (.ref D))) (m : mg c = some (.ref D)) (B : ExcB K) (ic : PySem.W.isClsIn K D = true) (it : PySem.W.typeIn K (.ref D) = some (.type "type"))
    (n1 : PySem.W.nsIn K mainGlobals "Order" = some (some (.ref c1))) (n2 : PySem.W.nsIn K mainGlobals "ByLetters" = some (some (.ref c2))) (n3 : PySem.W.nsIn K mainGlobals "Newest" = some (some (.ref c3))) (l1 : Cls K c1) (l2 : Cls K c2) (l3 : Cls K c3)
    (h1 : PySem.W.findIn K (.ref c1) "__class__" = some (some (.builtin "object.__class__"))) (h2 : PySem.W.findIn K (.ref c2) "__class__" = some (some (.builtin "object.__class__"))) (h3 : PySem.W.findIn K (.ref c3) "__class__" = some (some (.builtin "object.__class__")))
    (m1 : PySem.W.mroIn K c1 (.type "object") = some true) (m2 : PySem.W.mroIn K c2 (.type "object") = some true) (m3 : PySem.W.mroIn K c3 (.type "object") = some true)
    (k1 : kindB c "Order" = some b1) (k2 : kindB c "ByLetters" = some b2) (k3 : kindB c "Newest" = some b3) (s1 : PySem.W.subIn K (.ref c1) (.ref D) = some b1) (s2 : PySem.W.subIn K (.ref c2) (.ref D) = some b2) (s3 : PySem.W.subIn K (.ref c3) (.ref D) = some b3)
    (r1 : PySem.W.subIn K (.ref c1) (.ref c1) = some true) (r2 : PySem.W.subIn K (.ref c2) (.ref c2) = some true) (r3 : PySem.W.subIn K (.ref c3) (.ref c3) = some true) : IsT K mg c D :=
  ⟨n, m, B, fun cn C b h nC => by
    have hm : cn ∈ KND := by
      unfold kindB at h
      split at h
      · next hc => simpa using hc
      · cases h
    simp only [KND, List.mem_cons, List.not_mem_nil, or_false] at hm
    rcases hm with rfl | rfl | rfl
    · rw [n1] at nC; cases nC; rw [k1] at h; cases h; exact ⟨l1, h1, m1, kitOne_of ic it s1 r1⟩
    · rw [n2] at nC; cases nC; rw [k2] at h; cases h; exact ⟨l2, h2, m2, kitOne_of ic it s2 r2⟩
    · rw [n3] at nC; cases nC; rw [k3] at h; cases h; exact ⟨l3, h3, m3, kitOne_of ic it s3 r3⟩⟩
/-- the rest of a block kept out of sight -/
theorem seq_n {t u : DS} {E : DEnds} {δ : DSt} {w : Om} (h : ∀ N : DSt → Om → Prop, (∀ δ w, u E δ w → N δ w) → t ⟨N, E.rt, E.bk, E.ct⟩ δ w) : dSeq t u E δ w := h _ fun _ _ h => h
theorem range_cut {n x : Nat} {pre post : List Nat} (e : List.range n = pre ++ x :: post) : pre = List.range x ∧ x < n := by
  have h1 : (List.range n)[pre.length]? = some x := by rw [e]; simp
  have hl : pre.length < n := by
    have := congrArg List.length e
    simp at this
    omega
  rw [List.getElem?_range hl] at h1
  cases h1
  refine ⟨?_, hl⟩
  have h2 : (List.range n).take pre.length = pre := by rw [e]; simp
  have h3 : List.range pre.length = pre := by
    rw [← Nat.min_eq_left (Nat.le_of_lt hl), ← List.take_range]
    exact h2
  exact h3.symm
/-- a for over f 0, f 1, .. -/
theorem for_nat {g : DG} {t : DS} {E : DEnds} (f : Nat → D) (n : Nat) (I : Nat → DSt → Om → Prop) {δ : DSt} {w : Om} (h0 : I 0 δ w)
    (hs : ∀ k δ w (N C : DSt → Om → Prop), k < n → I k δ w → (∀ δ' w', I (k + 1) δ' w' → N δ' w') → (∀ δ' w', I (k + 1) δ' w' → C δ' w') → g (f k) δ fun δ1 => t ⟨N, E.rt, E.nx, C⟩ δ1 w)
    (hd : ∀ δ w, I n δ w → E.nx δ w) : dForGo g t E ((List.range n).map f) δ w := by
  refine for_go f (fun pre δ w => I pre.length δ w) (List.range n) h0 (fun pre x post δ w N C e h hN hC => ?_) (fun δ w h => hd δ w (by simpa using h))
  obtain ⟨e1, hx⟩ := range_cut e
  subst e1
  rw [List.length_range] at h
  exact hs x δ w N C hx h (fun δ' w' h' => hN δ' w' (by simpa using h')) (fun δ' w' h' => hC δ' w' (by simpa using h'))
/-- the items of an enumerated list, by their places -/
theorem enum_at {α : Type} (f : α → D) (g : Nat → α) (n : Nat) : enumD (((List.range n).map g).map f) = (List.range n).map fun k : Nat => D.tup [.int (k : Int), f (g k)] := by
  refine List.ext_getElem (by simp [enumD_len]) fun i h1 h2 => ?_
  simp [enumD] at h1 h2
  simp [enumD, h1]
end Lv

namespace Lv
open PySem PySem.Spec L2
/-- the making of TooMany: what its body does is what spTM says -/
theorem tm_read {K : PySem.W.Frag} {C : Addr} {msg : Str} (ox : OexC K C) (n1 : PySem.W.findIn K (.ref C) "made" = some none) (n2 : PySem.W.findIn K (.ref C) "rows" = some none) : ∀ D σ H,
    (∃ (a l : Addr) (y : V) (xs : List V), σ = start ["self", "made", "rows"] [.ref a, y, .ref l] ∧ H a = some (exo a C none) ∧ H l = some (.lst xs) ∧
        ∀ dx p, H dx = none → H p = none → p ≠ dx → D.nx σ (upd (upd (upd (upd H dx (exd dx [("made", y)])) a (exo a C (some dx))) p (.lst xs)) dx (exd dx [("rows", .ref p), ("made", y)]))) →
    tSeq (tDrop (tVeI K (tCons (tVar 0) (tCons (tC (.str msg)) tNil)))) (tSeq (tOst K "made" (tVar 0) (tVar 1)) (tOst K "rows" (tVar 0) (tCB (fun xs H Q => ∃ p ys, xs = [.ref p] ∧ (SqL K H p ys ∨ SqT K H p ys) ∧ ∀ l, H l = none → Q (.ref l) (upd H l (.lst ys))) (tCons (tVar 2) tNil)))) D σ H := by
  rintro D σ H ⟨a, l, y, xs, rfl, ha, hl, q⟩
  have nla : l ≠ a := fun z => by
    rw [z, ha] at hl
    cases hl
  refine ⟨.ref a, rfl, a, C, [.str msg], rfl, by simp, ox, ha, ?_⟩
  refine ⟨y, rfl, .ref a, rfl, a, C, rfl, ox, n1, .inl ⟨ha, fun dx hdx nda => ?_⟩⟩
  have nld : l ≠ dx := fun z => by
    rw [z, hdx] at hl
    cases hl
  refine ⟨.ref l, rfl, l, xs, rfl, .inl (.inl (.inl ?_)), fun p hp => ?_⟩
  · rw [upd_ne nla, upd_ne nld]
    exact hl
  have npa : p ≠ a := fun z => by
    rw [z, upd_same] at hp
    cases hp
  rw [upd_ne npa] at hp
  have npd : p ≠ dx := fun z => by
    rw [z, upd_same] at hp
    cases hp
  rw [upd_ne npd] at hp
  refine ⟨.ref a, rfl, a, C, rfl, ox, n2, .inr ⟨dx, [("made", y)], ?_, ?_, by simp, q dx p hdx hp npd⟩⟩
  · rw [upd_ne (Ne.symm npa), upd_same]
  · rw [upd_ne (Ne.symm npd), upd_ne nda, upd_same]

/-! ### the classes of exceptions, as many of them as there are -/
structure XRowP (K : PySem.W.Frag) (pr : Str → Bool) (cn : Str) (c c1 c2 c3 c4 c5 c0 : Addr) (b1 b2 b3 b4 b5 : Bool) : Prop where
  s1 : pr cn = true → pr "NoWord" = true → PySem.W.subIn K (.ref c) (.ref c1) = some b1
  s2 : pr cn = true → pr "TooLong" = true → PySem.W.subIn K (.ref c) (.ref c2) = some b2
  s3 : pr cn = true → pr "NoOrder" = true → PySem.W.subIn K (.ref c) (.ref c3) = some b3
  s4 : pr cn = true → pr "TooMany" = true → PySem.W.subIn K (.ref c) (.ref c4) = some b4
  s5 : pr cn = true → pr "TooGreat" = true → PySem.W.subIn K (.ref c) (.ref c5) = some b5
  s0 : pr cn = true → pr "YardError" = true → PySem.W.subIn K (.ref c) (.ref c0) = some true
structure XTabP (K : PySem.W.Frag) (pr : Str → Bool) (c1 c2 c3 c4 c5 c0 : Addr) : Prop where
  o1 : pr "NoWord" = true → XOne K "NoWord" c1
  o2 : pr "TooLong" = true → XOne K "TooLong" c2
  o3 : pr "NoOrder" = true → XOne K "NoOrder" c3
  o4 : pr "TooMany" = true → XOne K "TooMany" c4
  o5 : pr "TooGreat" = true → XOne K "TooGreat" c5
  o0 : pr "YardError" = true → XOne K "YardError" c0
  z1 : pr "NoWord" = false → PySem.W.nsIn K mainGlobals "NoWord" = some none
  z2 : pr "TooLong" = false → PySem.W.nsIn K mainGlobals "TooLong" = some none
  z3 : pr "NoOrder" = false → PySem.W.nsIn K mainGlobals "NoOrder" = some none
  z4 : pr "TooMany" = false → PySem.W.nsIn K mainGlobals "TooMany" = some none
  z5 : pr "TooGreat" = false → PySem.W.nsIn K mainGlobals "TooGreat" = some none
  z0 : pr "YardError" = false → PySem.W.nsIn K mainGlobals "YardError" = some none
  r1 : XRowP K pr "NoWord" c1 c1 c2 c3 c4 c5 c0 true false false false false
  r2 : XRowP K pr "TooLong" c2 c1 c2 c3 c4 c5 c0 false true false false false
  r3 : XRowP K pr "NoOrder" c3 c1 c2 c3 c4 c5 c0 false false true false false
  r4 : XRowP K pr "TooMany" c4 c1 c2 c3 c4 c5 c0 false false false true false
  r5 : XRowP K pr "TooGreat" c5 c1 c2 c3 c4 c5 c0 false false false false true
  bs : ExcB K
section
variable {K : PySem.W.Frag} {pr : Str → Bool} {c1 c2 c3 c4 c5 c0 : Addr}
theorem xp_is {cn : Str} {c : Addr} {v : Value} (z : pr cn = false → PySem.W.nsIn K mainGlobals cn = some none) (o : pr cn = true → XOne K cn c) (n : PySem.W.nsIn K mainGlobals cn = some (some v)) : v = .ref c ∧ pr cn = true := by
  cases e : pr cn with
  | false => rw [z e] at n; cases n
  | true => rw [(o e).ns] at n; cases n; exact ⟨rfl, rfl⟩
theorem XTabP.which (T : XTabP K pr c1 c2 c3 c4 c5 c0) {cn : Str} {C : Addr} (h : EXN.contains cn = true) (n : PySem.W.nsIn K mainGlobals cn = some (some (.ref C))) : Which c1 c2 c3 c4 c5 cn C ∧ pr cn = true := by
  have hm : cn ∈ EXN := by simpa using h
  simp only [EXN, List.mem_cons, List.not_mem_nil, or_false] at hm
  rcases hm with rfl | rfl | rfl | rfl | rfl
  · obtain ⟨e, p⟩ := xp_is T.z1 T.o1 n; cases e; exact ⟨.w1, p⟩
  · obtain ⟨e, p⟩ := xp_is T.z2 T.o2 n; cases e; exact ⟨.w2, p⟩
  · obtain ⟨e, p⟩ := xp_is T.z3 T.o3 n; cases e; exact ⟨.w3, p⟩
  · obtain ⟨e, p⟩ := xp_is T.z4 T.o4 n; cases e; exact ⟨.w4, p⟩
  · obtain ⟨e, p⟩ := xp_is T.z5 T.o5 n; cases e; exact ⟨.w5, p⟩
theorem XTabP.which6 (T : XTabP K pr c1 c2 c3 c4 c5 c0) {c : Str} {v : Value} (h : XN.contains c = true) (n : PySem.W.nsIn K mainGlobals c = some (some v)) : ∃ D, v = .ref D ∧ Which6 c1 c2 c3 c4 c5 c0 c D ∧ pr c = true := by
  have hm : c ∈ XN := by simpa using h
  simp only [XN, List.mem_cons, List.not_mem_nil, or_false] at hm
  rcases hm with rfl | rfl | rfl | rfl | rfl | rfl
  · obtain ⟨e, p⟩ := xp_is T.z1 T.o1 n; exact ⟨_, e, .five .w1, p⟩
  · obtain ⟨e, p⟩ := xp_is T.z2 T.o2 n; exact ⟨_, e, .five .w2, p⟩
  · obtain ⟨e, p⟩ := xp_is T.z3 T.o3 n; exact ⟨_, e, .five .w3, p⟩
  · obtain ⟨e, p⟩ := xp_is T.z4 T.o4 n; exact ⟨_, e, .five .w4, p⟩
  · obtain ⟨e, p⟩ := xp_is T.z5 T.o5 n; exact ⟨_, e, .five .w5, p⟩
  · obtain ⟨e, p⟩ := xp_is T.z0 T.o0 n; exact ⟨_, e, .w0, p⟩
theorem XTabP.one (T : XTabP K pr c1 c2 c3 c4 c5 c0) {cn : Str} {C : Addr} (w : Which c1 c2 c3 c4 c5 cn C) (p : pr cn = true) : XOne K cn C := by
  cases w
  · exact T.o1 p
  · exact T.o2 p
  · exact T.o3 p
  · exact T.o4 p
  · exact T.o5 p
theorem XTabP.one6 (T : XTabP K pr c1 c2 c3 c4 c5 c0) {c : Str} {D : Addr} (w : Which6 c1 c2 c3 c4 c5 c0 c D) (p : pr c = true) : XOne K c D := by
  cases w with
  | five w => exact T.one w p
  | w0 => exact T.o0 p
theorem XTabP.sub (T : XTabP K pr c1 c2 c3 c4 c5 c0) {cn c : Str} {C D : Addr} {b : Bool} (w : Which c1 c2 c3 c4 c5 cn C) (p : pr cn = true) (w' : Which6 c1 c2 c3 c4 c5 c0 c D) (p' : pr c = true) (e : subE EXN cn c = some b) : PySem.W.subIn K (.ref C) (.ref D) = some b := by
  have key : ∀ {b' : Bool}, PySem.W.subIn K (.ref C) (.ref D) = some b' → subE EXN cn c = some b' → PySem.W.subIn K (.ref C) (.ref D) = some b := fun h1 h2 => by rw [h2] at e; cases e; exact h1
  cases w <;> cases w' <;> (try rename_i w2; cases w2) <;> first
    | exact key (T.r1.s1 p p') (by decide +kernel) | exact key (T.r1.s2 p p') (by decide +kernel) | exact key (T.r1.s3 p p') (by decide +kernel) | exact key (T.r1.s4 p p') (by decide +kernel) | exact key (T.r1.s5 p p') (by decide +kernel) | exact key (T.r1.s0 p p') (by decide +kernel)
    | exact key (T.r2.s1 p p') (by decide +kernel) | exact key (T.r2.s2 p p') (by decide +kernel) | exact key (T.r2.s3 p p') (by decide +kernel) | exact key (T.r2.s4 p p') (by decide +kernel) | exact key (T.r2.s5 p p') (by decide +kernel) | exact key (T.r2.s0 p p') (by decide +kernel)
    | exact key (T.r3.s1 p p') (by decide +kernel) | exact key (T.r3.s2 p p') (by decide +kernel) | exact key (T.r3.s3 p p') (by decide +kernel) | exact key (T.r3.s4 p p') (by decide +kernel) | exact key (T.r3.s5 p p') (by decide +kernel) | exact key (T.r3.s0 p p') (by decide +kernel)
    | exact key (T.r4.s1 p p') (by decide +kernel) | exact key (T.r4.s2 p p') (by decide +kernel) | exact key (T.r4.s3 p p') (by decide +kernel) | exact key (T.r4.s4 p p') (by decide +kernel) | exact key (T.r4.s5 p p') (by decide +kernel) | exact key (T.r4.s0 p p') (by decide +kernel)
    | exact key (T.r5.s1 p p') (by decide +kernel) | exact key (T.r5.s2 p p') (by decide +kernel) | exact key (T.r5.s3 p p') (by decide +kernel) | exact key (T.r5.s4 p p') (by decide +kernel) | exact key (T.r5.s5 p p') (by decide +kernel) | exact key (T.r5.s0 p p') (by decide +kernel)
theorem XTabP.self (T : XTabP K pr c1 c2 c3 c4 c5 c0) {cn : Str} {C : Addr} (w : Which c1 c2 c3 c4 c5 cn C) (p : pr cn = true) : PySem.W.subIn K (.ref C) (.ref C) = some true := by
  cases w
  · exact T.r1.s1 p p
  · exact T.r2.s2 p p
  · exact T.r3.s3 p p
  · exact T.r4.s4 p p
  · exact T.r5.s5 p p
theorem XTabP.exi (T : XTabP K pr c1 c2 c3 c4 c5 c0) : ExI K EXN XN where
  bs := T.bs
  ty := fun cn C h n => (T.one (T.which h n).1 (T.which h n).2).t
  one := fun cn C c b v e hA n m => by
    obtain ⟨D, rfl, w', p'⟩ := T.which6 hA m
    obtain ⟨w, p⟩ := T.which (subE_mem e) n
    have o := T.one6 w' p'
    exact kitOne_of o.cl o.ty (T.sub w p w' p' e) (T.self w p)
  val := fun cn C h n => by
    obtain ⟨w, p⟩ := T.which h n
    have o := T.one w p
    have e : PySem.W.kitCls K (.ref C) (.type "ValueError") = some true := by
      show (if PySem.W.kitMeta "ValueError" = true then PySem.W.subIn K (.ref C) (.type "ValueError") else none) = some true
      rw [if_pos kitMeta_VE]
      exact o.sv
    unfold PySem.W.kitOne
    split
    · rfl
    · exact e
theorem XTabP.mt (T : XTabP K pr c1 c2 c3 c4 c5 c0) {c : Str} {D : Addr} (w' : Which6 c1 c2 c3 c4 c5 c0 c D) (p' : pr c = true) : ∀ cn C b, subE EXN cn c = some b → PySem.W.nsIn K mainGlobals cn = some (some (.ref C)) → PySem.W.exmOne K (.ref C) (.ref D) = some b := fun cn C b e n => by
  have o := T.one6 w' p'
  obtain ⟨w, p⟩ := T.which (subE_mem e) n
  exact PySem.W.exm_ref o.sb o.hd o.ty (T.sub w p w' p' e)
end
structure XMgP (K : PySem.W.Frag) (mg : Str → Option Value) (pr : Str → Bool) (c1 c2 c3 c4 c5 c0 : Addr) : Prop where
  m1 : pr "NoWord" = true → mg "NoWord" = some (.ref c1)
  m2 : pr "TooLong" = true → mg "TooLong" = some (.ref c2)
  m3 : pr "NoOrder" = true → mg "NoOrder" = some (.ref c3)
  m4 : pr "TooMany" = true → mg "TooMany" = some (.ref c4)
  m5 : pr "TooGreat" = true → mg "TooGreat" = some (.ref c5)
  m0 : pr "YardError" = true → mg "YardError" = some (.ref c0)
  k1 : pr "NoWord" = true → PySem.W.keepIn K (.ref c1) = true
  k2 : pr "TooLong" = true → PySem.W.keepIn K (.ref c2) = true
  k3 : pr "NoOrder" = true → PySem.W.keepIn K (.ref c3) = true
  k5 : pr "TooGreat" = true → PySem.W.keepIn K (.ref c5) = true
  q1 : pr "NoWord" = true → PySem.W.excIn K c1 [.type "ValueError", .type "Exception", .type "BaseException", .type "object"] "ValueError.__new__" = true
  q2 : pr "TooLong" = true → PySem.W.excIn K c2 [.type "ValueError", .type "Exception", .type "BaseException", .type "object"] "ValueError.__new__" = true
  q3 : pr "NoOrder" = true → PySem.W.excIn K c3 [.type "ValueError", .type "Exception", .type "BaseException", .type "object"] "ValueError.__new__" = true
  q5 : pr "TooGreat" = true → PySem.W.excIn K c5 [.type "ValueError", .type "Exception", .type "BaseException", .type "object"] "ValueError.__new__" = true
  n1 : pr "TooMany" = true → PySem.W.findIn K (.ref c4) "made" = some none
  n2 : pr "TooMany" = true → PySem.W.findIn K (.ref c4) "rows" = some none
end Lv

namespace Lv
open PySem PySem.Spec L2
section
variable {X : Cx} {z : Ent}
/-! ### xs.count(i) of a list of numbers -/
def sLcount (d e : D) (P : Bool → D → Prop) : Prop := match d, e with
  | .lst ds, .int k => ∃ ns : List Int, ds = ns.map D.int ∧ P false (.int (ns.count k : Nat))
  | _, _ => False
theorem sem_lcount : SemM1 z (rCntI z.K) sLcount := fun w F He H x y d e P Q wd dx dy q k => by
  unfold sLcount at q
  split at q
  · obtain ⟨ns, rfl, q⟩ := q
    obtain ⟨a, vs, rfl, ha, ra⟩ := dx.lst wd.sf
    have := ra.ints
    subst this
    exact ⟨a, ns, _, rfl, by rw [dy.int], .of ha, res_at wd (.int _) q k⟩
  · exact q.elim
end
end Lv

namespace Lv
open PySem PySem.Spec PyProof.Rows L2
/-! ### d.setdefault(k, x) of a dict with tuples as keys -/
section
variable {X : Cx} {pins : List (Addr × Obj)} {σ : L2.St} {H : Hp} {s : Shared} {a b : Addr} {r : Value} {d : V} {k : List Key} {A : Around} {E : Value → Shared → Prop}
theorem d_setdT {kvs : List (List Key × V)} {Q : Value → Shared → Prop} (hu : A.units + 1 < cLine) (I : Inv X pins σ H s) (e : H a = some (.dT kvs)) (eb : H b = some (.tup (k.map kV))) (rd : RelV d r) (hl : kvs.length < sizeLine)
    (h1 : ∀ v, valV kvs k = some v → ∀ (w' : Value) (s' : Shared), Inv X pins σ H s' → RelV v w' → Q w' s') (h2 : valV kvs k = none → ∀ (w' : Value) (s' : Shared), Inv X pins σ (upd H a (.dT (putK kvs k d))) s' → RelV d w' → Q w' s') :
    wpAny (model X.prog X.w) A (call (.builtin "dict.setdefault") [.ref a, .ref b, r]) Q E s := by
  obtain ⟨z, hd, xs, rel, dd⟩ := dt_of I.hok e
  have hz : xs.length ≤ sizeLine := by rw [← Paired.length rel]; exact z
  have hl2 : (putK kvs k d).length ≤ sizeLine := by have := length_putK kvs k d; omega
  have q := rel.val k
  refine call_setdefault_heap (hsz := hz) (tupleKind_room_in1 hu) (key_of I.hok eb) hd dd (fun p hp => ?_) fun hn h' dd' hs => ?_
  · rw [hp] at q
    cases q0 : valV kvs k with
    | none => rw [q0] at q; exact (show False from q).elim
    | some v0 => rw [q0] at q; exact h1 v0 q0 _ _ (I.tok _) q
  · rw [hn] at q
    cases q0 : valV kvs k with
    | some v0 => rw [q0] at q; exact (show False from q).elim
    | none =>
      obtain ⟨o, es, ep, hq, g2, g3, g4, _, g5⟩ := dd'
      refine h2 q0 _ _ (d_write I (by rw [e]; exact True.intro) hs ⟨o, hq⟩ ⟨hl2, hd, _, (rel.put k eb rd).keeps fun c ys ec => ?_, o, es, ep, hq, g2, g3, g4, g5⟩) rd
      rw [upd_ne (ne_of ec e (fun z => nomatch z))]
      exact ec
end
def tDSetT (td ty tx : TE) : TE := fun σ H Q => td σ H fun x H1 => ∃ a, x = .ref a ∧ IsD H1 a ∧ ty σ H1 fun y H2 => tx σ H2 fun z H3 => ∃ (kvs : List (List Key × V)) (k : List Key) (b : Addr), H3 a = some (.dT kvs) ∧ y = .ref b ∧ H3 b = some (.tup (k.map kV)) ∧ kvs.length < sizeLine ∧
  (∀ v, valV kvs k = some v → Q v H3) ∧ (valV kvs k = none → Q z (upd H3 a (.dT (putK kvs k z))))
section
variable {X : Cx} {o e f : Expr} {td ty tx : TE} {apos cpos : Pos}
theorem pe_dsetT (hu : X.A.units + 1 < cLine) (ho : PE X o td) (he : PE X e ty) (hf : PE X f tx) (m : M2 X o "setdefault" apos e f cpos) : PE X (.Call (.Attribute o "setdefault" apos) [e, f] [] cpos) (tDSetT td ty tx) := by
  refine ⟨fun pins s σ H Q I h => ?_⟩
  refine wpAny_Call_method m.base m.few m.line PySem.F.plainAttrs_dict PySem.F.slot_dict_setdefault PySem.F.type_dict_setdefault (thn (ho.run pins s σ H _ I h) fun u s1 ⟨x, H1, I1, rx, a, ex, d, q1⟩ => ?_)
  subst ex
  obtain rfl : u = Value.ref a := rx
  obtain ⟨t1, t2, _⟩ := isD_at I1 d
  refine ⟨t1, t2, ?_⟩
  rw [m.trees]
  refine Calls.callWith_builtin rfl (Calls.evalArgs_plain (Calls.spliced_cons (thn (he.run pins s1 σ H1 _ I1 q1) fun iv s2 ⟨y, H2, I2, ry, q2⟩ =>
    Calls.spliced_cons (thn (hf.run pins s2 σ H2 _ I2 q2) fun fv s3 ⟨z, H3, I3, rz, kvs, k, b, ea, ey, eb, hl, q3, q4⟩ => Calls.spliced_nil ?_))))
  subst ey
  cases (show iv = Value.ref b from ry)
  exact d_setdT hu I3 ea eb rz hl (fun v hv w' s4 I4 rw' => ⟨v, _, I4, rw', q3 v hv⟩) fun hn w' s4 I4 rw' => ⟨z, _, I4, rw', q4 hn⟩
end
section
variable {X : Cx} {z : Ent} {pos : Pos}
def dSetd (to tk : DO) (tx : DX) : DX := fun δ w Q => to δ w fun d w1 => ∃ a kvs0, d = .ref a ∧ w1 a = some (.dT kvs0) ∧ tk δ w1 fun e w2 => tx δ w2 fun b v w3 => kNm true (fun x w4 => ∃ kvs ks, w4 a = some (.dT kvs) ∧ e = .tup (ks.map kD) ∧ kvs.length < sizeLine ∧ (∀ y, valD kvs ks = some y → Q false y w4) ∧ (valD kvs ks = none → Q false x (updW w4 a (.dT (putD kvs ks x))))) w3 b v
theorem jx_setd {o e f : Expr} {to tk : DO} {tx : DX} {apos cpos : Pos} (hK : z.K = X.K) (hu : X.A.units + 1 < cLine) (ho : JO X z o to) (he : JO X z e tk) (hf : JX X z f tx) (m : M2 X o "setdefault" apos e f cpos := by exact ⟨rfl, rfl, rfl, rfl⟩) : JX X z (.Call (.Attribute o "setdefault" apos) [e, f] [] cpos) (dSetd to tk tx) :=
  PE.imp (pe_dsetT hu ho he hf m) fun σ H Q ⟨δ, w, F, He, P, R, q, k⟩ => by
    refine ⟨δ, w, F, He, _, R, q, fun d w1 q1 x H1 F1 He1 wd1 st1 r1 => ?_⟩
    obtain ⟨a, kvs0, rfl, hw, q1⟩ := q1
    obtain ⟨ob, h1, h2, rv⟩ := wd1.at hw
    cases rv with
    | dT rv =>
      refine ⟨a, r1.dt.refV, .inr ⟨_, .inl h1⟩, δ, w1, F1, He1, _, R.step wd1 st1, q1, fun e w2 q2 y H2 F2 He2 wd2 st2 r2 => ?_⟩
      refine ⟨δ, w2, F2, He2, _, (R.step wd1 st1).step wd2 st2, q2, fun b v w3 q3 u H3 F3 He3 wd3 st3 r3 => ?_⟩
      obtain ⟨y4, w4, F4, He4, ⟨kvs, ks, hw4, he4, hz, qa, qb⟩, wd4, st4, r4, s4⟩ := kNm_use q3 wd3 st3 r3
      subst he4
      obtain ⟨ob4, g1, g2, rv4⟩ := wd4.at hw4
      cases id rv4 with
      | dT rl =>
        obtain ⟨bb, us, rfl, hb, rb⟩ := (r2.step st4).dt.tup wd4.sf
        have := rb.keys
        subst us
        refine ⟨_, ks, bb, g1, rfl, hb, by rw [rl.length]; exact hz, fun v hv => ?_, fun hn => ?_⟩
        · rcases rl.val (k := ks) with ⟨z1, z2⟩ | ⟨u', d', z1, z2, ru⟩
          · rw [z1] at hv; cases hv
          · rw [z1] at hv; cases hv
            exact k _ _ _ (qa _ z2) _ _ _ _ wd4 ((st1.trans st2).trans st4) ru
        · rcases rl.val (k := ks) with ⟨z1, z2⟩ | ⟨u', d', z1, z2, ru⟩
          · exact k _ _ _ (qb z2) _ _ _ _ (wd4.put hw4 g2 rv4 (.dT (rl.put r4))) (((st1.trans st2).trans st4).trans (.put g2 g1)) r4
          · rw [z1] at hn; cases hn
end
end Lv

namespace Lv
open PySem PySem.Spec PyProof.Rows L2
/-! ### for k, v in d.items() of a dict with tuples as keys -/
section
variable {X : Cx} {pins : List (Addr × Obj)} {σ : L2.St} {H : Hp} {s : Shared} {d : Addr} {o : Obj}
theorem frzT2 {kvs : List (List Key × V)} (I : Inv X pins σ H s) (h : H d = some (.frz o (.dT kvs))) :
    (d == sysModules) = false ∧ s.heap.get? d = some o ∧ o.ExactDict ∧ ∃ (es : Array DictEntry) (ep : Nat), o.data = .dict es ep ∧ es.size = kvs.length ∧
      ∀ (i : Nat) (k : List Key) (v : V), kvs[i]? = some (k, v) → ∃ (en : DictEntry) (q : Addr), es[i]? = some en ∧ en.key = .ref q ∧ H q = some (.tup (k.map kV)) ∧ RelV v en.val := by
  obtain ⟨hd, z, hs, xs, pr, o', es, ep, ho, hx, hdt, he, _⟩ := I.hok d _ h
  rw [hd] at ho
  cases ho
  refine ⟨hs, hd, hx, es, ep, hdt, ?_, fun i k v e => ?_⟩
  · have l1 : es.size = xs.length := size_of_entries he
    have l2 : kvs.length = xs.length := Paired.length pr
    omega
  · obtain ⟨b, hb, e1, e2, e3⟩ := paired_get pr e
    have q := entry_at he i
    rw [hb] at q
    exact ⟨_, b.2.1, q, rfl, e2, e3⟩
end
def ItiT (d : Addr) (o : Obj) (kvs : List (List Key × V)) : It :=
  ⟨fun i H => H d = some (.frz o (.dT kvs)) ∧ i < kvs.length, fun i H x H' => ∃ (T q : Addr) (k : List Key) (v : V), kvs[i]? = some (k, v) ∧ x = .ref T ∧ H T = none ∧ H q = some (.tup (k.map kV)) ∧ H' = upd H T (.tup [.ref q, v]), fun i H => H d = some (.frz o (.dT kvs)) ∧ kvs.length ≤ i⟩
section
variable {P : Program} {w : World} {K : PySem.W.Frag} {d : Addr} {o : Obj} {es : Array DictEntry} {ep : Nat}
theorem turn_itemsT {kvs : List (List Key × V)} {elts : List Expr} {kk : Nat} {tpos : Pos} (it : Addr) (hod : o.data = .dict es ep) :
    Turn P w K (.Tuple elts kk tpos) (ItiT d o kvs) [it] it (fun i h => ∃ ok ov, IsItemIter h it d i kvs.length ep ok ov) where
  mem := by simp
  obj := fun i h st b hb => by
    have e : b = it := by simpa using hb
    subst e
    obtain ⟨ok, ov, e⟩ := st
    exact ⟨_, e, fun v z => nomatch z⟩
  keep := fun i h h' st k => let ⟨ok, ov, e⟩ := st; ⟨ok, ov, k it (by simp) _ e⟩
  item := by
    intro X hP hw hK hc i pins s σ H E I hf st hg
    subst hP hw hK
    obtain ⟨hd, hi⟩ := hg
    obtain ⟨hs, hgd, hx, es', ep', hdt, hsz, ent⟩ := frzT2 I hd
    obtain ⟨rfl, rfl⟩ := dict_ep hod hdt
    obtain ⟨⟨k, v⟩, hkv⟩ : ∃ p, kvs[i]? = some p := ⟨kvs[i], List.getElem?_eq_getElem hi⟩
    obtain ⟨en, q, hen, hkey, hq, hv⟩ := ent i k v hkv
    obtain ⟨ok, ov, he⟩ := st
    rw [← hsz] at he
    have hi' : i < es'.size := by omega
    have een : es'[i] = en := by
      have := Array.getElem?_eq_some_iff.mp hen
      exact this.2
    have hlt : it < s.heap.objs.size := Heap.lt_size he
    refine DT.nextI he ⟨o, hgd, hx, hdt⟩ hi' fun h' ho hT hz hk => ?_
    rw [een, hkey] at hT
    refine ⟨_, rfl, wpAny_letOwnedTupleGo_items (s := { s with heap := h' }) ho fun h'' he' sb => ?_⟩
    have hT2 : h''.get? s.heap.objs.size = some { cls := .type "tuple", data := .seq #[.ref q, en.val] } := (sb.2 _ (Nat.ne_of_gt hlt)).trans hT
    have new : ObjOk X.prog X.w (upd H s.heap.objs.size (.tup [.ref q, v])) h'' s.heap.objs.size (.tup [.ref q, v]) :=
      ⟨by show 2 ≤ sizeLine; decide, [.ref q, en.val], .cons rfl (.cons hv .nil), ⟨_, hT2, rfl, _, rfl⟩⟩
    have I1 : Inv X pins σ (upd H s.heap.objs.size (.tup [.ref q, v])) { s with heap := h'' } :=
      I.turnedNew (t' := s.toks) (ch := [it]) (fun b ob hb e => (sb.2 b (by simpa using hb)).trans (hk b ob (by simpa using hb) e)) hf (Nat.le_refl _) new
    refine ⟨.ref s.heap.objs.size, _, I1, rfl, ⟨_, q, k, v, hkv, rfl, I.hok.fresh (Nat.le_refl _), hq, rfl⟩, ⟨es'[i].key, es'[i].val, ?_⟩, fun b hb => ?_⟩
    · rw [← hsz]; exact he'
    · have e : b = it := by simpa using hb
      rw [e, upd_ne (Nat.ne_of_lt hlt)]
      exact (hf it (by simp)).1
  done := by
    intro X hP hw hK hc i pins s σ H E I hf st hg
    subst hP hw hK
    obtain ⟨hd, hi⟩ := hg
    obtain ⟨f0, f1, f2, f3, f4, f5⟩ := hf it (by simp)
    obtain ⟨hs, hgd, hx, es', ep', hdt, hsz, ent⟩ := frzT2 I hd
    obtain ⟨rfl, rfl⟩ := dict_ep hod hdt
    obtain ⟨ok, ov, he⟩ := st
    rw [← hsz] at he
    exact DT.endI (I.ok.hd hc) he ⟨o, hgd, hx, hdt⟩ (by omega) fun h' eb => ⟨rfl, I.turned (t' := s.toks) (fun b ob hb e => eb b ob hb e) f0 f1 f3 f4 f5⟩
  self := fun A i s Q E st h => let ⟨_, _, e⟩ := st; PySem.W.kcp_self e h
end
def iItemsT (td : TE) : TI := fun σ H R => td σ H fun x H1 => ∃ d o kvs, x = .ref d ∧ H1 d = some (.frz o (.dT kvs)) ∧ R (ItiT d o kvs) H1
section
variable {X : Cx} {e : Expr} {td : TE} {apos cpos : Pos}
theorem pi_itemsT {elts : List Expr} {kk : Nat} {tpos : Pos} (he : PE X e td) (hbase : attributeBase e "items" X.env (eval e X.env) = eval e X.env := by rfl) (hline : (apos.endLine == cpos.line) = true := by rfl) :
    PI X (.Tuple elts kk tpos) (.Call (.Attribute e "items" apos) [] [] cpos) (iItemsT td) := by
  refine ⟨fun pins s σ H R I h => ?_⟩
  refine wpAny_Call_method (T := "dict") (id := "dict.items") hbase rfl hline F.plainAttrs_dict F.slot_dict_items F.type_dict_items (thn (he.run pins s σ H _ I h) fun u s1 ⟨x, H1, I1, rx, d, o, kvs, ex, hd, q⟩ => ?_)
  subst ex
  obtain rfl : u = Value.ref d := rx
  obtain ⟨hs, hgd, hx, es, ep, hdt, hsz, ent⟩ := frzT2 I1 hd
  have raw : DT.Raw s1.heap d es ep := ⟨o, hgd, hx, hdt⟩
  refine ⟨raw.typeIs, ?_, ?_⟩
  · exact fun a e => by cases e; exact ⟨o, hgd, hx.2.1⟩
  have I2 : Inv X pins σ H1 { s1 with heap := s1.heap.push { cls := .type "dict_items", data := .fields #[.ref d] } } := I1.kept (t' := s1.toks) fun b ob q => Heap.get?_push_of_some _ q
  have fin : wpAny (model X.prog X.w) X.A (pyIter (.ref s1.heap.objs.size)) (PIE X pins σ (.Tuple elts kk tpos) R) X.xe { s1 with heap := s1.heap.push { cls := .type "dict_items", data := .fields #[.ref d] } } := by
    refine DT.iterI (d := d) ⟨_, Heap.get?_push_size _ rfl, rfl, rfl⟩ (raw.push _) (pi_one (tk := s1.toks) I2 _ (turn_itemsT _ hdt) ⟨.none, .none, ?_⟩ q)
    rw [← hsz]
    exact Heap.get?_push_size _ rfl
  show wpAny _ _ (callWith cpos (.builtin "dict.items") [.ref d] [] []) _ X.xe s1
  exact method_meetsIn F.slot_dict_items F.entry_dict_items rfl (PySem.evalArgs_none ⟨rfl, raw.typeIs, F.args_dict_items_1 _, _, DT.meetsItems (es := es) (ep := ep) hs, raw, fin⟩)
end
section
variable {X : Cx} {z : Ent} {pos : Pos}
def dForItemsT (to : DO) (g : DG) (t : DS) : DS := fun E δ w => to δ w fun d w1 => ∃ a ob vs kvs, d = .ref a ∧ w1 a = some (.fT ob vs kvs) ∧ dForGoN a (.fT ob vs kvs) g t E (kvs.map fun kv => D.tup [.tup (kv.1.map kD), kv.2]) δ w1
theorem js_forItemsT {e : Expr} {elts : List Expr} {kk : Nat} {tpos apos cpos : Pos} {body : List Stmt} {to : DO} {G : TG} {g : DG} {t : DS} (hp : PassesOwn (model X.prog X.w) X.A X.env X.xe) (hc : X.calm = true) (hi : JO X z e to) (hg : PG X (.Tuple elts kk tpos) G) (ok : GOk z G g) (hb : JSs X z body t)
    (hbase : attributeBase e "items" X.env (eval e X.env) = eval e X.env := by rfl) (hline : (apos.endLine == cpos.line) = true := by rfl)
    (hs : ∀ x, foldedSetIterable (.Call (.Attribute e "items" apos) [] [] cpos) X.env x = pure x := by intro _; rfl) : JS X z (.For (.Tuple elts kk tpos) (.Call (.Attribute e "items" apos) [] [] cpos) body [] pos) (dForItemsT to g t) :=
  PS.imp (ps_for hp hc (pi_itemsT hi hbase hline) hg hb hs) fun Dn σ H ⟨δ, w, F, He, E, R, q, cn⟩ => by
    refine ⟨δ, w, F, He, _, R, q, fun d w1 q1 v H1 F1 He1 wd1 st1 r1 => ?_⟩
    obtain ⟨a, ob, vs, kvs, rfl, hw, q1⟩ := q1
    obtain ⟨ob0, h1, h2, rv⟩ := wd1.at hw
    have hv := r1.dt.refV
    subst hv
    cases rv with
    | fT rl =>
      refine ⟨a, ob, vs, rfl, h1, ?_⟩
      have hlen := rl.length
      refine ⟨fun i m σ H => m = vs.length - i ∧ i ≤ vs.length ∧ ∃ δ w F He, Same F1 F ∧ Rel z δ w F He σ H ∧ w a = some (.fT ob vs kvs) ∧ dForGoN a (.fT ob vs kvs) g t E ((List.map (fun kv : List Key × D => D.tup [.tup (kv.1.map kD), kv.2]) kvs).drop i) δ w, ⟨vs.length, by simp, Nat.zero_le _, δ, w1, F1, He1, Same.refl _, R.step wd1 st1, hw, q1⟩, ?_⟩
      rintro i m σ H ⟨rfl, hle, δ, w, F, He, sF, R, hw, q⟩
      obtain ⟨ob', g1, g2, rv⟩ := R.wd.at hw
      cases rv with
      | fT rl =>
        by_cases hlt : i < vs.length
        · refine .inr ⟨⟨g1, hlt⟩, fun σ' H' => ∃ δ w F He, Same F1 F ∧ Rel z δ w F He σ' H' ∧ w a = some (.fT ob vs kvs) ∧ dForGoN a (.fT ob vs kvs) g t E ((List.map (fun kv : List Key × D => D.tup [.tup (kv.1.map kD), kv.2]) kvs).drop (i + 1)) δ w, fun σ' H' h => ⟨vs.length - (i + 1), by omega, rfl, hlt, h⟩, fun x H' y => ?_⟩
          obtain ⟨T, p, k, v, hk, rfl, hT, hp, rfl⟩ := y
          obtain ⟨d, hd, rd⟩ := rl.at hk
          have hi : i < (List.map (fun kv : List Key × D => D.tup [.tup (kv.1.map kD), kv.2]) kvs).length := by simp; omega
          rw [List.drop_eq_getElem_cons hi] at q
          have e1 : (List.map (fun kv : List Key × D => D.tup [.tup (kv.1.map kD), kv.2]) kvs)[i] = .tup [.tup (k.map kD), d] := by
            have := (List.getElem?_eq_some_iff.mp hd).2
            simp [this]
          rw [e1] at q
          obtain ⟨F2, R2, s2, rp⟩ := R.tupF hp (DRs.ofKeys k)
          have hF : F2 T = none := R2.wd.fnone hT
          have hHe : He T = none := R2.wd.henone hT
          have R3 : Rel z δ w (upd F2 T (.tup [.ref p, v])) He σ (upd H T (.tup [.ref p, v])) := R2.step ((R2.wd.alloc hT).freeze upd_same hF hHe) ((Step.alloc hT).freeze hF hT)
          refine ok δ w _ He _ σ (.ref T) _ _ _ R3 (.tup upd_same (.cons (rp.mono (same_upd hF)) (.cons ((rd.mono s2).mono (same_upd hF)) .nil))) q fun δ2 σ2 q2 R4 => ?_
          have sF2 := (sF.trans s2).trans (same_upd (o := .tup [.ref p, v]) hF)
          have s1 := st1.fz.trans sF2
          exact ⟨δ2, w, _, He, _, R4, q2, ⟨fun δ3 w3 F3 He3 σ3 H3 p r s3 => ⟨δ3, w3, F3, He3, sF2.trans s3, r, p.1, p.2⟩, cn.rt, fun δ3 w3 F3 He3 σ3 H3 p r s3 => cn.nx _ _ _ _ _ _ p r (s1.trans s3), fun δ3 w3 F3 He3 σ3 H3 p r s3 => ⟨δ3, w3, F3, He3, sF2.trans s3, r, p.1, p.2⟩⟩⟩
        · have e : i = vs.length := by omega
          subst e
          rw [List.drop_of_length_le (by simp; omega)] at q
          exact .inl ⟨⟨g1, Nat.le_refl _⟩, cn.nx _ _ _ _ _ _ q R (st1.fz.trans sF)⟩
end
end Lv

/-! ### t[:k:-1] of a tuple -/
namespace HT
open PySem PySem.Spec PyProof.Rows PySem.Calls
section
variable {prog : Program} {w : World} {A : Around} {E : Value → Shared → Prop} {s : Shared}
theorem pick_to {α : Type} (L : List α) : ∀ c, c ≤ L.length → (List.range c).filterMap (fun (m : Nat) => L[L.length - 1 - m]?) = (L.drop (L.length - c)).reverse
  | 0, _ => by simp
  | c + 1, h => by
    have hl : L.length - (c + 1) < L.length := by omega
    rw [List.range_succ, List.filterMap_append, pick_to L c (by omega), List.drop_eq_getElem_cons hl, List.reverse_cons, show L.length - (c + 1) + 1 = L.length - c by omega]
    congr 1
    rw [List.filterMap_cons, show L.length - 1 - c = L.length - (c + 1) by omega, List.getElem?_eq_getElem hl]
    rfl
theorem adjust_to {n k : Nat} (hk : k < n) : Builtin.Slice.sliceAdjust none (some (k : Int)) (-1) (n : Int) = ((n : Int) - 1, (k : Int)) := by
  unfold Builtin.Slice.sliceAdjust
  simp only [show ((-1 : Int) < 0) = True from eq_true (by decide), if_true]
  rw [if_neg (show ¬ ((k : Int) < 0) by omega)]
  congr 1
  omega
theorem places_to {n k : Nat} (hk : k < n) : Builtin.Slice.slicePlaces ((n : Int) - 1) (k : Int) (-1) = n - 1 - k := by
  unfold Builtin.Slice.slicePlaces
  have h1 : ¬ ((-1 : Int) > 0) := by omega
  simp only [h1, if_false, show (- -1 : Int) = 1 by decide, Int.ediv_one]
  split <;> omega
theorem sliceApplied_to {sl : Addr} {vl vu vs : Value} {n k : Nat} {Q : Int × Int × Nat → Shared → Prop} (hk : k < n) (hs : s.heap.IsSliceOf sl vl vu vs) (pl : IsPart vl none) (pu : IsPart vu (some (k : Int))) (ps : IsPart vs (some (-1)))
    (h : Q ((n : Int) - 1, -1, n - 1 - k) s) : wpAny (model prog w) A (Builtin.Slice.sliceApplied (.ref sl) (pure (n : Int))) Q E s := by
  obtain ⟨os, hos, hcs, hds⟩ := id hs
  unfold Builtin.Slice.sliceApplied Builtin.Slice.sliceFields
  refine wpAny_bind (wpAny_bind (wpAny_field hos hds (x := vl) rfl (wpAny_bind (wpAny_field hos hds (x := vu) rfl (wpAny_bind (wpAny_field hos hds (x := vs) rfl (wpAny_pure ?_)))))))
  refine wpAny_bind (slicePart_ ps ?_)
  show wpAny _ _ (if ((-1 : Int) == 0) = true then _ else _) _ _ s
  rw [if_neg (by decide)]
  refine wpAny_bind (slicePart_ pl (wpAny_bind (slicePart_ pu (wpAny_bind (wpAny_pure ?_)))))
  show wpAny _ _ (pure ((Builtin.Slice.sliceAdjust none (some (k : Int)) (-1) (n : Int)).1, (-1 : Int), Builtin.Slice.slicePlaces (Builtin.Slice.sliceAdjust none (some (k : Int)) (-1) (n : Int)).1 (Builtin.Slice.sliceAdjust none (some (k : Int)) (-1) (n : Int)).2 (-1))) _ _ s
  rw [adjust_to hk, places_to hk]
  exact wpAny_pure h
theorem getItem_tuple_to {t sl : Addr} {items : Array Value} {vl vu vs : Value} {k : Nat} {Q : Value → Shared → Prop} (hk : k < items.size) (ht : IsTup s.heap t items) (hs : s.heap.IsSliceOf sl vl vu vs) (pl : IsPart vl none) (pu : IsPart vu (some (k : Int))) (ps : IsPart vs (some (-1)))
    (h : Q (.ref s.heap.objs.size) { s with heap := s.heap.push { cls := .type "tuple", data := .seq (items.toList.drop (k + 1)).reverse.toArray } })
    (hsz : items.size ≤ sizeLine) : wpAny (model prog w) A (getItem (.ref t) (.ref sl)) Q E s := by
  have htake : sizeOk (.seq (items.toList.drop (k + 1)).reverse.toArray) := by
    show (items.toList.drop (k + 1)).reverse.toArray.size ≤ sizeLine
    rw [List.size_toArray, List.length_reverse, List.length_drop, Array.length_toList]
    omega
  obtain ⟨os, hos, hcs, hds⟩ := id hs
  have hTs : s.TypeIs (.ref sl) "slice" := ⟨os, hos, hcs⟩
  unfold getItem
  try with_reducible refine wpAny_holding ?_
  first | refine wpAny_bind (wpAny_pure ?_) | skip
  refine wpAny_bind (wpAny_sequenceKey ht.typeIs (by decide) ?_)
  refine wpAny_bind (wpAny_callSpecial?_slot (name := Str.ofString "__getitem__") ht.typeIs PyProof.Rows.slot_tuple_getitem
    (wpAny_call_entry PyProof.Rows.slot_tuple_getitem ht.typeIs entry_tuple_getitem ?_ (args_tuple_getitem _ _)))
  show wpAny _ _ (Builtin.Tuple.tupleItemsOf (.ref t) >>= _) _ _ s
  refine wpAny_bind (tupleItemsOf_ ht ?_)
  refine wpAny_bind (wpAny_typeOf hTs ?_)
  rw [if_pos (by decide)]
  refine wpAny_bind (sliceApplied_to hk hs pl pu ps ?_)
  have hno : ¬ ((((items.size : Int) - 1) == 0 && (-1 : Int) == 1 && (items.size - 1 - k) == items.size) = true) := by
    intro q
    rw [Bool.and_eq_true, Bool.and_eq_true] at q
    exact absurd q.1.2 (by decide)
  show wpAny _ _ (if (((items.size : Int) - 1) == 0 && (-1 : Int) == 1 && (items.size - 1 - k) == items.size) = true then _ else _) _ _ s
  have hpick : ((List.range (items.size - 1 - k)).filterMap fun (m : Nat) => items[(((items.size : Int) - 1) + (m : Int) * (-1)).toNat]?).toArray = (items.toList.drop (k + 1)).reverse.toArray := by
    have e : (fun (m : Nat) => items[(((items.size : Int) - 1) + (m : Int) * (-1)).toNat]?) = fun (m : Nat) => items.toList[items.toList.length - 1 - m]? := by
      funext m
      rw [Array.length_toList, show (((items.size : Int) - 1) + (m : Int) * (-1)).toNat = items.size - 1 - m by omega]
      simp
    rw [e, pick_to items.toList _ (by rw [Array.length_toList]; omega), Array.length_toList, show items.size - (items.size - 1 - k) = k + 1 by omega]
  rw [if_neg hno, hpick]
  first
    | exact wpAny_bind (m := Builtin.Tuple.tupleExact _) (wpAny_newObj_type (wpAny_pure ⟨_, rfl, wpAny_pure h⟩) htake)
    | exact wpAny_bind (m := Builtin.Tuple.tupleExact _) (wpAny_newObj_type (wpAny_bind (wpAny_pure (wpAny_pure ⟨_, rfl, wpAny_pure h⟩))) htake)
    | exact wpAny_bind (wpAny_bind (m := Builtin.Tuple.tupleExact _) (wpAny_newObj_type (wpAny_pure (wpAny_pure ⟨_, rfl, wpAny_pure h⟩)) htake))
    | exact wpAny_bind (wpAny_bind (m := Builtin.Tuple.tupleExact _) (wpAny_newObj_type (wpAny_pure ⟨_, rfl, wpAny_pure h⟩) htake))
end
end HT
namespace Lv
open PySem PySem.Spec L2
section
variable {X : Cx} {z : Ent} {pos : Pos}
open PyProof.Rows in
def tSlB (K : PySem.W.Frag) (te : TE) (th : TO) : TE := fun σ H Q => te σ H fun x H1 => th σ H1 fun u H2 => ∃ (a : Addr) (xs : List V) (k : Nat), x = .ref a ∧ SqT K H2 a xs ∧ u = some (k : Int) ∧ k < xs.length ∧ ∀ p, H2 p = none → Q (.ref p) (upd H2 p (.tup (xs.drop (k + 1)).reverse))
theorem vals_drop {xs : List V} {us : List Value} (r : Vals xs us) : ∀ k, Vals (xs.drop k) (us.drop k) := by
  induction r with
  | nil => intro k; simp; exact .nil
  | cons h t ih =>
    intro k
    cases k with
    | zero => exact .cons h t
    | succ k => exact ih k
open PyProof.Rows in
theorem pe_slB {e hi : Expr} {te : TE} {th : TO} {k : Nat} {p1 p2 p3 pos : Pos} (he : PE X e te) (hh : PO X (some hi) th) : PE X (.Subscript e (.Slice none (some hi) (some (.UnaryOp .USub (.Constant (.int 1) k p1) p2)) p3) pos) (tSlB X.K te th) := by
  refine ⟨fun pins s σ H Q I h => ?_⟩
  refine PyProof.Rows.Subscript_ (thn (he.run pins s σ H _ I h) fun v s1 ⟨x, H1, I1, r1, q1⟩ => ?_)
  have hst : PO X (some (.UnaryOp .USub (.Constant (.int 1) k p1) p2)) (tPart (tUn (rU fun i => .int (-i)) (tC (.int 1)))) := po_some (pe_un un_neg pe_int)
  refine wpAny_Slice (thn (po_none.run pins s1 σ H1 (fun o H2 => o = none ∧ H2 = H1) I1 ⟨rfl, rfl⟩) fun vl s2 ⟨l, H2, I2, pl, el, e2⟩ => ?_)
  subst el e2
  refine thn (hh.run pins s2 σ H2 _ I2 q1) fun vu s3 ⟨u, H3, I3, pu, q3⟩ => ?_
  obtain ⟨a, xs, k', ex, hx, eu, hk, q⟩ := q3
  subst ex eu
  cases r1
  refine thn (hst.run pins s3 σ H3 (fun o H4 => o = some (-1) ∧ H4 = H3) I3 ⟨1, rfl, -1, rfl, rfl, rfl⟩) fun vs s4 ⟨o, H4, I4, ps, eo, e4⟩ => ?_
  subst eo e4
  have I5 : Inv X pins σ H4 { s4 with heap := s4.heap.push { cls := .type "slice", data := .fields #[vl, vu, vs] } } := I4.kept (t' := s4.toks) fun b ob q => Heap.get?_push_of_some _ q
  show wpAny (model X.prog X.w) X.A (subscriptTail e (.Slice none (some hi) (some (.UnaryOp .USub (.Constant (.int 1) k p1) p2)) p3) (.ref a) (.ref s4.heap.objs.size)) (EP X pins σ Q) X.xe { s4 with heap := s4.heap.push { cls := .type "slice", data := .fields #[vl, vu, vs] } }
  obtain ⟨its, r, ht, hz⟩ := I5.tuple hx
  have hlen := r.length
  refine tail_any (ops := [.ref a, .ref s4.heap.objs.size]) ht.typeIs (PyProof.Rows.slot_tuple_getitem.lookup) ?_ (by with_unfolding_all rfl)
  refine HT.getItem_tuple_to (k := k') (by rw [List.size_toArray]; omega) ht (Heap.IsSliceOf.new _ vl vu vs) pl pu ps ?_ (by rw [List.size_toArray]; omega)
  refine ⟨.ref _, _, I5.laid (t' := s4.toks) (o := .tup (xs.drop (k' + 1)).reverse) (fun b ob q => Heap.get?_push_of_some _ q) (Nat.le_refl _) ?_, rfl, q _ (I5.hok.fresh (Nat.le_refl _))⟩
  exact ⟨by rw [List.length_reverse, List.length_drop]; omega, _, (vals_drop r _).reverse, ⟨_, Heap.get?_push_size _ rfl, rfl, _, rfl⟩⟩
def sSlB (d : D) (u : Option Int) (P : Bool → D → Prop) : Prop := match d, u with
  | .tup ds, some i => (0 ≤ i ∧ i < ds.length) ∧ P false (.tup (ds.drop (i.toNat + 1)).reverse)
  | _, _ => False
theorem drs_drop {K : PySem.W.Frag} {F : Hp} : ∀ {vs : List V} {ds : List D}, DRs K F vs ds → ∀ k, DRs K F (vs.drop k) (ds.drop k)
  | _, _, r, 0 => r
  | _, _, .nil, k + 1 => .nil
  | _, _, .cons _ t, k + 1 => drs_drop t k
def dSlB (t : DO) (h : DP) : DX := fun δ w Q => t δ w fun d w1 => h δ w1 fun hi w2 => sSlB (res w2 d) hi fun b d' => Q b d' w2
theorem jx_slB {e hi : Expr} {t : DO} {th : DP} {k : Nat} {p1 p2 p3 : Pos} (hK : z.K = X.K) (he : JO X z e t) (hh : PO X (some hi) (liftP z th)) : JX X z (.Subscript e (.Slice none (some hi) (some (.UnaryOp .USub (.Constant (.int 1) k p1) p2)) p3) pos) (dSlB t th) :=
  PE.imp (pe_slB he hh) fun σ H Q ⟨δ, w, F, He, P, R, q, k⟩ => by
    refine ⟨δ, w, F, He, _, R, q, fun d w1 q1 v H1 F1 He1 wd1 st1 r1 => ?_⟩
    refine ⟨δ, w1, F1, He1, _, R.step wd1 st1, q1, fun o w2 q2 H2 F2 He2 wd2 st2 => ?_⟩
    have r := res_ok wd2.ex wd2.sh (r1.step st2)
    unfold sSlB at q2
    split at q2
    · next ds i hd =>
      rw [hd] at r
      obtain ⟨a, vs, rfl, ha, ra⟩ := r.tup wd2.sf
      obtain ⟨⟨h0, h1⟩, q3⟩ := q2
      refine ⟨a, vs, i.toNat, rfl, .of ha, by rw [Int.toNat_of_nonneg h0], by rw [ra.length]; omega, fun p hp => ?_⟩
      exact res_tup wd2 hp (drs_drop ra _).reverse q3 fun b d' p v H' F' He' wd s' rr => k b d' w2 p v H' F' He' wd ((st1.trans st2).trans s') (rr.base (st1.trans st2))
    · exact q2.elim
end
end Lv

namespace Lv
open PySem PySem.Spec L2
section
variable {X : Cx} {z : Ent}
/-! ### sorted(xs) of a list of numbers -/
def sSorted (d : D) (P : Bool → D → Prop) : Prop := ∃ ns : List Int, d = .lst (ns.map D.int) ∧ ∀ ns' : List Int, ns'.Perm ns → ns'.Pairwise (· ≤ ·) → P true (.lst (ns'.map D.int))
theorem sem_sorted : Sem1 z (fun x H Q => rSortedI z.K [x] H Q) sSorted := fun w F He H x d P Q wd dx q k => by
  obtain ⟨ns, rfl, q⟩ := q
  obtain ⟨a, vs, rfl, ha, ra⟩ := dx.lst wd.sf
  have e := ra.ints
  subst e
  exact ⟨a, ns, rfl, .of ha, fun ns' p h1 h2 hp => res_new wd hp (.lst (DRs.ofInts _)) (q ns' h1 h2) k⟩
end
end Lv

namespace Lv
open PySem PySem.Spec L2
section
variable {X : Cx} {z : Ent}
/-! ### list(d) of a dict with tuples as keys -/
theorem Wd.tupF {K : PySem.W.Frag} {w : Om} {F He H : Hp} {p : Addr} {vs : List V} {ds : List D} (x : Wd K w F He H) (h : H p = some (.tup vs)) (r : DRs K F vs ds) : ∃ F', Wd K w F' He H ∧ Same F F' ∧ Step F He H F' He H ∧ DR K F' (.ref p) (.tup ds) := by
  cases e : F p with
  | some u =>
    have := x.sf _ _ e
    rw [h] at this
    cases this
    exact ⟨F, x, Same.refl _, .refl, .tup e r⟩
  | none =>
    have hE : He p = none := by
      cases ew : w p with
      | none =>
        rcases x.ex.none_ p ew with g | ⟨q, g⟩
        · exact g
        · have := x.sh _ _ g; rw [h] at this; cases this
      | some c =>
        obtain ⟨o, g1, _, rc⟩ := x.at ew
        rw [h] at g1
        cases g1
        cases rc
    refine ⟨upd F p (.tup vs), x.freeze h e hE, same_upd e, ⟨same_upd e, fun b hb => ?_, fun _ h => .inl h, fun _ _ h _ => h, fun _ h => h, fun _ _ h => .inr h⟩, .tup upd_same (r.mono (same_upd e))⟩
    by_cases hbp : b = p
    · subst hbp; exact .inr (.inr ⟨vs, h⟩)
    · rw [upd_ne hbp] at hb; exact .inl hb
theorem keys_in {K : PySem.W.Frag} {w : Om} {F0 He H : Hp} : ∀ {vs : List (List Key × V)} {ds : List (List Key × D)} {bs : List Addr} {F : Hp}, IsKeys H vs bs → DTs K F0 vs ds → Wd K w F He H → ∃ F', Wd K w F' He H ∧ Same F F' ∧ Step F He H F' He H ∧ DRs K F' (bs.map V.ref) (ds.map fun q => .tup (q.1.map kD))
  | [], ds, bs, F, h, r, x => by
    cases h
    cases r
    exact ⟨F, x, Same.refl _, .refl, .nil⟩
  | v :: vs, ds, bs, F, h, r, x => by
    cases h with
    | cons h t =>
      cases r with
      | cons d r =>
        rename_i k v d ds
        obtain ⟨F1, x1, s1, t1, d1⟩ := x.tupF h (DRs.ofKeys k)
        obtain ⟨F2, x2, s2, t2, d2⟩ := keys_in t r x1
        exact ⟨F2, x2, s1.trans s2, t1.trans t2, .cons (d1.mono s2) d2⟩
def sListD (d : D) (P : Bool → D → Prop) : Prop := match d with
  | .dT ds => P true (.lst (ds.map fun q => .tup (q.1.map kD)))
  | d => sList d P
theorem sListD_dT (ds : List (List Key × D)) (P : Bool → D → Prop) : sListD (.dT ds) P = P true (.lst (ds.map fun q => .tup (q.1.map kD))) := rfl
theorem sem_listD : Sem1 z (fun x H Q => (∃ p ys, [x] = [V.ref p] ∧ (SqL z.K H p ys ∨ SqT z.K H p ys) ∧ ∀ l, H l = none → Q (.ref l) (upd H l (.lst ys))) ∨ (∃ d kvs, [x] = [V.ref d] ∧ Rd H d (.dT kvs) ∧ ∀ p bs, H p = none → IsKeys H kvs bs → Q (.ref p) (upd H p (.lst (bs.map V.ref))))) sListD := fun w F He H x d P Q wd dx q k => by
  unfold sListD at q
  split at q
  · obtain ⟨a, vs, rfl, ha, ra⟩ := dx.dT wd.sf
    refine .inr ⟨a, vs, rfl, .of ha, fun p bs hp hk => ?_⟩
    obtain ⟨F2, x2, s2, t2, d2⟩ := keys_in hk ra wd
    exact k true _ q _ _ F2 He (x2.alloc hp) (t2.trans (.alloc hp)) ⟨p, _, rfl, upd_same, x2.fnone hp, x2.henone hp, hp, .lst d2⟩
  · exact .inl (sem_list w F He H x _ P Q wd dx q k)
end
end Lv

namespace Lv
open PySem PySem.Spec L2 SX
/-! ### text * int -/
def repS (a : Str) (n : Nat) : Str := ⟨(List.replicate n a.cps).foldl (· ++ ·) #[]⟩
def rMulS : R2 := fun x y H Q => ∃ a k, x = .str a ∧ y = .int k ∧ -(2 ^ 63) ≤ k ∧ k < 2 ^ 63 ∧ a.length * k.toNat ≤ 1000000 ∧ Q (.str (repS a k.toNat)) H
theorem repS_one (a : Str) : repS a 1 = a := by
  unfold repS
  simp
theorem foldl_app : ∀ (l : List (Array Nat)) (acc : Array Nat), (l.foldl (· ++ ·) acc).toList = acc.toList ++ (l.map Array.toList).flatten
  | [], acc => by simp
  | a :: l, acc => by
    rw [List.foldl_cons, foldl_app l]
    simp
theorem repS_S (u : List Nat) (n : Nat) : repS (S u) n = S (List.replicate n u).flatten := by
  unfold repS
  have h : ((List.replicate n (S u).cps).foldl (· ++ ·) #[]).toList = (List.replicate n u).flatten := by
    rw [foldl_app]
    simp [List.map_replicate, S]
  have : ((List.replicate n (S u).cps).foldl (· ++ ·) #[]) = ((List.replicate n u).flatten).toArray := by
    apply Array.ext'
    rw [h]
  rw [this]
section
variable {X : Cx} {z : Ent}
theorem op_mulS : OpR X (binaryOp .Mult) rMulS := by
  intro pins s σ H x y v u Q I rx ry h
  obtain ⟨a, k, rfl, rfl, h1, h2, hl, q⟩ := h
  obtain ⟨t, rfl⟩ := rx
  obtain ⟨t', rfl⟩ := ry
  refine P.mul_str (by rw [decide_eq_false (by omega), decide_eq_false (by omega)]; rfl) (fun h3 h4 => ?_) (fun h3 h4 => ?_) ?_
  · have : ((a.length * k.toNat : Nat) : Int) = (a.length : Int) * k := by rw [Int.natCast_mul, Int.toNat_of_nonneg (by omega)]
    have := (Int.le_ediv_iff_mul_le (c := k) (a := (a.length : Int)) (b := 2 ^ 63 - 1) (by omega)).mpr (by omega)
    omega
  · unfold Builtin.Str.tooLong
    rw [sizeLine_eq]
    exact decide_eq_false (by omega)
  · split
    · next hn =>
      have e : repS a k.toNat = Str.empty := by rw [show k.toNat = 0 by omega]; rfl
      rw [e] at q
      exact ⟨by decide, .str Str.empty, H, I.tok _, ⟨_, rfl⟩, q⟩
    · split
      · next hn hc =>
        have e : repS a k.toNat = a := by
          simp at hc
          rcases hc with hc | hc
          · rw [show k.toNat = 1 by omega]; exact repS_one a
          · have h0 : a.cps = #[] := Array.eq_empty_of_size_eq_zero hc
            unfold repS
            rw [h0]
            have : ∀ n : Nat, (List.replicate n (#[] : Array Nat)).foldl (· ++ ·) #[] = #[] := fun n => by
              apply Array.ext'
              rw [foldl_app]
              simp [List.map_replicate]
            rw [this, ← h0]
        rw [e] at q
        exact ⟨.str a, H, I, ⟨_, rfl⟩, q⟩
      · have hlen : (repS a k.toNat).length = k.toNat * a.length := by
          show (repS a k.toNat).cps.size = _
          unfold repS
          rw [← Array.length_toList, foldl_app, List.map_replicate, List.length_append, List.length_flatten]
          simp
          rfl
        refine ⟨?_, .str (repS a k.toNat), H, I.tok _, ⟨_, rfl⟩, q⟩
        show (repS a k.toNat).length ≤ sizeLine
        rw [hlen, sizeLine_eq, Nat.mul_comm]
        omega
def sMulS (d e : D) (P : Bool → D → Prop) : Prop := match d, e with
  | .str a, .int k => (-(2 ^ 63) ≤ k ∧ k < 2 ^ 63) ∧ a.length * k.toNat ≤ 1000000 ∧ P false (.str (repS a k.toNat))
  | _, _ => False
theorem sem_mulS : Sem2 z rMulS sMulS := fun w F He H x y d e P Q wd dx dy q k => by
  unfold sMulS at q
  split at q
  · exact ⟨_, _, dx.str, dy.int, q.1.1, q.1.2, q.2.1, res_at wd (.str _) q.2.2 k⟩
  · exact q.elim
theorem sMulS_S (u : List Nat) (k : Int) (P : Bool → D → Prop) : sMulS (.str (S u)) (.int k) P = ((-(2 ^ 63) ≤ k ∧ k < 2 ^ 63) ∧ u.length * k.toNat ≤ 1000000 ∧ P false (.str (S (List.replicate k.toNat u).flatten))) := by
  show ((-(2 ^ 63) ≤ k ∧ k < 2 ^ 63) ∧ (S u).length * k.toNat ≤ 1000000 ∧ P false (.str (repS (S u) k.toNat))) = _
  rw [repS_S, S_len]
end
end Lv

namespace Lv
open PySem PySem.Spec L2
/-! ### a comprehension over a text that stands there -/
theorem fsi_str {x : Str} {j : Nat} {p : Pos} {env : Env} (v : Value) : foldedSetIterable (.Constant (.str x) j p) env v = pure v := rfl
theorem js_setLcV {X : Cx} {z : Ent} {pos : Pos} {i : Nat} {y : Str} {py : Pos} {elt tg iter : Expr} {ifs : List Expr} {scope : Scope} {own : List (Str × Nat)} {it : DI} {G : TG} {g : DG} {tt : DTs_} {te : DX} {spos : Pos} (own' : Bool) (vs : List Nat) (hv : own.map (·.2) = vs) (hc : X.calm = true) (hN : X.N.Nodup) (hy : X.N[i]? = some y) (hyl : X.env.scope.names.lookup y = some .local)
    (hsw : swapsWith (.ListComp elt [⟨tg, iter, ifs, 0⟩] scope pos) (some (.Name y py)) spos.line X.env = pure true) (hi : PI X tg iter (liftI z it)) (ok : BlkOk X.N X.env.scope scope own) (gok : GOkV z vs G g)
    (hg : ∀ (s : Shared) (H : Hp) (C : Addr) (cl : List (Str × Addr)) (fp : List Addr), PG (X.blk s H scope (compEnvC scope cl C X.env) fp) tg G) (ht : ∀ (s : Shared) (H : Hp) (C : Addr) (cl : List (Str × Addr)) (fp : List Addr), PTs (X.blk s H scope (compEnvC scope cl C X.env) fp) ifs (liftT z tt))
    (he : ∀ (s : Shared) (H : Hp) (C : Addr) (cl : List (Str × Addr)) (fp : List Addr), JX (X.blk s H scope (compEnvC scope cl C X.env) fp) z elt te) (hs : ∀ x, foldedSetIterable iter X.env x = pure x) :
    JS X z (.Assign [.Name y py] (.ListComp elt [⟨tg, iter, ifs, 0⟩] scope pos) spos) (dSet own' i (dLc it g tt te vs)) := by
  subst hv
  exact js_setLc own' hc hN hy hyl hsw hi ok gok hg ht he hs
end Lv

namespace Lv
open PySem PySem.Spec L2

/-! ### a raising def called with its default given by name; an exception made as a value -/
section
variable {X : Cx} {z : Ent} {pos : Pos}
def tCallSK (sp : Sp) (gV : List V → List V → List V) (E : L2.St → XK) (t tk : TA) : TE := fun σ H Q => t σ H fun vs H1 => tk σ H1 fun zs H2 => sp (gV vs zs) H2 Q (E σ)
theorem pe_callSK {CX : CXT} {k : Nat} {f : Addr} {fd : FuncData} {ps ks : List Str} {sp : Sp} {E : L2.St → XK} {x : Str} {p : Pos} {e : Expr} {es : List Expr} {kws : List Keyword} {t tk : TA} {g : List Value → List Value → List Value} {gV : List V → List V → List V} (F : FnOk X.prog X.w X.K X.mg X.base CX k f fd ps sp) (hr : Room k X.A) (hg : Gl X x) (hm : X.mg x = some (.ref f)) (hk : PySem.W.keepIn X.K (.ref f) = true) (hb : KBinds X.K fd ps ks g gV) (hx : ∀ σ, PassesAt CX X σ (E σ))
    (ha : PA X (e :: es) t) (hkw : PK X kws tk) (hall : (backToKw pos (keywordEach kws X.env)).all (·.1.isSome) = true := by rfl) (hks : (backToKw pos (keywordEach kws X.env)).filterMap (·.1) = ks := by rfl)
    (hdb : (x == ("__debug__" : Str)) = false := by decide) (he : starEach (e :: es) X.env = (false, eval e X.env) :: starEach es X.env := by rfl)
    (hpl : ((backTo pos (starEach (e :: es) X.env)).any (·.1) || (backToKw pos (keywordEach kws X.env)).any (·.1.isNone)) = false := by rfl) :
    PE X (.Call (.Name x p) (e :: es) kws pos) (tCallSK sp gV E t tk) := by
  refine ⟨fun pins s σ H Q I h => ?_⟩
  refine wpAny_Call_Name_kw (ld_glob I hg hm ?_ hdb)
  refine PySem.W.callWith_KW (h₀ := X.base) I.ok.mod.kin hk hall (thn (ha.run pos pins s σ H _ I h) fun us s1 ⟨vs, H1, I1, r, q⟩ => ?_) hpl he
  refine thn (hkw.run pos pins s1 σ H1 _ I1 q) fun ws s2 ⟨zs, H2, I2, rz, q2⟩ => ⟨I2.kIn, ?_⟩
  rw [hks]
  have r2 := hb.rel r rz
  have hl : (g us ws).length = ps.length := by rw [← r2.length]; exact F.len _ _ _ _ q2
  refine wpAny_call (codeAny_mono (F.run X.A X.stack s2 H2 ⟨us, ks.zip ws⟩ (g us ws) (gV vs zs) Q (E σ) hr I2.env0 (hb.to s2 us ws I2.kIn hl) r2 q2) fun r s' hq => ?_)
  match r, hq with
  | .error e, hq => exact hx σ pins H2 s2 e s' I2 hq
  | .ok (.ret u), hq => exact I2.after hq
  | .ok .next, hq => exact False.elim hq
  | .ok .brk, hq => exact False.elim hq
  | .ok .cont, hq => exact False.elim hq
end
def gK {α : Type} (n : Nat) (us ws : List α) : List α := if us.length = n ∧ ws.length = 1 then us ++ ws else []
structure FnXK (P : Program) (w : World) (K : PySem.W.Frag) (mg : Str → Option Value) (base : Heap) (k : Nat) (x : Str) (n : Nat) (dv : V) (kw : Str) (T : DSpX) : Prop where
  ex : ∃ (f : Addr) (fd : FuncData) (ps : List Str), FnOk P w K mg base (L2.CX P w) k f fd ps (toSpX K T) ∧ mg x = some (.ref f) ∧ PySem.W.keepIn K (.ref f) = true ∧ KBinds K fd ps [kw] (gK n) (gK n)
  ln : ∀ ds w P Px, T ds w P Px → ds.length = n + 1
  d : FnXD P w K mg base k x n dv T
def dCallXK (T : DSpX) (x : DXK) (t : DA) (tk : DX) : DX := fun δ w Q => t δ w fun ds w1 => tk δ w1 fun b d w2 => b = false ∧ T (ds ++ [d]) w2 Q fun cn fs w3 => x cn fs δ w3
section
variable {X : Cx} {z : Ent} {pos : Pos}
theorem callXK_lift {T : DSpX} {x : DXK} {t : DA} {tk : DX} {n : Nat} {σ : L2.St} {H : Hp} {Q : VK} {K : PySem.W.Frag} (hK : z.K = K) (ln : ∀ ds w P Px, T ds w P Px → ds.length = n + 1) (h : liftX z (dCallXK T x t tk) σ H Q) : tCallSK (toSpX K T) (gK n) (WE (liftW z x)) (liftA z t) (tCons (liftX z tk) tNil) σ H Q := by
  subst hK
  obtain ⟨δ, w, F, He, P, R, q, k⟩ := h
  refine ⟨δ, w, F, He, _, R, q, fun ds w1 q1 vs H1 F1 He1 wd1 st1 r1 => ?_⟩
  refine ⟨δ, w1, F1, He1, _, R.step wd1 st1, q1, fun b d w2 q2 v H2 F2 He2 wd2 st2 rr => ?_⟩
  obtain ⟨rfl, q3⟩ := q2
  have hn := ln _ _ _ _ q3
  have hv : gK n vs [v] = vs ++ [v] := if_pos ⟨by
    have := r1.length
    simp at hn
    omega, rfl⟩
  show toSpX z.K T (gK n vs [v]) H2 Q _
  rw [hv]
  refine ⟨ds ++ [d], w2, F2, He2, P, _, wd2, (r1.mono st2.fz).append (.cons rr .nil), q3, fun b d w' p v H' F' He' wd st r => k b d w' p v H' F' He' wd ((st1.trans st2).trans st) (r.base (st1.trans st2)), fun cn fs w' p C d H' F' He' wd st n xd => ?_⟩
  exact ⟨δ, w', F', He', cn, fs, C, R.step wd ((st1.trans st2).trans st), rfl, n, xd, p⟩
theorem jx_callXK {k n : Nat} {T : DSpX} {xx : DXK} {t : DA} {tk : DX} {x kw : Str} {p kp : Pos} {e ek : Expr} {es : List Expr} {dv : V} (f : FnXK X.prog X.w X.K X.mg X.base k x n dv kw T) (tk0 : Takes X (liftW z xx)) (hK : z.K = X.K) (hr : Room k X.A) (ha : JA X z (e :: es) t) (hk : JX X z ek tk) (hg : Gl X x := by rfl)
    (hall : (backToKw pos (keywordEach [⟨some kw, ek, kp⟩] X.env)).all (·.1.isSome) = true := by rfl) (hks : (backToKw pos (keywordEach [⟨some kw, ek, kp⟩] X.env)).filterMap (·.1) = [kw] := by rfl)
    (hdb : (x == ("__debug__" : Str)) = false := by decide) (he : starEach (e :: es) X.env = (false, eval e X.env) :: starEach es X.env := by rfl)
    (hpl : ((backTo pos (starEach (e :: es) X.env)).any (·.1) || (backToKw pos (keywordEach [⟨some kw, ek, kp⟩] X.env)).any (·.1.isNone)) = false := by rfl) : JX X z (.Call (.Name x p) (e :: es) [⟨some kw, ek, kp⟩] pos) (dCallXK T xx t tk) := by
  obtain ⟨fa, fd, ps, a, b, c, d⟩ := f.ex
  exact PE.imp (pe_callSK a hr hg b c d (fun σ => passAt tk0 σ) ha (pk_cons hk pk_nil) hall hks hdb he hpl) fun σ H Q h => callXK_lift hK f.ln h
end
section
variable {P : Program} {w : World} {K : PySem.W.Frag} {mg : Str → Option Value} {base : Heap}
theorem fnXK_ok {T : DSpX} {x qual kw : Str} {st : Stmt} {f : Addr} {fd : FuncData} {N ps : List Str} {k n : Nat} {dv : V} (F : FunD K x qual (defArgs st) (defBody st) (defScope st) [dv] [] f fd) (S : FnScope N ps (defScope st)) (hm : mg x = some (.ref f)) (hn : ps.length = n + 1)
    (hb0 : ∀ (T : Addr) (kV doc pm : Value) (an : Option Addr) (cdv ct : Value) (us its : List Value), us.length = n + 1 → its.length = 1 →
      ∃ k, bindArgs (PySem.W.fnOf x qual (defArgs st) (defBody st) (defScope st) (.ref T) kV doc pm an cdv ct) ⟨us, []⟩ = seqItems? (.ref T) >>= k ∧ k (some its.toArray) = pure (ps.zip (us ++ its.drop 1)))
    (hb1 : ∀ (T : Addr) (kV doc pm : Value) (an : Option Addr) (cdv ct : Value) (us its : List Value), us.length = n → its.length = 1 →
      ∃ k, bindArgs (PySem.W.fnOf x qual (defArgs st) (defBody st) (defScope st) (.ref T) kV doc pm an cdv ct) ⟨us, []⟩ = seqItems? (.ref T) >>= k ∧ k (some its.toArray) = pure (ps.zip (us ++ its.drop 0)))
    (hb2 : ∀ (T : Addr) (kV doc pm : Value) (an : Option Addr) (cdv ct : Value) (us its : List Value) (u : Value), us.length = n → its.length = 1 →
      ∃ k, bindArgs (PySem.W.fnOf x qual (defArgs st) (defBody st) (defScope st) (.ref T) kV doc pm an cdv ct) ⟨us, [(kw, u)]⟩ = seqItems? (.ref T) >>= k ∧ k (some its.toArray) = pure (ps.zip (us ++ [u])))
    (len : ∀ ds w P Px, T ds w P Px → ds.length = ps.length)
    (h : ∃ tb : Om → DXK → DS, (∀ (cdv : Value) (A : Around) (outer : List Env) (s : Shared) (H F0 He0 : Hp) (w0 : Om) (rep0 : rep K w0 F0 He0) (E : XK) (y : DXK), Room k (A.deeper (PyProof.Rows.envOfC qual (defScope st) s.heap.objs.size f cdv)) →
        Takes (cxOf (L2.CX P w) P w K mg base N qual (defScope st) f cdv A outer s H E) (liftW ⟨K, F0, He0, H, w0, rep0⟩ y) → JSs (cxOf (L2.CX P w) P w K mg base N qual (defScope st) f cdv A outer s H E) ⟨K, F0, He0, H, w0, rep0⟩ (defBody st) (tb w0 y)) ∧
      ∀ ds w P Px, T ds w P Px → tb w (xDef Px) { nx := fun _ w => P false .non w, rt := P } (startD N ds) w) : FnXK P w K mg base (k + 1) x n dv kw T := by
  have D := fnXD_ok F S hm hn hb0 hb1 len h
  refine ⟨?_, fun ds w P Px q => by rw [← hn]; exact len _ _ _ _ q, D⟩
  obtain ⟨tb, hb, hT⟩ := h
  refine ⟨f, fd, ps, F.ok S (fun vs H Q E h => ?_) (fun cdv A outer s H vs Q E hr h => ?_), hm, F.kp, ⟨fun s us ws X hl => ?_, fun {vs us zs ws} r rz => ?_⟩⟩
  · obtain ⟨ds, w, F, He, P, Px, _, r, q, _⟩ := h
    rw [r.length]
    exact len _ _ _ _ q
  · obtain ⟨ds, w, F, He, P, Px, wd, r, q, k, kx⟩ := h
    refine ⟨_, hb cdv A outer s H F He w wd.ex E (xDef Px) hr ((takes_of rfl rfl rfl rfl).imp fun cls d σ1 H1 hw => ?_), startD N ds, w, F, He, _, rel_start wd r, hT ds w P Px q, ?_⟩
    · obtain ⟨δ1, w1, F1, He1, cn, fs, C, R1, rfl, hC, xd, p⟩ := hw
      exact kx cn fs w1 p C d H1 F1 He1 R1.wd R1.st hC xd
    · exact ⟨fun δ w' F' He' σ H' p R _ => k _ _ _ p .non H' F' He' R.wd R.st .non, fun b d w' p v H' F' He' wd' st' rr => k b d w' p v H' F' He' wd' st' rr, fun _ _ _ _ _ _ p => p.elim, fun _ _ _ _ _ _ p => p.elim⟩
  · by_cases hc : us.length = n ∧ ws.length = 1
    · have hg : gK n us ws = us ++ ws := if_pos hc
      rw [hg]
      obtain ⟨u, rfl⟩ : ∃ u, ws = [u] := by
        match ws, hc.2 with
        | [u], _ => exact ⟨u, rfl⟩
      obtain ⟨oc, od, dV, kV, doc, pm, an, cdv, ct, osl, rfl, lk, hcd, hD, hK⟩ := F.ex
      rcases hD with ⟨e, _⟩ | ⟨_, T, o, its, m, rfl, lT, oT, rT⟩
      · cases e
      · obtain ⟨k, e1, e2⟩ := hb2 T kV doc pm an cdv ct us its u hc.1 rT.length.symm
        refine BindsTo.of_looks fun M => ?_
        show PySem.W.Looks M s.heap (bindArgs _ ⟨us, [(kw, u)]⟩) _
        rw [e1]
        exact looks_items X lT oT (.of_pure e2)
    · have hg : gK n us ws = [] := if_neg hc
      rw [hg, hn] at hl
      simp at hl
  · unfold gK
    rw [r.length, rz.length]
    by_cases hc : us.length = n ∧ ws.length = 1
    · rw [if_pos hc, if_pos hc]; exact r.append rz
    · rw [if_neg hc, if_neg hc]; exact .nil
end

/-! ### an exception with a making of its own, as a value -/
theorem pe_made {X : Cx} {e : Expr} {t : L2.St → Hp → XK → Prop} (hex : X.ex = []) (he : PMk X e t) : PE X e (fun σ H Q => t σ H fun cls d H' => ∃ C, cls = .ref C ∧ ∀ a, H' a = none → Q (.ref a) (upd H' a (exk a C d))) := by
  refine ⟨fun pins s σ H Q I h => ?_⟩
  refine wpAny_mono (he pins s σ H _ I h) (fun u s1 hu => ?_) fun _ _ x => x
  obtain ⟨a, oe, vs, sI, H', cls, d, rfl, J, k, hne, ha, hz, hd, h1, na, os, ag, r, C, rfl, q⟩ := hu
  have n0 : X.s_0.heap.get? a = none := by
    cases g : X.s_0.heap.get? a with
    | none => rfl
    | some o =>
      obtain ⟨o', z⟩ := J.base.there a o g (by rw [hex]; exact fun z => nomatch z)
      rw [hne] at z
      cases z
  have np : ∀ p ∈ X.pn ++ pins, p.1 ≠ a := fun p hp z => by
    have g := (J.pin p hp).1
    rw [z, hne] at g
    cases g
  have J2 : Inv X pins σ H' s1 := J.landed (B := PySem.W.hideAll sI.heap (frs X.stack)) (fun b o e hb => PySem.W.hideAll_get _ e hb) (fun b o e => k b o (PySem.W.of_hideAll _ e)) (Heap.UpToSlots.of_keeps k) os ag
  have nl : a ≠ X.env.locals := fun z => by
    obtain ⟨m, ⟨o, _, _, e, _⟩, _⟩ := J.loc
    rw [← z, hne] at e
    cases e
  exact ⟨.ref a, _, Inv.grab J2 na n0 np nl ha hd (exk_ok ha hz hd), rfl, q a na⟩
def kTMv (Q : Bool → D → Om → Prop) (w : Om) : List D → Prop
  | [d, .ref l] => ∃ rows, w l = some (.lst rows) ∧ Q false (.exc "TooMany" [("rows", .lst rows), ("made", d)]) w
  | _ => False
def dMakeTM (t : DA) : DX := fun δ w Q => t δ w fun ds w1 => kTMv Q w1 ds
theorem jx_makeTM {X : Cx} {z : Ent} {p p3 : Pos} {C : Addr} {k : Nat} {t : DA} {e : Expr} {es : List Expr} (T : TMFn X.prog X.w X.K X.mg X.base k C) (hK : z.K = X.K) (hr : Room (k + 1) X.A) (ha : JA X z (e :: es) t) (hex : X.ex = [] := by rfl) (hg : Gl X "TooMany" := by rfl)
    (he : starEach (e :: es) X.env = (false, eval e X.env) :: starEach es X.env := by rfl) (hpl : (backTo p3 (starEach es X.env)).any (·.1) = false := by rfl) : JX X z (.Call (.Name "TooMany" p) (e :: es) [] p3) (dMakeTM t) := by
  obtain ⟨f, fd, ps, K1, F1, B⟩ := T.ex
  refine PE.imp (pe_made hex (pmk_oex K1.ox K1.ini K1.tf F1 hr B .nil pass0 hg K1.at_ ha (by decide) he hpl)) fun σ H Q hq => ?_
  obtain ⟨δ, w, F, He, P, R, q, kk⟩ := hq
  refine ⟨δ, w, F, He, _, R, q, fun ds w1 q1 vs H1 F1 He1 wd1 st1 r1 => ?_⟩
  unfold kTMv at q1
  split at q1
  case h_2 => exact q1.elim
  next d l0 =>
  obtain ⟨rows, hw, q1⟩ := q1
  cases r1 with
  | cons rv r1 =>
  next v vs =>
  cases r1 with
  | cons rl r1 =>
  cases r1
  cases rl with
  | ref l =>
  obtain ⟨o, hh1, hh2⟩ := wd1.ex.some_ _ _ hw
  cases hh2 with
  | @lst xs _ rx =>
  have sl := wd1.sh _ _ hh1
  refine ⟨by simp, fun a na => ?_⟩
  have nla : l0 ≠ a := fun e => by rw [e, na] at sl; cases sl
  refine ⟨a, l0, v, xs, rfl, upd_same, by rw [upd_ne nla]; exact sl, fun dx p hdx hp npd => ?_⟩
  have nda : dx ≠ a := fun e => by rw [e, upd_same] at hdx; cases hdx
  have npa : p ≠ a := fun e => by rw [e, upd_same] at hp; cases hp
  rw [upd_ne nda] at hdx
  rw [upd_ne npa] at hp
  refine ⟨rfl, dx, [("rows", .ref p), ("made", v)], ?_, upd_same, hdx, C, rfl, fun a' na' => ?_⟩
  · rw [upd_ne (Ne.symm nda), upd_ne (Ne.symm npa), upd_same]
  · have eq : upd (del (upd (upd (upd (upd (upd H1 a (exo a C none)) dx (exd dx [("made", v)])) a (exo a C (some dx))) p (.lst xs)) dx (exd dx [("rows", .ref p), ("made", v)])) a) dx (.xd [("rows", .ref p), ("made", v)]) = upd (upd H1 p (.lst xs)) dx (.xd [("rows", .ref p), ("made", v)]) := by
      funext b
      by_cases h1 : b = dx
      · subst h1; rw [upd_same, upd_same]
      · rw [upd_ne h1, upd_ne h1]
        by_cases h2 : b = a
        · subst h2
          rw [del_same, upd_ne (Ne.symm npa), na]
        · rw [del_ne h2, upd_ne h1]
          by_cases h3 : b = p
          · subst h3; rw [upd_same, upd_same]
          · rw [upd_ne h3, upd_ne h2, upd_ne h1, upd_ne h2, upd_ne h3]
    rw [eq] at na' ⊢
    have W1 := wd1.alloc (o := .lst xs) hp
    have n1 := wd1.fnone hp
    have m1 := wd1.henone hp
    have W2 := W1.freeze upd_same n1 m1
    have S2 : Step F1 He1 H1 (upd F1 p (.lst xs)) He1 (upd H1 p (.lst xs)) := (Step.alloc hp).freeze n1 hp
    have hd2 : upd H1 p (.lst xs) dx = none := by rw [upd_ne (Ne.symm npd)]; exact hdx
    have W3 := W2.alloc (o := .xd [("rows", .ref p), ("made", v)]) hd2
    have W4 := W3.freeze upd_same (W2.fnone hd2) (W2.henone hd2)
    have S4 : Step F1 He1 H1 (upd (upd F1 p (.lst xs)) dx (.xd [("rows", .ref p), ("made", v)])) He1 (upd (upd H1 p (.lst xs)) dx (.xd [("rows", .ref p), ("made", v)])) := S2.trans ((Step.alloc hd2).freeze (W2.fnone hd2) hd2)
    have W5 := (W4.alloc (o := exk a' C (some dx)) na').freeze upd_same (W4.fnone na') (W4.henone na')
    have S5 : Step F1 He1 H1 (upd (upd (upd F1 p (.lst xs)) dx (.xd [("rows", .ref p), ("made", v)])) a' (exk a' C (some dx))) He1 (upd (upd (upd H1 p (.lst xs)) dx (.xd [("rows", .ref p), ("made", v)])) a' (exk a' C (some dx))) := S4.trans ((Step.alloc na').freeze (W4.fnone na') na')
    have nad : dx ≠ a' := fun e => by rw [← e, upd_same] at na'; cases na'
    have nap : p ≠ a' := fun e => by
      rw [← e, upd_ne npd, upd_same] at na'
      cases na'
    refine kk _ _ _ q1 _ _ _ _ W5 (st1.trans S5) (.exc1 (C := C) (dd := dx) (vs := [("rows", .ref p), ("made", v)]) upd_same (by rw [hK]; exact K1.ns) (by rw [upd_ne nad, upd_same]) (.cons (.lst (vs := xs) ?_ (rx.mono S5.fz)) (.cons (rv.mono S5.fz) .nil)))
    rw [upd_ne nap, upd_ne npd, upd_same]
end Lv

namespace Lv
open PySem PySem.Spec L2
/-! ### sorted(xs) of a list of lists of numbers -/
def rowE (b : V × List Int) : PyData := .list (b.2.map .int)
def rSortedL (K : PySem.W.Frag) : List V → Hp → VK → Prop := fun vs H Q => ∃ (a : Addr) (bs : List (V × List Int)), vs = [V.ref a] ∧ SqL K H a (bs.map (·.1)) ∧ (∀ b ∈ bs, Dp K H b.1 (rowE b)) ∧
  ∀ (bs' : List (V × List Int)) (p : Addr), bs'.Perm bs → bs'.Pairwise (fun b c => b.2 ≤ c.2) → H p = none → Q (.ref p) (upd H p (.lst (bs'.map (·.1))))
theorem each_row {X : Cx} {pins : List (Addr × Obj)} {σ : L2.St} {H : Hp} {s : Shared} (I : Inv X pins σ H s) : ∀ (bs : List (V × List Int)) (us : List Value), Vals (bs.map (·.1)) us → (∀ b ∈ bs, Dp X.K H b.1 (rowE b)) → PySem.W.EachIs (fun v b => RelV b.1 v ∧ ∃ as, Reads s.heap v (rowE b) as) us bs
  | [], us, r, _ => by cases r; exact .nil
  | b :: bs, us, r, h => by
    cases r with
    | cons r1 r2 => exact .cons ⟨r1, Dp.reads I _ _ _ (h b List.mem_cons_self) r1⟩ (each_row I bs _ r2 fun c hc => h c (List.mem_cons_of_mem _ hc))
theorem each_vals : ∀ {bs : List (V × List Int)} {us : List Value}, PySem.W.EachIs (fun v b => RelV b.1 v) us bs → Vals (bs.map (·.1)) us
  | _, _, .nil => .nil
  | _, _, .cons h t => .cons h (each_vals t)
section
variable {X : Cx} {z : Ent}
theorem cr_sortedL (hu : X.A.units + 64 < cLine) : CallR X (.builtin "sorted") (rSortedL X.K) := by
  intro pins s σ H vs us Q I r h
  obtain ⟨a, bs, rfl, hs, hd, q⟩ := h
  obtain ⟨its, rv, hl, hz⟩ := I.list hs
  rw [Vals.ref1 r]
  have e := each_row I bs its rv hd
  refine PySem.W.sorted_data (R := fun v b => RelV b.1 v) (enc := rowE) hl.isList (e.mono fun _ _ h => h.1) (e.mono fun _ _ h => h.2) (PySem.W.AllAlike.of fun b b' => by simpa [rowE, PySem.W.alike] using PySem.W.alike_ints b.2 b'.2) (PySem.W.Sortable.others fun b => ⟨by simp [rowE], fun xs => by simp [rowE]⟩) (by rw [List.length_map] at hz; exact hz) (fun b _ => by
    have := PySem.W.depth_ints b.2
    simp only [rowE, PyData.depth]
    omega) fun out ho eo => ?_
  have hp : (bs.mergeSort (PySem.W.dataLe false rowE)).Perm bs := List.mergeSort_perm _ _
  have tot : PySem.W.TotalLe (PySem.W.dataLe false rowE) := PySem.W.sortLe_total _ false _
  have hw : (bs.mergeSort (PySem.W.dataLe false rowE)).Pairwise fun b c => b.2 ≤ c.2 := by
    have h1 := List.pairwise_mergeSort (le := PySem.W.dataLe false rowE) tot.trans (fun a b => by have := tot.total a b; simpa using this) bs
    refine h1.imp fun {b c} h => ?_
    have e2 : PySem.W.dataLe false rowE = fun p q => decide (p.2 ≤ q.2) := PySem.W.dataLe_rows (β := V × List Int) fun b => b.2
    rw [e2] at h
    exact of_decide_eq_true h
  obtain ⟨ep, he'⟩ := PyProof.Rows.sortedAll_at s.heap its out.toArray
  have hlen : ((bs.mergeSort (PySem.W.dataLe false rowE)).map (·.1)).length ≤ sizeLine := by
    rw [List.length_map, hp.length_eq]
    rw [List.length_map] at hz
    exact hz
  exact ⟨.ref _, upd H (s.heap.objs.size + 1) (.lst ((bs.mergeSort (PySem.W.dataLe false rowE)).map (·.1))), I.laid (t' := s.toks) (fun _ _ => PyProof.Rows.sortedAll_old) (Nat.le_succ _) ⟨hlen, out, ep, each_vals eo, he'⟩, rfl, q _ _ hp hw (I.hok.fresh (Nat.le_succ _))⟩
def sSortedL (d : D) (P : Bool → D → Prop) : Prop := ∃ ls : List (List Int), d = .lst (ls.map fun l => D.lst (l.map D.int)) ∧ ∀ ls' : List (List Int), ls'.Perm ls → ls'.Pairwise (· ≤ ·) → P true (.lst (ls'.map fun l => D.lst (l.map D.int)))
theorem ints_py : ∀ l : List Int, pyAll (l.map D.int) = l.map .int
  | [] => rfl
  | x :: l => by rw [List.map_cons, pyAll, ints_py l]; rfl
theorem row_py (l : List Int) : (D.lst (l.map D.int)).py = .list (l.map .int) := by rw [D.py, ints_py]
theorem drs_pairs {K : PySem.W.Frag} {F : Hp} : ∀ {vs : List V} {ls : List (List Int)}, DRs K F vs (ls.map fun l => D.lst (l.map D.int)) → ∃ bs : List (V × List Int), vs = bs.map (·.1) ∧ ls = bs.map (·.2) ∧ ∀ b ∈ bs, DR K F b.1 (.lst (b.2.map D.int))
  | _, [], r => by cases r; exact ⟨[], rfl, rfl, fun b h => nomatch h⟩
  | _, l :: ls, r => by
    have r' : DRs K F _ (.lst (l.map D.int) :: ls.map fun l => D.lst (l.map D.int)) := r
    cases r' with
    | @cons v _ vs _ h1 h2 =>
      obtain ⟨bs, e1, e2, h3⟩ := drs_pairs h2
      refine ⟨(v, l) :: bs, by rw [e1]; rfl, by rw [e2]; rfl, fun b hb => ?_⟩
      rcases List.mem_cons.mp hb with rfl | hb
      · exact h1
      · exact h3 b hb
theorem pairs_drs {K : PySem.W.Frag} {F : Hp} : ∀ {bs : List (V × List Int)}, (∀ b ∈ bs, DR K F b.1 (.lst (b.2.map D.int))) → DRs K F (bs.map (·.1)) ((bs.map (·.2)).map fun l => D.lst (l.map D.int))
  | [], _ => .nil
  | b :: bs, h => .cons (h b List.mem_cons_self) (pairs_drs fun c hc => h c (List.mem_cons_of_mem _ hc))
theorem sem_sortedL : Sem1 z (fun x H Q => rSortedL z.K [x] H Q) sSortedL := fun w F He H x d P Q wd dx q k => by
  obtain ⟨ls, rfl, q⟩ := q
  obtain ⟨a, vs, rfl, ha, ra⟩ := dx.lst wd.sf
  obtain ⟨bs, rfl, rfl, hb⟩ := drs_pairs ra
  refine ⟨a, bs, rfl, .of ha, fun b hm => ?_, fun bs' p h1 h2 hp => ?_⟩
  · have := (DZ.dt (He := He) (H := H) (.inl (hb b hm))).dp wd.sf (Codec.int.lst.pl b.2)
    rw [row_py] at this
    exact this
  · exact res_new wd hp (.lst (pairs_drs fun b hm => hb b (h1.mem_iff.mp hm))) (q (bs'.map (·.2)) (h1.map _) (List.pairwise_map.mpr h2)) k
end
end Lv

namespace Lv
open PySem PySem.Spec L2
/-! ### for .. in zip(a named list, a list) -/
def dForZN (ts : DA) (g : DG) (t : DS) : DS := fun E δ w => ts δ w fun ds w1 => ∃ a xs ys, ds = [.ref a, .lst ys] ∧ w1 a = some (.lst xs) ∧ dForGoN a (.lst xs) g t E (zipD xs ys) δ w1
section
variable {X : Cx} {z : Ent} {pos : Pos}
theorem js_forZN {e e2 : Expr} {body : List Stmt} {ts : DA} {p cpos tpos : Pos} {elts : List Expr} {kk : Nat} {G : TG} {g : DG} {t : DS} (hK : z.K = X.K) (hp : PassesOwn (model X.prog X.w) X.A X.env X.xe) (hc : X.calm = true) (hm : X.mg "zip" = none) (ha : JA X z [e, e2] ts) (hg : PG X (.Tuple elts kk tpos) G) (ok : GOk z G g) (hb : JSs X z body t) (hgz : Gl X "zip" := by rfl)
    (hs2 : starEach [e, e2] X.env = (false, eval e X.env) :: starEach [e2] X.env := by rfl) (hpl : (backTo cpos (starEach [e2] X.env)).any (·.1) = false := by rfl)
    (hs : ∀ x, foldedSetIterable (.Call (.Name "zip" p) [e, e2] [] cpos) X.env x = pure x := by intro _; rfl) : JS X z (.For (.Tuple elts kk tpos) (.Call (.Name "zip" p) [e, e2] [] cpos) body [] pos) (dForZN ts g t) :=
  PS.imp (ps_for hp hc (RZ.pi_zipA hgz hm ha hs2 hpl) hg hb hs) fun D σ H ⟨δ, w, F, He, E, R, q, cn⟩ => by
    refine ⟨δ, w, F, He, _, R, q, fun ds w1 q1 vs H1 F1 He1 wd1 st1 r1 => ?_⟩
    obtain ⟨a, xs, ys, rfl, hw, q1⟩ := q1
    obtain ⟨ob, h1, h2, rv⟩ := wd1.at hw
    cases r1 with
    | cons ra rb =>
    cases rb with
    | cons rb rc =>
    cases rc
    cases ra with
    | ref a2 =>
    cases rb with
    | @lst b us _ eb rb =>
    cases rv with
    | lst rl =>
    refine ⟨a, b, _, _, rfl, .inl ⟨by rw [← hK]; exact .of h1, by rw [← hK]; exact .of (wd1.sf _ _ eb), ?_⟩⟩
    obtain ⟨zs, hzs⟩ : ∃ zs, zs = zipD xs ys := ⟨_, rfl⟩
    rw [← hzs] at q1
    refine ⟨fun i m σ H => m = zs.length - i ∧ i ≤ zs.length ∧ ∃ δ w F He, Same F1 F ∧ Rel z δ w F He σ H ∧ w a = some (.lst xs) ∧ dForGoN a (.lst xs) g t E (zs.drop i) δ w, ⟨zs.length, by simp, Nat.zero_le _, δ, w1, F1, He1, Same.refl _, R.step wd1 st1, hw, q1⟩, ?_⟩
    rintro i m σ H ⟨rfl, hle, δ, w, F, He, sF, R, hw, q⟩
    obtain ⟨ob, g1, g2, rv⟩ := R.wd.at hw
    cases rv with
    | lst rl =>
      rename_i us3
      have gb : H b = some (.lst us) := R.wd.sf _ _ (sF _ _ eb)
      rw [← hK]
      by_cases hlt : i < zs.length
      · have h' : i < xs.length ∧ i < ys.length := by rw [hzs] at hlt; simp [zipD] at hlt; omega
        obtain ⟨u, hu, ru⟩ := rl.get (List.getElem?_eq_getElem h'.1)
        obtain ⟨v, hv, rvv⟩ := rb.get (List.getElem?_eq_getElem h'.2)
        refine .inr ⟨⟨us3, us, u, v, .of g1, .of gb, hu, hv⟩, fun σ' H' => ∃ δ w F He, Same F1 F ∧ Rel z δ w F He σ' H' ∧ w a = some (.lst xs) ∧ dForGoN a (.lst xs) g t E (zs.drop (i + 1)) δ w, fun σ' H' h => ⟨zs.length - (i + 1), by omega, rfl, hlt, h⟩, fun x H' y => ?_⟩
        obtain ⟨T, x1, y1, rfl, hT, rfl, hx1, hy1⟩ := y
        have e1 := hx1 us3 (.of g1)
        rw [hu] at e1
        cases e1
        have e3 := hy1 us (.of gb)
        rw [hv] at e3
        cases e3
        have W2 := (R.wd.alloc (o := .tup [u, v]) hT).freeze upd_same (R.wd.fnone hT) (R.wd.henone hT)
        have S2 : Step F He H (upd F T (.tup [u, v])) He (upd H T (.tup [u, v])) := (Step.alloc hT).freeze (R.wd.fnone hT) hT
        have R2 := R.step W2 S2
        have hz : zs[i] = .tup [xs[i], ys[i]] := by
          have := zipD_at xs ys i (List.getElem?_eq_getElem h'.1) (List.getElem?_eq_getElem h'.2)
          rw [← hzs] at this
          exact (List.getElem?_eq_some_iff.mp this).2
        rw [List.drop_eq_getElem_cons hlt, hz] at q
        have s1 := st1.fz.trans sF
        refine ok δ w _ He _ σ _ _ _ _ R2 (.tup upd_same (.cons (ru.mono S2.fz) (.cons ((rvv.mono sF).mono S2.fz) .nil))) q fun δ2 σ2 q2 R3 => ?_
        have s2 := sF.trans S2.fz
        exact ⟨δ2, w, _, He, _, R3, q2, ⟨fun δ3 w3 F3 He3 σ3 H3 p r s3 => ⟨δ3, w3, F3, He3, s2.trans s3, r, p.1, p.2⟩, cn.rt, fun δ3 w3 F3 He3 σ3 H3 p r s3 => cn.nx _ _ _ _ _ _ p r ((st1.fz.trans s2).trans s3), fun δ3 w3 F3 He3 σ3 H3 p r s3 => ⟨δ3, w3, F3, He3, s2.trans s3, r, p.1, p.2⟩⟩⟩
      · have e : i = zs.length := by omega
        subst e
        rw [List.drop_length] at q
        refine .inl ⟨⟨us3, us, .of g1, .of gb, ?_⟩, cn.nx _ _ _ _ _ _ q R (st1.fz.trans sF)⟩
        have l1 := rl.length
        have l2 := rb.length
        rw [hzs]
        simp [zipD]
        omega
end
end Lv

/-! A list comprehension whose item may raise: the exception leaves the block, and the def. Own work over HandS (its lc_core has the block that never raises). -/
namespace PySem
open Sem (wp)
/-- what is wanted behind a block -/
def blkPost (M : Model) (A : Around) (E : Value → Shared → Prop) (env : Env) (Q : Value → Shared → Prop) (acc : Value) (C : Addr) (r : Result) (s' : Shared) : Prop := match r with
  | .ok _ => ∃ m, s'.heap.Ns C m ∧ ∀ h', Heap.SameBut C s'.heap h' → Q acc { s' with heap := h' }
  | .error x => ∃ m, s'.heap.Ns C m ∧ ∀ h', Heap.SameBut C s'.heap h' → ∀ c' : Env, c'.frame = env.frame → wpAny M A (passOn "comprehension.variables-let-go" x c' : Sem Value) (fun _ _ => False) E { s' with heap := h' }
/-- the comprehension, with what becomes of an exception of its block: the block's environment has the def's frame -/
theorem compBlk {M : Model} {A : Around} {E : Value → Shared → Prop} {s : Shared} {env : Env} {e : Expr} {scope : Scope} {pos : Pos} {newAcc first : Sem Value} {g : Comprehension} {gs : List Comprehension} {cl : List (Str × Addr)} {Q : Value → Shared → Prop}
    (c1 : clausesOf e = g :: gs) (c2 : ∀ x, foldedSetIterable g.iter env x = pure x) (c3 : closureFor scope env = pure cl) (c4 : scope.kind = .function) (c5 : ∀ x ∈ scope.names, x.2 = .local → scope.names.lookup x.1 = some .local)
    (h : wpAny M A first (fun x s1 => wpAny M A (pyIter x) (fun it s2 => wpAny M A newAcc (fun acc s3 => wpAny M A (newFunctionEnv scope env.globals cl [] env.qual none .none (some env)) (fun ce s4 => ce.frame = env.frame ∧
      codeAny M A (.compStart e 0 it acc { ce with scope := relabel scope env }) (blkPost M A E env Q acc ce.locals) s4) E s3) E s2) E s1) E s) :
    wpAny M A (comprehension e scope env pos newAcc false first none) Q E s := by
  unfold comprehension
  rw [c3, c1]
  refine wpAny_bind (wpAny_mono h (fun x s1 h1 => ?_) fun _ _ z => z)
  refine wpAny_bind (wpAny_standAt (wpAny_bind (wpAny_of_eq (c2 x) (wpAny_bind (wpAny_holding (wpAny_mono h1 (fun it s2 h2 => ?_) fun _ _ z => z))))))
  refine wpAny_standIf (wpAny_bind (wpAny_mono h2 (fun acc s3 h3 => ?_) fun _ _ z => z))
  refine wpAny_bind (wpAny_pure (wpAny_bind (wpAny_mono h3 (fun ce s4 h4 => ?_) fun _ _ z => z)))
  obtain ⟨hf, h4⟩ := h4
  dsimp only
  have kd : ∀ x ∈ (scope.names.filter fun x => (x.2 == .local || x.2 == .cell) && x.1 != (".0" : Str)).reverse, x.2 = .local → Env.kindOf { ce with scope := relabel scope env } x.1 = some .local := by
    intro x hx hl
    have hx := (List.mem_filter.mp (List.mem_reverse.mp hx)).1
    exact lookup_relabel_local (c5 x hx hl)
  refine wpAny_holding (wpAny_bind (wpAny_attempt (wpAny_holding (wpAny_run (codeAny_mono h4 fun r s5 hr => ?_)))))
  cases r with
  | ok f =>
    obtain ⟨m, hn, hq⟩ := hr
    refine wpAny_bind (wpAny_holding (wpAny_comp_letGo (cenv := { ce with scope := relabel scope env }) c4 _ s5 m kd hn fun h' _ _ sb => ?_))
    exact wpAny_pure (hq h' sb)
  | error x =>
    obtain ⟨m, hn, hq⟩ := hr
    refine wpAny_bind (wpAny_holding (wpAny_comp_letGo (cenv := { ce with scope := relabel scope env }) c4 _ s5 m kd hn fun h' _ _ sb => ?_))
    exact wpAny_mono (hq h' sb _ hf) (fun _ _ z => z.elim) fun _ _ z => z
end PySem
namespace L2
open PySem PySem.Spec PyProof.Rows
/-- the exception u has been noted by a frame, and flies over none -/
def Fly (u : Value) (h : Heap) : Prop := ∃ a oe vs T oT ts, u = .ref a ∧ h.get? a = some oe ∧ oe.data = .fields vs ∧ vs[1]? = some (.ref T) ∧ h.get? T = some oT ∧ oT.data = .fields ts ∧ ts[3]? = some .none
def TakesF (X : Cx) (W : WX) : Prop := ∀ u s', XE X W u s' → Fly u s'.heap → X.xe u s'
theorem TakesF.imp {X : Cx} {W W' : WX} (t : TakesF X W) (h : ∀ c d σ H, W' c d σ H → W c d σ H) : TakesF X W' := fun u s' x f => by
  obtain ⟨a, B, sI, pins, σ, H, cls, d, e, I, nb, up, sky, na, os, ag, w⟩ := x
  exact t u s' ⟨a, B, sI, pins, σ, H, cls, d, e, I, nb, up, sky, na, os, ag, h _ _ _ _ w⟩ f
theorem passAtF {X : Cx} {W : WX} (tk : TakesF X W) (σ : St) : PassesAt (L2.CX X.prog X.w) X σ (WE W σ) := fun pins H s e s' I c => by
  refine tk e s' (XE.of_call I (fun _ _ _ h => h) c) ?_
  obtain ⟨a, B, H', cls, d, rfl, fl, _⟩ := c
  obtain ⟨_, _, _, oe, vs, T, oT, ts, he, _, hd, h1, _, _, hT, hdT, h3⟩ := fl
  exact ⟨a, oe, vs, T, oT, ts, rfl, he, hd, h1, hT, hdT, h3⟩
theorem sky_fly {B : Heap} {l : List Env} {a : Addr} {Z : Obj → Prop} {L : Addr} {h : Heap} (x : Sky B l a Z L h) (f : Fly (.ref a) h) : HandSPX.FlyingZ B l a Z h := by
  obtain ⟨a', oe, vs, T, oT, ts, e, ha, hd, h1, hT, hdT, h3⟩ := f
  cases e
  rcases x with ⟨_, _, _, oe2, vs2, he, _, hd2, h12⟩ | fl | ⟨_, _, _, oe2, vs2, T2, oT2, ts2, he, _, hd2, h12, _, _, hT2, hdT2, h32⟩
  · rw [ha] at he; cases he
    rw [hd] at hd2; cases hd2
    rw [h1] at h12; cases h12
  · exact fl
  · rw [ha] at he; cases he
    rw [hd] at hd2; cases hd2
    rw [h1] at h12; cases h12
    rw [hT] at hT2; cases hT2
    rw [hdT] at hdT2; cases hdT2
    rw [h3] at h32
    exact absurd (Option.some.inj h32) (by simp [rawInt])
theorem ff_but {h h' base : Heap} {C : Addr} : ∀ {l : List Env}, h.FunFrames base l → C ∉ frs l → (∀ b, b ≠ C → h'.get? b = h.get? b) → h'.FunFrames base l
  | [], _, _, _ => trivial
  | env :: l, x, hn, k => by
    obtain ⟨hk, ⟨L, o, hf, hb, ho, hd⟩, hr⟩ := x
    have e : frs (env :: l) = L :: frs l := by unfold frs; rw [List.filterMap_cons, hf]
    rw [e] at hn
    exact ⟨hk, ⟨L, o, hf, hb, (k L fun z => hn (z ▸ List.mem_cons_self)).trans ho, hd⟩, ff_but hr (fun z => hn (List.mem_cons_of_mem _ z)) k⟩
/-- the context of a block, with a wish about exceptions -/
abbrev Cx.blx (X : Cx) (s : Shared) (H : Hp) (scope : Scope) (ce : Env) (fp : List Addr) (xe : Value → Shared → Prop) : Cx := { X.blk s H scope ce fp with xe := xe }
section
variable {X : Cx} {pins : List (Addr × Obj)} {σ : St} {H : Hp} {s : Shared}
theorem Inv.wishX (I : Inv X pins σ H s) (xe : Value → Shared → Prop) : Inv { X with xe := xe } pins σ H s :=
  ⟨⟨I.ok.mod, I.ok.kind, I.ok.glob, I.ok.blt, I.ok.above, I.ok.inj, I.ok.has, I.ok.cab, I.ok.hd, I.ok.frames, I.ok.stk, I.ok.exf, I.ok.bs, I.ok.bsz, I.ok.noex, I.ok.exfs, I.ok.funs, I.ok.frf⟩, I.os, I.bare, I.base, I.loc, I.cell, I.free, I.freeC, I.pin, I.hok, I.len⟩
/-- an exception of the block, noted, over the block's variables that are let go, into the def's air -/
theorem blk_out {Wd : WX} {scope : Scope} {ce : Env} {fp : List Addr} {xe : Value → Shared → Prop} {E : Value → Shared → Prop} {u : Value} {s5 : Shared} (hst : X.stack = X.env :: X.outer) (hfm : X.env.frame = some X.env.locals) (tk : Takes X Wd) (I : Inv X pins σ H s)
    (hfp : ∀ b ∈ fp, FpOk X pins H b ∧ b < s.heap.objs.size) (hcl : ce.locals = s.heap.objs.size) (hcf : ce.frame = X.env.frame) (x : XE (X.blx s H scope ce fp xe) (fun cls d _ H' => Wd cls d σ H') u s5) (fl : Fly u s5.heap) :
    wpAny (model X.prog X.w) X.A (noteFrame u ce) (fun _ s6 => ∃ m, s6.heap.Ns ce.locals m ∧ ∀ h', Heap.SameBut ce.locals s6.heap h' → ∀ c' : Env, c'.frame = X.env.frame →
      wpAny (model X.prog X.w) X.A (passOn "comprehension.variables-let-go" u c' : Sem Value) (fun _ _ => False) X.xe { s6 with heap := h' }) E s5 := by
  obtain ⟨a, B, sI, pn, σ5, H5, cls, d, rfl, I5, nb, up, sky, na, os, ag, w⟩ := x
  have fz := sky_fly sky fl
  have hss : (X.blx s H scope ce fp xe).stack = X.env :: X.outer := hst
  rw [hss] at fz
  have hfr : X.A.frames = some (X.env :: X.outer) := by rw [I.ok.frames, hst]
  rw [show noteFrame (.ref a) ce = noteFrame (.ref a) X.env by unfold PySem.noteFrame PySem.frameOf; rw [hcf]]
  refine HandSPX.looks_onZ Zc.steady hfr hfm fz fun h1 held up1 => ?_
  obtain ⟨q1, q2, q3, oe, vs, T, oT, ts, he, hz, hd, hv, hnT, hTe, hT, hdT, h3⟩ := held
  obtain ⟨C, hC⟩ : ∃ C, C = ce.locals := ⟨_, rfl⟩
  have nC : H5 C = none := by rw [hC]; exact I5.free
  have fC : FpOk X pins H5 C := I.fpOk (by rw [hC, hcl]; exact Nat.le_refl _) nC
  have nCs : C ∉ frs X.stack := fun hm => (List.mem_cons.mp (I.stkSub C hm)).elim fC.2.1 fC.2.2.1
  obtain ⟨m, ⟨oC, es, ep, hoC, rC⟩, _⟩ := I5.loc
  have hoC : sI.heap.get? C = some oC := by rw [hC]; exact hoC
  have bC : B.get? C = some oC := nb _ _ hoC nCs
  have aC : a ≠ C := fun z => by rw [z, bC] at q2; cases q2
  have tC : T ≠ C := fun z => by rw [z, bC] at hnT; cases hnT
  refine ⟨m, ⟨oC, es, ep, by rw [← hC]; exact q1 _ _ bC, rC⟩, fun h2 sb c' hc' => ?_⟩
  rw [← hC] at sb
  obtain ⟨B2, b1, b2⟩ := restrict B fun b => decide (b ≠ C)
  obtain ⟨G, g1, g2⟩ := restrict sI.heap fun b => decide (b ≠ C)
  have inB : ∀ b o, B2.get? b = some o → b ≠ C ∧ B.get? b = some o := fun b o e => by
    by_cases hb : b = C
    · rw [b2 b (by simp [hb])] at e; cases e
    · exact ⟨hb, by rw [← b1 b (by simp [hb])]; exact e⟩
  have inG : ∀ b o, G.get? b = some o → b ≠ C ∧ sI.heap.get? b = some o := fun b o e => by
    by_cases hb : b = C
    · rw [g2 b (by simp [hb])] at e; cases e
    · exact ⟨hb, by rw [← g1 b (by simp [hb])]; exact e⟩
  have st2 : B2.StaysIn h2 := fun b o e => (sb.2 b (inB b o e).1).trans (q1 b o (inB b o e).2)
  have nB2 : ∀ b, B.get? b = none → B2.get? b = none := fun b e => by
    cases q : B2.get? b with
    | none => rfl
    | some o => rw [(inB b o q).2] at e; cases e
  have ff2 : h2.FunFrames B2 (X.env :: X.outer) := by
    have k : h2.FunFrames B (X.env :: X.outer) := ff_but q3 (by rw [← hst]; exact nCs) sb.2
    exact funFrames_none k fun L hL => nB2 L (k.mem hL).1
  have tr2 : HandSPX.TracedZ h2 B2 a (Zc cls d) (rawInt X.env.locals) := ⟨oe, vs, T, oT, ts, (sb.2 a aC).trans he, hz, hd, hv, nB2 T hnT, hTe, (sb.2 T tC).trans hT, hdT, h3⟩
  unfold PySem.passOn
  refine wpAny_bind (wpAny_field ((sb.2 a aC).trans he) hd hv ?_)
  rw [if_neg (show ¬ ((Value.ref T == Value.none) = true) from by simp)]
  refine wpAny_bind (HandSPX.setFlight_anyZ st2 ff2 tr2 fun h4 k1 k2 k3 up4 => wpAny_throw ?_)
  rw [hc', hfm] at k3
  have I7 : Inv X pins σ H5 sI := I.call' (ch := fp) I5.os I5.base I5.hok I5.bare fun b hb => ⟨(hfp b hb).1.2.2.2.1, (hfp b hb).1.2.1, (hfp b hb).1.2.2.2.2.1, (hfp b hb).1.2.2.2.2.2⟩
  obtain ⟨f0, f1, f2, f3, f4, f5⟩ := fC
  have I8 : Inv X pins σ H5 { sI with heap := G, toks := sI.toks } := I7.turned (it := C) (fun b o hb e => by rw [g1 b (by simp [hb])]; exact e) f0 (Ne.symm (Ne.symm f1)) f3 f4 f5
  refine tk _ _ ⟨a, B2, { sI with heap := G, toks := sI.toks }, pins, σ, H5, cls, d, rfl, I8, fun b o e hb => ?_, fun b o e hn => ?_, .inr (.inr ⟨k1, nB2 a q2, by rw [hst]; exact k2, k3⟩), na, os, ag, w⟩
  · rw [b1 b (by simp [(inG b o e).1])]
    exact nb b o (inG b o e).2 hb
  · obtain ⟨e1, e2⟩ := inG b o e
    obtain ⟨l1, e3⟩ := up b o e2 hn
    obtain ⟨l2, e4⟩ := up1 b _ e3 hn
    obtain ⟨l3, e5⟩ := up4 b _ ((sb.2 b e1).trans e4) hn
    exact ⟨l3, e5⟩
/-- [elt for target in iter if ..], as a value; what leaves an item leaves the comprehension -/
theorem lcX_run {Wd : WX} {Q : VK} {elt tg iter : Expr} {ifs : List Expr} {scope : Scope} {own : List (Str × Nat)} {pos : Pos} {wi : TI} {g : TG} {tt : TT} {te : TE} (hst : X.stack = X.env :: X.outer) (hfm : X.env.frame = some X.env.locals) (tk : Takes X Wd)
    (hc : X.calm = true) (hN : X.N.Nodup) (I : Inv X pins σ H s) (hi : PI X tg iter wi) (ok : BlkOk X.N X.env.scope scope own)
    (hg : ∀ (s : Shared) (H : Hp) (C : Addr) (cl : List (Str × Addr)) (fp : List Addr) (xe : Value → Shared → Prop), PG (X.blx s H scope (compEnvC scope cl C X.env) fp xe) tg g)
    (ht : ∀ (s : Shared) (H : Hp) (C : Addr) (cl : List (Str × Addr)) (fp : List Addr) (xe : Value → Shared → Prop), PTs (X.blx s H scope (compEnvC scope cl C X.env) fp xe) ifs tt)
    (he : ∀ (s : Shared) (H : Hp) (C : Addr) (cl : List (Str × Addr)) (fp : List Addr) (xe : Value → Shared → Prop), TakesF (X.blx s H scope (compEnvC scope cl C X.env) fp xe) (fun cls d _ H' => Wd cls d σ H') → PE (X.blx s H scope (compEnvC scope cl C X.env) fp xe) elt te)
    (hs : ∀ x, foldedSetIterable iter X.env x = pure x) (h : tLc wi g tt te (own.map (·.2)) σ H Q) :
    wpAny (model X.prog X.w) X.A (eval (.ListComp elt [⟨tg, iter, ifs, 0⟩] scope pos) X.env) (EP X pins σ Q) X.xe s := by
  rw [eval_ListComp]
  have hfree : ∀ y ∈ scope.names, y.2 = .free → ∃ c, X.env.cells.lookup y.1 = some c := fun y hy e => (ok.free y hy e).elim (fun k => I.ok.has _ (.inl k)) fun k => I.ok.has _ (.inr k)
  refine compBlk rfl hs (closure_ok hfree) ok.kind (fun y hy e => by rw [ok.uniq y hy, e]) (thn (hi.run pins s σ H _ I h) fun xv s1 hx => thn hx fun itv s2 h2 => ?_)
  obtain ⟨it, fp, tn, J, H2, rfl, I2, T, st2, f2, q⟩ := h2
  refine wpAny_newObj_type (newEnv_comp ⟨rfl, ?_⟩) (by show 0 ≤ sizeLine; decide)
  obtain ⟨D, hD⟩ : ∃ D, s2.heap.objs.size = D := ⟨_, rfl⟩
  rw [hD]
  have nD : H2 D = none := I2.hok.fresh (Nat.le_of_eq hD)
  obtain ⟨W, ⟨m0, w0⟩, turn⟩ := q D nD
  obtain ⟨s3, hs3⟩ : ∃ s3 : Shared, ({ s2 with heap := s2.heap.push { cls := .type "list", data := .seq ([] : List Value).toArray } } : Shared) = s3 := ⟨_, rfl⟩
  rw [hs3]
  have h3 : s3.heap = s2.heap.push { cls := .type "list", data := .seq ([] : List Value).toArray } := by rw [← hs3]
  have I3 : Inv X pins σ (upd H2 D (.lst [])) s3 := by
    rw [← hs3]
    refine I2.laid (t' := s2.toks) (fun b o e => Heap.get?_push_of_some _ e) (Nat.le_of_eq hD) ⟨Nat.zero_le _, [], 0, .nil, ?_⟩
    rw [← hD]
    exact Heap.get?_push_size _ rfl
  have below : ∀ b ∈ fp, b < s2.heap.objs.size := fun b hb => let ⟨o, e, _⟩ := T.obj _ _ st2 b hb; Heap.lt_size e
  have f3 : ∀ b ∈ fp, FpOk X pins (upd H2 D (.lst [])) b ∧ b < s3.heap.objs.size := fun b hb => by
    have lt := below b hb
    refine ⟨⟨?_, (f2 b hb).2⟩, by rw [h3, Heap.size_push]; exact Nat.lt_succ_of_lt lt⟩
    rw [upd_ne (Nat.ne_of_lt (hD ▸ lt))]
    exact (f2 b hb).1
  have st3 : tn 0 s3.heap := T.keep _ _ _ st2 fun b _ o e => by rw [h3]; exact Heap.get?_push_of_some _ e
  have I4 := block_start I3 ok hN f3
  show codeAny _ _ (.compStart (.ListComp elt [⟨tg, iter, ifs, 0⟩] scope pos) 0 (.ref it) (.ref D) (compEnvC scope (cellsFrom (s3.heap.objs.size + 1) scope.names (cloFrom X.env.cells scope.names [])) s3.heap.objs.size X.env))
    (blkPost (model X.prog X.w) X.A X.xe X.env (EP X pins σ Q) (.ref D) s3.heap.objs.size) { s3 with heap := pushCells (s3.heap.push { cls := .type "dict", data := .dict #[] }) scope.names }
  obtain ⟨cl, hcl⟩ : ∃ cl, cl = cellsFrom (s3.heap.objs.size + 1) scope.names (cloFrom X.env.cells scope.names []) := ⟨_, rfl⟩
  rw [← hcl] at I4 ⊢
  obtain ⟨ce, hce⟩ : ∃ ce, ce = compEnvC scope cl s3.heap.objs.size X.env := ⟨_, rfl⟩
  have cL : ce.locals = s3.heap.objs.size := by rw [hce]; rfl
  have cF : ce.frame = X.env.frame := by rw [hce]; rfl
  obtain ⟨H3, hH3⟩ : ∃ H3, H3 = upd H2 D (.lst []) := ⟨_, rfl⟩
  have hg := fun xe => hg s3 H3 s3.heap.objs.size cl fp xe
  have ht := fun xe => ht s3 H3 s3.heap.objs.size cl fp xe
  have he := fun xe => he s3 H3 s3.heap.objs.size cl fp xe
  rw [← hce] at I4 ⊢
  rw [← hH3] at I3 I4 w0 f3
  obtain ⟨xe, hxe⟩ : ∃ xe, xe = notedBy (model X.prog X.w) X.A ce fun x s' => blkPost (model X.prog X.w) X.A X.xe X.env (EP X pins σ Q) (.ref D) s3.heap.objs.size (.error x) s' := ⟨_, rfl⟩
  have pg := hg xe
  have pt := ht xe
  have pe := he xe
  rw [← hce] at pg pt pe
  have pe := pe fun u s5 x fl => by
    show xe u s5
    rw [hxe]
    refine wpAny_mono (blk_out hst hfm tk I3 f3 cL cF x fl) (fun _ s6 z => ?_) fun _ _ z => z
    obtain ⟨m, hn, z⟩ := z
    rw [cL] at hn z
    exact ⟨m, hn, z⟩
  have I4 := I4.wishX xe
  obtain ⟨s4, hs4⟩ : ∃ s4, s4 = ({ s3 with heap := pushCells (s3.heap.push { cls := .type "dict", data := .dict #[] }) scope.names } : Shared) := ⟨_, rfl⟩
  rw [← hs4] at I4 ⊢
  have nfp : ∀ b ∈ fp, H3 b = none := fun b hb => (f3 b hb).1.1
  have st4 : tn 0 s4.heap := T.keep _ _ _ st3 fun b _ o e => by rw [hs4]; exact pushCells_keeps _ _ _ _ (Heap.get?_push_of_some _ e)
  have stat : ∀ {σ1 : St} {H1 : Hp} {s1 : Shared}, Inv (X.blx s3 H3 scope ce fp xe) [] σ1 H1 s1 → (∀ b ∈ fp, H1 b = none) → ∀ b ∈ fp, FpOk (X.blx s3 H3 scope ce fp xe) [] H1 b := fun {σ1 H1 s1} J1 n1 b hb =>
    ⟨n1 b hb, (J1.ok.exf b hb).1, J1.ok.exfs b hb, .inl hb, fun x c e => (J1.ok.exf b hb).2 x c e, fun p hp => absurd (show p ∈ ([] : List (Addr × Obj)) ++ [] from hp) (by simp)⟩
  have loop : codeAny (model X.prog X.w) X.A (.compLoop (.ListComp elt [⟨tg, iter, ifs, 0⟩] scope pos) 0 (.ref it) (.ref D) ce) (blkPost (model X.prog X.w) X.A X.xe X.env (EP X pins σ Q) (.ref D) s3.heap.objs.size) s4 := by
    refine compLoop_any (fun n s1 => ∃ i H1, Inv (X.blx s3 H3 scope ce fp xe) [] (wipe σ (own.map (·.2))) H1 s1 ∧ tn i s1.heap ∧ (∀ b ∈ fp, H1 b = none) ∧ W i n H1) ?_ m0 ⟨0, H3, I4, st4, nfp, w0⟩
    rintro n s5 ⟨i, H5, I5, st5, n5, w5⟩
    rcases turn i n H5 w5 with ⟨stop, qq⟩ | ⟨go, Nx, hNx, step⟩
    · refine thnF (T.done (X.blx s3 H3 scope ce fp xe) rfl rfl rfl hc i [] s5 _ H5 (fun _ _ => False) I5 (stat I5 n5) st5 stop) fun r s6 ⟨hr, I6⟩ => ?_
      subst hr
      have I7 : Inv X pins σ H5 s6 := I3.call' (ch := fp) I6.os I6.base I6.hok I6.bare fun b hb => ⟨(f3 b hb).1.2.2.2.1, (f3 b hb).1.2.1, (f3 b hb).1.2.2.2.2.1, (f3 b hb).1.2.2.2.2.2⟩
      have nC : H5 s3.heap.objs.size = none := by rw [← cL]; exact I6.free
      obtain ⟨m, hn, _⟩ := I6.loc
      have hn : s6.heap.Ns ce.locals m := hn
      rw [cL] at hn
      obtain ⟨g0, g1, g2, g3, g4, g5⟩ := I3.fpOk (Nat.le_refl _) nC
      exact ⟨m, hn, fun h1 sb => ⟨.ref D, H5, I7.turned (t' := s6.toks) (fun b o hb e => (sb.2 b hb).trans e) g0 g1 g3 g4 g5, rfl, qq⟩⟩
    · rw [← hxe]
      refine thnF (T.item (X.blx s3 H3 scope ce fp xe) rfl rfl rfl hc i [] s5 _ H5 (fun _ _ => False) I5 (stat I5 n5) st5 go) fun r s6 ⟨u, hr, h6⟩ => ?_
      subst hr
      refine thnF h6 fun _ s7 ⟨x, H7, I7, r7, y7, st7, n7⟩ => ?_
      have J7 := I7.pinned (stat I7 n7) (T.obj _ _ st7)
      refine thn (pg.run _ s7 _ H7 x u _ J7 r7 (step x H7 y7)) fun _ s8 ⟨σ8, H8, I8, e8, q8⟩ => ?_
      refine thn (pt.run _ s8 σ8 H8 _ I8 q8) fun b s9 ⟨H9, I9, q9⟩ => ?_
      have fin : ∀ {s1 : Shared} {H1 : Hp}, Inv (X.blx s3 H3 scope ce fp xe) ([] ++ pinsAt fp s7.heap) σ8 H1 s1 → Nx H1 → ∃ m, m < n ∧ ∃ i H2, Inv (X.blx s3 H3 scope ce fp xe) [] (wipe σ (own.map (·.2))) H2 s1 ∧ tn i s1.heap ∧ (∀ b ∈ fp, H2 b = none) ∧ W i m H2 := fun {s1 H1} J1 nx => by
        obtain ⟨m1, lt1, w1⟩ := hNx H1 nx
        have pin1 : ∀ b ∈ fp, ∀ o, s7.heap.get? b = some o → s1.heap.get? b = some o ∧ H1 b = none := fun b hb o e =>
          let z := J1.pin (b, o) (List.mem_append_right _ (List.mem_append_right _ (mem_pinsAt hb e)))
          ⟨z.1, z.2.1⟩
        refine ⟨m1, lt1, i + 1, H1, (J1.unpinned (pins := [])).weak (by rw [← e8, wipe_length]) (fun j v e => (wipe_some (e8 ▸ e)).1), T.keep _ _ _ st7 fun b hb o e => (pin1 b hb o e).1, fun b hb => ?_, w1⟩
        obtain ⟨o, e, _⟩ := T.obj _ _ st7 b hb
        exact (pin1 b hb o e).2
      cases b with
      | false => exact fin I9 q9
      | true =>
        refine thn (pe.run _ s9 σ8 H9 _ I9 q9) fun z s1 ⟨yv, H1, I1, r1, acc, hD1, hz1, nx⟩ => ?_
        exact app_ok (X := X.blx s3 H3 scope ce fp xe) I1 hD1 hz1 r1 fun s2 I2 => fin I2 nx
  exact codeAny_compStart_list loop (T.self X.A 0 _ _ _ st4 loop)
end
end L2
namespace Lv
open PySem PySem.Spec L2
section
variable {X : Cx} {z : Ent} {pos : Pos}
theorem jx_callXF {k : Nat} {T : DSpX} {xx : DXK} {t : DA} {x : Str} {p : Pos} {e : Expr} {es : List Expr} (f : FnX X.prog X.w X.K X.mg X.base k x T) (tk : TakesF X (liftW z xx)) (hK : z.K = X.K) (hr : Room k X.A) (ha : JA X z (e :: es) t) (hg : Gl X x := by rfl)
    (hdb : (x == ("__debug__" : Str)) = false := by decide) (he : starEach (e :: es) X.env = (false, eval e X.env) :: starEach es X.env := by rfl) (hpl : (backTo pos (starEach es X.env)).any (·.1) = false := by rfl) : JX X z (.Call (.Name x p) (e :: es) [] pos) (dCallX T xx t) := by
  obtain ⟨fa, fd, ps, a, b, c, d⟩ := f.ex
  exact PE.imp (pe_callS a hr hg b c d (fun σ => passAtF tk σ) ha hdb he hpl) fun _ _ _ h => callX_lift hK h
/-- a comprehension whose item may raise -/
def dLcX (it : DI) (g : DG) (tt : DTs_) (te : DXK → DX) (vs : List Nat) (x : DXK) : DX := fun δ w Q => noOwn δ = true ∧ dLc it g tt (te fun cn fs _ w' => x cn fs δ w') vs δ w Q
theorem jx_lcX {elt tg iter : Expr} {ifs : List Expr} {scope : Scope} {own : List (Str × Nat)} {it : DI} {G : TG} {g : DG} {tt : DTs_} {te : DXK → DX} {x : DXK} (hst : X.stack = X.env :: X.outer) (hfm : X.env.frame = some X.env.locals) (hK : z.K = X.K) (tk : Takes X (liftW z x)) (hc : X.calm = true) (hN : X.N.Nodup)
    (hi : ∀ (F He H0 : Hp) (w : Om) (r : rep X.K w F He), PI X tg iter (liftI ⟨X.K, F, He, H0, w, r⟩ it)) (ok : BlkOk X.N X.env.scope scope own) (gok : ∀ z : Ent, GOkV z (own.map (·.2)) G g)
    (hg : ∀ (s : Shared) (H : Hp) (C : Addr) (cl : List (Str × Addr)) (fp : List Addr) (xe : Value → Shared → Prop), PG (X.blx s H scope (compEnvC scope cl C X.env) fp xe) tg G)
    (ht : ∀ (F He H0 : Hp) (w : Om) (r : rep X.K w F He) (s : Shared) (H : Hp) (C : Addr) (cl : List (Str × Addr)) (fp : List Addr) (xe : Value → Shared → Prop), PTs (X.blx s H scope (compEnvC scope cl C X.env) fp xe) ifs (liftT ⟨X.K, F, He, H0, w, r⟩ tt))
    (he : ∀ (F He H0 : Hp) (w : Om) (r : rep X.K w F He) (y : DXK) (s : Shared) (H : Hp) (C : Addr) (cl : List (Str × Addr)) (fp : List Addr) (xe : Value → Shared → Prop), TakesF (X.blx s H scope (compEnvC scope cl C X.env) fp xe) (liftW ⟨X.K, F, He, H0, w, r⟩ y) → JX (X.blx s H scope (compEnvC scope cl C X.env) fp xe) ⟨X.K, F, He, H0, w, r⟩ elt (te y))
    (hs : ∀ x, foldedSetIterable iter X.env x = pure x := by intro _; rfl) : JX X z (.ListComp elt [⟨tg, iter, ifs, 0⟩] scope pos) (dLcX it g tt te (own.map (·.2)) x) := by
  obtain ⟨K0, F0, He0, H0, w0, r0⟩ := z
  dsimp only at hK
  subst hK
  refine ⟨fun pins s σ H Q I h => ?_⟩
  obtain ⟨δ, w, F, He, P, R, ⟨no, q⟩, k⟩ := h
  have h : liftX ⟨X.K, F, He, H, w, R.wd.ex⟩ (dLc it g tt (te fun cn fs _ w' => x cn fs δ w') (own.map (·.2))) σ H Q := ⟨δ, w, F, He, P, R.root no, q, k⟩
  refine lcX_run hst hfm tk hc hN I (hi F He H w R.wd.ex) ok hg (ht F He H w R.wd.ex) (fun s1 H1 C cl fp xe tf => he F He H w R.wd.ex _ s1 H1 C cl fp xe (tf.imp fun cls d σ2 H2 hw => ?_)) hs (lc_lift (gok _) h)
  obtain ⟨δ2, w2, F2, He2, cn, fs, C2, S, rfl, hC, xd, p⟩ := hw
  exact ⟨δ, w2, F2, He2, cn, fs, C2, R.step S.wd S.st, rfl, hC, xd, p⟩
end
end Lv

namespace Lv
open PySem PySem.Spec L2
section
variable {X : Cx} {z : Ent}
/-! ### sum(xs) of a list of numbers -/
def sSum (d : D) (P : Bool → D → Prop) : Prop := ∃ ns : List Int, d = .lst (ns.map D.int) ∧ P false (.int ns.sum)
theorem sem_sum : Sem1 z (fun x H Q => rSum z.K [x] H Q) sSum := fun w F He H x d P Q wd dx q k => by
  obtain ⟨ns, rfl, q⟩ := q
  obtain ⟨a, vs, rfl, ha, ra⟩ := dx.lst wd.sf
  have e := ra.ints
  subst e
  exact ⟨a, ns, rfl, .of ha, res_at wd (.int _) q k⟩
end
end Lv

namespace Lv
open PySem PySem.Spec L2
/-! ### a comprehension over a named list that stays as it is -/
def dLcNGo (a : Addr) (c : Cell) (g : DG) (tt : DTs_) (te : DX) (δ : DSt) : List D → List D → Om → (Bool → D → Om → Prop) → Prop
  | [], acc, w, Q => Q true (.lst acc) w
  | d :: ds, acc, w, Q => g d δ fun δ1 => tt δ1 w fun k w1 => if k = true then te δ1 w1 fun _ e w2 => acc.length < sizeLine ∧ w2 a = some c ∧ dLcNGo a c g tt te δ ds (acc ++ [e]) w2 Q else w1 a = some c ∧ dLcNGo a c g tt te δ ds acc w1 Q
def dLcN (to : DO) (g : DG) (tt : DTs_) (te : DX) (vs : List Nat) : DX := fun δ w Q => to δ w fun d w1 => ∃ a ds, d = .ref a ∧ w1 a = some (.lst ds) ∧ dLcNGo a (.lst ds) g tt te (wipeD δ vs) ds [] w1 Q
section
variable {X : Cx} {z : Ent} {pos : Pos}
theorem jx_lcN {elt tg iter : Expr} {ifs : List Expr} {scope : Scope} {own : List (Str × Nat)} {to : DO} {G : TG} {g : DG} {tt : DTs_} {te : DX} (hK : z.K = X.K) (hc : X.calm = true) (hN : X.N.Nodup) (hi : JO X z iter to) (ok : BlkOk X.N X.env.scope scope own) (gok : GOkV z (own.map (·.2)) G g)
    (hg : ∀ (s : Shared) (H : Hp) (C : Addr) (cl : List (Str × Addr)) (fp : List Addr), PG (X.blk s H scope (compEnvC scope cl C X.env) fp) tg G) (ht : ∀ (s : Shared) (H : Hp) (C : Addr) (cl : List (Str × Addr)) (fp : List Addr), PTs (X.blk s H scope (compEnvC scope cl C X.env) fp) ifs (liftT z tt))
    (he : ∀ (s : Shared) (H : Hp) (C : Addr) (cl : List (Str × Addr)) (fp : List Addr), JX (X.blk s H scope (compEnvC scope cl C X.env) fp) z elt te) (hs : ∀ x, foldedSetIterable iter X.env x = pure x := by intro _; rfl) :
    JX X z (.ListComp elt [⟨tg, iter, ifs, 0⟩] scope pos) (dLcN to g tt te (own.map (·.2))) := PE.imp (pe_lc hc hN (pi_any hi) ok hg ht he hs) fun σ H Q ⟨δ, w, F, He, P, R, q, k⟩ => by
  refine ⟨δ, w, F, He, _, R, q, fun d w1 q1 v H1 F1 He1 wd1 st1 r1 => ?_⟩
  obtain ⟨a, ds, rfl, hw, q1⟩ := q1
  obtain ⟨ob, h1, h2, rv⟩ := wd1.at hw
  have hv := r1.dt.refV
  subst hv
  have R1 := (R.step wd1 st1).wipe (own.map (·.2))
  cases rv with
  | lst rl =>
    refine .inl ⟨a, rfl, ⟨_, .of h1⟩, fun D hD => ?_⟩
    have hF1 : F1 D = none := wd1.fnone hD
    have hE1 : He1 D = none := wd1.henone hD
    obtain ⟨I, hI⟩ : ∃ I : Nat → Hp → Prop, I = fun i H => ∃ w F He accV accD, Wd z.K w F He H ∧ Step F1 He1 H1 F He H ∧ H D = some (.lst accV) ∧ F D = none ∧ He D = none ∧ DRs z.K F accV accD ∧ w a = some (.lst ds) ∧ dLcNGo a (.lst ds) g tt te (wipeD δ (own.map (·.2))) (ds.drop i) accD w P := ⟨_, rfl⟩
    refine ⟨fun i m H => m = ds.length - i ∧ i ≤ ds.length ∧ I i H, ⟨ds.length, by simp, Nat.zero_le _, by rw [hI]; exact ⟨w1, F1, He1, [], [], wd1.alloc hD, .alloc hD, upd_same, hF1, hE1, .nil, hw, q1⟩⟩, ?_⟩
    rintro i m H2 ⟨rfl, hle, hi2⟩
    rw [hI] at hi2
    obtain ⟨w2, F2, He2, accV, accD, wd2, st2, hD2, hF2, hE2, ra, hw2, q2⟩ := hi2
    obtain ⟨ob2, g1, g2, rv2⟩ := wd2.at hw2
    cases rv2 with
    | lst rl2 =>
      rename_i us2
      rw [← hK]
      by_cases hlt : i < ds.length
      · obtain ⟨u, hu, ru⟩ := rl2.get (List.getElem?_eq_getElem hlt)
        refine .inr ⟨⟨us2, u, .of g1, hu⟩, I (i + 1), fun H' h => ⟨ds.length - (i + 1), by omega, rfl, hlt, h⟩, fun x H3 y => ?_⟩
        obtain ⟨rfl, y⟩ := y
        have hx := y us2 (.of g1)
        rw [hu] at hx
        cases hx
        rw [List.drop_eq_getElem_cons hlt] at q2
        have nD2 : H3 D ≠ none := by rw [hD2]; exact fun z => nomatch z
        refine gok (wipeD δ (own.map (·.2))) w2 F2 He2 H3 (L2.wipe σ (own.map (·.2))) u ds[i] (fun δ1 => tt δ1 w2 fun k w1 => if k = true then te δ1 w1 fun _ e w2 => accD.length < sizeLine ∧ w2 a = some (.lst ds) ∧ dLcNGo a (.lst ds) g tt te (wipeD δ (own.map (·.2))) (ds.drop (i + 1)) (accD ++ [e]) w2 P else w1 a = some (.lst ds) ∧ dLcNGo a (.lst ds) g tt te (wipeD δ (own.map (·.2))) (ds.drop (i + 1)) accD w1 P) _ (R1.step wd2 st2) ru q2 fun δ4 σ4 q4 R4 e4 => ⟨e4.trans (wipe_wipe _ _ fun _ h => h), ?_⟩
        refine ⟨δ4, w2, F2, He2, _, R4, q4, fun b w5 q5 H5 F5 He5 wd5 st5 => ?_⟩
        have hF5 := st5.fresh hD2 hF2
        have hE5 := st5.freshE nD2 hE2
        have hD5 := st5.keep D _ hD2 hE2
        have nD5 : H5 D ≠ none := by rw [hD5]; exact fun z => nomatch z
        have st5' := st2.trans st5
        have ra5 := ra.mono st5.fz
        cases b with
        | false =>
          show I (i + 1) H5
          rw [hI]
          exact ⟨w5, F5, He5, accV, accD, wd5, st5', hD5, hF5, hE5, ra5, q5.1, q5.2⟩
        | true =>
          refine ⟨δ4, w5, F5, He5, _, R4.step wd5 st5, q5, fun bb e w6 q6 v H6 F6 He6 wd6 st6 r6 => ?_⟩
          obtain ⟨F7, st7, wd7, r7, s7⟩ := r6.thaw st6 wd6
          have hF7 := st7.fresh hD5 hF5
          have hE7 := st7.freshE nD5 hE5
          refine ⟨accV, st7.keep D _ hD5 hE5, by rw [ra.length]; exact q6.1, ?_⟩
          rw [hI]
          exact ⟨w6, F7, He6, accV ++ [v], accD ++ [e], wd7.write hF7 hE7, (st5'.trans st7).write hD, upd_same, hF7, hE7, (ra5.mono st7.fz).append (.cons r7 .nil), q6.2.1, q6.2.2⟩
      · have e : i = ds.length := by omega
        subst e
        rw [List.drop_length] at q2
        refine .inl ⟨⟨us2, .of g1, by rw [rl2.length]; exact Nat.le_refl _⟩, k _ _ _ q2 _ H2 F2 He2 wd2 (st1.trans st2) ⟨D, _, rfl, hD2, hF2, hE2, Classical.byContradiction fun q => st1.dom D q hD, .lst ra⟩⟩
end
theorem lcN_map {α : Type} {i : Nat} {te : DX} {δ : DSt} {w : Om} {Q : Bool → D → Om → Prop} {a : Addr} {c : Cell} (f : α → D) (h : α → D) (xs : List α) (hw : w a = some c)
    (hs : ∀ x ∈ xs, ∀ P : Bool → D → Om → Prop, (∀ b, P b (h x) w) → te (δ.set i (some (false, f x))) w P) :
    ∀ acc : List D, acc.length + xs.length ≤ sizeLine → Q true (.lst (acc ++ xs.map h)) w → dLcNGo a c (gN i) dYes te δ (xs.map f) acc w Q := by
  induction xs with
  | nil => intro acc _ q; rw [List.map_nil, List.append_nil] at q; exact q
  | cons x xs ih =>
    intro acc hz q
    simp only [List.map_cons, dLcNGo, gN, dYes, if_true]
    refine hs x List.mem_cons_self _ fun b => ⟨by simp at hz; omega, hw, ?_⟩
    exact ih (fun y hy => hs y (List.mem_cons_of_mem _ hy)) _ (by simp at hz ⊢; omega) (by simpa using q)
end Lv

namespace My
open PySem PySem.Spec L2 Lv SX
set_option hygiene false
local macro_rules | `(tactic| simp_arith [$xs,*]) => `(tactic| simp -implicitDefEqProofs only [dNext, dSet, dLst, dTup, dNil, dCons, dFor, dRng1_u, dRng2_u, dIt_u, oX, dC, dBin, dUn, dVarR, dVar, dApp, dExt, dUpd0, dPut, dAug, dRet, dRetV, dRetN, dBreak, dCont, dIf, dB_u, dTru_u, dTNot, dTAnd, dTOr, dAndV_u, dOrV_u, dNotV_u, dIfX, dChain_u, dCall, dSl, dNoP, dP_u, dLc, dLcX, dLcN, dDrop, dFrz, frzD, dAsg, dDicK, dDicT, gN, gT, gsC, gsN, kB.eq_1, kT.eq_1, kT.eq_2, kT.eq_3, kT.eq_4, kT.eq_5, kT.eq_6, kT.eq_7, kT.eq_8, kAnd.eq_1, kOr.eq_1, kNot.eq_1, kIt.eq_1, kIt.eq_2, kIt.eq_3, kIt.eq_4, kP.eq_1, kR1.eq_1, kR2.eq_1, sAdd.eq_1, sAdd.eq_2, sAdd.eq_3, sAdd.eq_4, sJ2.eq_1, sI2.eq_1, sPow, sLt.eq_1, sLt.eq_2, sLe, sGt, sGe, sMul.eq_1, sMul.eq_2, sMulB.eq_1, sMulB.eq_2, sMulB.eq_3, sLR1.eq_1, sLR2.eq_1, sTR1.eq_1, sTR2.eq_1, sIsBl.eq_1, dZip, kZip.eq_1, dDisp1, dSetN, dConsN, dAppN, dPutN, dFld, dFldS, dFldAug, dMeth, dMake, dGet1, dGet2, dSetd, dInsert, dDPop, dLPop, dLPopAt, dLClear, dLClearT, dEnum, kEnum.eq_1, dEnumT, kEnumT.eq_1, kEnumT.eq_2, dRng3, kR3.eq_1, dForN, dForZN, dForKeys, dForItems, dForItemsT, dLock, lkE, dBack, kNm_f, kNm_t, nmK_f, nmK_lst, nmK_dK, nmK_dT, isDct_dK, isDct_dT, isDct_fK, isDct_fT, sGetO_K, sGetO_S, sGetO_T, sGetO_fK, sGetO_fT, sIn_K, sIn_fK, sIn_T, sIn_fT, sPutC_lst, sPutC_K, sPutC_S, sPutC_T, keyOf_int, keyOf_str, keysC.eq_1, keysC.eq_2, itemsC.eq_1, rs_ref, rs_non, rs_bl, rs_int, rs_str, rs_ty, rs_lst, rs_tup, rs_dK, rs_dT, rs_scr, rs_wD, rs_iD, rs_lwD, resC_lst, resC_dK, resC_dT, resC_fK, resC_fT, resC_ins, updW_same, putFD.eq_1, putFD.eq_2, isL.eq_1, isL.eq_2, sNeg.eq_1, sLen.eq_1, sLen.eq_2, sLen.eq_3, sLen.eq_4, sLen.eq_5, sLenA_lst, sLenA_tup, sLenA_scr, sLenA_str, sLenA_dK, sLenA_dT, sAbs.eq_1, sMax, sMin, sInt.eq_1, sInt.eq_2, sStr.eq_1, sList.eq_1, sList.eq_2, sList.eq_3, sListD_dT, sTuple.eq_1, sTuple.eq_2, sTuple.eq_3, sIsN, sNotN, sIx.eq_1, sIx.eq_2, sIx.eq_3, sIx.eq_4, sIx.eq_5, sIx.eq_6, sIx.eq_7, sIx.eq_8, sIx.eq_9, sSl.eq_1, sSl.eq_2, sSl.eq_3, sSl.eq_4, sRev.eq_1, sRev.eq_2, sRev.eq_3, sAddI.eq_1, sAddI.eq_2, sPut.eq_1, sPut.eq_2, sPut.eq_3, sPut.eq_4, D.isNon, sEq_ii, sNe_ii, sEq_ww, sNe_ww, sEq_ll, sNe_ll, sIsi_ii, sIsi_ib, sIsi_ll, sIsi_tt, sIsi_ss, sEq_w, sEq_i, sEq_lw, sEq_lw', sEq_lle, sEq_lle', sNe_w, sNe_i, sNe_lle', sNe_lw', sEq_ss, sNe_ss, sEq_bb, sNe_bb, sIn_iw, sIn_ii, sIn_wl, sIn_wl', sSl3.eq_1, sSl3.eq_2, dSl3, dSlB, sSlB.eq_1, isS.eq_1, isL.eq_1, isL.eq_2, isA.eq_1, dM0, dM1, sUpper.eq_1, sLower.eq_1, sStrip1.eq_1, sSfind.eq_1, sScount.eq_1, sSindex.eq_1, sSsplit.eq_1, sSjoin.eq_1, sSjoin.eq_2, fPop_snoc, fPop_snoc', startD, wipeD, List.map_cons, List.map_nil, List.length_cons, List.length_nil, List.length_map, List.cons_append, List.nil_append, List.replicate, List.set_cons_zero, List.set_cons_succ, List.set_nil, List.getElem?_cons_zero, List.getElem?_cons_succ, Bool.true_and, Bool.and_true, Bool.and_false, Bool.false_and, Bool.not_true, Bool.not_false, if_true, if_false, Bool.false_eq_true, reduceIte, and_true, true_and, decide_true, decide_false, not_true, Option.map_none, Option.map_some, Option.getD_none, Option.getD_some, Option.isSome_none, Option.isSome_some, Nat.zero_le, Nat.zero_add, Nat.reduceAdd, Nat.reduceSub, D.scal, Option.some.injEq, exists_eq_left', exists_eq_left, exists_eq', D.int.injEq, D.lst.injEq, D.tup.injEq, D.scr.injEq, D.str.injEq, List.cons.injEq, and_self, $xs,*])
local macro_rules | `(tactic| simp_arith only [$xs,*]) => `(tactic| simp -implicitDefEqProofs only [dNext, dSet, dLst, dTup, dNil, dCons, dFor, dRng1_u, dRng2_u, dIt_u, oX, dC, dBin, dUn, dVarR, dVar, dApp, dExt, dUpd0, dPut, dAug, dRet, dRetV, dRetN, dBreak, dCont, dIf, dB_u, dTru_u, dTNot, dTAnd, dTOr, dAndV_u, dOrV_u, dNotV_u, dIfX, dChain_u, dCall, dSl, dNoP, dP_u, dLc, dLcX, dLcN, dDrop, dFrz, frzD, dAsg, dDicK, dDicT, gN, gT, gsC, gsN, kB.eq_1, kT.eq_1, kT.eq_2, kT.eq_3, kT.eq_4, kT.eq_5, kT.eq_6, kT.eq_7, kT.eq_8, kAnd.eq_1, kOr.eq_1, kNot.eq_1, kIt.eq_1, kIt.eq_2, kIt.eq_3, kIt.eq_4, kP.eq_1, kR1.eq_1, kR2.eq_1, sAdd.eq_1, sAdd.eq_2, sAdd.eq_3, sAdd.eq_4, sJ2.eq_1, sI2.eq_1, sPow, sLt.eq_1, sLt.eq_2, sLe, sGt, sGe, sMul.eq_1, sMul.eq_2, sMulB.eq_1, sMulB.eq_2, sMulB.eq_3, sLR1.eq_1, sLR2.eq_1, sTR1.eq_1, sTR2.eq_1, sIsBl.eq_1, dZip, kZip.eq_1, dDisp1, dSetN, dConsN, dAppN, dPutN, dFld, dFldS, dFldAug, dMeth, dMake, dGet1, dGet2, dSetd, dInsert, dDPop, dLPop, dLPopAt, dLClear, dLClearT, dEnum, kEnum.eq_1, dEnumT, kEnumT.eq_1, kEnumT.eq_2, dRng3, kR3.eq_1, dForN, dForZN, dForKeys, dForItems, dForItemsT, dLock, lkE, dBack, kNm_f, kNm_t, nmK_f, nmK_lst, nmK_dK, nmK_dT, isDct_dK, isDct_dT, isDct_fK, isDct_fT, sGetO_K, sGetO_S, sGetO_T, sGetO_fK, sGetO_fT, sIn_K, sIn_fK, sIn_T, sIn_fT, sPutC_lst, sPutC_K, sPutC_S, sPutC_T, keyOf_int, keyOf_str, keysC.eq_1, keysC.eq_2, itemsC.eq_1, rs_ref, rs_non, rs_bl, rs_int, rs_str, rs_ty, rs_lst, rs_tup, rs_dK, rs_dT, rs_scr, rs_wD, rs_iD, rs_lwD, resC_lst, resC_dK, resC_dT, resC_fK, resC_fT, resC_ins, updW_same, putFD.eq_1, putFD.eq_2, isL.eq_1, isL.eq_2, sNeg.eq_1, sLen.eq_1, sLen.eq_2, sLen.eq_3, sLen.eq_4, sLen.eq_5, sLenA_lst, sLenA_tup, sLenA_scr, sLenA_str, sLenA_dK, sLenA_dT, sAbs.eq_1, sMax, sMin, sInt.eq_1, sInt.eq_2, sStr.eq_1, sList.eq_1, sList.eq_2, sList.eq_3, sListD_dT, sTuple.eq_1, sTuple.eq_2, sTuple.eq_3, sIsN, sNotN, sIx.eq_1, sIx.eq_2, sIx.eq_3, sIx.eq_4, sIx.eq_5, sIx.eq_6, sIx.eq_7, sIx.eq_8, sIx.eq_9, sSl.eq_1, sSl.eq_2, sSl.eq_3, sSl.eq_4, sRev.eq_1, sRev.eq_2, sRev.eq_3, sAddI.eq_1, sAddI.eq_2, sPut.eq_1, sPut.eq_2, sPut.eq_3, sPut.eq_4, D.isNon, sEq_ii, sNe_ii, sEq_ww, sNe_ww, sEq_ll, sNe_ll, sIsi_ii, sIsi_ib, sIsi_ll, sIsi_tt, sIsi_ss, sEq_w, sEq_i, sEq_lw, sEq_lw', sEq_lle, sEq_lle', sNe_w, sNe_i, sNe_lle', sNe_lw', sEq_ss, sNe_ss, sEq_bb, sNe_bb, sIn_iw, sIn_ii, sIn_wl, sIn_wl', sSl3.eq_1, sSl3.eq_2, dSl3, dSlB, sSlB.eq_1, isS.eq_1, isL.eq_1, isL.eq_2, isA.eq_1, dM0, dM1, sUpper.eq_1, sLower.eq_1, sStrip1.eq_1, sSfind.eq_1, sScount.eq_1, sSindex.eq_1, sSsplit.eq_1, sSjoin.eq_1, sSjoin.eq_2, fPop_snoc, fPop_snoc', startD, wipeD, List.map_cons, List.map_nil, List.length_cons, List.length_nil, List.length_map, List.cons_append, List.nil_append, List.replicate, List.set_cons_zero, List.set_cons_succ, List.set_nil, List.getElem?_cons_zero, List.getElem?_cons_succ, Bool.true_and, Bool.and_true, Bool.and_false, Bool.false_and, Bool.not_true, Bool.not_false, if_true, if_false, Bool.false_eq_true, reduceIte, and_true, true_and, decide_true, decide_false, not_true, Option.map_none, Option.map_some, Option.getD_none, Option.getD_some, Option.isSome_none, Option.isSome_some, Nat.zero_le, Nat.zero_add, Nat.reduceAdd, Nat.reduceSub, D.scal, $xs,*])
set_option hygiene true
def backOf (ws : List Int) : List Int := ws.reverse.map fun x => -x
theorem backOf_length (ws : List Int) : (backOf ws).length = ws.length := by simp [backOf]

/-! ### turns of points, as lists -/
theorem nodup_len {α : Type} [BEq α] [LawfulBEq α] : ∀ {l m : List α}, l.Nodup → (∀ x ∈ l, x ∈ m) → l.length ≤ m.length
  | [], _, _, _ => Nat.zero_le _
  | a :: l, m, h, hs => by
    have ha : a ∈ m := hs a List.mem_cons_self
    have h2 := List.nodup_cons.mp h
    have : l.length ≤ (m.erase a).length := nodup_len h2.2 fun x hx => by
      have hne : x ≠ a := fun e => h2.1 (e ▸ hx)
      exact (List.mem_erase_of_ne hne).mpr (hs x (List.mem_cons_of_mem _ hx))
    rw [List.length_erase_of_mem ha] at this
    have := List.length_pos_of_mem ha
    simp
    omega
theorem nodup_fst {α : Type} {a : List α} (hd : a.Nodup) {c : α} {i : Nat} (h : a[i]? = some c) : ∀ j, j < i → a[j]? ≠ some c := by
  intro j hj h2
  obtain ⟨h1a, h1b⟩ := List.getElem?_eq_some_iff.mp h
  obtain ⟨h3a, h3b⟩ := List.getElem?_eq_some_iff.mp h2
  exact List.pairwise_iff_getElem.mp hd j i h3a h1a hj (h3b.trans h1b.symm)
theorem nodup_same {α : Type} {a : List α} (hd : a.Nodup) {c : α} {i j : Nat} (h : a[i]? = some c) (h2 : a[j]? = some c) : i = j := by
  rcases Nat.lt_trichotomy i j with hlt | heq | hgt
  · exact absurd h (nodup_fst hd h2 i hlt)
  · exact heq
  · exact absurd h2 (nodup_fst hd h j hgt)
structure Pm (p : Nat) (t : List Nat) : Prop where
  len : t.length = p
  lt : ∀ x ∈ t, x < p
  nd : t.Nodup
def ap (t : List Nat) (x : Nat) : Nat := (t[x]?).getD 0
def app (t s : List Nat) : List Nat := s.map (ap t)
theorem ap_lt {p : Nat} {t : List Nat} (h : Pm p t) {x : Nat} (hx : x < p) : ap t x < p := by
  unfold ap
  rw [List.getElem?_eq_getElem (by rw [h.len]; exact hx)]
  exact h.lt _ (List.getElem_mem _)
theorem ap_get {p : Nat} {t : List Nat} (h : Pm p t) {x : Nat} (hx : x < p) : t[x]? = some (ap t x) := by
  unfold ap
  rw [List.getElem?_eq_getElem (by rw [h.len]; exact hx)]
  rfl
theorem ap_inj {p : Nat} {t : List Nat} (h : Pm p t) {x y : Nat} (hx : x < p) (hy : y < p) (e : ap t x = ap t y) : x = y := by
  have h1 := ap_get h hx
  have h2 := ap_get h hy
  rw [e] at h1
  rcases Nat.lt_trichotomy x y with hlt | heq | hgt
  · exact absurd h1 (nodup_first h.nd h2 x hlt)
  · exact heq
  · exact absurd h2 (nodup_first h.nd h1 y hgt)
theorem ap_sur {p : Nat} {t : List Nat} (h : Pm p t) {y : Nat} (hy : y < p) : ∃ x, x < p ∧ ap t x = y := by
  have hm : y ∈ t := Classical.byContradiction fun hn => by
    have := nodup_len (l := y :: t) (m := List.range p) (List.nodup_cons.mpr ⟨hn, h.nd⟩) (fun x hx => by
      rcases List.mem_cons.mp hx with e | e
      · subst e; exact List.mem_range.mpr hy
      · exact List.mem_range.mpr (h.lt x e))
    rw [List.length_range, List.length_cons, h.len] at this
    omega
  obtain ⟨x, hx, e⟩ := List.mem_iff_getElem.mp hm
  refine ⟨x, by rw [← h.len]; exact hx, ?_⟩
  unfold ap
  rw [List.getElem?_eq_getElem hx, e]
  rfl
theorem pm_of {p : Nat} {t : List Nat} (hl : t.length = p) (hlt : ∀ x, x < p → ap t x < p) (hinj : ∀ x y, x < p → y < p → ap t x = ap t y → x = y) : Pm p t := by
  have hg : ∀ i (hi : i < t.length), ap t i = t[i] := fun i hi => by unfold ap; rw [List.getElem?_eq_getElem hi]; rfl
  refine ⟨hl, fun x hx => ?_, List.pairwise_iff_getElem.mpr fun i j hi hj hij e => ?_⟩
  · obtain ⟨i, hi, e⟩ := List.mem_iff_getElem.mp hx
    rw [← e, ← hg i hi]
    exact hlt i (by omega)
  · have := hinj i j (by omega) (by omega) (by rw [hg i hi, hg j hj, e])
    omega
theorem pm_ext {p : Nat} {s t : List Nat} (hs : s.length = p) (ht : t.length = p) (h : ∀ x, x < p → ap s x = ap t x) : s = t := by
  refine List.ext_getElem (by omega) fun i h1 h2 => ?_
  have := h i (by omega)
  unfold ap at this
  rw [List.getElem?_eq_getElem h1, List.getElem?_eq_getElem h2] at this
  exact this
theorem ap_app {p : Nat} {s t : List Nat} (hs : s.length = p) {x : Nat} (hx : x < p) : ap (app t s) x = ap t (ap s x) := by
  unfold app ap
  rw [List.getElem?_map, List.getElem?_eq_getElem (by omega)]
  rfl
theorem app_len (t s : List Nat) : (app t s).length = s.length := by simp [app]
theorem pm_app {p : Nat} {s t : List Nat} (ht : Pm p t) (hs : Pm p s) : Pm p (app t s) := by
  refine pm_of (by rw [app_len, hs.len]) (fun x hx => ?_) (fun x y hx hy e => ?_)
  · rw [ap_app hs.len hx]; exact ap_lt ht (ap_lt hs hx)
  · rw [ap_app hs.len hx, ap_app hs.len hy] at e
    exact ap_inj hs hx hy (ap_inj ht (ap_lt hs hx) (ap_lt hs hy) e)
def idP (p : Nat) : List Nat := List.range p
theorem ap_id {p x : Nat} (hx : x < p) : ap (idP p) x = x := by
  unfold ap idP
  rw [List.getElem?_range hx]
  rfl
theorem pm_id (p : Nat) : Pm p (idP p) := ⟨by simp [idP], fun x hx => List.mem_range.mp hx, List.nodup_range⟩
theorem app_id {p : Nat} {t : List Nat} (ht : Pm p t) : app t (idP p) = t := pm_ext (by rw [app_len]; simp [idP]) ht.len fun x hx => by rw [ap_app (by simp [idP]) hx, ap_id hx]
theorem id_app {p : Nat} {s : List Nat} (hs : Pm p s) : app (idP p) s = s := pm_ext (by rw [app_len, hs.len]) hs.len fun x hx => by rw [ap_app hs.len hx, ap_id (ap_lt hs hx)]
theorem app_assoc {p : Nat} {r s t : List Nat} (hr : Pm p r) (hs : Pm p s) : app t (app s r) = app (app t s) r := pm_ext (by rw [app_len, app_len, hr.len]) (by rw [app_len, hr.len]) fun x hx => by
  rw [ap_app (by rw [app_len, hr.len]) hx, ap_app hr.len hx, ap_app hr.len hx, ap_app hs.len (ap_lt hr hx)]
/-- u undoes t -/
def Inv_ (p : Nat) (t u : List Nat) : Prop := u.length = p ∧ ∀ x, x < p → ap u (ap t x) = x
theorem inv_pm {p : Nat} {t u : List Nat} (ht : Pm p t) (h : Inv_ p t u) : Pm p u := by
  refine pm_of h.1 (fun y hy => ?_) (fun x y hx hy e => ?_)
  · obtain ⟨x, hx, rfl⟩ := ap_sur ht hy
    rw [h.2 x hx]; exact hx
  · obtain ⟨a, ha, rfl⟩ := ap_sur ht hx
    obtain ⟨b, hb, rfl⟩ := ap_sur ht hy
    rw [h.2 a ha, h.2 b hb] at e
    rw [e]
theorem inv_uniq {p : Nat} {t u v : List Nat} (ht : Pm p t) (h : Inv_ p t u) (g : Inv_ p t v) : u = v := pm_ext h.1 g.1 fun y hy => by
  obtain ⟨x, hx, rfl⟩ := ap_sur ht hy
  rw [h.2 x hx, g.2 x hx]
theorem inv_sym {p : Nat} {t u : List Nat} (ht : Pm p t) (h : Inv_ p t u) : Inv_ p u t := ⟨ht.len, fun y hy => by
  obtain ⟨x, hx, rfl⟩ := ap_sur ht hy
  rw [h.2 x hx]⟩
theorem inv_app {p : Nat} {t u s : List Nat} (ht : Pm p t) (h : Inv_ p t u) (hs : Pm p s) : app u (app t s) = s := pm_ext (by rw [app_len, app_len, hs.len]) hs.len fun x hx => by
  rw [ap_app (by rw [app_len, hs.len]) hx, ap_app hs.len hx, h.2 _ (ap_lt hs hx)]
/-- the one that undoes t -/
def invP (t : List Nat) : List Nat := (List.range t.length).map fun y => (t.idxOf? y).getD 0
theorem invP_inv {p : Nat} {t : List Nat} (ht : Pm p t) : Inv_ p t (invP t) := by
  refine ⟨by simp [invP, ht.len], fun x hx => ?_⟩
  have hy := ap_lt ht hx
  have hg := ap_get ht hx
  unfold invP
  rw [ap, List.getElem?_map, List.getElem?_range (by rw [ht.len]; exact hy)]
  have : t.idxOf? (ap t x) = some x := by
    rw [List.idxOf?, List.findIdx?_eq_some_iff_getElem]
    obtain ⟨h1, h2⟩ := List.getElem?_eq_some_iff.mp hg
    refine ⟨h1, by simp [h2], fun j hj => ?_⟩
    have := nodup_first ht.nd hg j hj
    rw [List.getElem?_eq_getElem (by omega)] at this
    simpa using fun e => this (by rw [e])
  show ((some _).map _ : Option Nat).getD 0 = x
  simp [this]
theorem pm_inv {p : Nat} {t : List Nat} (ht : Pm p t) : Pm p (invP t) := inv_pm ht (invP_inv ht)
/-- a step's turn, a word's -/
def tn (ts : List (List Nat)) (x : Int) : List Nat := if x < 0 then invP ((ts[x.natAbs - 1]?).getD []) else (ts[x.natAbs - 1]?).getD []
def thr (ts : List (List Nat)) (s : List Nat) (w : List Int) : List Nat := w.foldl (fun s x => app (tn ts x) s) s
structure Tns (p : Nat) (ts : List (List Nat)) : Prop where
  pm : ∀ t ∈ ts, Pm p t
def StT (n : Nat) (w : List Int) : Prop := ∀ x ∈ w, x ≠ 0 ∧ x.natAbs ≤ n
theorem tn_pm {p : Nat} {ts : List (List Nat)} (h : Tns p ts) {x : Int} (hx : x ≠ 0 ∧ x.natAbs ≤ ts.length) : Pm p (tn ts x) := by
  have hl : x.natAbs - 1 < ts.length := by omega
  have := h.pm _ (List.getElem_mem hl)
  unfold tn
  rw [List.getElem?_eq_getElem hl]
  split
  · exact pm_inv this
  · exact this
theorem thr_pm {p : Nat} {ts : List (List Nat)} (h : Tns p ts) : ∀ {w : List Int} {s : List Nat}, StT ts.length w → Pm p s → Pm p (thr ts s w)
  | [], _, _, hs => hs
  | x :: w, s, hw, hs => thr_pm h (w := w) (fun y hy => hw y (List.mem_cons_of_mem _ hy)) (pm_app (tn_pm h (hw x List.mem_cons_self)) hs)
theorem thr_app (ts : List (List Nat)) (s : List Nat) (a b : List Int) : thr ts s (a ++ b) = thr ts (thr ts s a) b := by simp [thr]
theorem thr_id {p : Nat} {ts : List (List Nat)} (h : Tns p ts) : ∀ {w : List Int} {s : List Nat}, StT ts.length w → Pm p s → thr ts s w = app (thr ts (idP p) w) s := by
  intro w
  have key : ∀ (w : List Int) (r s : List Nat), StT ts.length w → Pm p r → Pm p s → thr ts (app r s) w = app (thr ts r w) s := by
    intro w
    induction w with
    | nil => intro r s _ _ _; rfl
    | cons x w ih =>
      intro r s hw hr hs
      have hx := tn_pm h (hw x List.mem_cons_self)
      show thr ts (app (tn ts x) (app r s)) w = app (thr ts (app (tn ts x) r) w) s
      rw [app_assoc hs hr]
      exact ih _ _ (fun y hy => hw y (List.mem_cons_of_mem _ hy)) (pm_app hx hr) hs
  intro s hw hs
  have := key w (idP p) s hw (pm_id p) hs
  rwa [id_app hs] at this
theorem tn_neg {p : Nat} {ts : List (List Nat)} (h : Tns p ts) {x : Int} (hx : x ≠ 0 ∧ x.natAbs ≤ ts.length) : Inv_ p (tn ts x) (tn ts (-x)) := by
  have hl : x.natAbs - 1 < ts.length := by omega
  have ht := h.pm _ (List.getElem_mem hl)
  unfold tn
  rw [Int.natAbs_neg, List.getElem?_eq_getElem hl]
  by_cases hn : x < 0
  · rw [if_pos hn, if_neg (by omega)]
    exact inv_sym ht (invP_inv ht)
  · rw [if_neg hn, if_pos (by omega)]
    exact invP_inv ht
theorem thr_back {p : Nat} {ts : List (List Nat)} (h : Tns p ts) : ∀ {w : List Int} {s : List Nat}, StT ts.length w → Pm p s → thr ts (thr ts s w) (backOf w) = s
  | [], _, _, _ => rfl
  | x :: w, s, hw, hs => by
    have hx := hw x List.mem_cons_self
    have e : backOf (x :: w) = backOf w ++ [-x] := by simp [backOf]
    rw [e, thr_app]
    show thr ts (thr ts (thr ts (app (tn ts x) s) w) (backOf w)) [-x] = s
    rw [thr_back h (fun y hy => hw y (List.mem_cons_of_mem _ hy)) (pm_app (tn_pm h hx) hs)]
    exact inv_app (tn_pm h hx) (tn_neg h hx) hs
theorem st_back {n : Nat} {w : List Int} (h : StT n w) : StT n (backOf w) := fun x hx => by
  unfold backOf at hx
  obtain ⟨y, hy, rfl⟩ := List.mem_map.mp hx
  have := h y (List.mem_reverse.mp hy)
  exact ⟨by omega, by omega⟩
/-- a word's back is what undoes the word -/
theorem thr_inv {p : Nat} {ts : List (List Nat)} (h : Tns p ts) {w : List Int} (hw : StT ts.length w) : thr ts (idP p) (backOf w) = invP (thr ts (idP p) w) := by
  have hp := thr_pm h hw (pm_id p)
  refine inv_uniq hp ⟨(thr_pm h (st_back hw) (pm_id p)).len, fun x hx => ?_⟩ (invP_inv hp)
  have := thr_back h hw (pm_id p)
  rw [thr_id h (st_back hw) hp] at this
  have h2 := congrArg (fun l => ap l x) this
  rwa [ap_app hp.len hx, ap_id hx] at h2
/-! ### tables of turns -/
def nD (l : List Nat) : D := .tup (l.map fun n : Nat => D.int n)
def nL (l : List Nat) : D := .lst (l.map fun n : Nat => D.int n)
theorem codN : CodecI (fun n : Nat => D.int n) 0 := ⟨⟨fun _ => rfl, fun _ => Nat.le_refl _, fun a b => by simp [D.py, PyData.eqv]; omega⟩, fun _ => rfl⟩
theorem codnD : CodecI nD 1 := codN.tup
theorem codnL : CodecI nL 1 := codN.lst
theorem rng_id (p : Nat) : D.tup (rngD 0 ((p : Int) - 0).toNat) = nD (idP p) := by
  unfold nD idP rngD
  rw [show ((p : Int) - 0).toNat = p by omega]
  simp
theorem rng_idL (p : Nat) : D.lst (rngD 0 ((p : Int) - 0).toNat) = nL (idP p) := by
  unfold nL idP rngD
  rw [show ((p : Int) - 0).toNat = p by omega]
  simp
theorem atI_n {l : List Nat} {k : Nat} (h : k < l.length) : atI (l.map fun n : Nat => D.int n) (k : Int) = some (.int (ap l k)) := by
  refine atI_f (fun n : Nat => D.int n) (by omega) ?_
  rw [Int.toNat_natCast]
  unfold ap
  rw [List.getElem?_eq_getElem h]
  rfl
def tk (ts : List (List Nat)) (k : Nat) : List Nat := if k % 2 = 1 then invP ((ts[k / 2]?).getD []) else (ts[k / 2]?).getD []
def spot (x : Int) : Nat := if x < 0 then 2 * (x.natAbs - 1) + 1 else 2 * (x.natAbs - 1)
theorem tk_spot (ts : List (List Nat)) (x : Int) : tk ts (spot x) = tn ts x := by
  unfold tk spot tn
  split
  · rw [if_pos (by omega), show (2 * (x.natAbs - 1) + 1) / 2 = x.natAbs - 1 by omega]
  · rw [if_neg (by omega), show (2 * (x.natAbs - 1)) / 2 = x.natAbs - 1 by omega]
theorem tk_pm {p : Nat} {ts : List (List Nat)} (h : Tns p ts) {k : Nat} (hk : k < 2 * ts.length) : Pm p (tk ts k) := by
  have hl : k / 2 < ts.length := by omega
  have := h.pm _ (List.getElem_mem hl)
  unfold tk
  rw [List.getElem?_eq_getElem hl]
  split
  · exact pm_inv this
  · exact this
/-- a row of the table: where each sign leads from s -/
def RowOk (ts : List (List Nat)) (come : List (List Nat)) (s : List Nat) (n : Nat) (r : List Nat) : Prop := r.length = n ∧ ∀ k, k < n → come[ap r k]? = some (app (tk ts k) s)
theorem RowOk.more {ts come : List (List Nat)} {s : List Nat} {n : Nat} {r : List Nat} (h : RowOk ts come s n r) (e : List (List Nat)) : RowOk ts (come ++ e) s n r := ⟨h.1, fun k hk => by
  have := h.2 k hk
  rw [List.getElem?_append_left (List.getElem?_eq_some_iff.mp this).1]
  exact this⟩
theorem ap_snoc {r : List Nat} {j k : Nat} (hk : k < r.length) : ap (r ++ [j]) k = ap r k := by
  unfold ap
  rw [List.getElem?_append_left hk]
theorem ap_last (r : List Nat) (j : Nat) : ap (r ++ [j]) r.length = j := by
  unfold ap
  simp
structure Come (p : Nat) (come : List (List Nat)) : Prop where
  c0 : come[0]? = some (idP p)
  pm : ∀ s ∈ come, Pm p s
  nd : come.Nodup
structure Tbl (p : Nat) (ts come tab : List (List Nat)) : Prop extends Come p come where
  len : tab.length = come.length
  row : ∀ (i : Nat) (s : List Nat), come[i]? = some s → ∃ r : List Nat, tab[i]? = some r ∧ RowOk ts come s (2 * ts.length) r
/-- all lists of n points -/
def allL (p : Nat) : Nat → List (List Nat)
  | 0 => [[]]
  | n + 1 => (List.range p).flatMap fun x => (allL p n).map (x :: ·)
theorem allL_mem {p : Nat} : ∀ {n : Nat} {l : List Nat}, l.length = n → (∀ x ∈ l, x < p) → l ∈ allL p n
  | 0, l, h, _ => by
    have : l = [] := List.length_eq_zero_iff.mp h
    subst this
    simp [allL]
  | n + 1, x :: l, h, hx => by
    unfold allL
    rw [List.mem_flatMap]
    refine ⟨x, List.mem_range.mpr (hx x List.mem_cons_self), List.mem_map.mpr ⟨l, allL_mem (by simpa using h) fun y hy => hx y (List.mem_cons_of_mem _ hy), rfl⟩⟩
theorem all_len {p : Nat} (h : p ≤ 4) : (allL p p).length ≤ 256 := by
  have : p = 0 ∨ p = 1 ∨ p = 2 ∨ p = 3 ∨ p = 4 := by omega
  rcases this with e | e | e | e | e <;> subst e <;> decide +kernel
theorem come_len {p : Nat} (h : p ≤ 4) {come : List (List Nat)} (nd : come.Nodup) (pm : ∀ s ∈ come, Pm p s) : come.length ≤ 256 :=
  Nat.le_trans (nodup_len nd fun s hs => allL_mem (pm s hs).len (pm s hs).lt) (all_len h)

/-! ### steps in their order -/
def stp (k : Nat) : Int := if k % 2 = 0 then ((k / 2 : Nat) : Int) + 1 else -(((k / 2 : Nat) : Int) + 1)
theorem stp_ok {k l : Nat} (h : k < 2 * l) : stp k ≠ 0 ∧ (stp k).natAbs ≤ l := by
  unfold stp
  split <;> omega
def stepsL (l : Nat) : List Int := (List.range (2 * l)).map stp
theorem stepsL_succ (l : Nat) : stepsL (l + 1) = stepsL l ++ [(l : Int) + 1, -((l : Int) + 1)] := by
  have e1 : stp (2 * l) = (l : Int) + 1 := by unfold stp; rw [if_pos (by omega)]; omega
  have e2 : stp (2 * l + 1) = -((l : Int) + 1) := by unfold stp; rw [if_neg (by omega)]; omega
  unfold stepsL
  rw [show 2 * (l + 1) = (2 * l + 1) + 1 by omega, List.range_succ, List.range_succ, List.map_append, List.map_append, List.append_assoc]
  simp only [List.map_cons, List.map_nil, e1, e2]
  rfl
theorem stepsL_len (l : Nat) : (stepsL l).length = 2 * l := by simp [stepsL]

theorem stp_spot (k : Nat) : spot (stp k) = k := by
  unfold spot stp
  split
  · rw [if_neg (by omega)]; omega
  · rw [if_pos (by omega)]; omega
def lead (tab : List (List Nat)) (r : Nat) (w : List Int) : Nat := w.foldl (fun r x => ap ((tab[r]?).getD []) (spot x)) r
theorem lead_snoc (tab : List (List Nat)) (r : Nat) (w : List Int) (x : Int) : lead tab r (w ++ [x]) = ap ((tab[lead tab r w]?).getD []) (spot x) := by simp [lead]
structure GT (n l : Nat) (tab : List (List Nat)) : Prop where
  len : tab.length = n
  n1 : 1 ≤ n
  nb : n ≤ 5000
  lb : l ≤ 500
  row : ∀ r ∈ tab, r.length = 2 * l ∧ ∀ x ∈ r, x < n
  reach : ∀ j, 0 < j → j < n → ∃ i k, i < j ∧ k < 2 * l ∧ ap ((tab[i]?).getD []) k = j
theorem row_ap (r : List Nat) : r = (List.range r.length).map (ap r) := by
  refine List.ext_getElem (by simp) fun i h1 h2 => ?_
  simp [ap, h1]
theorem GT.get {n l : Nat} {tab : List (List Nat)} (g : GT n l tab) {i : Nat} (h : i < n) : ∃ r, tab[i]? = some r ∧ (tab[i]?).getD [] = r ∧ r.length = 2 * l ∧ ∀ k, k < 2 * l → ap r k < n := by
  have hl : i < tab.length := by rw [g.len]; exact h
  have := g.row _ (List.getElem_mem hl)
  refine ⟨tab[i], List.getElem?_eq_getElem hl, by rw [List.getElem?_eq_getElem hl]; rfl, this.1, fun k hk => ?_⟩
  have hk' : k < tab[i].length := by rw [this.1]; exact hk
  unfold ap
  rw [List.getElem?_eq_getElem hk']
  exact this.2 _ (List.getElem_mem hk')
theorem lead_lt {n l : Nat} {tab : List (List Nat)} (g : GT n l tab) : ∀ {w : List Int} {r : Nat}, r < n → StT l w → lead tab r w < n
  | [], _, h, _ => h
  | x :: w, r, h, hw => by
    have hx := hw x List.mem_cons_self
    obtain ⟨q, _, e, _, hq⟩ := g.get h
    show lead tab (ap ((tab[r]?).getD []) (spot x)) w < n
    rw [e]
    exact lead_lt g (w := w) (hq _ (by unfold spot; split <;> omega)) fun y hy => hw y (List.mem_cons_of_mem _ hy)
abbrev Wly := List (Nat × List Int)
def wlyD (L : Wly) : D := .dK (L.map fun q => (Sum.inl (q.1 : Int), wD q.2))
def wv (L : Wly) (r : Nat) : Option (List Int) := (L.find? fun q => decide (q.1 = r)).map (·.2)
theorem wv_val (L : Wly) (r : Nat) : valD (L.map fun q => ((Sum.inl (q.1 : Int) : Key), wD q.2)) (.inl (r : Int)) = (wv L r).map wD := by
  unfold valD wv
  induction L with
  | nil => rfl
  | cons q L ih =>
    rw [List.map_cons, List.find?_cons, List.find?_cons]
    by_cases h : q.1 = r
    · simp [h]
    · have : ¬ ((Sum.inl (q.1 : Int) : Key) = Sum.inl (r : Int)) := fun e => h (by have := Sum.inl.inj e; omega)
      simp only [h, this, decide_false]
      exact ih
theorem wv_mem {L : Wly} {r : Nat} {w : List Int} (h : wv L r = some w) : (r, w) ∈ L := by
  unfold wv at h
  cases e : L.find? fun q => decide (q.1 = r) with
  | none => rw [e] at h; cases h
  | some q =>
    rw [e] at h
    have h1 := List.find?_some e
    have h2 := List.mem_of_find?_eq_some e
    simp at h1
    cases h
    rw [← h1]
    exact h2
theorem wv_none {L : Wly} {r : Nat} : wv L r = none ↔ r ∉ L.map (·.1) := by
  unfold wv
  rw [Option.map_eq_none_iff, List.find?_eq_none]
  simp
  constructor
  · intro h x hx
    exact h r x hx rfl
  · intro h a b hab e
    subst e
    exact h b hab
theorem put_new {L : Wly} {r : Nat} (w : List Int) (h : wv L r = none) : putD (L.map fun q => ((Sum.inl (q.1 : Int) : Key), wD q.2)) (.inl (r : Int)) (wD w) = (L ++ [(r, w)]).map fun q => ((Sum.inl (q.1 : Int) : Key), wD q.2) := by
  have hn := wv_none.mp h
  unfold putD
  rw [if_neg]
  · simp
  · simp
    intro a b hab e
    have : a = r := by omega
    subst this
    exact hn (List.mem_map.mpr ⟨(a, b), hab, rfl⟩)
structure WlOk (n l : Nat) (tab : List (List Nat)) (L : Wly) : Prop where
  nd : (L.map (·.1)).Nodup
  c0 : L[0]? = some (0, [])
  ok : ∀ q ∈ L, q.1 < n ∧ lead tab 0 q.2 = q.1 ∧ StT l q.2 ∧ q.2.length < L.length
theorem WlOk.len {n l : Nat} {tab : List (List Nat)} {L : Wly} (h : WlOk n l tab L) : L.length ≤ n := by
  have := nodup_len (m := List.range n) h.nd fun x hx => by
    obtain ⟨q, hq, rfl⟩ := List.mem_map.mp hx
    exact List.mem_range.mpr (h.ok q hq).1
  simpa using this
/-- closed: every room there -/
theorem WlOk.full {n l : Nat} {tab : List (List Nat)} {L : Wly} (g : GT n l tab) (h : WlOk n l tab L) (hc : ∀ r ∈ L.map (·.1), ∀ k, k < 2 * l → ap ((tab[r]?).getD []) k ∈ L.map (·.1)) : ∀ r, r < n → r ∈ L.map (·.1) := by
  intro r
  induction r using Nat.strongRecOn with
  | _ r ih =>
    intro hr
    by_cases h0 : r = 0
    · subst h0
      exact List.mem_map.mpr ⟨(0, []), List.mem_of_getElem? h.c0, rfl⟩
    · obtain ⟨i, k, hi, hk, e⟩ := g.reach r (by omega) hr
      rw [← e]
      exact hc i (ih i hi (by omega)) k hk

/-! SPLIT -/
def T_steps_of : DSp := fun ds w P => ∃ l : Nat, ds = [.int l] ∧ l ≤ 500 ∧ P true (iD (stepsL l)) w
theorem len_steps_of (ds : List D) (w : Om) (P : Bool → D → Om → Prop) (h : T_steps_of ds w P) : ds.length = 1 := by first | (have h := h.1; subst h; rfl) | (obtain ⟨rfl, _⟩ := h; rfl) | (obtain ⟨_, rfl, _⟩ := h; rfl) | (obtain ⟨_, _, rfl, _⟩ := h; rfl) | (obtain ⟨_, _, _, rfl, _⟩ := h; rfl) | (obtain ⟨_, _, _, _, rfl, _⟩ := h; rfl) | (obtain ⟨_, _, _, _, _, rfl, _⟩ := h; rfl) | (obtain ⟨_, _, _, _, _, _, rfl, _⟩ := h; rfl) | (obtain ⟨_, _, _, _, _, _, _, rfl, _⟩ := h; rfl) | (obtain ⟨_, _, _, _, _, _, _, _, rfl, _⟩ := h; rfl) | (obtain ⟨_, _, _, _, _, _, _, _, _, rfl, _⟩ := h; rfl) | (obtain ⟨_, _, _, _, _, _, _, _, _, _, rfl, _⟩ := h; rfl) | (obtain ⟨_, _, _, _, _, _, _, _, _, _, _, rfl, _⟩ := h; rfl) | (obtain ⟨_, _, _, _, _, _, _, _, _, _, _, _, rfl, _⟩ := h; rfl) | (obtain ⟨_, _, _, _, _, _, _, _, _, _, _, _, _, rfl, _⟩ := h; rfl)
def b_steps_of : DS := (dSeq (dSet true 1 (dLst dNil))
    (dSeq (dFor (dRng2 (oX (dC (.int 1))) (oX (dBin sAdd (dVarR 0) (oX (dC (.int 1)))))) (gN 2) (dSeq (dApp 1 (dVar 2))
    (dApp 1 (dUn sNeg (dVarR 2)))))
    (dRetV 1)))
theorem v_steps_of (ds : List D) (w : Om) (P : Bool → D → Om → Prop) (h : T_steps_of ds w P) : b_steps_of { nx := fun _ w => P false .non w, rt := P } (startD ["letters", "steps", "letter"] ds) w := by
  unfold b_steps_of
  obtain ⟨l, rfl, hl, q⟩ := h
  refine seq_i ?_
  try simp_arith only []
  refine seq_i ?_
  try simp_arith only []
  refine ⟨by omega, ?_⟩
  refine for_rng 1 _ (fun k δ w' => w' = w ∧ ∃ j, δ = [some (false, .int l), some (true, iD (stepsL k)), j]) ⟨rfl, none, rfl⟩ ?_ ?_
  · rintro k δ w' N C hk ⟨rfl, j, rfl⟩ hN hC
    have hl := stepsL_len k
    have hs := sizeLine_eq
    refine seq_i ?_
    try simp_arith only []
    try simp_arith [iD]
    refine ⟨by omega, by simp; omega, hN _ _ ⟨rfl, some (false, .int (1 + k)), ?_⟩⟩
    rw [stepsL_succ]
    simp [iD, Int.add_comm]
  · rintro δ w' ⟨rfl, j, rfl⟩
    try simp_arith []
    have e : ((l : Int) + 1 - 1).toNat = l := by omega
    rw [e]
    exact q
theorem zip_steps {l : Nat} {r : List Nat} (h : r.length = 2 * l) : zipD ((stepsL l).map D.int) (r.map fun n : Nat => D.int n) = (List.range (2 * l)).map fun k => .tup [.int (stp k), .int (ap r k)] := by
  conv => lhs; rw [row_ap r, h]
  unfold zipD stepsL
  rw [List.map_map, List.map_map, List.zipWith_map, List.zipWith_self]
  rfl

def T_led : DSp := fun ds w P => ∃ (n l : Nat) (tab : List (List Nat)) (i : Nat) (ws : List Int), ds = [.lst (tab.map nL), .int i, wD ws] ∧ GT n l tab ∧ i < n ∧ StT l ws ∧ P false (.int (lead tab i ws)) w
theorem len_led (ds : List D) (w : Om) (P : Bool → D → Om → Prop) (h : T_led ds w P) : ds.length = 3 := by first | (have h := h.1; subst h; rfl) | (obtain ⟨rfl, _⟩ := h; rfl) | (obtain ⟨_, rfl, _⟩ := h; rfl) | (obtain ⟨_, _, rfl, _⟩ := h; rfl) | (obtain ⟨_, _, _, rfl, _⟩ := h; rfl) | (obtain ⟨_, _, _, _, rfl, _⟩ := h; rfl) | (obtain ⟨_, _, _, _, _, rfl, _⟩ := h; rfl) | (obtain ⟨_, _, _, _, _, _, rfl, _⟩ := h; rfl) | (obtain ⟨_, _, _, _, _, _, _, rfl, _⟩ := h; rfl) | (obtain ⟨_, _, _, _, _, _, _, _, rfl, _⟩ := h; rfl) | (obtain ⟨_, _, _, _, _, _, _, _, _, rfl, _⟩ := h; rfl) | (obtain ⟨_, _, _, _, _, _, _, _, _, _, rfl, _⟩ := h; rfl) | (obtain ⟨_, _, _, _, _, _, _, _, _, _, _, rfl, _⟩ := h; rfl) | (obtain ⟨_, _, _, _, _, _, _, _, _, _, _, _, rfl, _⟩ := h; rfl) | (obtain ⟨_, _, _, _, _, _, _, _, _, _, _, _, _, rfl, _⟩ := h; rfl)
def b_led : DS := (dSeq (dFor (dIt (dVar 2)) (gN 3) (dIf (dB (dBin sGt (dVarR 3) (oX (dC (.int 0))))) (dSet false 1 (dBin sIx (oX (dBin sIx (dVarR 0) (dVarR 1))) (oX (dBin sSub (oX (dBin sMulB (oX (dC (.int 2))) (dVarR 3))) (oX (dC (.int 2))))))) (dSet false 1 (dBin sIx (oX (dBin sIx (dVarR 0) (dVarR 1))) (oX (dBin sSub (oX (dBin sMulB (oX (dUn sNeg (oX (dC (.int 2))))) (dVarR 3))) (oX (dC (.int 1)))))))))
    (dRetV 1))
theorem v_led (ds : List D) (w : Om) (P : Bool → D → Om → Prop) (h : T_led ds w P) : b_led { nx := fun _ w => P false .non w, rt := P } (startD ["table", "room", "word", "step"] ds) w := by
  unfold b_led
  obtain ⟨n, l, tab, i, ws, rfl, g, hi, hst, q⟩ := h
  have hs := sizeLine_eq
  refine seq_i ?_
  try simp_arith only []
  try simp_arith [wD]
  refine for_go D.int (fun pre δ w' => w' = w ∧ ∃ j : Option (Bool × D), δ = [some (false, .lst (tab.map nL)), some (false, .int (lead tab i pre)), some (false, wD ws), j]) _ ⟨rfl, none, rfl⟩ ?_ ?_
  · rintro pre x post δ w' N C e ⟨rfl, j, rfl⟩ hN hC
    have hx := hst x (by rw [e]; simp)
    have hlt := lead_lt g hi (w := pre) fun y hy => hst y (by rw [e]; simp [hy])
    rw [lead_snoc] at hN
    generalize lead tab i pre = r at *
    obtain ⟨row, ht, htd, hrl, hrlt⟩ := g.get hlt
    rw [htd] at hN
    have hk : spot x < 2 * l := by unfold spot; split <;> omega
    have hti : atI (tab.map nL) (r : Int) = some (nL row) := atI_f nL (by omega) (by rw [Int.toNat_natCast]; exact ht)
    have hrj : atI (row.map fun n : Nat => D.int n) (spot x : Int) = some (.int (ap row (spot x))) := atI_n (by rw [hrl]; exact hk)
    try simp_arith []
    by_cases h0 : 0 < x
    · have es : 2 * x - 2 = (spot x : Int) := by unfold spot; rw [if_neg (by omega)]; omega
      refine if_t (by simp [h0]) ⟨_, hti, mulC (by omega) (by omega), ?_⟩
      rw [es]
      try simp_arith [nL]
      exact ⟨_, hrj, hN _ _ ⟨rfl, _, rfl⟩⟩
    · have es : -2 * x - 1 = (spot x : Int) := by unfold spot; rw [if_pos (by omega)]; omega
      refine if_f (by simpa using h0) ⟨_, hti, mulC (by omega) (by omega), ?_⟩
      rw [es]
      try simp_arith [nL]
      exact ⟨_, hrj, hN _ _ ⟨rfl, _, rfl⟩⟩
  · rintro δ w' ⟨rfl, j, rfl⟩
    try simp_arith []
    exact q

def T_back : DSp := fun ds w P => ∃ ws : List Int, ds = [wD ws] ∧ ws.length ≤ 1000000 ∧ P false (wD (backOf ws)) w
theorem len_back (ds : List D) (w : Om) (P : Bool → D → Om → Prop) (h : T_back ds w P) : ds.length = 1 := by first | (have h := h.1; subst h; rfl) | (obtain ⟨rfl, _⟩ := h; rfl) | (obtain ⟨_, rfl, _⟩ := h; rfl) | (obtain ⟨_, _, rfl, _⟩ := h; rfl) | (obtain ⟨_, _, _, rfl, _⟩ := h; rfl) | (obtain ⟨_, _, _, _, rfl, _⟩ := h; rfl) | (obtain ⟨_, _, _, _, _, rfl, _⟩ := h; rfl) | (obtain ⟨_, _, _, _, _, _, rfl, _⟩ := h; rfl) | (obtain ⟨_, _, _, _, _, _, _, rfl, _⟩ := h; rfl) | (obtain ⟨_, _, _, _, _, _, _, _, rfl, _⟩ := h; rfl) | (obtain ⟨_, _, _, _, _, _, _, _, _, rfl, _⟩ := h; rfl) | (obtain ⟨_, _, _, _, _, _, _, _, _, _, rfl, _⟩ := h; rfl) | (obtain ⟨_, _, _, _, _, _, _, _, _, _, _, rfl, _⟩ := h; rfl) | (obtain ⟨_, _, _, _, _, _, _, _, _, _, _, _, rfl, _⟩ := h; rfl) | (obtain ⟨_, _, _, _, _, _, _, _, _, _, _, _, _, rfl, _⟩ := h; rfl)
def b_back : DS := (dRet (dUn sTuple (oX (dLc (dIt (dUn sRev (dVarR 0))) (gN 1) dYes (dUn sNeg (dVarR 1)) [1]))))
theorem v_back (ds : List D) (w : Om) (P : Bool → D → Om → Prop) (h : T_back ds w P) : b_back { nx := fun _ w => P false .non w, rt := P } (startD ["word", "step"] ds) w := by
  unfold b_back
  obtain ⟨ws, rfl, hl, q⟩ := h
  have hs := sizeLine_eq
  try simp_arith [wD, ← List.map_reverse]
  refine lc_map (fun x : Int => D.int x) (fun x => .int (-x)) ws.reverse (fun x _ P hP => ?_) [] (by simp; omega) ?_
  · try simp_arith []
    exact hP _
  · simp only [dNext, dSet, dLst, dTup, dNil, dCons, dFor, dRng1_u, dRng2_u, dIt_u, oX, dC, dBin, dUn, dVarR, dVar, dApp, dExt, dUpd0, dPut, dAug, dRet, dRetV, dRetN, dBreak, dCont, dIf, dB_u, dTru_u, dTNot, dTAnd, dTOr, dAndV_u, dOrV_u, dNotV_u, dIfX, dChain_u, dCall, dSl, dNoP, dP_u, dLc, dLcX, dLcN, dDrop, dFrz, frzD, dAsg, dDicK, dDicT, gN, gT, gsC, gsN, kB.eq_1, kT.eq_1, kT.eq_2, kT.eq_3, kT.eq_4, kT.eq_5, kT.eq_6, kT.eq_7, kT.eq_8, kAnd.eq_1, kOr.eq_1, kNot.eq_1, kIt.eq_1, kIt.eq_2, kIt.eq_3, kIt.eq_4, kP.eq_1, kR1.eq_1, kR2.eq_1, sAdd.eq_1, sAdd.eq_2, sAdd.eq_3, sAdd.eq_4, sJ2.eq_1, sI2.eq_1, sPow, sLt.eq_1, sLt.eq_2, sLe, sGt, sGe, sMul.eq_1, sMul.eq_2, sMulB.eq_1, sMulB.eq_2, sMulB.eq_3, sLR1.eq_1, sLR2.eq_1, sTR1.eq_1, sTR2.eq_1, sIsBl.eq_1, dZip, kZip.eq_1, dDisp1, dSetN, dConsN, dAppN, dPutN, dFld, dFldS, dFldAug, dMeth, dMake, dGet1, dGet2, dSetd, dInsert, dDPop, dLPop, dLPopAt, dLClear, dLClearT, dEnum, kEnum.eq_1, dEnumT, kEnumT.eq_1, kEnumT.eq_2, dRng3, kR3.eq_1, dForN, dForZN, dForKeys, dForItems, dForItemsT, dLock, lkE, dBack, kNm_f, kNm_t, nmK_f, nmK_lst, nmK_dK, nmK_dT, isDct_dK, isDct_dT, isDct_fK, isDct_fT, sGetO_K, sGetO_S, sGetO_T, sGetO_fK, sGetO_fT, sIn_K, sIn_fK, sIn_T, sIn_fT, sPutC_lst, sPutC_K, sPutC_S, sPutC_T, keyOf_int, keyOf_str, keysC.eq_1, keysC.eq_2, itemsC.eq_1, rs_ref, rs_non, rs_bl, rs_int, rs_str, rs_ty, rs_lst, rs_tup, rs_dK, rs_dT, rs_scr, rs_wD, rs_iD, rs_lwD, resC_lst, resC_dK, resC_dT, resC_fK, resC_fT, resC_ins, updW_same, putFD.eq_1, putFD.eq_2, isL.eq_1, isL.eq_2, sNeg.eq_1, sLen.eq_1, sLen.eq_2, sLen.eq_3, sLen.eq_4, sLen.eq_5, sLenA_lst, sLenA_tup, sLenA_scr, sLenA_str, sLenA_dK, sLenA_dT, sAbs.eq_1, sMax, sMin, sInt.eq_1, sInt.eq_2, sStr.eq_1, sList.eq_1, sList.eq_2, sList.eq_3, sListD_dT, sTuple.eq_1, sTuple.eq_2, sTuple.eq_3, sIsN, sNotN, sIx.eq_1, sIx.eq_2, sIx.eq_3, sIx.eq_4, sIx.eq_5, sIx.eq_6, sIx.eq_7, sIx.eq_8, sIx.eq_9, sSl.eq_1, sSl.eq_2, sSl.eq_3, sSl.eq_4, sRev.eq_1, sRev.eq_2, sRev.eq_3, sAddI.eq_1, sAddI.eq_2, sPut.eq_1, sPut.eq_2, sPut.eq_3, sPut.eq_4, D.isNon, sEq_ii, sNe_ii, sEq_ww, sNe_ww, sEq_ll, sNe_ll, sIsi_ii, sIsi_ib, sIsi_ll, sIsi_tt, sIsi_ss, sEq_w, sEq_i, sEq_lw, sEq_lw', sEq_lle, sEq_lle', sNe_w, sNe_i, sNe_lle', sNe_lw', sEq_ss, sNe_ss, sEq_bb, sNe_bb, sIn_iw, sIn_ii, sIn_wl, sIn_wl', sSl3.eq_1, sSl3.eq_2, dSl3, dSlB, sSlB.eq_1, isS.eq_1, isL.eq_1, isL.eq_2, isA.eq_1, dM0, dM1, sUpper.eq_1, sLower.eq_1, sStrip1.eq_1, sSfind.eq_1, sScount.eq_1, sSindex.eq_1, sSsplit.eq_1, sSjoin.eq_1, sSjoin.eq_2, fPop_snoc, fPop_snoc', startD, wipeD, List.map_cons, List.map_nil, List.length_cons, List.length_nil, List.length_map, List.cons_append, List.nil_append, List.replicate, List.set_cons_zero, List.set_cons_succ, List.set_nil, List.getElem?_cons_zero, List.getElem?_cons_succ, Bool.true_and, Bool.and_true, Bool.and_false, Bool.false_and, Bool.not_true, Bool.not_false, if_true, if_false, Bool.false_eq_true, reduceIte, and_true, true_and, decide_true, decide_false, not_true, Option.map_none, Option.map_some, Option.getD_none, Option.getD_some, Option.isSome_none, Option.isSome_some, Nat.zero_le, Nat.zero_add, Nat.reduceAdd, Nat.reduceSub, D.scal]
    simpa [backOf, wD, Function.comp_def] using q

/-! SPLIT -/
/-! ### the order of words: by length, then step by step -/
def lexN : List Nat → List Nat → Prop
  | x :: a, y :: b => x < y ∨ (x = y ∧ lexN a b)
  | _, _ => False
def sl (a b : List Nat) : Prop := a.length < b.length ∨ (a.length = b.length ∧ lexN a b)
theorem lexN_irr : ∀ a : List Nat, ¬ lexN a a
  | [], h => h
  | x :: a, h => by
    rcases h with h | h
    · omega
    · exact lexN_irr a h.2
theorem lexN_tr : ∀ {a b c : List Nat}, lexN a b → lexN b c → lexN a c
  | [], _, _, h, _ => h.elim
  | _ :: _, [], _, h, _ => h.elim
  | _ :: _, _ :: _, [], _, h => h.elim
  | x :: a, y :: b, z :: c, h, g => by
    rcases h with h | ⟨h, h'⟩ <;> rcases g with g | ⟨g, g'⟩
    · exact .inl (by omega)
    · exact .inl (by omega)
    · exact .inl (by omega)
    · exact .inr ⟨by omega, lexN_tr h' g'⟩
theorem lexN_tot : ∀ {a b : List Nat}, a.length = b.length → lexN a b ∨ a = b ∨ lexN b a
  | [], [], _ => .inr (.inl rfl)
  | [], _ :: _, h => by simp at h
  | _ :: _, [], h => by simp at h
  | x :: a, y :: b, h => by
    rcases Nat.lt_trichotomy x y with q | q | q
    · exact .inl (.inl q)
    · subst q
      rcases lexN_tot (a := a) (b := b) (by simpa using h) with g | g | g
      · exact .inl (.inr ⟨rfl, g⟩)
      · exact .inr (.inl (by rw [g]))
      · exact .inr (.inr (.inr ⟨rfl, g⟩))
    · exact .inr (.inr (.inl q))
theorem lexN_snoc : ∀ {a b : List Nat} (x y : Nat), a.length = b.length → lexN a b → lexN (a ++ [x]) (b ++ [y])
  | [], _, _, _, _, h => h.elim
  | _ :: _, [], _, _, _, h => h.elim
  | u :: a, v :: b, x, y, e, h => by
    rcases h with h | ⟨h, h'⟩
    · exact .inl h
    · exact .inr ⟨h, lexN_snoc x y (by simpa using e) h'⟩
theorem lexN_last : ∀ (a : List Nat) {x y : Nat}, x < y → lexN (a ++ [x]) (a ++ [y])
  | [], _, _, h => .inl h
  | _ :: a, _, _, h => .inr ⟨rfl, lexN_last a h⟩
theorem sl_irr (a : List Nat) : ¬ sl a a := fun h => by
  rcases h with h | h
  · omega
  · exact lexN_irr a h.2
theorem sl_tr {a b c : List Nat} (h : sl a b) (g : sl b c) : sl a c := by
  rcases h with h | ⟨h, h'⟩ <;> rcases g with g | ⟨g, g'⟩
  · exact .inl (by omega)
  · exact .inl (by omega)
  · exact .inl (by omega)
  · exact .inr ⟨by omega, lexN_tr h' g'⟩
theorem sl_tot (a b : List Nat) : sl a b ∨ a = b ∨ sl b a := by
  rcases Nat.lt_trichotomy a.length b.length with h | h | h
  · exact .inl (.inl h)
  · rcases lexN_tot h with g | g | g
    · exact .inl (.inr ⟨h, g⟩)
    · exact .inr (.inl g)
    · exact .inr (.inr (.inr ⟨h.symm, g⟩))
  · exact .inr (.inr (.inl h))
theorem sl_snoc {a b : List Nat} (x y : Nat) (h : sl a b) : sl (a ++ [x]) (b ++ [y]) := by
  rcases h with h | ⟨h, h'⟩
  · exact .inl (by simp; omega)
  · exact .inr ⟨by simp; omega, lexN_snoc x y h h'⟩
theorem sl_last (a : List Nat) {x y : Nat} (h : x < y) : sl (a ++ [x]) (a ++ [y]) := .inr ⟨by simp, lexN_last a h⟩
theorem sl_ext (a : List Nat) (x : Nat) : sl a (a ++ [x]) := .inl (by simp)
def sle (a b : List Nat) : Prop := sl a b ∨ a = b
theorem sle_tr {a b c : List Nat} (h : sle a b) (g : sle b c) : sle a c := by
  rcases h with h | h
  · rcases g with g | g
    · exact .inl (sl_tr h g)
    · exact .inl (g ▸ h)
  · exact h ▸ g
theorem sle_snoc {a b : List Nat} (x : Nat) (h : sle a b) : sle (a ++ [x]) (b ++ [x]) := by
  rcases h with h | h
  · exact .inl (sl_snoc x x h)
  · exact .inr (by rw [h])
theorem not_sl_of_sle {a b : List Nat} (h : sle a b) : ¬ sl b a := fun g => by
  rcases h with h | h
  · exact sl_irr _ (sl_tr h g)
  · exact sl_irr _ (h ▸ g)
def sp (w : List Int) : List Nat := w.map spot
theorem sp_snoc (w : List Int) (x : Int) : sp (w ++ [x]) = sp w ++ [spot x] := by simp [sp]
theorem spot_inj {x y : Int} (hx : x ≠ 0) (hy : y ≠ 0) (h : spot x = spot y) : x = y := by
  unfold spot at h
  split at h <;> split at h <;> omega
theorem sp_inj {l : Nat} : ∀ {u v : List Int}, StT l u → StT l v → sp u = sp v → u = v
  | [], [], _, _, _ => rfl
  | [], _ :: _, _, _, h => by simp [sp] at h
  | _ :: _, [], _, _, h => by simp [sp] at h
  | x :: u, y :: v, hu, hv, h => by
    simp [sp] at h
    have h1 := spot_inj (hu x List.mem_cons_self).1 (hv y List.mem_cons_self).1 h.1
    have h2 := sp_inj (u := u) (v := v) (fun z hz => hu z (List.mem_cons_of_mem _ hz)) (fun z hz => hv z (List.mem_cons_of_mem _ hz)) (by simpa [sp] using h.2)
    rw [h1, h2]
/-- the least ways of a table -/
structure LW (n l : Nat) (tab : List (List Nat)) (ws : List (List Int)) : Prop where
  len : ws.length = n
  ok : ∀ (r : Nat) (u : List Int), ws[r]? = some u → lead tab 0 u = r ∧ StT l u ∧ u.length ≤ n
  mn : ∀ (r : Nat) (u v : List Int), ws[r]? = some u → StT l v → lead tab 0 v = r → sle (sp u) (sp v)
theorem LW.uniq {n l : Nat} {tab : List (List Nat)} {ws us : List (List Int)} (h : LW n l tab ws) (g : LW n l tab us) : ws = us := by
  refine List.ext_getElem (by rw [h.len, g.len]) fun r h1 h2 => ?_
  have e1 := List.getElem?_eq_getElem h1
  have e2 := List.getElem?_eq_getElem h2
  obtain ⟨a1, a2, a3⟩ := h.ok r _ e1
  obtain ⟨b1, b2, b3⟩ := g.ok r _ e2
  have c1 := h.mn r _ _ e1 b2 b1
  have c2 := g.mn r _ _ e2 a2 a1
  refine sp_inj a2 b2 ?_
  rcases c1 with c | c
  · exact absurd c (not_sl_of_sle c2)
  · exact c
/-- L is in order, and before (u, k) -/
structure Bf (L : Wly) (u : List Nat) (k : Nat) : Prop where
  bf : ∀ q ∈ L, sl (sp q.2) (u ++ [k])
  srt : ∀ (i j : Nat) (p q : Nat × List Int), i < j → L[i]? = some p → L[j]? = some q → sl (sp p.2) (sp q.2)
theorem Bf.push {L : Wly} {u : List Int} {k r : Nat} (h : Bf L (sp u) k) : Bf (L ++ [(r, u ++ [stp k])]) (sp u) (k + 1) where
  bf := fun q hq => by
    rcases List.mem_append.mp hq with g | g
    · exact sl_tr (h.bf q g) (sl_last _ (by omega))
    · simp at g
      subst g
      rw [sp_snoc, stp_spot]
      exact sl_last _ (by omega)
  srt := fun i j p q hij hi hj => by
    have hjl := (List.getElem?_eq_some_iff.mp hj).1
    simp at hjl
    rw [List.getElem?_append_left (by omega)] at hi
    by_cases e : j < L.length
    · rw [List.getElem?_append_left e] at hj
      exact h.srt i j p q hij hi hj
    · rw [List.getElem?_append_right (by omega), show j - L.length = 0 by omega] at hj
      cases hj
      rw [sp_snoc, stp_spot]
      exact h.bf p (List.mem_of_getElem? hi)
theorem Bf.step {L : Wly} {u : List Nat} {k : Nat} (h : Bf L u k) : Bf L u (k + 1) := ⟨fun q hq => sl_tr (h.bf q hq) (sl_last _ (by omega)), h.srt⟩
theorem Bf.next {L : Wly} {u v : List Nat} {k : Nat} (h : Bf L u k) (hv : sl u v) : Bf L v 0 := ⟨fun q hq => sl_tr (h.bf q hq) (sl_snoc _ _ hv), h.srt⟩
/-- come to, and not behind (u, k) -/
def Nb (L : Wly) (r : Nat) (u : List Nat) (k : Nat) : Prop := ∃ q ∈ L, q.1 = r ∧ sle (sp q.2) (u ++ [k])
def T_least_ways : DSp := fun ds w P => ∃ (n l : Nat) (tab : List (List Nat)), ds = [.lst (tab.map nL)] ∧ GT n l tab ∧ ∀ ws : List (List Int), LW n l tab ws → P true (lwD ws) w
theorem len_least_ways (ds : List D) (w : Om) (P : Bool → D → Om → Prop) (h : T_least_ways ds w P) : ds.length = 1 := by first | (have h := h.1; subst h; rfl) | (obtain ⟨rfl, _⟩ := h; rfl) | (obtain ⟨_, rfl, _⟩ := h; rfl) | (obtain ⟨_, _, rfl, _⟩ := h; rfl) | (obtain ⟨_, _, _, rfl, _⟩ := h; rfl) | (obtain ⟨_, _, _, _, rfl, _⟩ := h; rfl) | (obtain ⟨_, _, _, _, _, rfl, _⟩ := h; rfl) | (obtain ⟨_, _, _, _, _, _, rfl, _⟩ := h; rfl) | (obtain ⟨_, _, _, _, _, _, _, rfl, _⟩ := h; rfl) | (obtain ⟨_, _, _, _, _, _, _, _, rfl, _⟩ := h; rfl) | (obtain ⟨_, _, _, _, _, _, _, _, _, rfl, _⟩ := h; rfl) | (obtain ⟨_, _, _, _, _, _, _, _, _, _, rfl, _⟩ := h; rfl) | (obtain ⟨_, _, _, _, _, _, _, _, _, _, _, rfl, _⟩ := h; rfl) | (obtain ⟨_, _, _, _, _, _, _, _, _, _, _, _, rfl, _⟩ := h; rfl) | (obtain ⟨_, _, _, _, _, _, _, _, _, _, _, _, _, rfl, _⟩ := h; rfl)
def b_least_ways : DS := (dSeq (dSet false 1 (dCall T_steps_of (dCons (dBin sFdiv (oX (dUn sLenA (oX (dBin sIx (dVarR 0) (oX (dC (.int 0))))))) (oX (dC (.int 2)))) dNil)))
    (dSeq (dSet true 2 (dDisp1 (oX (dC (.int 0))) (dTup dNil)))
    (dSeq (dSet true 3 (dLst (dCons (dC (.int 0)) dNil)))
    (dSeq (dSet false 4 (dC (.int 0)))
    (dSeq (dWhile (dB (dBin sLt (dVarR 4) (oX (dUn sLenA (dVarR 3))))) (dSeq (dSet false 5 (dBin sIx (dVarR 3) (dVarR 4)))
    (dSeq (dFor (dZip (dCons (dVar 1) (dCons (dBin sIx (dVarR 0) (dVarR 5)) dNil))) (gT 2 (gsC (gN 6) (gsC (gN 7) gsN))) (dIf (dB (dBin (sIn true) (dVarR 7) (dVarR 2))) (dSeq (dPut 2 (dVarR 7) (dBin sAdd (oX (dBin sIx (dVarR 2) (dVarR 5))) (oX (dTup (dCons (dVar 6) dNil)))))
    (dApp 3 (dVar 7))) dNext))
    (dAug 4 sAddI (oX (dC (.int 1)))))))
    (dRet (dLc (dRng1 (oX (dUn sLenA (dVarR 0)))) (gN 5) dYes (dBin sIx (dVarR 2) (dVarR 5)) [5])))))))
theorem v_least_ways (ds : List D) (w : Om) (P : Bool → D → Om → Prop) (h : T_least_ways ds w P) : b_least_ways { nx := fun _ w => P false .non w, rt := P } (startD ["table", "steps", "ways", "come", "at", "room", "step", "other"] ds) w := by
  unfold b_least_ways
  obtain ⟨n, l, tab, rfl, g, q⟩ := h
  have hs := sizeLine_eq
  have hlb := g.lb
  have hnb := g.nb
  obtain ⟨r0, hr0, _, hr0l, _⟩ := g.get (i := 0) (by have := g.n1; omega)
  refine seq_i ?_
  try simp_arith []
  refine ⟨_, atI_f nL (k := 0) (by omega) hr0, ?_⟩
  try simp_arith [nL]
  have hdiv : ((r0.length : Nat) : Int) / 2 = (l : Int) := by omega
  rw [hdiv]
  refine ⟨divC (by omega) (by omega), l, rfl, hlb, ?_⟩
  refine seq_i ?_
  try simp_arith [Lv.keyOf]
  refine seq_i ?_
  try simp_arith only []
  refine ⟨by omega, ?_⟩
  refine seq_i ?_
  try simp_arith only []
  refine seq_cut (fun δ w' => w' = w ∧ ∃ L : Wly, WlOk n l tab L ∧ (∀ q ∈ L, ∀ k, k < 2 * l → Nb L (ap ((tab[q.1]?).getD []) k) (sp q.2) k) ∧ ∃ j3 j4 j5 j6 j7, δ = [some (false, .lst (tab.map nL)), some (false, iD (stepsL l)), some (true, wlyD L), j3, j4, j5, j6, j7]) (fun N h => ?_) ?_
  · refine while_go (α := Nat) (fun a δ w' => w' = w ∧ ∃ L : Wly, WlOk n l tab L ∧ a ≤ L.length ∧ (∀ i q, i < a → L[i]? = some q → ∀ k, k < 2 * l → Nb L (ap ((tab[q.1]?).getD []) k) (sp q.2) k) ∧ ((∀ q, L[a]? = some q → Bf L (sp q.2) 0) ∧ ∀ (i j : Nat) (p q : Nat × List Int), i < j → L[i]? = some p → L[j]? = some q → sl (sp p.2) (sp q.2)) ∧ ∃ j5 j6 j7, δ = [some (false, .lst (tab.map nL)), some (false, iD (stepsL l)), some (true, wlyD L), some (true, nL (L.map (·.1))), some (false, .int a), j5, j6, j7]) (fun a => n - a) ?_ 0 ⟨rfl, [(0, [])], ⟨by simp, rfl, fun q hq => by simp at hq; subst hq; exact ⟨by have := g.n1; omega, rfl, (fun x hx => nomatch hx), by simp⟩⟩, by simp, fun i q hi => by omega, ⟨fun q hq => ?_, fun i j p q hij hi hj => ?_⟩, none, none, none, rfl⟩
    rotate_left
    · cases hq
      refine ⟨fun q hq => ?_, fun i j p q hij hi hj => ?_⟩
      · simp at hq; subst hq; exact .inl (by simp [sp])
      · have := (List.getElem?_eq_some_iff.mp hj).1
        simp at this
        omega
    · have := (List.getElem?_eq_some_iff.mp hj).1
      simp at this
      omega
    rintro a δ w' ⟨rfl, L, ok, ha, hcl, ⟨hbf, hsr⟩, j5, j6, j7, rfl⟩ N2 hN2
    have hln := ok.len
    try simp_arith [nL]
    by_cases hlt : a < L.length
    · refine if_t (by simp; omega) ?_
      obtain ⟨⟨room, u⟩, hq⟩ : ∃ q, L[a]? = some q := ⟨L[a], List.getElem?_eq_getElem hlt⟩
      have hqm := List.mem_of_getElem? hq
      have hbf := hbf _ hq
      obtain ⟨hr1, hr2, hr3, hr4⟩ := ok.ok _ hqm
      dsimp only at hr1 hr2 hr3 hr4 hbf
      obtain ⟨row, ht, htd, hrl, hrlt⟩ := g.get hr1
      refine seq_i ?_
      try simp_arith []
      refine ⟨.int room, atI_f (fun n : Nat => D.int n) (by omega) (by rw [Int.toNat_natCast, List.getElem?_map, hq]; rfl), ?_⟩
      refine seq_cut (fun δ w2 => w2 = w' ∧ ∃ L2 : Wly, WlOk n l tab L2 ∧ (∃ e, L2 = L ++ e) ∧ (∀ k, k < 2 * l → Nb L2 (ap row k) (sp u) k) ∧ Bf L2 (sp u) (2 * l) ∧ ∃ j6 j7, δ = [some (false, .lst (tab.map nL)), some (false, iD (stepsL l)), some (true, wlyD L2), some (true, nL (L2.map (·.1))), some (false, .int a), some (false, .int room), j6, j7]) (fun N3 h3 => ?_) ?_
      · try simp_arith [iD]
        refine ⟨_, atI_f nL (by omega) (by rw [Int.toNat_natCast]; exact ht), ?_⟩
        try simp_arith [nL]
        rw [zip_steps hrl]
        refine for_go (fun k : Nat => D.tup [.int (stp k), .int (ap row k)]) (fun pre δ w2 => w2 = w' ∧ ∃ L2 : Wly, WlOk n l tab L2 ∧ (∃ e, L2 = L ++ e) ∧ (∀ k, k ∈ pre → Nb L2 (ap row k) (sp u) k) ∧ Bf L2 (sp u) pre.length ∧ ∃ j6 j7, δ = [some (false, .lst (tab.map nL)), some (false, iD (stepsL l)), some (true, wlyD L2), some (true, nL (L2.map (·.1))), some (false, .int a), some (false, .int room), j6, j7]) (List.range (2 * l)) ⟨rfl, L, ok, ⟨[], by simp⟩, (fun k hk => nomatch hk), hbf, j6, j7, rfl⟩ ?_ ?_
        · rintro pre k post δ w2 N C e ⟨rfl, L2, ok2, ⟨ex, he⟩, hall, hbf, j6, j7, rfl⟩ hN hC
          have hk : k < 2 * l := List.mem_range.mp (by rw [e]; simp)
          have hkp : pre.length = k := by
            have h1 : (List.range (2 * l))[pre.length]? = some k := by rw [e]; simp
            have h2 := (List.getElem?_eq_some_iff.mp h1).1
            rw [List.getElem?_range (by simpa using h2)] at h1
            exact Option.some.inj h1
          rw [hkp] at hbf
          have hln2 := ok2.len
          have hqm2 : (room, u) ∈ L2 := by rw [he]; exact List.mem_append_left _ hqm
          obtain ⟨_, _, _, hr4'⟩ := ok2.ok _ hqm2
          dsimp only at hr4'
          have hwr : wv L2 room = some u := by
            cases ew : wv L2 room with
            | none => exact absurd (List.mem_map.mpr ⟨(room, u), hqm2, rfl⟩) (wv_none.mp ew)
            | some v =>
              have hv := wv_mem ew
              obtain ⟨i1, h1⟩ := List.mem_iff_getElem?.mp hv
              obtain ⟨i2, h2⟩ := List.mem_iff_getElem?.mp hqm2
              have g1 : (L2.map (·.1))[i1]? = some room := by rw [List.getElem?_map, h1]; rfl
              have g2 : (L2.map (·.1))[i2]? = some room := by rw [List.getElem?_map, h2]; rfl
              have := nodup_same ok2.nd g1 g2
              subst this
              rw [h1] at h2
              cases h2
              rfl
          try simp_arith [wlyD]
          try simp_arith [wv_val]
          by_cases hw : wv L2 (ap row k) = none
          · refine if_t (by simp [hw]) ⟨wD u, by rw [wv_val, hwr]; rfl, ?_⟩
            try simp_arith [nL]
            try simp_arith [wD]
            have eput : putD (L2.map fun q => ((Sum.inl (q.1 : Int) : Key), D.tup (q.2.map D.int))) (.inl (ap row k : Int)) (D.tup (u.map D.int ++ [D.int (stp k)])) = (L2 ++ [(ap row k, u ++ [stp k])]).map fun q => ((Sum.inl (q.1 : Int) : Key), wD q.2) := by
              have := put_new (u ++ [stp k]) hw
              simp only [wD, List.map_append, List.map_cons, List.map_nil] at this ⊢
              exact this
            rw [eput]
            have hnl : L2.length < n := by
              rcases Nat.lt_or_ge L2.length n with h | h
              · exact h
              · have hm : ap row k ∈ L2.map (·.1) := Classical.byContradiction fun hn => by
                  have := nodup_len (l := ap row k :: L2.map (·.1)) (m := List.range n) (List.nodup_cons.mpr ⟨hn, ok2.nd⟩) (fun x hx => by
                    rcases List.mem_cons.mp hx with e | e
                    · subst e; exact List.mem_range.mpr (hrlt k hk)
                    · obtain ⟨q, hq, rfl⟩ := List.mem_map.mp e
                      exact List.mem_range.mpr (ok2.ok q hq).1)
                  simp at this
                  omega
                exact absurd hm (wv_none.mp hw)
            refine ⟨by omega, by omega, by omega, by first | omega | (simp; omega) | (simp at *; omega), hN _ _ ⟨rfl, L2 ++ [(ap row k, u ++ [stp k])], ⟨?_, ?_, fun q hq => ?_⟩, ⟨ex ++ [(ap row k, u ++ [stp k])], by rw [he, List.append_assoc]⟩, fun k2 hk2 => ?_, by rw [List.length_append, hkp]; exact hbf.push, some (false, .int (stp k)), some (false, .int (ap row k)), by simp [wlyD, nL]⟩⟩
            · rw [List.map_append, List.nodup_append]
              refine ⟨ok2.nd, by simp, fun x hx y hy => ?_⟩
              simp at hy
              subst hy
              exact fun e => wv_none.mp hw (e ▸ hx)
            · have h0 := ok2.c0
              rw [List.getElem?_append_left (List.getElem?_eq_some_iff.mp h0).1]
              exact h0
            · rw [List.length_append]
              rcases List.mem_append.mp hq with h | h
              · obtain ⟨a1, a2, a3, a4⟩ := ok2.ok q h
                exact ⟨a1, a2, a3, by simp; omega⟩
              · simp at h
                subst h
                refine ⟨hrlt k hk, ?_, fun x hx => ?_, by simp; omega⟩
                · rw [lead_snoc, hr2, htd, stp_spot]
                · rcases List.mem_append.mp hx with h | h
                  · exact hr3 x h
                  · simp at h; subst h; exact stp_ok hk
            · rcases List.mem_append.mp hk2 with h | h
              · obtain ⟨q, hq, g1, g2⟩ := hall k2 h
                exact ⟨q, List.mem_append_left _ hq, g1, g2⟩
              · simp at h
                subst h
                exact ⟨_, List.mem_append_right _ List.mem_cons_self, rfl, .inr (by rw [sp_snoc, stp_spot])⟩
          · refine if_f (by cases ew : wv L2 (ap row k) with | none => exact absurd ew hw | some v => simp) (hN _ _ ⟨rfl, L2, ok2, ⟨ex, he⟩, fun k2 hk2 => ?_, by rw [List.length_append, hkp]; exact hbf.step, some (false, .int (stp k)), some (false, .int (ap row k)), rfl⟩)
            rcases List.mem_append.mp hk2 with h | h
            · exact hall k2 h
            · simp at h
              subst h
              cases ew : wv L2 (ap row k2) with
              | none => exact absurd ew hw
              | some v => exact ⟨_, wv_mem ew, rfl, .inl (hbf.bf _ (wv_mem ew))⟩
        · rintro δ w2 ⟨rfl, L2, ok2, hex, hall, hbf, j6, j7, rfl⟩
          rw [List.length_range] at hbf
          exact h3 _ _ ⟨rfl, L2, ok2, hex, fun k hk => hall k (List.mem_range.mpr hk), hbf, j6, j7, rfl⟩
      rintro δ w2 ⟨rfl, L2, ok2, ⟨ex, he⟩, hall, hbf2, j6, j7, rfl⟩
      have hln2 := ok2.len
      try simp_arith []
      have hua : L2[a]? = some (room, u) := by rw [he, List.getElem?_append_left hlt]; exact hq
      refine hN2 (a + 1) _ _ ⟨rfl, L2, ok2, by rw [he, List.length_append]; omega, fun i q hi hq2 => ?_, ⟨fun q hq2 => hbf2.next (hbf2.srt a (a + 1) _ _ (by omega) hua hq2), hbf2.srt⟩, some (false, .int room), j6, j7, by simp⟩ (by omega)
      by_cases hia : i = a
      · subst hia
        rw [hua] at hq2
        cases hq2
        rw [htd]
        exact hall
      · rw [he, List.getElem?_append_left (by omega)] at hq2
        intro k hk
        obtain ⟨q3, g0, g1, g2⟩ := hcl i q (by omega) hq2 k hk
        exact ⟨q3, by rw [he]; exact List.mem_append_left _ g0, g1, g2⟩
    · refine if_f (by simp; omega) (h _ _ ⟨rfl, L, ok, fun q hq k hk => ?_, _, _, _, _, _, rfl⟩)
      obtain ⟨i, hi⟩ := List.mem_iff_getElem?.mp hq
      have := (List.getElem?_eq_some_iff.mp hi).1
      exact hcl i q (by omega) hi k hk
  rintro δ w' ⟨rfl, L, ok, hcl, j3, j4, j5, j6, j7, rfl⟩
  have hfull := ok.full g fun r hr k hk => by
    obtain ⟨q, hq, rfl⟩ := List.mem_map.mp hr
    obtain ⟨q2, g0, g1, _⟩ := hcl q hq k hk
    exact List.mem_map.mpr ⟨q2, g0, g1⟩
  have huq : ∀ (p q : Nat × List Int), p ∈ L → q ∈ L → p.1 = q.1 → p = q := fun p q hp hq e => by
    obtain ⟨i1, h1⟩ := List.mem_iff_getElem?.mp hp
    obtain ⟨i2, h2⟩ := List.mem_iff_getElem?.mp hq
    have g1 : (L.map (·.1))[i1]? = some p.1 := by rw [List.getElem?_map, h1]; rfl
    have g2 : (L.map (·.1))[i2]? = some p.1 := by rw [List.getElem?_map, h2, e]; rfl
    have := nodup_same ok.nd g1 g2
    subst this
    rw [h1] at h2
    exact Option.some.inj h2
  have hmin : ∀ (m : Nat) (v : List Int), v.length = m → StT l v → ∃ q ∈ L, q.1 = lead tab 0 v ∧ sle (sp q.2) (sp v) := by
    intro m
    induction m with
    | zero =>
      intro v hv _
      have : v = [] := List.eq_nil_of_length_eq_zero hv
      subst this
      exact ⟨(0, []), List.mem_of_getElem? ok.c0, rfl, .inr rfl⟩
    | succ m ih =>
      intro v hv hst
      obtain ⟨u, x, rfl⟩ : ∃ u x, v = u ++ [x] := ⟨v.dropLast, v.getLast (fun e => by rw [e] at hv; simp at hv), (List.dropLast_concat_getLast _).symm⟩
      obtain ⟨q, hq, e1, e2⟩ := ih u (by simpa using hv) fun y hy => hst y (List.mem_append_left _ hy)
      have hx := hst x (by simp)
      have hk : spot x < 2 * l := by unfold spot; split <;> omega
      obtain ⟨q2, hq2, g1, g2⟩ := hcl q hq (spot x) hk
      refine ⟨q2, hq2, by rw [g1, lead_snoc, e1], ?_⟩
      rw [sp_snoc]
      exact sle_tr g2 (sle_snoc _ e2)
  have htl := g.len
  try simp_arith [htl, wlyD]
  unfold rngD
  refine ⟨⟨by omega, by omega⟩, ?_⟩
  rw [Int.toNat_natCast]
  refine lc_map (fun k : Nat => D.int (0 + (k : Nat))) (fun k : Nat => wD ((wv L k).getD [])) (List.range n) (fun r hr P hP => ?_) [] (by simp; omega) ?_
  · have hr' := List.mem_range.mp hr
    have hw : wv L r ≠ none := fun z => wv_none.mp z (hfull r hr')
    try simp_arith [Int.zero_add]
    refine ⟨wD ((wv L r).getD []), ?_, hP _⟩
    rw [wv_val]
    cases e : wv L r with
    | none => exact absurd e hw
    | some v => rfl
  · rw [List.nil_append]
    have key : ∀ (r : Nat) (u : List Int), ((List.range n).map fun k => (wv L k).getD [])[r]? = some u → (r, u) ∈ L := fun r u hu => by
      rw [List.getElem?_map] at hu
      have hr : r < n := by
        cases e : (List.range n)[r]? with
        | none => rw [e] at hu; cases hu
        | some v => have := (List.getElem?_eq_some_iff.mp e).1; simpa using this
      rw [List.getElem?_range hr] at hu
      have hw : wv L r ≠ none := fun z => wv_none.mp z (hfull r hr)
      cases e : wv L r with
      | none => exact absurd e hw
      | some v =>
        simp only [Option.map_some, e, Option.getD_some, Option.some.injEq] at hu
        subst hu
        exact wv_mem e
    have := q ((List.range n).map fun k => (wv L k).getD []) ⟨by simp, fun r u hu => by
      obtain ⟨_, a2, a3, a4⟩ := ok.ok _ (key r u hu)
      have := ok.len
      exact ⟨a2, a3, by dsimp only at a4; omega⟩, fun r u v hu hv hv2 => by
      obtain ⟨q, hq, e1, e2⟩ := hmin v.length v rfl hv
      have := huq q (r, u) hq (key r u hu) (by rw [e1, hv2])
      subst this
      exact e2⟩
    simp only [lwD, List.map_map, Function.comp_def] at this
    exact this

/-! SPLIT -/
def imgAt (ims : List (List Int)) (s : Int) : List Int := if 0 < s then (ims[(s - 1).toNat]?).getD [] else backOf ((ims[(-s - 1).toNat]?).getD [])
def fillW (ims : List (List Int)) (ws : List Int) : List Int := ws.flatMap (imgAt ims)
theorem fillW_snoc (ims : List (List Int)) (ws : List Int) (s : Int) : fillW ims (ws ++ [s]) = fillW ims ws ++ imgAt ims s := by simp [fillW]
structure ImOk (ims : List (List Int)) (B : Nat) (ws : List Int) : Prop where
  len : ∀ im ∈ ims, im.length ≤ B
  st : ∀ s ∈ ws, s ≠ 0 ∧ s.natAbs ≤ ims.length
  sz : ws.length * B ≤ 1000000
  B : B ≤ 1000000
theorem imgAt_length {ims : List (List Int)} {B : Nat} (h : ∀ im ∈ ims, im.length ≤ B) (s : Int) : (imgAt ims s).length ≤ B := by
  have key : ∀ k : Nat, ((ims[k]?).getD []).length ≤ B := fun k => by
    cases e : ims[k]? with
    | none => simp
    | some x => exact h x (List.mem_of_getElem? e)
  unfold imgAt
  split
  · exact key _
  · rw [backOf_length]; exact key _
theorem fillW_length {ims : List (List Int)} {B : Nat} (h : ∀ im ∈ ims, im.length ≤ B) : ∀ ws : List Int, (fillW ims ws).length ≤ ws.length * B
  | [] => by simp [fillW]
  | s :: ws => by
    have e : fillW ims (s :: ws) = imgAt ims s ++ fillW ims ws := rfl
    rw [e, List.length_append, List.length_cons, Nat.succ_mul]
    have := fillW_length h ws
    have := imgAt_length h s
    omega
def T_filled_in : DSp := fun ds w P => ∃ (ws : List Int) (ims : List (List Int)) (B : Nat), ds = [wD ws, lwD ims] ∧ ImOk ims B ws ∧ P false (wD (fillW ims ws)) w
theorem len_filled_in (ds : List D) (w : Om) (P : Bool → D → Om → Prop) (h : T_filled_in ds w P) : ds.length = 2 := by first | (have h := h.1; subst h; rfl) | (obtain ⟨rfl, _⟩ := h; rfl) | (obtain ⟨_, rfl, _⟩ := h; rfl) | (obtain ⟨_, _, rfl, _⟩ := h; rfl) | (obtain ⟨_, _, _, rfl, _⟩ := h; rfl) | (obtain ⟨_, _, _, _, rfl, _⟩ := h; rfl) | (obtain ⟨_, _, _, _, _, rfl, _⟩ := h; rfl) | (obtain ⟨_, _, _, _, _, _, rfl, _⟩ := h; rfl) | (obtain ⟨_, _, _, _, _, _, _, rfl, _⟩ := h; rfl) | (obtain ⟨_, _, _, _, _, _, _, _, rfl, _⟩ := h; rfl) | (obtain ⟨_, _, _, _, _, _, _, _, _, rfl, _⟩ := h; rfl) | (obtain ⟨_, _, _, _, _, _, _, _, _, _, rfl, _⟩ := h; rfl) | (obtain ⟨_, _, _, _, _, _, _, _, _, _, _, rfl, _⟩ := h; rfl) | (obtain ⟨_, _, _, _, _, _, _, _, _, _, _, _, rfl, _⟩ := h; rfl) | (obtain ⟨_, _, _, _, _, _, _, _, _, _, _, _, _, rfl, _⟩ := h; rfl)
def b_filled_in : DS := (dSeq (dSet true 2 (dLst dNil))
    (dSeq (dFor (dIt (dVar 0)) (gN 3) (dIf (dB (dBin sGt (dVarR 3) (oX (dC (.int 0))))) (dExt 2 (oX (dBin sIx (dVarR 1) (oX (dBin sSub (dVarR 3) (oX (dC (.int 1)))))))) (dExt 2 (oX (dCall T_back (dCons (dBin sIx (dVarR 1) (oX (dBin sSub (oX (dUn sNeg (dVarR 3))) (oX (dC (.int 1)))))) dNil))))))
    (dRet (dUn sTuple (dVarR 2)))))
theorem v_filled_in (ds : List D) (w : Om) (P : Bool → D → Om → Prop) (h : T_filled_in ds w P) : b_filled_in { nx := fun _ w => P false .non w, rt := P } (startD ["word", "images", "found", "step"] ds) w := by
  unfold b_filled_in
  obtain ⟨ws, ims, B, rfl, ok, q⟩ := h
  have hs := sizeLine_eq
  refine seq_i ?_
  try simp_arith only []
  refine seq_i ?_
  try simp_arith only []
  try simp_arith [wD]
  refine for_go D.int (fun pre δ w' => w' = w ∧ ∃ j, δ = [some (false, wD ws), some (false, lwD ims), some (true, iD (fillW ims pre)), j]) _ ⟨rfl, none, rfl⟩ ?_ ?_
  · rintro pre x post δ w' N C e ⟨rfl, j, rfl⟩ hN hC
    have hx := ok.st x (by rw [e]; simp)
    have hl1 := fillW_length ok.len pre
    have hl2 := imgAt_length ok.len x
    have hl3 : pre.length * B + B ≤ 1000000 := by
      have h1 := ok.sz
      have h2 : (pre.length + 1) * B ≤ ws.length * B := Nat.mul_le_mul_right _ (by rw [e]; simp)
      rw [Nat.succ_mul] at h2
      omega
    rw [fillW_snoc] at hN
    try simp_arith [iD, lwD]
    by_cases h0 : 0 < x
    · have hk : (x - 1).toNat < ims.length := by omega
      have ei : imgAt ims x = ims[(x - 1).toNat] := by unfold imgAt; rw [if_pos h0, List.getElem?_eq_getElem hk]; rfl
      rw [ei] at hN hl2
      refine if_t (by simp [h0]) ⟨wD ims[(x - 1).toNat], atI_f wD (by omega) (List.getElem?_eq_getElem hk), ?_⟩
      try simp_arith [wD]
      refine ⟨by omega, hN _ _ ⟨rfl, some (false, .int x), by simp [iD, wD, lwD]⟩⟩
    · have hk : (-x - 1).toNat < ims.length := by omega
      have ei : imgAt ims x = backOf ims[(-x - 1).toNat] := by unfold imgAt; rw [if_neg h0, List.getElem?_eq_getElem hk]; rfl
      rw [ei] at hN hl2
      have hB := ok.B
      have hlb := backOf_length ims[(-x - 1).toNat]
      refine if_f (by simp; omega) ⟨wD ims[(-x - 1).toNat], atI_f wD (by omega) (List.getElem?_eq_getElem hk), ?_⟩
      refine ⟨_, rfl, by omega, ?_⟩
      try simp_arith [wD]
      refine ⟨by omega, hN _ _ ⟨rfl, some (false, .int x), by simp [iD, wD, lwD]⟩⟩
  · rintro δ w' ⟨rfl, j, rfl⟩
    try simp_arith [iD]
    exact q

theorem st_img {n : Nat} {ims : List (List Int)} (h : ∀ im ∈ ims, StT n im) (x : Int) : StT n (imgAt ims x) := by
  have key : ∀ k : Nat, StT n ((ims[k]?).getD []) := fun k => by
    cases e : ims[k]? with
    | none => exact fun y hy => nomatch hy
    | some v => exact h v (List.mem_of_getElem? e)
  unfold imgAt
  split
  · exact key _
  · exact st_back (key _)
theorem st_fill {n : Nat} {ims : List (List Int)} (h : ∀ im ∈ ims, StT n im) (r : List Int) : StT n (fillW ims r) := fun y hy => by
  obtain ⟨x, _, hx⟩ := List.mem_flatMap.mp hy
  exact st_img h x y hx
def movesOf (p : Nat) (ts : List (List Nat)) (ims : List (List Int)) : List (List Nat) := ims.map fun im => thr ts (idP p) im
theorem moves_ok {p : Nat} {ts : List (List Nat)} (t : Tns p ts) {ims : List (List Int)} (h : ∀ im ∈ ims, StT ts.length im) : Tns p (movesOf p ts ims) := ⟨fun m hm => by
  obtain ⟨im, him, rfl⟩ := List.mem_map.mp hm
  exact thr_pm t (h im him) (pm_id p)⟩
theorem thr_fill {p : Nat} {ts : List (List Nat)} (t : Tns p ts) {ims : List (List Int)} (h : ∀ im ∈ ims, StT ts.length im) : ∀ {r : List Int} {s : List Nat}, StT ims.length r → Pm p s → thr ts s (fillW ims r) = thr (movesOf p ts ims) s r
  | [], _, _, _ => rfl
  | x :: r, s, hr, hs => by
    have hx := hr x List.mem_cons_self
    have e : fillW ims (x :: r) = imgAt ims x ++ fillW ims r := rfl
    have hst := st_img h x
    have hk : x.natAbs - 1 < ims.length := by omega
    have h1 : thr ts s (imgAt ims x) = app (tn (movesOf p ts ims) x) s := by
      rw [thr_id t hst hs]
      congr 1
      unfold tn movesOf imgAt
      rw [List.getElem?_map, List.getElem?_eq_getElem hk]
      by_cases h0 : x < 0
      · rw [if_neg (by omega), if_pos h0, show (-x - 1).toNat = x.natAbs - 1 by omega, List.getElem?_eq_getElem hk]
        exact thr_inv t (h _ (List.getElem_mem hk))
      · rw [if_pos (by omega), if_neg h0, show (x - 1).toNat = x.natAbs - 1 by omega, List.getElem?_eq_getElem hk]
        rfl
    rw [e, thr_app, h1]
    exact thr_fill t h (r := r) (fun y hy => hr y (List.mem_cons_of_mem _ hy)) (pm_app (tn_pm (moves_ok t h) (by simpa [movesOf] using hx)) hs)

def T_Lat : DSp := fun ds w P => ∃ (ns : List Int) (k : Int), ds = [.scr ns, .int k] ∧ 0 ≤ k ∧ k ≤ 1000 ∧ ∀ x : Int, P false (.int x) w
theorem len_Lat (ds : List D) (w : Om) (P : Bool → D → Om → Prop) (h : T_Lat ds w P) : ds.length = 2 := by first | (have h := h.1; subst h; rfl) | (obtain ⟨rfl, _⟩ := h; rfl) | (obtain ⟨_, rfl, _⟩ := h; rfl) | (obtain ⟨_, _, rfl, _⟩ := h; rfl) | (obtain ⟨_, _, _, rfl, _⟩ := h; rfl) | (obtain ⟨_, _, _, _, rfl, _⟩ := h; rfl) | (obtain ⟨_, _, _, _, _, rfl, _⟩ := h; rfl) | (obtain ⟨_, _, _, _, _, _, rfl, _⟩ := h; rfl) | (obtain ⟨_, _, _, _, _, _, _, rfl, _⟩ := h; rfl) | (obtain ⟨_, _, _, _, _, _, _, _, rfl, _⟩ := h; rfl) | (obtain ⟨_, _, _, _, _, _, _, _, _, rfl, _⟩ := h; rfl) | (obtain ⟨_, _, _, _, _, _, _, _, _, _, rfl, _⟩ := h; rfl) | (obtain ⟨_, _, _, _, _, _, _, _, _, _, _, rfl, _⟩ := h; rfl) | (obtain ⟨_, _, _, _, _, _, _, _, _, _, _, _, rfl, _⟩ := h; rfl) | (obtain ⟨_, _, _, _, _, _, _, _, _, _, _, _, _, rfl, _⟩ := h; rfl)
def b_Lat : DS := (dSeq (dIf (dB (dBin sLt (dVarR 1) (oX (dUn sLenA (dVarR 0))))) (dRet (dBin sIx (dVarR 0) (dVarR 1))) dNext)
    (dRet (dBin sAdd (oX (dBin sMulB (oX (dC (.int 11))) (dVarR 1))) (oX (dC (.int 4))))))
theorem v_Lat (ds : List D) (w : Om) (P : Bool → D → Om → Prop) (h : T_Lat ds w P) : b_Lat { nx := fun _ w => P false .non w, rt := P } (startD ["_law_script", "_law_k"] ds) w := by
  unfold b_Lat
  obtain ⟨ns, k, rfl, h0, h1, q⟩ := h
  refine seq_i ?_
  try simp_arith only []
  split
  · next hk =>
    simp at hk
    exact ⟨ns[k.toNat], by rw [atI_nn h0 hk]; simp, q _⟩
  · try simp_arith []
    exact ⟨mulC (by decide) (by decide), q _⟩
def T_Lmix : DSp := fun ds w P => ∃ n p : Int, ds = [.int n, .int p] ∧ 0 ≤ p ∧ p ≤ 1000 ∧ ∀ x : Nat, x < 2147483648 → P false (.int x) w
theorem len_Lmix (ds : List D) (w : Om) (P : Bool → D → Om → Prop) (h : T_Lmix ds w P) : ds.length = 2 := by first | (have h := h.1; subst h; rfl) | (obtain ⟨rfl, _⟩ := h; rfl) | (obtain ⟨_, rfl, _⟩ := h; rfl) | (obtain ⟨_, _, rfl, _⟩ := h; rfl) | (obtain ⟨_, _, _, rfl, _⟩ := h; rfl) | (obtain ⟨_, _, _, _, rfl, _⟩ := h; rfl) | (obtain ⟨_, _, _, _, _, rfl, _⟩ := h; rfl) | (obtain ⟨_, _, _, _, _, _, rfl, _⟩ := h; rfl) | (obtain ⟨_, _, _, _, _, _, _, rfl, _⟩ := h; rfl) | (obtain ⟨_, _, _, _, _, _, _, _, rfl, _⟩ := h; rfl) | (obtain ⟨_, _, _, _, _, _, _, _, _, rfl, _⟩ := h; rfl) | (obtain ⟨_, _, _, _, _, _, _, _, _, _, rfl, _⟩ := h; rfl) | (obtain ⟨_, _, _, _, _, _, _, _, _, _, _, rfl, _⟩ := h; rfl) | (obtain ⟨_, _, _, _, _, _, _, _, _, _, _, _, rfl, _⟩ := h; rfl) | (obtain ⟨_, _, _, _, _, _, _, _, _, _, _, _, _, rfl, _⟩ := h; rfl)
def b_Lmix : DS := (dSeq (dSet false 2 (dBin sMod (oX (dBin sMulB (oX (dBin sAdd (oX (dBin sAdd (oX (dBin sMod (dVarR 0) (oX (dC (.int 2147483629))))) (dVarR 1))) (oX (dC (.int 1))))) (oX (dBin sAdd (oX (dBin sMulB (oX (dBin sMulB (oX (dC (.int 8))) (dVarR 1))) (dVarR 1))) (oX (dC (.int 48271))))))) (oX (dC (.int 2147483647)))))
    (dRet (dBin sMod (oX (dBin sMulB (dVarR 2) (dVarR 2))) (oX (dC (.int 2147483587))))))
theorem v_Lmix (ds : List D) (w : Om) (P : Bool → D → Om → Prop) (h : T_Lmix ds w P) : b_Lmix { nx := fun _ w => P false .non w, rt := P } (startD ["_law_number", "_law_place", "_law_part"] ds) w := by
  unfold b_Lmix
  obtain ⟨n, p, rfl, h0, h1, q⟩ := h
  have q : ∀ x : Int, 0 ≤ x → x < 2147483648 → P false (.int x) w := fun x h0 h1 => by
    have := q x.toNat (by omega)
    rw [show ((x.toNat : Nat) : Int) = x by omega] at this
    exact this
  refine seq_n fun N hN => ?_
  try simp_arith []
  refine ⟨by decide, mulC (by omega) (by omega), mulC (by omega) (by omega), mulC (by have := mod_bd n (j := 2147483629) (by omega); omega) (by have := mod_bd n (j := 2147483629) (by omega); omega), by omega, ?_⟩
  generalize hx : ((n % 2147483629 + p + 1) * (8 * p * p + 48271)) % 2147483647 = x
  have hb := mod_bd ((n % 2147483629 + p + 1) * (8 * p * p + 48271)) (j := 2147483647) (by omega)
  rw [hx] at hb
  refine hN _ _ ?_
  try simp_arith []
  have hb2 := mod_bd (x * x) (j := 2147483587) (by omega)
  exact ⟨mulC (by omega) (by omega), by omega, q _ hb2.1 (by omega)⟩

/-! SPLIT -/
theorem set_ap {l : List Nat} {i v x : Nat} (hi : i < l.length) : ap (l.set i v) x = if x = i then v else ap l x := by
  unfold ap
  rw [List.getElem?_set]
  by_cases h : i = x
  · subst h; simp [hi]
  · rw [if_neg h, if_neg (fun e => h e.symm)]
theorem nset (l : List Nat) (i v : Nat) : (l.map fun n : Nat => D.int n).set i (.int v) = (l.set i v).map fun n : Nat => D.int n := by rw [List.map_set]
theorem ixN_nat {n i : Nat} (h : i < n) : ixN n (i : Int) = some i := by
  unfold ixN
  rw [if_pos (by omega), if_pos (by omega), Int.toNat_natCast]
def T_Lback : DSp := fun ds w P => ∃ (p : Nat) (t : List Nat), ds = [nD t] ∧ Pm p t ∧ p ≤ 1000 ∧ P false (nD (invP t)) w
theorem len_Lback (ds : List D) (w : Om) (P : Bool → D → Om → Prop) (h : T_Lback ds w P) : ds.length = 1 := by first | (have h := h.1; subst h; rfl) | (obtain ⟨rfl, _⟩ := h; rfl) | (obtain ⟨_, rfl, _⟩ := h; rfl) | (obtain ⟨_, _, rfl, _⟩ := h; rfl) | (obtain ⟨_, _, _, rfl, _⟩ := h; rfl) | (obtain ⟨_, _, _, _, rfl, _⟩ := h; rfl) | (obtain ⟨_, _, _, _, _, rfl, _⟩ := h; rfl) | (obtain ⟨_, _, _, _, _, _, rfl, _⟩ := h; rfl) | (obtain ⟨_, _, _, _, _, _, _, rfl, _⟩ := h; rfl) | (obtain ⟨_, _, _, _, _, _, _, _, rfl, _⟩ := h; rfl) | (obtain ⟨_, _, _, _, _, _, _, _, _, rfl, _⟩ := h; rfl) | (obtain ⟨_, _, _, _, _, _, _, _, _, _, rfl, _⟩ := h; rfl) | (obtain ⟨_, _, _, _, _, _, _, _, _, _, _, rfl, _⟩ := h; rfl) | (obtain ⟨_, _, _, _, _, _, _, _, _, _, _, _, rfl, _⟩ := h; rfl) | (obtain ⟨_, _, _, _, _, _, _, _, _, _, _, _, _, rfl, _⟩ := h; rfl)
def b_Lback : DS := (dSeq (dSet true 1 (dBin sMulB (oX (dLst (dCons (dC (.int 0)) dNil))) (oX (dUn sLenA (dVarR 0)))))
    (dSeq (dFor (dRng1 (oX (dUn sLenA (dVarR 0)))) (gN 2) (dPut 1 (oX (dBin sIx (dVarR 0) (dVarR 2))) (dVar 2)))
    (dRet (dUn sTuple (dVarR 1)))))
theorem v_Lback (ds : List D) (w : Om) (P : Bool → D → Om → Prop) (h : T_Lback ds w P) : b_Lback { nx := fun _ w => P false .non w, rt := P } (startD ["_law_turned", "_law_found", "_law_k"] ds) w := by
  unfold b_Lback
  obtain ⟨p, t, rfl, ht, hp, q⟩ := h
  have hs := sizeLine_eq
  have hl := ht.len
  refine seq_i ?_
  try simp_arith only []
  try simp_arith [nD, hl]
  refine ⟨by omega, ⟨by omega, by omega⟩, by omega, ?_⟩
  rw [rep1, Int.toNat_natCast]
  refine seq_i ?_
  try simp_arith only []
  refine ⟨by omega, ?_⟩
  refine for_rng 0 _ (fun k δ w' => w' = w ∧ ∃ (f : List Nat) (j : Option (Bool × D)), f.length = p ∧ (∀ x, x < k → ap f (ap t x) = x) ∧ δ = [some (false, nD t), some (true, nL f), j]) ⟨rfl, List.replicate p 0, none, by simp, fun x h => by omega, by simp [nL, nD]⟩ ?_ ?_
  · rintro k δ w' N C hk ⟨rfl, f, j, hf, hall, rfl⟩ hN hC
    have hk' : k < p := by omega
    have h1 : atI (t.map fun n : Nat => D.int n) (0 + (k : Int)) = some (.int (ap t k)) := by rw [Int.zero_add]; exact atI_n (by omega)
    have hlt := ap_lt ht hk'
    try simp_arith [nD, nL, h1]
    refine ⟨ap t k, by rw [hf]; exact ixN_nat hlt, ?_⟩
    rw [Int.zero_add, nset]
    refine hN _ _ ⟨rfl, f.set (ap t k) k, some (false, .int k), by simp [hf], fun x hx => ?_, by simp [nL, nD]⟩
    rw [set_ap (by omega)]
    by_cases e : x = k
    · subst e; simp
    · rw [if_neg (fun z => e (ap_inj ht (by omega) hk' z))]
      exact hall x (by omega)
  · rintro δ w' ⟨rfl, f, j, hf, hall, rfl⟩
    try simp_arith [nL]
    have : f = invP t := inv_uniq ht ⟨hf, fun x hx => hall x (by omega)⟩ (invP_inv ht)
    rw [this]
    exact q
def T_Lturns : DSp := fun ds w P => ∃ (n : Int) (m p : Nat), ds = [.int n, .int m, .int p] ∧ m ≤ 3 ∧ 1 ≤ p ∧ p ≤ 4 ∧ ∀ (w' : Om) (ts : List (List Nat)), ts.length = m → Tns p ts → P true (.lst (ts.map nD)) w'
theorem len_Lturns (ds : List D) (w : Om) (P : Bool → D → Om → Prop) (h : T_Lturns ds w P) : ds.length = 3 := by first | (have h := h.1; subst h; rfl) | (obtain ⟨rfl, _⟩ := h; rfl) | (obtain ⟨_, rfl, _⟩ := h; rfl) | (obtain ⟨_, _, rfl, _⟩ := h; rfl) | (obtain ⟨_, _, _, rfl, _⟩ := h; rfl) | (obtain ⟨_, _, _, _, rfl, _⟩ := h; rfl) | (obtain ⟨_, _, _, _, _, rfl, _⟩ := h; rfl) | (obtain ⟨_, _, _, _, _, _, rfl, _⟩ := h; rfl) | (obtain ⟨_, _, _, _, _, _, _, rfl, _⟩ := h; rfl) | (obtain ⟨_, _, _, _, _, _, _, _, rfl, _⟩ := h; rfl) | (obtain ⟨_, _, _, _, _, _, _, _, _, rfl, _⟩ := h; rfl) | (obtain ⟨_, _, _, _, _, _, _, _, _, _, rfl, _⟩ := h; rfl) | (obtain ⟨_, _, _, _, _, _, _, _, _, _, _, rfl, _⟩ := h; rfl) | (obtain ⟨_, _, _, _, _, _, _, _, _, _, _, _, rfl, _⟩ := h; rfl) | (obtain ⟨_, _, _, _, _, _, _, _, _, _, _, _, _, rfl, _⟩ := h; rfl)
def b_Lturns : DS := (dSeq (dSet true 3 (dLst dNil))
    (dSeq (dFor (dRng1 (dVarR 1)) (gN 4) (dSeq (dSet true 5 (dUn sLR1 (dVarR 2)))
    (dSeq (dFor (dRng1 (dVarR 2)) (gN 6) (dSeq (dSet false 7 (dBin sMod (oX (dCall T_Lmix (dCons (dVar 0) (dCons (dBin sAdd (oX (dBin sMulB (oX (dC (.int 8))) (dVarR 4))) (dVarR 6)) dNil)))) (dVarR 2)))
    (dSeq (dSet false 8 (dBin sIx (dVarR 5) (dVarR 6)))
    (dSeq (dPut 5 (dVarR 6) (dBin sIx (dVarR 5) (dVarR 7)))
    (dPut 5 (dVarR 7) (dVar 8))))))
    (dApp 3 (dUn sTuple (dVarR 5))))))
    (dRetV 3)))
theorem v_Lturns (ds : List D) (w : Om) (P : Bool → D → Om → Prop) (h : T_Lturns ds w P) : b_Lturns { nx := fun _ w => P false .non w, rt := P } (startD ["_law_number", "_law_letters", "_law_points", "_law_turns_here", "_law_k", "_law_row", "_law_j", "_law_at_here", "_law_kept"] ds) w := by
  unfold b_Lturns
  obtain ⟨n, m, p, rfl, hm, hp1, hp4, q⟩ := h
  have hs := sizeLine_eq
  refine seq_i ?_
  try simp_arith only []
  refine seq_i ?_
  try simp_arith only []
  refine ⟨by omega, ?_⟩
  refine for_rng 0 _ (fun k δ w' => ∃ ts : List (List Nat), ts.length = k ∧ Tns p ts ∧ ∃ j4 j5 j6 j7 j8, δ = [some (false, .int n), some (false, .int m), some (false, .int p), some (true, .lst (ts.map nD)), j4, j5, j6, j7, j8]) ⟨[], rfl, ⟨fun t ht => nomatch ht⟩, none, none, none, none, none, rfl⟩ ?_ ?_
  · rintro k δ w' N C hk ⟨ts, htl, htn, j4, j5, j6, j7, j8, rfl⟩ hN hC
    refine seq_i ?_
    try simp_arith only []
    refine ⟨RgOk.of_le (by omega) (by omega) (by omega) (by omega), ?_⟩
    rw [rng_idL]
    refine seq_i ?_
    try simp_arith only []
    refine ⟨by omega, ?_⟩
    refine for_rng 0 _ (fun i δ w' => ∃ row : List Nat, Pm p row ∧ ∃ j6 j7 j8, δ = [some (false, .int n), some (false, .int m), some (false, .int p), some (true, .lst (ts.map nD)), some (false, .int (0 + (k : Nat))), some (true, nL row), j6, j7, j8]) ⟨idP p, pm_id p, j6, j7, j8, rfl⟩ ?_ ?_
    · rintro i δ w' N2 C2 hi ⟨row, hrow, j6, j7, j8, rfl⟩ hN2 hC2
      have hi' : i < p := by omega
      refine seq_i ?_
      try simp_arith []
      refine ⟨mulC (by omega) (by omega), n, _, rfl, by omega, by omega, fun x hxl => ?_⟩
      try simp_arith []
      have hx := mod_bd (x : Int) (j := (p : Int)) (by omega)
      obtain ⟨a, ha⟩ : ∃ a : Nat, (x : Int) % (p : Int) = a := ⟨((x : Int) % (p : Int)).toNat, by omega⟩
      rw [ha] at hx ⊢
      have ha' : a < p := by omega
      have h1 : atI (row.map fun n : Nat => D.int n) (0 + (i : Int)) = some (.int (ap row i)) := by rw [Int.zero_add]; exact atI_n (by rw [hrow.len]; exact hi')
      have h2 : atI (row.map fun n : Nat => D.int n) (a : Int) = some (.int (ap row a)) := atI_n (by rw [hrow.len]; exact ha')
      refine ⟨by omega, ?_⟩
      refine seq_i ?_
      try simp_arith [nL, h1]
      refine seq_i ?_
      try simp_arith [nL, h2]
      refine ⟨i, by rw [hrow.len, Int.zero_add]; exact ixN_nat hi', ?_⟩
      rw [nset]
      try simp_arith []
      refine ⟨a, by first | (rw [hrow.len]; exact ixN_nat ha') | (rw [List.length_set, hrow.len]; exact ixN_nat ha') | (simp only [List.length_map, List.length_set]; rw [hrow.len]; exact ixN_nat ha'), ?_⟩
      rw [nset]
      refine hN2 _ _ ⟨(row.set i (ap row a)).set a (ap row i), ?_, _, _, _, rfl⟩
      have e : ∀ x, ap ((row.set i (ap row a)).set a (ap row i)) x = ap row (if x = a then i else if x = i then a else x) := by
        intro x
        rw [set_ap (by rw [List.length_set, hrow.len]; exact ha'), set_ap (by rw [hrow.len]; exact hi')]
        split
        · rfl
        · split <;> rfl
      refine pm_of (by simp [hrow.len]) (fun x hx => ?_) (fun x y hx hy h => ?_)
      · rw [e]
        refine ap_lt hrow ?_
        split
        · exact hi'
        · split
          · exact ha'
          · exact hx
      · rw [e, e] at h
        have := ap_inj hrow (by split <;> (try split) <;> omega) (by split <;> (try split) <;> omega) h
        split at this <;> split at this <;> (try split at this) <;> (try split at this) <;> omega
    · rintro δ w' ⟨row, hrow, j6, j7, j8, rfl⟩
      try simp_arith [nL]
      refine ⟨by rw [htl]; omega, hN _ _ ⟨ts ++ [row], by simp [htl], ⟨fun t ht => ?_⟩, some (false, .int (0 + (k : Nat))), some (true, nL row), j6, j7, j8, by simp [nL, nD]⟩⟩
      rcases List.mem_append.mp ht with h | h
      · exact htn.pm t h
      · simp at h; subst h; exact hrow
  · rintro δ w' ⟨ts, htl, htn, j4, j5, j6, j7, j8, rfl⟩
    try simp_arith []
    exact q _ ts (by omega) htn

theorem rs_nD (w : Om) (l : List Nat) : res w (nD l) = nD l := rfl
theorem rs_nL (w : Om) (l : List Nat) : res w (nL l) = nL l := rfl
theorem sIn_n (neg : Bool) (a : List Nat) (as : List (List Nat)) (P : Bool → D → Prop) : sIn neg (nD a) (.lst (as.map nD)) P = P false (.bl (if neg then !decide (a ∈ as) else decide (a ∈ as))) := (codnD.toCodec.sInL (by decide) neg a as P).trans (by congr)
structure AllOk (p : Nat) (ts All : List (List Nat)) : Prop where
  pm : ∀ s ∈ All, Pm p s
  len : All.length ≤ 256
  c0 : idP p ∈ All
  cl : ∀ s ∈ All, ∀ k, k < 2 * ts.length → app (tk ts k) s ∈ All
theorem AllOk.le {p : Nat} {ts All come : List (List Nat)} (h : AllOk p ts All) (nd : come.Nodup) (hA : ∀ s ∈ come, s ∈ All) : come.length ≤ 256 := Nat.le_trans (nodup_len nd hA) h.len
/-- each room but the first is found from one before it -/
def Rc (ts come tab : List (List Nat)) : Prop := ∀ j, 0 < j → j < come.length → ∃ i k, i < j ∧ i < tab.length ∧ k < 2 * ts.length ∧ ap ((tab[i]?).getD []) k = j
def Rc2 (ts come tab : List (List Nat)) (row : List Nat) (i n : Nat) : Prop := ∀ j, 0 < j → j < come.length → (∃ i k, i < j ∧ i < tab.length ∧ k < 2 * ts.length ∧ ap ((tab[i]?).getD []) k = j) ∨ ∃ k, k < n ∧ i < j ∧ ap row k = j
def T_Ltable : DSp := fun ds w P => ∃ (p : Nat) (ts All : List (List Nat)), ds = [.lst (ts.map nD), .int p] ∧ Tns p ts ∧ p ≤ 100 ∧ ts.length ≤ 3 ∧ AllOk p ts All ∧ ∀ (w' : Om) (come tab : List (List Nat)), (∀ s ∈ come, s ∈ All) → Tbl p ts come tab → Rc ts come tab → P false (.tup [.lst (tab.map nL), .lst (come.map nD)]) w'
theorem len_Ltable (ds : List D) (w : Om) (P : Bool → D → Om → Prop) (h : T_Ltable ds w P) : ds.length = 2 := by first | (have h := h.1; subst h; rfl) | (obtain ⟨rfl, _⟩ := h; rfl) | (obtain ⟨_, rfl, _⟩ := h; rfl) | (obtain ⟨_, _, rfl, _⟩ := h; rfl) | (obtain ⟨_, _, _, rfl, _⟩ := h; rfl) | (obtain ⟨_, _, _, _, rfl, _⟩ := h; rfl) | (obtain ⟨_, _, _, _, _, rfl, _⟩ := h; rfl) | (obtain ⟨_, _, _, _, _, _, rfl, _⟩ := h; rfl) | (obtain ⟨_, _, _, _, _, _, _, rfl, _⟩ := h; rfl) | (obtain ⟨_, _, _, _, _, _, _, _, rfl, _⟩ := h; rfl) | (obtain ⟨_, _, _, _, _, _, _, _, _, rfl, _⟩ := h; rfl) | (obtain ⟨_, _, _, _, _, _, _, _, _, _, rfl, _⟩ := h; rfl) | (obtain ⟨_, _, _, _, _, _, _, _, _, _, _, rfl, _⟩ := h; rfl) | (obtain ⟨_, _, _, _, _, _, _, _, _, _, _, _, rfl, _⟩ := h; rfl) | (obtain ⟨_, _, _, _, _, _, _, _, _, _, _, _, _, rfl, _⟩ := h; rfl)
def b_Ltable : DS := (dSeq (dSet true 2 (dLst (dCons (dUn sTR1 (dVarR 1)) dNil)))
    (dSeq (dSet true 3 (dLst dNil))
    (dSeq (dWhile (dB (dBin sLt (oX (dUn sLenA (dVarR 3))) (oX (dUn sLenA (dVarR 2))))) (dSeq (dSet false 4 (dBin sIx (dVarR 2) (oX (dUn sLenA (dVarR 3)))))
    (dSeq (dSet true 5 (dLst dNil))
    (dSeq (dFor (dRng1 (oX (dBin sMulB (oX (dC (.int 2))) (oX (dUn sLenA (dVarR 0)))))) (gN 6) (dSeq (dSet false 7 (dBin sIx (dVarR 0) (oX (dBin sFdiv (dVarR 6) (oX (dC (.int 2)))))))
    (dSeq (dIf (dB (dBin sEq (oX (dBin sMod (dVarR 6) (oX (dC (.int 2))))) (oX (dC (.int 1))))) (dSet false 7 (dCall T_Lback (dCons (dVar 7) dNil))) dNext)
    (dSeq (dSet false 8 (dUn sTuple (oX (dLc (dIt (dVar 4)) (gN 9) dYes (dBin sIx (dVarR 7) (dVarR 9)) [9]))))
    (dSeq (dIf (dB (dBin (sIn true) (dVarR 8) (dVarR 2))) (dApp 2 (dVar 8)) dNext)
    (dApp 5 (dM1 isL sLindex (dVarR 2) (dVarR 8))))))))
    (dFrz 5 (dApp 3 (dVar 5)))))))
    (dFrz 2 (dFrz 3 (dRet (dTup (dCons (dVar 3) (dCons (dVar 2) dNil)))))))))
theorem v_Ltable (ds : List D) (w : Om) (P : Bool → D → Om → Prop) (h : T_Ltable ds w P) : b_Ltable { nx := fun _ w => P false .non w, rt := P } (startD ["_law_turns_here", "_law_points", "_law_come", "_law_table_here", "_law_spots", "_law_row", "_law_k", "_law_turned", "_law_other", "_law_spot"] ds) w := by
  unfold b_Ltable
  obtain ⟨p, ts, All, rfl, tns, hp, htl, aok, q⟩ := h
  have hs := sizeLine_eq
  refine seq_i ?_
  try simp_arith only []
  refine ⟨RgOk.of_le (by omega) (by omega) (by omega) (by omega), by omega, ?_⟩
  rw [rng_id]
  refine seq_i ?_
  try simp_arith only []
  refine seq_cut (fun δ w' => ∃ come tab : List (List Nat), (∀ s ∈ come, s ∈ All) ∧ Tbl p ts come tab ∧ Rc ts come tab ∧ ∃ j4 j5 j6 j7 j8 j9, δ = [some (false, .lst (ts.map nD)), some (false, .int p), some (true, .lst (come.map nD)), some (true, .lst (tab.map nL)), j4, j5, j6, j7, j8, j9]) (fun N h => ?_) ?_
  · refine while_go (α := Nat) (fun i δ w' => ∃ come tab : List (List Nat), tab.length = i ∧ i ≤ come.length ∧ Come p come ∧ (∀ s ∈ come, s ∈ All) ∧ Rc ts come tab ∧ (∀ (i : Nat) (r : List Nat), tab[i]? = some r → ∃ s, come[i]? = some s ∧ RowOk ts come s (2 * ts.length) r) ∧ ∃ j4 j5 j6 j7 j8 j9, δ = [some (false, .lst (ts.map nD)), some (false, .int p), some (true, .lst (come.map nD)), some (true, .lst (tab.map nL)), j4, j5, j6, j7, j8, j9]) (fun i => 257 - i) ?_ 0 ⟨[idP p], [], rfl, by simp, ⟨rfl, fun s hs => by simp at hs; subst hs; exact pm_id p, by simp⟩, fun s hs => by simp at hs; subst hs; exact aok.c0, fun j h0 h1 => by simp at h1; omega, fun i r h => by simp at h, none, none, none, none, none, none, rfl⟩
    rintro i δ w' ⟨come, tab, hi, hic, hc, hA, hR, hrows, j4, j5, j6, j7, j8, j9, rfl⟩ N2 hN2
    have hcl := aok.le hc.nd hA
    try simp_arith []
    by_cases hlt : i < come.length
    · refine if_t (by simp; omega) ?_
      have hsp : come[i]? = some come[i] := List.getElem?_eq_getElem hlt
      generalize come[i] = s at hsp
      have hspm := hc.pm s (List.mem_of_getElem? hsp)
      refine seq_i ?_
      try simp_arith []
      rw [hi]
      refine ⟨_, atI_f nD (by omega) (by rw [Int.toNat_natCast]; exact hsp), ?_⟩
      refine seq_i ?_
      try simp_arith only []
      try simp_arith []
      refine seq_i ?_
      try simp_arith []
      refine ⟨mulC (by decide) (by decide), ⟨by omega, by omega⟩, ?_⟩
      refine for_rng 0 _ (fun k δ w' => ∃ (come : List (List Nat)) (row : List Nat), i < come.length ∧ Come p come ∧ (∀ s ∈ come, s ∈ All) ∧ Rc2 ts come tab row i k ∧ come[i]? = some s ∧ (∀ (i : Nat) (r : List Nat), tab[i]? = some r → ∃ s, come[i]? = some s ∧ RowOk ts come s (2 * ts.length) r) ∧ RowOk ts come s k row ∧ ∃ j6 j7 j8 j9, δ = [some (false, .lst (ts.map nD)), some (false, .int p), some (true, .lst (come.map nD)), some (true, .lst (tab.map nL)), some (false, nD s), some (true, nL row), j6, j7, j8, j9]) ⟨come, [], hlt, hc, hA, fun j h0 h1 => .inl (hR j h0 h1), hsp, hrows, ⟨rfl, fun k h => by omega⟩, j6, j7, j8, j9, rfl⟩ ?_ ?_
      · rintro k δ w' N3 C3 hk ⟨come, row, hlt, hc, hA, hR2, hsp, hrows, hrow, j6, j7, j8, j9, rfl⟩ hN3 hC3
        have hcl := aok.le hc.nd hA
        have hk' : k < 2 * ts.length := by omega
        have hk2 : k / 2 < ts.length := by omega
        have htu := tns.pm _ (List.getElem_mem hk2)
        have hdiv : (0 + (k : Int)) / 2 = ((k / 2 : Nat) : Int) := by omega
        have hmod : (0 + (k : Int)) % 2 = ((k % 2 : Nat) : Int) := by omega
        refine seq_i ?_
        try simp_arith [hdiv]
        refine ⟨divC (by decide) (by decide), _, atI_f nD (by omega) (by rw [Int.toNat_natCast]; exact List.getElem?_eq_getElem hk2), ?_⟩
        refine seq_cut (fun δ w => δ = [some (false, .lst (ts.map nD)), some (false, .int p), some (true, .lst (come.map nD)), some (true, .lst (tab.map nL)), some (false, nD s), some (true, nL row), some (false, .int (0 + (k : Nat))), some (false, nD (tk ts k)), j8, j9]) (fun N h => ?_) ?_
        · try simp_arith [hmod]
          have e : tk ts k = if k % 2 = 1 then invP ts[k / 2] else ts[k / 2] := by unfold tk; rw [List.getElem?_eq_getElem hk2]; rfl
          by_cases h0 : k % 2 = 1
          · refine ⟨by omega, if_t (by simp [h0]) ⟨p, _, rfl, htu, by omega, h _ _ ?_⟩⟩
            rw [e, if_pos h0]
          · refine ⟨by omega, if_f (by simp; omega) (h _ _ ?_)⟩
            rw [e, if_neg h0]
        rintro δ w rfl
        have htp := tk_pm tns hk'
        generalize htk : tk ts k = t at *
        refine seq_i ?_
        try simp_arith [nD]
        refine lc_map (fun n : Nat => D.int n) (fun n : Nat => .int (ap t n)) s (fun y hy P hP => ?_) [] (by simp; have := hspm.len; omega) ?_
        · try simp_arith []
          exact ⟨_, atI_n (by rw [htp.len]; exact hspm.lt y hy), hP _⟩
        have eo : D.tup (s.map fun n : Nat => D.int (ap t n)) = nD (app t s) := by simp [nD, app, Function.comp_def]
        try simp_arith [eo]
        have hop := pm_app htp hspm
        refine seq_cut (fun δ w => ∃ come2 : List (List Nat), (∃ e, come2 = come ++ e) ∧ Come p come2 ∧ (∀ u ∈ come2, u ∈ All) ∧ (∀ j, come.length ≤ j → j < come2.length → come2[j]? = some (app t s)) ∧ app t s ∈ come2 ∧ δ = [some (false, .lst (ts.map nD)), some (false, .int p), some (true, .lst (come2.map nD)), some (true, .lst (tab.map nL)), some (false, nD s), some (true, nL row), some (false, .int (0 + (k : Nat))), some (false, nD t), some (false, nD (app t s)), j9]) (fun N h => ?_) ?_
        · try simp_arith [rs_nD, sIn_n]
          by_cases hm : app t s ∈ come
          · exact if_f (by simp [hm]) (h _ _ ⟨come, ⟨[], by simp⟩, hc, hA, fun j h1 h2 => by omega, hm, rfl⟩)
          · refine if_t (by simp [hm]) ⟨by omega, h _ _ ⟨come ++ [app t s], ⟨_, rfl⟩, ⟨?_, fun u hu => ?_, ?_⟩, fun u hu => ?_, fun j h1 h2 => ?_, by simp, by simp [nD, nL]⟩⟩
            · rw [List.getElem?_append_left (by omega)]; exact hc.c0
            · rcases List.mem_append.mp hu with h | h
              · exact hc.pm u h
              · simp at h; subst h; exact hop
            · rw [List.nodup_append]
              refine ⟨hc.nd, by simp, fun a ha b hb => ?_⟩
              simp at hb
              subst hb
              exact fun e => hm (e ▸ ha)
            · rcases List.mem_append.mp hu with h | h
              · exact hA u h
              · simp at h; subst h
                have := aok.cl s (hA s (List.mem_of_getElem? hsp)) k hk'
                rwa [htk] at this
            · simp at h2
              rw [List.getElem?_append_right h1, show j - come.length = 0 by omega]
              rfl
        rintro δ w ⟨come2, ⟨e, he⟩, hc2, hA2, hnew, hm, rfl⟩
        obtain ⟨j, hj, hje⟩ := List.mem_iff_getElem.mp hm
        have hjg : come2[j]? = some (app t s) := by rw [List.getElem?_eq_getElem hj, hje]
        have hcl2 := aok.le hc2.nd hA2
        try simp_arith [nL]
        refine codnD.index (by decide) hjg (nodup_fst hc2.nd hjg) ?_
        have hrl := hrow.1
        refine ⟨by omega, hN3 _ _ ⟨come2, row ++ [j], by rw [he, List.length_append]; omega, hc2, hA2, fun j2 h0 h1 => ?_, by rw [he, List.getElem?_append_left hlt]; exact hsp, fun i r hr => ?_, ⟨by simp [hrl], fun k2 hk2 => ?_⟩, _, _, _, _, by simp [nL]; exact ⟨rfl, rfl, rfl, rfl⟩⟩⟩
        · by_cases hj2 : j2 < come.length
          · rcases hR2 j2 h0 hj2 with h | ⟨k2, h1, h2, h3⟩
            · exact .inl h
            · exact .inr ⟨k2, by omega, h2, by rw [ap_snoc (by omega)]; exact h3⟩
          · have := nodup_same hc2.nd (hnew j2 (by omega) h1) hjg
            subst this
            exact .inr ⟨k, by omega, by omega, by rw [← hrl, ap_last]⟩
        · obtain ⟨s2, h1, h2⟩ := hrows i r hr
          refine ⟨s2, ?_, by rw [he]; exact h2.more e⟩
          rw [he, List.getElem?_append_left (List.getElem?_eq_some_iff.mp h1).1]
          exact h1
        · by_cases hk3 : k2 < k
          · rw [ap_snoc (by omega)]
            have := (hrow.more e).2 k2 hk3
            rw [← he] at this
            exact this
          · have : k2 = k := by omega
            subst this
            rw [← hrl, ap_last, hrl, htk]
            exact hjg
      · rintro δ w' ⟨come, row, hlt, hc, hA, hR2, hsp, hrows, hrow, j6, j7, j8, j9, rfl⟩
        have hcl := aok.le hc.nd hA
        have hrow' : RowOk ts come s (2 * ts.length) row := by
          have e : ((2 : Int) * (ts.length : Int)).toNat = 2 * ts.length := by omega
          rw [e] at hrow
          exact hrow
        try simp_arith []
        refine ⟨by omega, ?_⟩
        refine hN2 (i + 1) _ _ ⟨come, tab ++ [row], by simp [hi], hlt, hc, hA, fun j2 h0 h1 => ?_, fun i2 r hr => ?_, some (false, nD s), some (false, nL row), j6, j7, j8, j9, by simp⟩ (by omega)
        · rcases hR2 j2 h0 h1 with ⟨i2, k2, g1, g2, g3, g4⟩ | ⟨k2, g1, g2, g3⟩
          · exact ⟨i2, k2, g1, by rw [List.length_append]; omega, g3, by rw [List.getElem?_append_left g2]; exact g4⟩
          · refine ⟨i, k2, g2, by rw [List.length_append]; simp; omega, by omega, ?_⟩
            rw [List.getElem?_append_right (by omega), hi, Nat.sub_self]
            exact g3
        by_cases h2 : i2 < tab.length
        · rw [List.getElem?_append_left h2] at hr
          exact hrows i2 r hr
        · rw [List.getElem?_append_right (by omega)] at hr
          have : i2 = i := by
            have := (List.getElem?_eq_some_iff.mp hr).1
            simp at this
            omega
          subst this
          rw [hi, Nat.sub_self] at hr
          cases hr
          exact ⟨s, hsp, hrow'⟩
    · refine if_f (by simp; omega) (h _ _ ⟨come, tab, hA, ⟨hc, by omega, fun i2 s hs2 => ?_⟩, hR, j4, j5, j6, j7, j8, j9, rfl⟩)
      have hl := (List.getElem?_eq_some_iff.mp hs2).1
      have hl2 : i2 < tab.length := by omega
      obtain ⟨s2, h1, h2⟩ := hrows i2 _ (List.getElem?_eq_getElem hl2)
      rw [hs2] at h1
      cases h1
      exact ⟨_, List.getElem?_eq_getElem hl2, h2⟩
  rintro δ w' ⟨come, tab, hA, tb, hR, j4, j5, j6, j7, j8, j9, rfl⟩
  try simp_arith []
  exact ⟨by omega, q _ come tab hA tb hR⟩
theorem tbl_gt {p : Nat} {ts come tab : List (List Nat)} (tb : Tbl p ts come tab) (rc : Rc ts come tab) (hl : ts.length ≤ 3) (hc : come.length ≤ 256) : GT come.length ts.length tab := by
  have h0 := (List.getElem?_eq_some_iff.mp tb.c0).1
  refine ⟨tb.len, by omega, by omega, by omega, fun r hr => ?_, fun j h1 h2 => ?_⟩
  · obtain ⟨i, hi⟩ := List.mem_iff_getElem?.mp hr
    have hil := (List.getElem?_eq_some_iff.mp hi).1
    have hil2 : i < come.length := by rw [← tb.len]; exact hil
    obtain ⟨r', hr', ok⟩ := tb.row i _ (List.getElem?_eq_getElem hil2)
    rw [hi] at hr'
    cases hr'
    refine ⟨ok.1, fun x hx => ?_⟩
    obtain ⟨k, hk, e⟩ := List.mem_iff_getElem.mp hx
    have := ok.2 k (by rw [← ok.1]; exact hk)
    have e2 : ap r k = x := by unfold ap; rw [List.getElem?_eq_getElem hk, e]; rfl
    rw [e2] at this
    exact (List.getElem?_eq_some_iff.mp this).1
  · obtain ⟨i, k, a, _, c, d⟩ := rc j h1 h2
    exact ⟨i, k, a, c, d⟩
theorem tbl_lead {p : Nat} {ts come tab : List (List Nat)} (tb : Tbl p ts come tab) : ∀ {w : List Int} {i : Nat} {s : List Nat}, come[i]? = some s → StT ts.length w → come[lead tab i w]? = some (thr ts s w)
  | [], i, s, h, _ => h
  | x :: w, i, s, h, hw => by
    have hx := hw x List.mem_cons_self
    obtain ⟨r, hr, ok⟩ := tb.row i s h
    have := ok.2 (spot x) (by unfold spot; split <;> omega)
    rw [tk_spot] at this
    show come[lead tab (ap ((tab[i]?).getD []) (spot x)) w]? = some (thr ts (app (tn ts x) s) w)
    rw [hr]
    exact tbl_lead tb (w := w) this fun y hy => hw y (List.mem_cons_of_mem _ hy)
theorem gt_way {n l : Nat} {tab : List (List Nat)} (g : GT n l tab) : ∀ j, j < n → ∃ u, StT l u ∧ lead tab 0 u = j := by
  intro j
  induction j using Nat.strongRecOn with
  | _ j ih =>
    intro hj
    by_cases h0 : j = 0
    · exact ⟨[], (fun x hx => nomatch hx), h0.symm⟩
    · obtain ⟨i, k, hi, hk, e⟩ := g.reach j (by omega) hj
      obtain ⟨u, hu, he⟩ := ih i hi (by omega)
      refine ⟨u ++ [stp k], fun x hx => ?_, by rw [lead_snoc, he, stp_spot, e]⟩
      rcases List.mem_append.mp hx with h | h
      · exact hu x h
      · simp at h; subst h; exact stp_ok hk
theorem tbl_mul {p : Nat} {ts come tab : List (List Nat)} (tb : Tbl p ts come tab) (tns : Tns p ts) (g : GT come.length ts.length tab) {i j : Nat} {s t : List Nat} (hi : come[i]? = some s) (hj : come[j]? = some t) : app t s ∈ come := by
  obtain ⟨u, hu, he⟩ := gt_way g j (List.getElem?_eq_some_iff.mp hj).1
  have h1 := tbl_lead tb tb.c0 hu
  rw [he, hj] at h1
  have ht := Option.some.inj h1
  have h2 := tbl_lead tb hi hu
  rw [thr_id tns hu (tb.pm s (List.mem_of_getElem? hi)), ← ht] at h2
  exact List.mem_of_getElem? h2
theorem allL_of {p : Nat} : ∀ {n : Nat} {l : List Nat}, l ∈ allL p n → l.length = n ∧ ∀ x ∈ l, x < p
  | 0, l, h => by simp [allL] at h; subst h; exact ⟨rfl, (fun x hx => nomatch hx)⟩
  | n + 1, l, h => by
    unfold allL at h
    obtain ⟨x, hx, h⟩ := List.mem_flatMap.mp h
    obtain ⟨l', hl', rfl⟩ := List.mem_map.mp h
    obtain ⟨a, b⟩ := allL_of hl'
    exact ⟨by simp [a], fun y hy => by
      rcases List.mem_cons.mp hy with e | e
      · subst e; exact List.mem_range.mp hx
      · exact b y e⟩
theorem all_small {p : Nat} {ts : List (List Nat)} (h : p ≤ 4) (tns : Tns p ts) : AllOk p ts ((allL p p).filter fun s => decide s.Nodup) := by
  have hpm : ∀ s, s ∈ (allL p p).filter (fun s => decide s.Nodup) ↔ Pm p s := fun s => by
    rw [List.mem_filter]
    constructor
    · rintro ⟨a, b⟩
      obtain ⟨c, d⟩ := allL_of a
      exact ⟨c, d, by simpa using b⟩
    · exact fun q => ⟨allL_mem q.len q.lt, by simpa using q.nd⟩
  exact ⟨fun s hs => (hpm s).mp hs, Nat.le_trans (List.length_filter_le _ _) (all_len h), (hpm _).mpr (pm_id p), fun s hs k hk => (hpm _).mpr (pm_app (tk_pm tns hk) ((hpm s).mp hs))⟩
def rot (p c : Nat) : List Nat := (List.range p).map fun i => (i + c) % p
theorem ap_rot {p c x : Nat} (hx : x < p) : ap (rot p c) x = (x + c) % p := by
  unfold ap rot
  rw [List.getElem?_map, List.getElem?_range hx]
  rfl
theorem rot_get {p c i : Nat} (h : i < (rot p c).length) : (rot p c)[i] = (i + c) % p := by simp [rot]
theorem rot_len (p c : Nat) : (rot p c).length = p := by simp [rot]
theorem mod_cases {a p : Nat} (h : a < 2 * p) : (a < p ∧ a % p = a) ∨ (p ≤ a ∧ a % p = a - p) := by
  by_cases h2 : a < p
  · exact .inl ⟨h2, Nat.mod_eq_of_lt h2⟩
  · refine .inr ⟨by omega, ?_⟩
    rw [Nat.mod_eq_sub_mod (by omega), Nat.mod_eq_of_lt (by omega)]
theorem rot_pm {p c : Nat} (hc : c < p) : Pm p (rot p c) := pm_of (rot_len p c) (fun x hx => by rw [ap_rot hx]; exact Nat.mod_lt _ (by omega)) fun x y hx hy e => by
  rw [ap_rot hx, ap_rot hy] at e
  rcases mod_cases (a := x + c) (p := p) (by omega) with ⟨a, b⟩ | ⟨a, b⟩ <;> rcases mod_cases (a := y + c) (p := p) (by omega) with ⟨a', b'⟩ | ⟨a', b'⟩ <;> omega
theorem rot_app {p c d : Nat} (hc : c < p) (hd : d < p) : app (rot p d) (rot p c) = rot p ((c + d) % p) := pm_ext (by rw [app_len, rot_len]) (rot_len _ _) fun x hx => by
  rw [ap_app (rot_len _ _) hx, ap_rot hx, ap_rot (Nat.mod_lt _ (by omega)), ap_rot hx]
  rw [Nat.mod_add_mod, Nat.add_mod_mod, Nat.add_assoc]
theorem rot_inv {p : Nat} (h : 1 ≤ p) : invP (rot p (1 % p)) = rot p (p - 1) := by
  have hp := rot_pm (p := p) (c := 1 % p) (Nat.mod_lt _ (by omega))
  refine inv_uniq hp (invP_inv hp) ⟨rot_len _ _, fun x hx => ?_⟩
  rw [ap_rot hx, ap_rot (Nat.mod_lt _ (by omega))]
  by_cases h1 : p = 1
  · subst h1; omega
  · rw [Nat.mod_eq_of_lt (a := 1) (by omega)]
    rcases mod_cases (a := x + 1) (p := p) (by omega) with ⟨a, b⟩ | ⟨a, b⟩
    · rw [b, show x + 1 + (p - 1) = x + p by omega, Nat.add_mod_right, Nat.mod_eq_of_lt hx]
    · rw [b, show x + 1 - p + (p - 1) = x by omega, Nat.mod_eq_of_lt hx]
theorem rot_tns {p : Nat} (h : 1 ≤ p) : Tns p [rot p (1 % p)] := ⟨fun t ht => by simp at ht; subst ht; exact rot_pm (Nat.mod_lt _ (by omega))⟩
theorem all_rot {p : Nat} (h : 1 ≤ p) (h2 : p ≤ 100) : AllOk p [rot p (1 % p)] ((List.range p).map (rot p)) := by
  refine ⟨fun s hs => ?_, by simp; omega, List.mem_map.mpr ⟨0, List.mem_range.mpr (by omega), ?_⟩, fun s hs k hk => ?_⟩
  · obtain ⟨c, hc, rfl⟩ := List.mem_map.mp hs
    exact rot_pm (List.mem_range.mp hc)
  · exact pm_ext (rot_len _ _) (by simp [idP]) fun x hx => by rw [ap_rot hx, ap_id hx, Nat.add_zero, Nat.mod_eq_of_lt hx]
  · obtain ⟨c, hc, rfl⟩ := List.mem_map.mp hs
    have hc := List.mem_range.mp hc
    have hk : k = 0 ∨ k = 1 := by simp at hk; omega
    rcases hk with e | e <;> subst e
    · show app (rot p (1 % p)) (rot p c) ∈ _
      rw [rot_app hc (Nat.mod_lt _ (by omega))]
      exact List.mem_map.mpr ⟨_, List.mem_range.mpr (Nat.mod_lt _ (by omega)), rfl⟩
    · show app (invP (rot p (1 % p))) (rot p c) ∈ _
      rw [rot_inv h, rot_app hc (by omega)]
      exact List.mem_map.mpr ⟨_, List.mem_range.mpr (Nat.mod_lt _ (by omega)), rfl⟩

/-! SPLIT -/
theorem tn_D {p : Nat} {ts : List (List Nat)} (t : Tns p ts) {x : Int} (hx : x ≠ 0 ∧ x.natAbs ≤ ts.length) : ∃ u, ts[x.natAbs - 1]? = some u ∧ Pm p u ∧ tn ts x = if x < 0 then invP u else u := by
  have hl : x.natAbs - 1 < ts.length := by omega
  refine ⟨ts[x.natAbs - 1], List.getElem?_eq_getElem hl, t.pm _ (List.getElem_mem hl), ?_⟩
  unfold tn
  rw [List.getElem?_eq_getElem hl]
  rfl
def T_Lthrough : DSp := fun ds w P => ∃ (p : Nat) (ts : List (List Nat)) (ws : List Int), ds = [.lst (ts.map nD), wD ws, .int p] ∧ Tns p ts ∧ p ≤ 1000 ∧ StT ts.length ws ∧ P false (nD (thr ts (idP p) ws)) w
theorem len_Lthrough (ds : List D) (w : Om) (P : Bool → D → Om → Prop) (h : T_Lthrough ds w P) : ds.length = 3 := by first | (have h := h.1; subst h; rfl) | (obtain ⟨rfl, _⟩ := h; rfl) | (obtain ⟨_, rfl, _⟩ := h; rfl) | (obtain ⟨_, _, rfl, _⟩ := h; rfl) | (obtain ⟨_, _, _, rfl, _⟩ := h; rfl) | (obtain ⟨_, _, _, _, rfl, _⟩ := h; rfl) | (obtain ⟨_, _, _, _, _, rfl, _⟩ := h; rfl) | (obtain ⟨_, _, _, _, _, _, rfl, _⟩ := h; rfl) | (obtain ⟨_, _, _, _, _, _, _, rfl, _⟩ := h; rfl) | (obtain ⟨_, _, _, _, _, _, _, _, rfl, _⟩ := h; rfl) | (obtain ⟨_, _, _, _, _, _, _, _, _, rfl, _⟩ := h; rfl) | (obtain ⟨_, _, _, _, _, _, _, _, _, _, rfl, _⟩ := h; rfl) | (obtain ⟨_, _, _, _, _, _, _, _, _, _, _, rfl, _⟩ := h; rfl) | (obtain ⟨_, _, _, _, _, _, _, _, _, _, _, _, rfl, _⟩ := h; rfl) | (obtain ⟨_, _, _, _, _, _, _, _, _, _, _, _, _, rfl, _⟩ := h; rfl)
def b_Lthrough : DS := (dSeq (dSet false 3 (dUn sTR1 (dVarR 2)))
    (dSeq (dFor (dIt (dVar 1)) (gN 4) (dSeq (dSet false 5 (dBin sIx (dVarR 0) (oX (dBin sSub (oX (dUn sAbs (dVarR 4))) (oX (dC (.int 1)))))))
    (dSeq (dIf (dB (dBin sLt (dVarR 4) (oX (dC (.int 0))))) (dSet false 5 (dCall T_Lback (dCons (dVar 5) dNil))) dNext)
    (dSet false 3 (dUn sTuple (oX (dLc (dIt (dVar 3)) (gN 6) dYes (dBin sIx (dVarR 5) (dVarR 6)) [6])))))))
    (dRetV 3)))
theorem v_Lthrough (ds : List D) (w : Om) (P : Bool → D → Om → Prop) (h : T_Lthrough ds w P) : b_Lthrough { nx := fun _ w => P false .non w, rt := P } (startD ["_law_turns_here", "_law_word_here", "_law_points", "_law_spots", "_law_step", "_law_turned", "_law_spot"] ds) w := by
  unfold b_Lthrough
  obtain ⟨p, ts, ws, rfl, tns, hp, hst, q⟩ := h
  have hs := sizeLine_eq
  refine seq_i ?_
  try simp_arith only []
  refine ⟨RgOk.of_le (by omega) (by omega) (by omega) (by omega), ?_⟩
  rw [rng_id]
  refine seq_i ?_
  try simp_arith only []
  try simp_arith [wD]
  refine for_go D.int (fun pre δ w' => w' = w ∧ ∃ j4 j5 j6, δ = [some (false, .lst (ts.map nD)), some (false, wD ws), some (false, .int p), some (false, nD (thr ts (idP p) pre)), j4, j5, j6]) _ ⟨rfl, none, none, none, rfl⟩ ?_ ?_
  · rintro pre x post δ w' N C e ⟨rfl, j4, j5, j6, rfl⟩ hN hC
    have hx := hst x (by rw [e]; simp)
    obtain ⟨u, hu, hup, htn⟩ := tn_D tns hx
    have hpre : StT ts.length pre := fun y hy => hst y (by rw [e]; simp [hy])
    have hspots := thr_pm tns hpre (pm_id p)
    have e2 : thr ts (idP p) (pre ++ [x]) = app (tn ts x) (thr ts (idP p) pre) := by simp [thr]
    rw [e2] at hN
    have hab : (if x < 0 then -x else x) - 1 = ((x.natAbs - 1 : Nat) : Int) := by split <;> omega
    refine seq_i ?_
    try simp_arith [hab]
    refine ⟨nD u, atI_f nD (by omega) (by rw [Int.toNat_natCast]; exact hu), ?_⟩
    refine seq_cut (fun δ w'' => w'' = w' ∧ δ = [some (false, .lst (ts.map nD)), some (false, wD ws), some (false, .int p), some (false, nD (thr ts (idP p) pre)), some (false, .int x), some (false, nD (tn ts x)), j6]) (fun N h => ?_) ?_
    · try simp_arith []
      by_cases h0 : x < 0
      · refine if_t (by simp [h0]) ⟨p, u, rfl, hup, hp, h _ _ ⟨rfl, ?_⟩⟩
        rw [htn, if_pos h0]
      · refine if_f (by simpa using h0) (h _ _ ⟨rfl, ?_⟩)
        rw [htn, if_neg h0]
    rintro δ w'' ⟨rfl, rfl⟩
    generalize thr ts (idP p) pre = s at *
    have htp := tn_pm tns hx
    generalize tn ts x = t at *
    try simp_arith [nD]
    refine lc_map (fun n : Nat => D.int n) (fun n : Nat => .int (ap t n)) s (fun y hy P hP => ?_) [] (by simp; have := hspots.len; omega) ?_
    · try simp_arith []
      exact ⟨_, atI_n (by rw [htp.len]; exact hspots.lt y hy), hP _⟩
    · try simp_arith []
      refine hN _ _ ⟨rfl, some (false, .int x), some (false, nD t), j6, by simp [nD, app, Function.comp_def, wD]⟩
  · rintro δ w' ⟨rfl, j4, j5, j6, rfl⟩
    try simp_arith []
    exact q

def T_Lword : DSp := fun ds w P => ∃ (ns : List Int) (l : Nat), ds = [iD ns, .int l] ∧ ns.length ≤ 63 ∧ 1 ≤ l ∧ l ≤ 200 ∧ ∀ (w' : Om) (ws : List Int), ws.length = ns.length → StT l ws → P false (wD ws) w'
theorem len_Lword (ds : List D) (w : Om) (P : Bool → D → Om → Prop) (h : T_Lword ds w P) : ds.length = 2 := by first | (have h := h.1; subst h; rfl) | (obtain ⟨rfl, _⟩ := h; rfl) | (obtain ⟨_, rfl, _⟩ := h; rfl) | (obtain ⟨_, _, rfl, _⟩ := h; rfl) | (obtain ⟨_, _, _, rfl, _⟩ := h; rfl) | (obtain ⟨_, _, _, _, rfl, _⟩ := h; rfl) | (obtain ⟨_, _, _, _, _, rfl, _⟩ := h; rfl) | (obtain ⟨_, _, _, _, _, _, rfl, _⟩ := h; rfl) | (obtain ⟨_, _, _, _, _, _, _, rfl, _⟩ := h; rfl) | (obtain ⟨_, _, _, _, _, _, _, _, rfl, _⟩ := h; rfl) | (obtain ⟨_, _, _, _, _, _, _, _, _, rfl, _⟩ := h; rfl) | (obtain ⟨_, _, _, _, _, _, _, _, _, _, rfl, _⟩ := h; rfl) | (obtain ⟨_, _, _, _, _, _, _, _, _, _, _, rfl, _⟩ := h; rfl) | (obtain ⟨_, _, _, _, _, _, _, _, _, _, _, _, rfl, _⟩ := h; rfl) | (obtain ⟨_, _, _, _, _, _, _, _, _, _, _, _, _, rfl, _⟩ := h; rfl)
def b_Lword : DS := (dSeq (dSet true 2 (dLst dNil))
    (dSeq (dFor (dIt (dVar 0)) (gN 3) (dSeq (dSet false 4 (dCall T_Lmix (dCons (dVar 3) (dCons (dC (.int 2)) dNil))))
    (dSeq (dSet false 5 (dBin sAdd (oX (dC (.int 1))) (oX (dBin sMod (oX (dBin sFdiv (dVarR 4) (oX (dC (.int 2))))) (dVarR 1)))))
    (dSeq (dIf (dB (dBin sEq (oX (dBin sMod (dVarR 4) (oX (dC (.int 2))))) (oX (dC (.int 1))))) (dSet false 5 (dBin sSub (oX (dC (.int 0))) (dVarR 5))) dNext)
    (dApp 2 (dVar 5))))))
    (dRet (dUn sTuple (dVarR 2)))))
theorem v_Lword (ds : List D) (w : Om) (P : Bool → D → Om → Prop) (h : T_Lword ds w P) : b_Lword { nx := fun _ w => P false .non w, rt := P } (startD ["_law_cells", "_law_letters", "_law_steps", "_law_cell", "_law_number", "_law_step"] ds) w := by
  unfold b_Lword
  obtain ⟨ns, l, rfl, hn, h0, h1, q⟩ := h
  have hs := sizeLine_eq
  refine seq_i ?_
  try simp_arith only []
  try simp_arith [iD]
  refine seq_i ?_
  try simp_arith only []
  refine for_go D.int (fun pre δ w => ∃ us : List Int, us.length = pre.length ∧ StT l us ∧ ∃ j1 j2 j3, δ = [some (false, iD ns), some (false, .int l), some (true, iD us), j1, j2, j3]) _ ⟨[], rfl, (fun x hx => nomatch hx), none, none, none, rfl⟩ ?_ ?_
  · rintro pre x post δ w N C e ⟨us, hu, hus, j1, j2, j3, rfl⟩ hN hC
    have hl : pre.length + post.length + 1 = ns.length := by rw [e]; simp; omega
    refine seq_i ?_
    try simp_arith [iD]
    refine ⟨x, 2, rfl, by omega, by omega, fun n hnl => ?_⟩
    refine seq_i ?_
    try simp_arith only []
    have hb := mod_bd ((n : Int) / 2) (j := (l : Int)) (by omega)
    refine ⟨divC (by omega) (by omega), by omega, ?_⟩
    refine seq_cut (fun δ w => ∃ y : Int, (y ≠ 0 ∧ y.natAbs ≤ l) ∧ δ = [some (false, iD ns), some (false, .int l), some (true, iD us), some (false, .int x), some (false, .int n), some (false, .int y)]) (fun N h => ?_) ?_
    · try simp_arith []
      exact ⟨by omega, if_join (fun _ => h _ _ ⟨0 - (1 + (n : Int) / 2 % l), by omega, rfl⟩) (fun _ => h _ _ ⟨1 + (n : Int) / 2 % l, by omega, rfl⟩)⟩
    rintro δ w ⟨y, hy, rfl⟩
    try simp_arith [iD]
    refine ⟨by omega, hN _ _ ⟨us ++ [y], by simp [hu], fun z hz => ?_, _, _, _, by simp [iD]; exact ⟨rfl, rfl, rfl⟩⟩⟩
    rcases List.mem_append.mp hz with h | h
    · exact hus z h
    · simp at h; subst h; exact hy
  · rintro δ w ⟨us, hu, hus, j1, j2, j3, rfl⟩
    try simp_arith [iD]
    exact q _ us hu hus

/-! SPLIT -/
/-! ### homes: the mathematics -/
def carB (tab : List (List Nat)) (ims rules : List (List Int)) : Bool := rules.all fun r => decide (lead tab 0 (fillW ims r) = 0)
def wayOf (ws : List (List Int)) (r : Nat) : List Int := (ws[r]?).getD []
/-- all lists of a room for each letter, in their order -/
def allH (n : Nat) : Nat → List (List Nat)
  | 0 => [[]]
  | l + 1 => (allH n l).flatMap fun h => (List.range n).map fun r => h ++ [r]
def digs (n : Nat) : Nat → Nat → List Nat
  | 0, _ => []
  | l + 1, x => (x % n) :: digs n l (x / n)
theorem digs_len (n : Nat) : ∀ l x, (digs n l x).length = l
  | 0, _ => rfl
  | l + 1, x => by rw [digs, List.length_cons, digs_len n l]
theorem digs_lt {n : Nat} (h : 0 < n) : ∀ l x, ∀ y ∈ digs n l x, y < n
  | 0, _, y, hy => nomatch hy
  | l + 1, x, y, hy => by
    rcases List.mem_cons.mp hy with e | hy
    · rw [e]; exact Nat.mod_lt _ h
    · exact digs_lt h l _ y hy
theorem digs_snoc (n : Nat) : ∀ l x, digs n (l + 1) x = digs n l x ++ [x / n ^ l % n]
  | 0, x => by simp [digs]
  | l + 1, x => by
    rw [digs, digs_snoc n l, digs, List.cons_append, Nat.div_div_eq_div_mul, Nat.pow_succ, Nat.mul_comm (n ^ l) n]
theorem range_mul (a n : Nat) : List.range (a * n) = (List.range a).flatMap fun q => (List.range n).map fun r => q * n + r := by
  induction a with
  | zero => simp
  | succ a ih => rw [Nat.succ_mul, List.range_add, ih, List.range_succ, List.flatMap_append]; simp
theorem allH_range {n : Nat} (h : 0 < n) : ∀ l, (List.range (n ^ l)).map (fun x => (digs n l x).reverse) = allH n l
  | 0 => rfl
  | l + 1 => by
    rw [Nat.pow_succ, range_mul, List.map_flatMap, allH, ← allH_range h l, List.flatMap_map]
    congr 1
    funext q
    rw [List.map_map]
    refine List.map_congr_left fun r hr => ?_
    have hr := List.mem_range.mp hr
    show (digs n (l + 1) (q * n + r)).reverse = _
    rw [digs, Nat.mul_comm q n, Nat.mul_add_mod, Nat.mod_eq_of_lt hr, Nat.mul_add_div h, Nat.div_eq_of_lt hr, Nat.add_zero, List.reverse_cons]
theorem allH_mem {n : Nat} : ∀ {l : Nat} {h : List Nat}, h ∈ allH n l ↔ h.length = l ∧ ∀ r ∈ h, r < n
  | 0, h => by
    unfold allH
    simp only [List.mem_singleton]
    constructor
    · intro e; subst e; exact ⟨rfl, fun r hr => nomatch hr⟩
    · intro e; exact List.length_eq_zero_iff.mp e.1
  | l + 1, h => by
    unfold allH
    simp only [List.mem_flatMap, List.mem_map, List.mem_range]
    constructor
    · rintro ⟨g, hg, r, hr, rfl⟩
      obtain ⟨a, b⟩ := allH_mem.mp hg
      refine ⟨by simp [a], fun x hx => ?_⟩
      rcases List.mem_append.mp hx with hx | hx
      · exact b x hx
      · rw [List.mem_singleton.mp hx]; exact hr
    · rintro ⟨a, b⟩
      have hne : h ≠ [] := fun z => by rw [z] at a; simp at a
      have e := List.dropLast_concat_getLast hne
      refine ⟨h.dropLast, allH_mem.mpr ⟨by simp [a], fun r hr => b r (List.dropLast_subset _ hr)⟩, h.getLast hne, b _ (List.getLast_mem hne), e⟩
theorem allH_len (n : Nat) : ∀ l, (allH n l).length = n ^ l
  | 0 => rfl
  | l + 1 => by
    unfold allH
    rw [List.length_flatMap]
    simp only [List.length_map, List.length_range]
    rw [List.map_const', List.sum_replicate_nat, allH_len n l, Nat.pow_succ]
structure RulesOk (l n : Nat) (rules ims : List (List Int)) : Prop where
  im : ∀ r ∈ rules, ImOk ims n r
  st : ∀ im ∈ ims, StT l im

theorem codNat : Codec (fun n : Nat => D.int n) 0 := ⟨fun _ => rfl, fun _ => Nat.le_refl _, fun a b => by simp [D.py, PyData.eqv]; omega⟩
theorem sNe_nats (a b : List Nat) (P : Bool → D → Prop) : sNe (.lst (a.map fun n : Nat => D.int n)) (.lst (b.map fun n : Nat => D.int n)) P = P false (.bl (!decide (a = b))) := codNat.lst.sNe (by decide) a b P
theorem sEq_nats (a b : List Nat) (P : Bool → D → Prop) : sEq (.lst (a.map fun n : Nat => D.int n)) (.lst (b.map fun n : Nat => D.int n)) P = P false (.bl (decide (a = b))) := codNat.lst.sEq (by decide) a b P
theorem sIn_nats (neg : Bool) (a : Nat) (as : List Nat) (P : Bool → D → Prop) : sIn neg (.int a) (.lst (as.map fun n : Nat => D.int n)) P = P false (.bl (if neg then !decide (a ∈ as) else decide (a ∈ as))) := codNat.sInL (by decide) neg a as P

/-- a named list of named lists of numbers -/
def LL (w : Om) (a : Addr) (bs : List Addr) (ls : List (List Nat)) : Prop := w a = some (.lst (bs.map D.ref)) ∧ a ∉ bs ∧ bs.Nodup ∧ bs.length = ls.length ∧ ∀ (i : Nat) (b : Addr) (r : List Nat), bs[i]? = some b → ls[i]? = some r → w b = some (.lst (r.map fun n : Nat => D.int n))
theorem zip_LL (bs : List Addr) (ls : List (List Nat)) : zipD (bs.map D.ref) (ls.map nL) = (bs.zip ls).map fun p => D.tup [.ref p.1, nL p.2] := by
  unfold zipD
  induction bs generalizing ls with
  | nil => rfl
  | cons b bs ih =>
    cases ls with
    | nil => rfl
    | cons l ls => simp [ih]

/-! SPLIT -/
def T_carries : DSp := fun ds w P => ∃ (n l : Nat) (tab : List (List Nat)) (rules ims : List (List Int)), ds = [lwD rules, .lst (tab.map nL), lwD ims] ∧ GT n l tab ∧ RulesOk l n rules ims ∧ P false (.bl (carB tab ims rules)) w
theorem len_carries (ds : List D) (w : Om) (P : Bool → D → Om → Prop) (h : T_carries ds w P) : ds.length = 3 := by first | (have h := h.1; subst h; rfl) | (obtain ⟨rfl, _⟩ := h; rfl) | (obtain ⟨_, rfl, _⟩ := h; rfl) | (obtain ⟨_, _, rfl, _⟩ := h; rfl) | (obtain ⟨_, _, _, rfl, _⟩ := h; rfl) | (obtain ⟨_, _, _, _, rfl, _⟩ := h; rfl) | (obtain ⟨_, _, _, _, _, rfl, _⟩ := h; rfl) | (obtain ⟨_, _, _, _, _, _, rfl, _⟩ := h; rfl) | (obtain ⟨_, _, _, _, _, _, _, rfl, _⟩ := h; rfl) | (obtain ⟨_, _, _, _, _, _, _, _, rfl, _⟩ := h; rfl) | (obtain ⟨_, _, _, _, _, _, _, _, _, rfl, _⟩ := h; rfl) | (obtain ⟨_, _, _, _, _, _, _, _, _, _, rfl, _⟩ := h; rfl) | (obtain ⟨_, _, _, _, _, _, _, _, _, _, _, rfl, _⟩ := h; rfl) | (obtain ⟨_, _, _, _, _, _, _, _, _, _, _, _, rfl, _⟩ := h; rfl) | (obtain ⟨_, _, _, _, _, _, _, _, _, _, _, _, _, rfl, _⟩ := h; rfl)
def b_carries : DS := (dSeq (dFor (dIt (dVar 0)) (gN 3) (dIf (dB (dBin sNe (oX (dCall T_led (dCons (dVar 1) (dCons (dC (.int 0)) (dCons (dCall T_filled_in (dCons (dVar 3) (dCons (dVar 2) dNil))) dNil))))) (oX (dC (.int 0))))) (dRet (dC (.bl false))) dNext))
    (dRet (dC (.bl true))))
theorem v_carries (ds : List D) (w : Om) (P : Bool → D → Om → Prop) (h : T_carries ds w P) : b_carries { nx := fun _ w => P false .non w, rt := P } (startD ["rules", "table", "images", "rule"] ds) w := by
  unfold b_carries
  obtain ⟨n, l, tab, rules, ims, rfl, g, ok, q⟩ := h
  have hs := sizeLine_eq
  have hn1 := g.n1
  refine seq_n fun N hN => ?_
  try simp_arith [lwD]
  refine for_go wD (fun pre δ w' => w' = w ∧ carB tab ims pre = true ∧ ∃ j, δ = [some (false, .lst (rules.map wD)), some (false, .lst (tab.map nL)), some (false, .lst (ims.map wD)), j]) _ ⟨rfl, rfl, none, rfl⟩ ?_ ?_
  · rintro pre r post δ w' N C e ⟨rfl, hd, j, rfl⟩ hN2 hC
    have hr := ok.im r (by rw [e]; simp)
    try simp_arith []
    refine ⟨r, ims, n, rfl, hr, ?_⟩
    try simp_arith []
    refine ⟨n, l, tab, 0, fillW ims r, rfl, g, by omega, st_fill ok.st r, ?_⟩
    try simp_arith []
    refine if_join (fun h0 => ?_) (fun h0 => hN2 _ _ ⟨rfl, ?_, some (false, wD r), rfl⟩)
    · have : carB tab ims rules = false := by
        unfold carB
        rw [e, List.all_append, List.all_cons]
        simp at h0
        simp [h0]
      rw [this] at q
      exact q
    · unfold carB at hd ⊢
      rw [List.all_append, hd]
      simp at h0
      simp [h0]
  · rintro δ w' ⟨rfl, hd, j, rfl⟩
    refine hN _ _ ?_
    try simp_arith []
    rw [hd] at q
    exact q
def T_choices : DSpX := fun ds w P Px => ∃ l n : Nat, ds = [.int l, .int n] ∧ 1 ≤ n ∧ n ≤ 5000 ∧ l ≤ 500 ∧ (n ^ l ≤ 5000 → P false (.int (n ^ l : Nat)) w) ∧ (5000 < n ^ l → Px "TooGreat" [] w)
theorem len_choices (ds : List D) (w : Om) (P : Bool → D → Om → Prop) (Px : Str → List (Str × D) → Om → Prop) (h : T_choices ds w P Px) : ds.length = 2 := by first | (have h := h.1; subst h; rfl) | (obtain ⟨rfl, _⟩ := h; rfl) | (obtain ⟨_, rfl, _⟩ := h; rfl) | (obtain ⟨_, _, rfl, _⟩ := h; rfl) | (obtain ⟨_, _, _, rfl, _⟩ := h; rfl) | (obtain ⟨_, _, _, _, rfl, _⟩ := h; rfl) | (obtain ⟨_, _, _, _, _, rfl, _⟩ := h; rfl) | (obtain ⟨_, _, _, _, _, _, rfl, _⟩ := h; rfl) | (obtain ⟨_, _, _, _, _, _, _, rfl, _⟩ := h; rfl) | (obtain ⟨_, _, _, _, _, _, _, _, rfl, _⟩ := h; rfl) | (obtain ⟨_, _, _, _, _, _, _, _, _, rfl, _⟩ := h; rfl) | (obtain ⟨_, _, _, _, _, _, _, _, _, _, rfl, _⟩ := h; rfl) | (obtain ⟨_, _, _, _, _, _, _, _, _, _, _, rfl, _⟩ := h; rfl) | (obtain ⟨_, _, _, _, _, _, _, _, _, _, _, _, rfl, _⟩ := h; rfl) | (obtain ⟨_, _, _, _, _, _, _, _, _, _, _, _, _, rfl, _⟩ := h; rfl)
def b_choices (x : DXK) : DS := (dSeq (dSet false 2 (dC (.int 1)))
    (dSeq (dFor (dRng1 (dVarR 0)) (gN 3) (dSeq (dSet false 2 (dBin sMulB (dVarR 2) (dVarR 1)))
    (dIf (dB (dBin sGt (dVarR 2) (oX (dC (.int 5000))))) (dRaise "TooGreat" x) dNext)))
    (dRetV 2)))
theorem v_choices (ds : List D) (w : Om) (P : Bool → D → Om → Prop) (Px : Str → List (Str × D) → Om → Prop) (h : T_choices ds w P Px) : b_choices (xDef Px) { nx := fun _ w => P false .non w, rt := P } (startD ["letters", "rooms", "many", "letter"] ds) w := by
  unfold b_choices
  obtain ⟨l, n, rfl, h1, h2, h3, q1, q2⟩ := h
  refine seq_n fun N hN => ?_
  try simp_arith []
  refine hN _ _ ?_
  refine seq_n fun N hN => ?_
  try simp_arith []
  refine ⟨⟨by omega, by omega⟩, ?_⟩
  rw [Int.toNat_natCast]
  refine for_rng 0 _ (fun k δ w' => w' = w ∧ k ≤ l ∧ n ^ k ≤ 5000 ∧ ∃ j, δ = [some (false, .int l), some (false, .int n), some (false, .int (n ^ k : Nat)), j]) ⟨rfl, by omega, by simp, none, rfl⟩ ?_ ?_
  · rintro k δ w' N2 C2 hk ⟨rfl, hkl, hp, j, rfl⟩ hN2 hC2
    have hm : ((n ^ k : Nat) : Int) * (n : Int) = ((n ^ (k + 1) : Nat) : Int) := by rw [Nat.pow_succ, Int.natCast_mul]
    refine seq_n fun N3 hN3 => ?_
    try simp_arith []
    rw [hm]
    refine ⟨mulC (by omega) (by omega), hN3 _ _ ?_⟩
    try simp_arith []
    refine if_join (fun h0 => ?_) (fun h0 => hN2 _ _ ⟨rfl, by omega, ?_, _, rfl⟩)
    · have h0 := of_decide_eq_true h0
      try simp_arith [dRaise, xDef]
      refine q2 (Nat.lt_of_lt_of_le (by omega : 5000 < n ^ (k + 1)) (Nat.pow_le_pow_right h1 (by omega)))
    · exact Classical.byContradiction fun z => h0 (decide_eq_true (by omega))
  · rintro δ w' ⟨rfl, hkl, hp, j, rfl⟩
    refine hN _ _ ?_
    try simp_arith []
    exact q1 hp
def T_choice : DSp := fun ds w P => ∃ x l n : Nat, ds = [.int x, .int l, .int n] ∧ 1 ≤ n ∧ n ≤ 5000 ∧ l ≤ 500 ∧ x ≤ 5000 ∧ P true (nL (digs n l x).reverse) w
theorem len_choice (ds : List D) (w : Om) (P : Bool → D → Om → Prop) (h : T_choice ds w P) : ds.length = 3 := by first | (have h := h.1; subst h; rfl) | (obtain ⟨rfl, _⟩ := h; rfl) | (obtain ⟨_, rfl, _⟩ := h; rfl) | (obtain ⟨_, _, rfl, _⟩ := h; rfl) | (obtain ⟨_, _, _, rfl, _⟩ := h; rfl) | (obtain ⟨_, _, _, _, rfl, _⟩ := h; rfl) | (obtain ⟨_, _, _, _, _, rfl, _⟩ := h; rfl) | (obtain ⟨_, _, _, _, _, _, rfl, _⟩ := h; rfl) | (obtain ⟨_, _, _, _, _, _, _, rfl, _⟩ := h; rfl) | (obtain ⟨_, _, _, _, _, _, _, _, rfl, _⟩ := h; rfl) | (obtain ⟨_, _, _, _, _, _, _, _, _, rfl, _⟩ := h; rfl) | (obtain ⟨_, _, _, _, _, _, _, _, _, _, rfl, _⟩ := h; rfl) | (obtain ⟨_, _, _, _, _, _, _, _, _, _, _, rfl, _⟩ := h; rfl) | (obtain ⟨_, _, _, _, _, _, _, _, _, _, _, _, rfl, _⟩ := h; rfl) | (obtain ⟨_, _, _, _, _, _, _, _, _, _, _, _, _, rfl, _⟩ := h; rfl)
def b_choice : DS := (dSeq (dSet true 3 (dLst dNil))
    (dSeq (dFor (dRng1 (dVarR 1)) (gN 4) (dSeq (dApp 3 (dBin sMod (dVarR 0) (dVarR 2)))
    (dSet false 0 (dBin sFdiv (dVarR 0) (dVarR 2)))))
    (dRet (dUn sRev (dVarR 3)))))
theorem v_choice (ds : List D) (w : Om) (P : Bool → D → Om → Prop) (h : T_choice ds w P) : b_choice { nx := fun _ w => P false .non w, rt := P } (startD ["number", "letters", "rooms", "home", "letter"] ds) w := by
  unfold b_choice
  obtain ⟨x, l, n, rfl, h1, h2, h3, h4, q⟩ := h
  have hs := sizeLine_eq
  refine seq_n fun N hN => ?_
  try simp_arith []
  refine hN _ _ ?_
  refine seq_n fun N hN => ?_
  try simp_arith []
  refine ⟨⟨by omega, by omega⟩, ?_⟩
  rw [Int.toNat_natCast]
  have hxp : ∀ k, x / n ^ k ≤ x := fun k => Nat.div_le_self _ _
  refine for_rng 0 _ (fun k δ w' => w' = w ∧ ∃ j, δ = [some (false, .int (x / n ^ k : Nat)), some (false, .int l), some (false, .int n), some (true, nL (digs n k x)), j]) ⟨rfl, none, by simp [nL, digs]⟩ ?_ ?_
  · rintro k δ w' N2 C2 hk ⟨rfl, j, rfl⟩ hN2 hC2
    have hxk := hxp k
    have hdl := digs_len n k x
    obtain ⟨y, hy⟩ : ∃ y, y = x / n ^ k := ⟨_, rfl⟩
    rw [← hy] at hxk ⊢
    refine seq_n fun N3 hN3 => ?_
    try simp_arith [nL, Int.zero_add]
    rw [show (y : Int) % (n : Int) = ((y % n : Nat) : Int) from (Int.natCast_emod ..).symm]
    refine ⟨by omega, by simp [hdl]; omega, hN3 _ _ ?_⟩
    try simp_arith []
    rw [show (y : Int) / (n : Int) = ((y / n : Nat) : Int) from (Int.natCast_ediv ..).symm]
    refine ⟨divC (by omega) (by omega), hN2 _ _ ⟨rfl, some (false, .int k), ?_⟩⟩
    rw [digs_snoc, Nat.pow_succ, ← Nat.div_div_eq_div_mul, ← hy]
    simp [nL]
  · rintro δ w' ⟨rfl, j, rfl⟩
    refine hN _ _ ?_
    try simp_arith [nL]
    rw [← List.map_reverse]
    exact q
/-! SPLIT -/
/-- the homes of rules in a table, by its least ways -/
def homesF (n m : Nat) (tab : List (List Nat)) (ws rules : List (List Int)) : List (List Nat) := (allH n m).filter fun h => carB tab (h.map (wayOf ws)) rules
theorem LL.put {w : Om} {a b : Addr} {bs : List Addr} {ls : List (List Nat)} {r : List Nat} (L : LL w a bs ls) (hb : w b = some (.lst (r.map fun n : Nat => D.int n))) (hn : b ∉ bs) (hab : b ≠ a) : LL (updW w a (.lst (bs.map D.ref ++ [D.ref b]))) a (bs ++ [b]) (ls ++ [r]) := by
  obtain ⟨h1, h2, h3, h4, h5⟩ := L
  refine ⟨by rw [updW_same]; simp, fun z => ?_, List.nodup_append.mpr ⟨h3, by simp, fun x hx y hy => ?_⟩, by simp [h4], fun i c s hi hs => ?_⟩
  · rcases List.mem_append.mp z with z | z
    · exact h2 z
    · simp at z; exact hab z.symm
  · simp at hy
    subst hy
    exact fun z => hn (z ▸ hx)
  · have hca : c ≠ a := fun z => by
      have := List.mem_of_getElem? hi
      rcases List.mem_append.mp this with h | h
      · exact h2 (z ▸ h)
      · simp at h; exact hab (h ▸ z)
    rw [updW_ne hca]
    have hil := (List.getElem?_eq_some_iff.mp hs).1
    rw [List.length_append, List.length_singleton] at hil
    by_cases him : i < ls.length
    · rw [List.getElem?_append_left (by omega)] at hi
      rw [List.getElem?_append_left him] at hs
      exact h5 i c s hi hs
    · have : i = ls.length := by omega
      subst this
      rw [List.getElem?_append_right (by omega), h4, Nat.sub_self] at hi
      rw [List.getElem?_append_right (Nat.le_refl _), Nat.sub_self] at hs
      simp at hi hs
      subst hi hs
      exact hb
theorem LL.ext {w w' : Om} {a : Addr} {bs : List Addr} {ls : List (List Nat)} (L : LL w a bs ls) (h : ∀ c d, w c = some d → w' c = some d) : LL w' a bs ls :=
  ⟨h _ _ L.1, L.2.1, L.2.2.1, L.2.2.2.1, fun i b r hb hr => h _ _ (L.2.2.2.2 i b r hb hr)⟩
def T_homes : DSpX := fun ds w P Px => ∃ (n l m : Nat) (tab : List (List Nat)) (rules : List (List Int)), ds = [.int m, lwD rules, .lst (tab.map nL)] ∧ GT n l tab ∧ m ≤ 500 ∧ (∀ r ∈ rules, StT m r ∧ r.length ≤ 200) ∧ (n ^ m ≤ 5000 → ∀ ws, LW n l tab ws → ∀ (w' : Om) (a : Addr) (bs : List Addr), (∀ c d, w c = some d → w' c = some d) → w a = none → (∀ b ∈ bs, w b = none) → LL w' a bs (homesF n m tab ws rules) → P false (.ref a) w') ∧ (5000 < n ^ m → Px "TooGreat" [] w)
theorem len_homes (ds : List D) (w : Om) (P : Bool → D → Om → Prop) (Px : Str → List (Str × D) → Om → Prop) (h : T_homes ds w P Px) : ds.length = 3 := by first | (have h := h.1; subst h; rfl) | (obtain ⟨rfl, _⟩ := h; rfl) | (obtain ⟨_, rfl, _⟩ := h; rfl) | (obtain ⟨_, _, rfl, _⟩ := h; rfl) | (obtain ⟨_, _, _, rfl, _⟩ := h; rfl) | (obtain ⟨_, _, _, _, rfl, _⟩ := h; rfl) | (obtain ⟨_, _, _, _, _, rfl, _⟩ := h; rfl) | (obtain ⟨_, _, _, _, _, _, rfl, _⟩ := h; rfl) | (obtain ⟨_, _, _, _, _, _, _, rfl, _⟩ := h; rfl) | (obtain ⟨_, _, _, _, _, _, _, _, rfl, _⟩ := h; rfl) | (obtain ⟨_, _, _, _, _, _, _, _, _, rfl, _⟩ := h; rfl) | (obtain ⟨_, _, _, _, _, _, _, _, _, _, rfl, _⟩ := h; rfl) | (obtain ⟨_, _, _, _, _, _, _, _, _, _, _, rfl, _⟩ := h; rfl) | (obtain ⟨_, _, _, _, _, _, _, _, _, _, _, _, rfl, _⟩ := h; rfl) | (obtain ⟨_, _, _, _, _, _, _, _, _, _, _, _, _, rfl, _⟩ := h; rfl)
def b_homes (x : DXK) : DS := (dSeq (dSet false 3 (dCallX T_choices x (dCons (dVar 0) (dCons (dUn sLenA (dVarR 2)) dNil))))
    (dSeq (dSet false 4 (dCall T_least_ways (dCons (dVar 2) dNil)))
    (dSeq (dSetN 5 (dLst dNil))
    (dSeq (dFor (dRng1 (dVarR 3)) (gN 6) (dSeq (dSetN 7 (dCall T_choice (dCons (dVar 6) (dCons (dVar 0) (dCons (dUn sLenA (dVarR 2)) dNil)))))
    (dIf (dTru (oX (dCall T_carries (dCons (dVar 1) (dCons (dVar 2) (dCons (dLcN (dVarR 7) (gN 8) dYes (dBin sIx (dVarR 4) (dVarR 8)) [8]) dNil)))))) (dAppN false (dVarR 5) (dVar 7)) dNext)))
    (dRetV 5)))))
theorem v_homes (ds : List D) (w : Om) (P : Bool → D → Om → Prop) (Px : Str → List (Str × D) → Om → Prop) (h : T_homes ds w P Px) : b_homes (xDef Px) { nx := fun _ w => P false .non w, rt := P } (startD ["letters", "rules", "table", "many", "ways", "found", "number", "home", "room"] ds) w := by
  unfold b_homes
  obtain ⟨n, l, m, tab, rules, rfl, g, hm, hru, q1, q2⟩ := h
  have hs := sizeLine_eq
  have hn1 := g.n1
  have hnb := g.nb
  refine seq_n fun N hN => ?_
  try simp_arith [dCallX]
  rw [g.len]
  refine ⟨m, n, rfl, hn1, hnb, hm, fun hp => ?_, fun hp => q2 hp⟩
  refine hN _ _ ?_
  refine seq_n fun N hN => ?_
  try simp_arith []
  refine ⟨n, l, tab, rfl, g, fun ws lw => ?_⟩
  refine hN _ _ ?_
  have q1 := q1 hp ws lw
  have hwl := lw.len
  refine seq_n fun N hN => ?_
  try simp_arith []
  intro a ha
  refine hN _ _ ?_
  refine seq_n fun N hN => ?_
  try simp_arith []
  refine ⟨⟨by omega, by omega⟩, ?_⟩
  rw [Int.toNat_natCast]
  refine for_rng 0 _ (fun k δ w3 => ∃ (bs : List Addr) (j6 j7 j8 : Option (Bool × D)), (∀ c d, w c = some d → w3 c = some d) ∧ (∀ b ∈ bs, w b = none) ∧ LL w3 a bs (((List.range k).map fun x => (digs n m x).reverse).filter fun h => carB tab (h.map (wayOf ws)) rules) ∧ δ = [some (false, .int m), some (false, lwD rules), some (false, .lst (tab.map nL)), some (false, .int (n ^ m : Nat)), some (false, lwD ws), some (false, .ref a), j6, j7, j8]) ⟨[], none, none, none, fun c d h => by
      have : c ≠ a := fun z => by rw [z, ha] at h; cases h
      rw [updW_ne this]; exact h, (fun b hb => nomatch hb), ⟨updW_same, by simp, by simp, rfl, fun i b r h => by simp at h⟩, rfl⟩ ?_ ?_
  · rintro k δ w3 N2 C2 hk ⟨bs, j6, j7, j8, hx, hbn, L, rfl⟩ hN2 hC2
    have hkl : k < n ^ m := hk
    refine seq_n fun N3 hN3 => ?_
    try simp_arith [Int.zero_add]
    rw [g.len]
    refine ⟨k, m, n, rfl, hn1, hnb, hm, by omega, ?_⟩
    try simp_arith []
    intro b hb
    refine hN3 _ _ ?_
    have hba : b ≠ a := fun z => by rw [z, L.1] at hb; cases hb
    obtain ⟨h, hh⟩ : ∃ h, h = (digs n m k).reverse := ⟨_, rfl⟩
    rw [← hh]
    have hhl : h.length = m := by rw [hh, List.length_reverse, digs_len]
    have hhn : ∀ r ∈ h, r < n := fun r hr => digs_lt (by omega) m k r (List.mem_reverse.mp (hh ▸ hr))
    try simp_arith [nL]
    refine ⟨b, _, rfl, updW_same, ?_⟩
    have hw4 : ∀ c d, w3 c = some d → updW w3 b (Cell.lst (h.map fun n : Nat => D.int n)) c = some d := fun c d hc => by
      have : c ≠ b := fun z => by rw [z, hb] at hc; cases hc
      rw [updW_ne this]; exact hc
    obtain ⟨w4, hw4e⟩ : ∃ w4, w4 = updW w3 b (Cell.lst (h.map fun n : Nat => D.int n)) := ⟨_, rfl⟩
    have hb4 : w4 b = some (Cell.lst (h.map fun n : Nat => D.int n)) := by rw [hw4e]; exact updW_same
    rw [← hw4e] at hw4 ⊢
    refine lcN_map (fun r : Nat => D.int r) (fun r => wD (wayOf ws r)) h hb4 (fun r hr P hP => ?_) [] (by simp; omega) ?_
    · try simp_arith [lwD]
      have hrn := hhn r hr
      have e : ws[r]? = some (wayOf ws r) := by unfold wayOf; rw [List.getElem?_eq_getElem (by omega)]; rfl
      exact ⟨_, atI_f wD (by omega) (by rw [Int.toNat_natCast]; exact e), hP _⟩
    try simp_arith []
    have hst : ∀ im ∈ h.map (wayOf ws), im.length ≤ n ∧ StT l im := fun im him => by
      obtain ⟨r, hr, rfl⟩ := List.mem_map.mp him
      have hrn := hhn r hr
      have e : ws[r]? = some (wayOf ws r) := by unfold wayOf; rw [List.getElem?_eq_getElem (by omega)]; rfl
      obtain ⟨_, b1, b2⟩ := lw.ok r _ e
      exact ⟨b2, b1⟩
    refine ⟨n, l, tab, rules, h.map (wayOf ws), by simp [lwD, Function.comp_def], g, ⟨fun r hr => ⟨fun im him => (hst im him).1, fun s hs => ?_, ?_, by omega⟩, fun im him => (hst im him).2⟩, ?_⟩
    · have := (hru r hr).1 s hs
      rw [List.length_map, hhl]
      exact this
    · have h1 := (hru r hr).2
      have : r.length * n ≤ 200 * 5000 := Nat.mul_le_mul h1 hnb
      omega
    have hlsl : (((List.range k).map fun x => (digs n m x).reverse).filter fun h => carB tab (h.map (wayOf ws)) rules).length ≤ k := by
      have := List.length_filter_le (fun h => carB tab (h.map (wayOf ws)) rules) ((List.range k).map fun x => (digs n m x).reverse)
      simpa using this
    have hbs := L.2.2.2.1
    have hfil : ((List.range (k + 1)).map fun x => (digs n m x).reverse).filter (fun h => carB tab (h.map (wayOf ws)) rules) = ((List.range k).map fun x => (digs n m x).reverse).filter (fun h => carB tab (h.map (wayOf ws)) rules) ++ (if carB tab (h.map (wayOf ws)) rules then [h] else []) := by
      rw [List.range_succ, List.map_append, List.filter_append]
      congr 1
      rw [List.map_singleton, ← hh]
      by_cases c : carB tab (h.map (wayOf ws)) rules = true
      · rw [if_pos c, List.filter_cons, if_pos c, List.filter_nil]
      · rw [if_neg c, List.filter_cons, if_neg c, List.filter_nil]
    have hx4 : ∀ c d, w c = some d → w4 c = some d := fun c d hc => hw4 c d (hx c d hc)
    have nb : w b = none := by
      cases hwb : w b with
      | none => rfl
      | some d => have := hx b d hwb; rw [hb] at this; cases this
    have hbn2 : b ∉ bs := fun z => by
      obtain ⟨i, hi⟩ := List.getElem?_of_mem z
      have hil := (List.getElem?_eq_some_iff.mp hi).1
      have := L.2.2.2.2 i b _ hi (List.getElem?_eq_getElem (by omega))
      rw [hb] at this
      cases this
    have L4 := L.ext hw4
    try simp_arith []
    refine if_join (fun c => ?_) (fun c => hN2 _ _ ⟨bs, some (false, .int k), some (false, .ref b), j8, hx4, hbn, ?_, rfl⟩)
    · refine ⟨a, _, rfl, L4.1, _, L4.1, by simp; omega, hN2 _ _ ⟨bs ++ [b], some (false, .int k), some (false, .ref b), j8, fun c d hc => ?_, fun c hc => ?_, ?_, rfl⟩⟩
      · have : c ≠ a := fun z => by rw [z, ha] at hc; cases hc
        rw [updW_ne this]
        exact hx4 c d hc
      · rcases List.mem_append.mp hc with hc | hc
        · exact hbn c hc
        · rw [List.mem_singleton.mp hc]; exact nb
      · rw [hfil, if_pos c]
        exact L4.put hb4 hbn2 hba
    · rw [hfil, if_neg c, List.append_nil]
      exact L4
  · rintro δ w3 ⟨bs, j6, j7, j8, hx, hbn, L, rfl⟩
    refine hN _ _ ?_
    try simp_arith []
    rw [allH_range (by omega)] at L
    exact q1 _ _ _ hx ha hbn L

/-! SPLIT -/
structure RuL (l : Nat) (rules : List (List Int)) : Prop where
  st : ∀ r ∈ rules, StT l r ∧ r.length ≤ 200
  len : rules.length ≤ 1000
theorem RuL.snoc {l : Nat} {rules : List (List Int)} {r : List Int} (h : RuL l rules) (hr : StT l r) (hl : r.length ≤ 200) (hz : rules.length + 1 ≤ 1000) : RuL l (rules ++ [r]) := ⟨fun x hx => by
  rcases List.mem_append.mp hx with hx | hx
  · exact h.st x hx
  · rw [List.mem_singleton.mp hx]; exact ⟨hr, hl⟩, by simp; omega⟩
theorem st_rep {l k : Nat} {r : List Int} (h : StT l r) : StT l (List.replicate k r).flatten := fun x hx => by
  obtain ⟨v, hv, hx⟩ := List.mem_flatten.mp hx
  rw [List.eq_of_mem_replicate hv] at hx
  exact h x hx
theorem rep_D (u : List Int) (k : Nat) : (List.replicate k (u.map D.int)).flatten = ((List.replicate k u).flatten).map D.int := by rw [List.map_flatten, List.map_replicate]
def T_Lrules : DSp := fun ds w P => ∃ (ns : List Int) (l nb : Nat), ds = [.scr ns, .int l, .int nb] ∧ ns.length ≤ 63 ∧ 1 ≤ l ∧ l ≤ 200 ∧ ∀ (w' : Om) (rules : List (List Int)), RuL l rules → P true (lwD rules) w'
theorem len_Lrules (ds : List D) (w : Om) (P : Bool → D → Om → Prop) (h : T_Lrules ds w P) : ds.length = 3 := by first | (have h := h.1; subst h; rfl) | (obtain ⟨rfl, _⟩ := h; rfl) | (obtain ⟨_, rfl, _⟩ := h; rfl) | (obtain ⟨_, _, rfl, _⟩ := h; rfl) | (obtain ⟨_, _, _, rfl, _⟩ := h; rfl) | (obtain ⟨_, _, _, _, rfl, _⟩ := h; rfl) | (obtain ⟨_, _, _, _, _, rfl, _⟩ := h; rfl) | (obtain ⟨_, _, _, _, _, _, rfl, _⟩ := h; rfl) | (obtain ⟨_, _, _, _, _, _, _, rfl, _⟩ := h; rfl) | (obtain ⟨_, _, _, _, _, _, _, _, rfl, _⟩ := h; rfl) | (obtain ⟨_, _, _, _, _, _, _, _, _, rfl, _⟩ := h; rfl) | (obtain ⟨_, _, _, _, _, _, _, _, _, _, rfl, _⟩ := h; rfl) | (obtain ⟨_, _, _, _, _, _, _, _, _, _, _, rfl, _⟩ := h; rfl) | (obtain ⟨_, _, _, _, _, _, _, _, _, _, _, _, rfl, _⟩ := h; rfl) | (obtain ⟨_, _, _, _, _, _, _, _, _, _, _, _, _, rfl, _⟩ := h; rfl)
def b_Lrules : DS := (dSeq (dSet true 3 (dLst dNil))
    (dSeq (dFor (dRng1 (dVarR 1)) (gN 4) (dSeq (dSet false 5 (dCall T_Lmix (dCons (dVar 2) (dCons (dVar 4) dNil))))
    (dIf (dB (dBin sEq (oX (dBin sMod (dVarR 5) (oX (dC (.int 2))))) (oX (dC (.int 0))))) (dApp 3 (dBin sMulB (oX (dTup (dCons (dBin sAdd (dVarR 4) (oX (dC (.int 1)))) dNil))) (oX (dBin sAdd (oX (dC (.int 1))) (oX (dBin sMod (oX (dBin sFdiv (dVarR 5) (oX (dC (.int 2))))) (oX (dC (.int 6))))))))) dNext)))
    (dSeq (dSet true 6 (dLst dNil))
    (dSeq (dFor (dIt (dSl (dVarR 0) (dP (oX (dC (.int 2)))) (dP (oX (dC (.int 14)))))) (gN 7) (dSeq (dApp 6 (dVar 7))
    (dIf (dB (dBin sEq (oX (dBin sMod (oX (dCall T_Lmix (dCons (dVar 7) (dCons (dC (.int 3)) dNil)))) (oX (dC (.int 4))))) (oX (dC (.int 0))))) (dSeq (dFrz 6 (dApp 3 (dBin sMulB (oX (dCall T_Lword (dCons (dVar 6) (dCons (dVar 1) dNil)))) (oX (dBin sAdd (oX (dC (.int 1))) (oX (dBin sMod (dVarR 2) (oX (dC (.int 2))))))))))
    (dSet true 6 (dLst dNil))) dNext)))
    (dSeq (dIf (dB (dBin sGt (oX (dUn sLenA (dVarR 0))) (oX (dC (.int 14))))) (dApp 3 (dCall T_Lword (dCons (dSl (dVarR 0) (dP (oX (dC (.int 2)))) (dP (oX (dC (.int 62))))) (dCons (dVar 1) dNil)))) dNext)
    (dRetV 3))))))
theorem v_Lrules (ds : List D) (w : Om) (P : Bool → D → Om → Prop) (h : T_Lrules ds w P) : b_Lrules { nx := fun _ w => P false .non w, rt := P } (startD ["_law_script", "_law_letters", "_law_number", "_law_rules_here", "_law_k", "_law_some", "_law_kept", "_law_cell"] ds) w := by
  unfold b_Lrules
  obtain ⟨ns, l, nb, rfl, hnl, hl1, hl2, q⟩ := h
  have hs := sizeLine_eq
  refine seq_n fun N hN => ?_
  try simp_arith []
  refine hN _ _ ?_
  refine seq_cut (fun δ w3 => ∃ (rules : List (List Int)) (j4 j5 j6 j7 : Option (Bool × D)), RuL l rules ∧ rules.length ≤ 200 ∧ δ = [some (false, .scr ns), some (false, .int l), some (false, .int nb), some (true, lwD rules), j4, j5, j6, j7]) (fun N hN => ?_) ?_
  · try simp_arith []
    refine ⟨⟨by omega, by omega⟩, ?_⟩
    rw [Int.toNat_natCast]
    refine for_rng 0 _ (fun k δ w3 => ∃ (rules : List (List Int)) (j4 j5 j6 j7 : Option (Bool × D)), RuL l rules ∧ rules.length ≤ k ∧ δ = [some (false, .scr ns), some (false, .int l), some (false, .int nb), some (true, lwD rules), j4, j5, j6, j7]) ⟨[], none, none, none, none, ⟨(fun r h => nomatch h), by simp⟩, by simp, rfl⟩ ?_ ?_
    · rintro k δ w3 N2 C2 hk ⟨rules, j4, j5, j6, j7, R, hrl, rfl⟩ hN2 hC2
      refine seq_n fun N3 hN3 => ?_
      try simp_arith [Int.zero_add]
      refine ⟨nb, k, rfl, by omega, by omega, fun x hx => hN3 _ _ ?_⟩
      try simp_arith [lwD]
      obtain ⟨a, ha, ha2⟩ : ∃ a : Nat, 1 + (x : Int) / 2 % 6 = a ∧ a ≤ 6 := ⟨1 + x / 2 % 6, by omega, by omega⟩
      refine ⟨by omega, if_join (fun _ => ?_) (fun _ => hN2 _ _ ⟨rules, some (false, .int k), some (false, .int x), j6, j7, R, by omega, rfl⟩)⟩
      rw [ha, Int.toNat_natCast]
      have e1 : (List.replicate a [D.int ((k : Int) + 1)]).flatten = ((List.replicate a [(k : Int) + 1]).flatten).map D.int := rep_D [(k : Int) + 1] a
      rw [e1]
      refine ⟨by omega, divC (by omega) (by omega), by omega, ⟨by omega, by omega⟩, by omega, by omega, hN2 _ _ ⟨rules ++ [(List.replicate a [(k : Int) + 1]).flatten], some (false, .int k), some (false, .int x), j6, j7, R.snoc (st_rep fun z hz => by rw [List.mem_singleton.mp hz]; omega) (by simp; omega) (by omega), by simp; omega, by simp [lwD, wD]⟩⟩
    · rintro δ w3 ⟨rules, j4, j5, j6, j7, R, hrl, rfl⟩
      exact hN _ _ ⟨rules, j4, j5, j6, j7, R, by omega, rfl⟩
  rintro δ w3 ⟨rules, j4, j5, j6, j7, R, hrl, rfl⟩
  refine seq_n fun N hN => ?_
  try simp_arith []
  refine hN _ _ ?_
  have hcl := cutD_le ns (some 2) (some 14)
  refine seq_cut (fun δ w3 => ∃ (rules : List (List Int)) (j4 j5 j6 j7 : Option (Bool × D)), RuL l rules ∧ rules.length ≤ 300 ∧ δ = [some (false, .scr ns), some (false, .int l), some (false, .int nb), some (true, lwD rules), j4, j5, j6, j7]) (fun N hN => ?_) ?_
  · try simp_arith []
    refine for_go D.int (fun pre δ w3 => ∃ (rules : List (List Int)) (kp : List Int) (j4 j5 j7 : Option (Bool × D)), RuL l rules ∧ rules.length ≤ 200 + pre.length ∧ kp.length ≤ pre.length ∧ δ = [some (false, .scr ns), some (false, .int l), some (false, .int nb), some (true, lwD rules), j4, j5, some (true, iD kp), j7]) (cutD ns (some 2) (some 14)) ⟨rules, [], j4, j5, j7, R, by simp; omega, by simp, rfl⟩ ?_ ?_
    · rintro pre c post δ w3 N2 C2 e ⟨rules, kp, j4, j5, j7, R, hrl, hkp, rfl⟩ hN2 hC2
      have hpl := congrArg List.length e
      simp at hpl
      have hcl12 : (cutD ns (some 2) (some 14)).length ≤ 12 := by
        show (cutD ns (some ((2 : Nat) : Int)) (some ((14 : Nat) : Int))).length ≤ 12
        rw [cutD_nat]
        simp
        omega
      refine seq_n fun N3 hN3 => ?_
      try simp_arith [iD]
      refine ⟨by omega, hN3 _ _ ?_⟩
      try simp_arith []
      refine ⟨c, 3, rfl, by omega, by omega, fun x hx => ?_⟩
      try simp_arith []
      have e1 : kp.map D.int ++ [D.int c] = (kp ++ [c]).map D.int := by simp
      rw [e1]
      refine ⟨by omega, if_join (fun _ => ?_) (fun _ => hN2 _ _ ⟨rules, kp ++ [c], j4, j5, _, R, by simp; omega, by simp; omega, rfl⟩)⟩
      refine seq_n fun N3 hN3 => ?_
      try simp_arith [dFrz]
      refine ⟨kp ++ [c], l, rfl, by simp; omega, hl1, hl2, fun w4 ws hwl hws => ?_⟩
      obtain ⟨a, ha, ha2⟩ : ∃ a : Nat, 1 + (nb : Int) % 2 = a ∧ a ≤ 2 := ⟨1 + nb % 2, by omega, by omega⟩
      try simp_arith [wD]
      rw [ha, Int.toNat_natCast]
      try simp_arith []
      simp at hwl
      have hm : ws.length * a ≤ 13 * 2 := Nat.mul_le_mul (by omega) ha2
      rw [rep_D]
      refine ⟨by omega, ⟨by omega, by omega⟩, by omega, by omega, hN3 _ _ ?_⟩
      try simp_arith []
      refine hN2 _ _ ⟨rules ++ [(List.replicate a ws).flatten], [], j4, j5, some (false, .int c), R.snoc (st_rep hws) (by simp; rw [Nat.mul_comm]; omega) (by omega), by simp; omega, by simp, by simp [lwD, wD, iD]⟩
    · rintro δ w3 ⟨rules, kp, j4, j5, j7, R, hrl, hkp, rfl⟩
      exact hN _ _ ⟨rules, j4, j5, _, j7, R, by omega, rfl⟩
  rintro δ w3 ⟨rules, j4, j5, j6, j7, R, hrl, rfl⟩
  have hcl2 := cutD_le ns (some 2) (some 62)
  refine seq_cut (fun δ w3 => ∃ (rules : List (List Int)) (j4 j5 j6 j7 : Option (Bool × D)), RuL l rules ∧ δ = [some (false, .scr ns), some (false, .int l), some (false, .int nb), some (true, lwD rules), j4, j5, j6, j7]) (fun N hN => ?_) ?_
  · try simp_arith []
    refine if_join (fun _ => ?_) (fun _ => hN _ _ ⟨rules, j4, j5, j6, j7, R, rfl⟩)
    refine ⟨cutD ns (some 2) (some 62), l, rfl, by omega, hl1, hl2, fun w4 ws hwl hws => ?_⟩
    try simp_arith []
    refine ⟨by omega, hN _ _ ⟨rules ++ [ws], j4, j5, j6, j7, R.snoc hws (by omega) (by omega), by simp [lwD]⟩⟩
  rintro δ w3 ⟨rules, j4, j5, j6, j7, R, rfl⟩
  try simp_arith []
  exact q _ rules R
/-! SPLIT -/
theorem pow_mono {n k l : Nat} (h : 1 ≤ n) (hk : k ≤ l) : n ^ k ≤ n ^ l := Nat.pow_le_pow_right h hk
def T_Llists : DSp := fun ds w P => ∃ l n : Nat, ds = [.int l, .int n] ∧ 1 ≤ n ∧ n ≤ 5000 ∧ l ≤ 500 ∧ n ^ l ≤ 5000 ∧ P false (.lst ((allH n l).map nL)) w
theorem len_Llists (ds : List D) (w : Om) (P : Bool → D → Om → Prop) (h : T_Llists ds w P) : ds.length = 2 := by first | (have h := h.1; subst h; rfl) | (obtain ⟨rfl, _⟩ := h; rfl) | (obtain ⟨_, rfl, _⟩ := h; rfl) | (obtain ⟨_, _, rfl, _⟩ := h; rfl) | (obtain ⟨_, _, _, rfl, _⟩ := h; rfl) | (obtain ⟨_, _, _, _, rfl, _⟩ := h; rfl) | (obtain ⟨_, _, _, _, _, rfl, _⟩ := h; rfl) | (obtain ⟨_, _, _, _, _, _, rfl, _⟩ := h; rfl) | (obtain ⟨_, _, _, _, _, _, _, rfl, _⟩ := h; rfl) | (obtain ⟨_, _, _, _, _, _, _, _, rfl, _⟩ := h; rfl) | (obtain ⟨_, _, _, _, _, _, _, _, _, rfl, _⟩ := h; rfl) | (obtain ⟨_, _, _, _, _, _, _, _, _, _, rfl, _⟩ := h; rfl) | (obtain ⟨_, _, _, _, _, _, _, _, _, _, _, rfl, _⟩ := h; rfl) | (obtain ⟨_, _, _, _, _, _, _, _, _, _, _, _, rfl, _⟩ := h; rfl) | (obtain ⟨_, _, _, _, _, _, _, _, _, _, _, _, _, rfl, _⟩ := h; rfl)
def b_Llists : DS := (dSeq (dSet false 2 (dLst (dCons (dLst dNil) dNil)))
    (dSeq (dFor (dRng1 (dVarR 0)) (gN 3) (dSeq (dSet true 4 (dLst dNil))
    (dSeq (dFor (dIt (dVar 2)) (gN 5) (dExt 4 (oX (dLc (dRng1 (dVarR 1)) (gN 6) dYes (dBin sAdd (dVarR 5) (oX (dLst (dCons (dVar 6) dNil)))) [6]))))
    (dFrz 4 (dSet false 2 (dVar 4))))))
    (dRetV 2)))
theorem v_Llists (ds : List D) (w : Om) (P : Bool → D → Om → Prop) (h : T_Llists ds w P) : b_Llists { nx := fun _ w => P false .non w, rt := P } (startD ["_law_letters", "_law_many_here", "_law_found", "_law_k", "_law_longer", "_law_one", "_law_room"] ds) w := by
  unfold b_Llists
  obtain ⟨l, n, rfl, h1, h2, h3, h4, q⟩ := h
  have hs := sizeLine_eq
  refine seq_n fun N hN => ?_
  try simp_arith []
  refine ⟨by omega, hN _ _ ?_⟩
  refine seq_n fun N hN => ?_
  try simp_arith []
  refine ⟨⟨by omega, by omega⟩, ?_⟩
  rw [Int.toNat_natCast]
  refine for_rng 0 _ (fun k δ w3 => w3 = w ∧ k ≤ l ∧ ∃ (j3 j4 j5 j6 : Option (Bool × D)), δ = [some (false, .int l), some (false, .int n), some (false, .lst ((allH n k).map nL)), j3, j4, j5, j6]) ⟨rfl, by omega, none, none, none, none, rfl⟩ ?_ ?_
  · rintro k δ w3 N2 C2 hk ⟨rfl, hkl, j3, j4, j5, j6, rfl⟩ hN2 hC2
    have hp := pow_mono (n := n) h1 (show k + 1 ≤ l by omega)
    have hal := allH_len n k
    have hal2 := allH_len n (k + 1)
    refine seq_n fun N3 hN3 => ?_
    try simp_arith []
    refine hN3 _ _ ?_
    refine seq_n fun N3 hN3 => ?_
    try simp_arith []
    refine for_go nL (fun pre δ w4 => w4 = w3 ∧ ∃ (j5 j6 : Option (Bool × D)), δ = [some (false, .int l), some (false, .int n), some (false, .lst ((allH n k).map nL)), some (false, .int (0 + (k : Nat))), some (true, .lst ((pre.flatMap fun h => (List.range n).map fun r => h ++ [r]).map nL)), j5, j6]) (allH n k) ⟨rfl, j5, j6, by rfl⟩ ?_ ?_
    · rintro pre h post δ w4 N4 C4 e ⟨rfl, j5, j6, rfl⟩ hN4 hC4
      have hln : ((pre.flatMap fun h => (List.range n).map fun r => h ++ [r])).length + n ≤ 5000 := by
        have e1 : (allH n (k + 1)).length = ((pre.flatMap fun h => (List.range n).map fun r => h ++ [r])).length + (n + (post.flatMap fun h => (List.range n).map fun r => h ++ [r]).length) := by
          show ((allH n k).flatMap _).length = _
          rw [e, List.flatMap_append, List.length_append, List.flatMap_cons, List.length_append]
          simp
        omega
      try simp_arith []
      have hhl : h.length = k := (allH_mem.mp (show h ∈ allH n k by rw [e]; simp)).1
      refine ⟨⟨by omega, by omega⟩, ?_⟩
      rw [Int.toNat_natCast]
      refine lc_map (fun r : Nat => D.int (0 + (r : Int))) (fun r => nL (h ++ [r])) (List.range n) (fun r hr P hP => ?_) [] (by simp; omega) ?_
      · try simp_arith [nL, Int.zero_add]
        have := hP true
        refine ⟨by omega, by omega, ?_⟩
        simpa [nL] using this
      · try simp_arith []
        refine ⟨by simp at hln ⊢; omega, hN4 _ _ ⟨rfl, some (false, nL h), j6, ?_⟩⟩
        rw [List.flatMap_append, List.map_append]
        simp [Function.comp_def]
    · rintro δ w4 ⟨rfl, j5, j6, rfl⟩
      refine hN3 _ _ ?_
      try simp_arith []
      exact hN2 _ _ ⟨rfl, by omega, _, _, j5, j6, rfl⟩
  · rintro δ w3 ⟨rfl, hkl, j3, j4, j5, j6, rfl⟩
    refine hN _ _ ?_
    try simp_arith []
    exact q
/-! SPLIT -/
def movH (come : List (List Nat)) (h : List Nat) : List (List Nat) := h.map fun i => (come[i]?).getD []
def goodH (p : Nat) (come : List (List Nat)) (rules : List (List Int)) (h : List Nat) : Bool := rules.all fun r => decide (thr (movH come h) (idP p) r = idP p)
def dueH (p : Nat) (come : List (List Nat)) (l : Nat) (rules : List (List Int)) : List (List Nat) := (allH come.length l).filter (goodH p come rules)
theorem sEq_nD (a b : List Nat) (P : Bool → D → Prop) : sEq (nD a) (nD b) P = P false (.bl (decide (a = b))) := codnD.toCodec.sEq (by decide) a b P
def T_Ldue : DSp := fun ds w P => ∃ (p l : Nat) (come : List (List Nat)) (rules : List (List Int)), ds = [.int l, lwD rules, .lst (come.map nD)] ∧ Come p come ∧ come.length ≤ 5000 ∧ l ≤ 500 ∧ p ≤ 1000 ∧ come.length ^ l ≤ 5000 ∧ RuL l rules ∧ P true (.lst ((dueH p come l rules).map nL)) w
theorem len_Ldue (ds : List D) (w : Om) (P : Bool → D → Om → Prop) (h : T_Ldue ds w P) : ds.length = 3 := by first | (have h := h.1; subst h; rfl) | (obtain ⟨rfl, _⟩ := h; rfl) | (obtain ⟨_, rfl, _⟩ := h; rfl) | (obtain ⟨_, _, rfl, _⟩ := h; rfl) | (obtain ⟨_, _, _, rfl, _⟩ := h; rfl) | (obtain ⟨_, _, _, _, rfl, _⟩ := h; rfl) | (obtain ⟨_, _, _, _, _, rfl, _⟩ := h; rfl) | (obtain ⟨_, _, _, _, _, _, rfl, _⟩ := h; rfl) | (obtain ⟨_, _, _, _, _, _, _, rfl, _⟩ := h; rfl) | (obtain ⟨_, _, _, _, _, _, _, _, rfl, _⟩ := h; rfl) | (obtain ⟨_, _, _, _, _, _, _, _, _, rfl, _⟩ := h; rfl) | (obtain ⟨_, _, _, _, _, _, _, _, _, _, rfl, _⟩ := h; rfl) | (obtain ⟨_, _, _, _, _, _, _, _, _, _, _, rfl, _⟩ := h; rfl) | (obtain ⟨_, _, _, _, _, _, _, _, _, _, _, _, rfl, _⟩ := h; rfl) | (obtain ⟨_, _, _, _, _, _, _, _, _, _, _, _, _, rfl, _⟩ := h; rfl)
def b_Ldue : DS := (dSeq (dSet true 3 (dLst dNil))
    (dSeq (dSet false 4 (dUn sLenA (oX (dBin sIx (dVarR 2) (oX (dC (.int 0)))))))
    (dSeq (dFor (dIt (dCall T_Llists (dCons (dVar 0) (dCons (dUn sLenA (dVarR 2)) dNil)))) (gN 5) (dSeq (dSet false 6 (dLc (dIt (dVar 5)) (gN 9) dYes (dBin sIx (dVarR 2) (dVarR 9)) [9]))
    (dSeq (dSet false 7 (dC (.bl true)))
    (dSeq (dFor (dIt (dVar 1)) (gN 8) (dSet false 7 (dAndV (dVar 7) (dBin sEq (oX (dCall T_Lthrough (dCons (dVar 6) (dCons (dVar 8) (dCons (dVar 4) dNil))))) (oX (dBin sIx (dVarR 2) (oX (dC (.int 0)))))))))
    (dIf (dTru (dVarR 7)) (dApp 3 (dVar 5)) dNext)))))
    (dRetV 3))))
theorem v_Ldue (ds : List D) (w : Om) (P : Bool → D → Om → Prop) (h : T_Ldue ds w P) : b_Ldue { nx := fun _ w => P false .non w, rt := P } (startD ["_law_letters", "_law_rules_here", "_law_come", "_law_found", "_law_points", "_law_home", "_law_moves", "_law_good", "_law_rule", "_law_room"] ds) w := by
  unfold b_Ldue
  obtain ⟨p, l, come, rules, rfl, cm, hc, hl, hp, hpw, R, q⟩ := h
  have hs := sizeLine_eq
  have h0 := (List.getElem?_eq_some_iff.mp cm.c0).1
  have hidl : (idP p).length = p := by simp [idP]
  have hat0 : atI (come.map nD) 0 = some (nD (idP p)) := atI_f nD (k := 0) (by omega) cm.c0
  refine seq_n fun N hN => ?_
  try simp_arith []
  refine hN _ _ ?_
  refine seq_n fun N hN => ?_
  try simp_arith []
  refine ⟨_, hat0, ?_⟩
  try simp_arith [nD]
  rw [hidl]
  refine hN _ _ ?_
  refine seq_n fun N hN => ?_
  try simp_arith []
  refine ⟨l, come.length, rfl, by omega, hc, hl, hpw, ?_⟩
  try simp_arith []
  refine for_go nL (fun pre δ w4 => w4 = w ∧ ∃ (j5 j6 j7 j8 j9 : Option (Bool × D)), δ = [some (false, .int l), some (false, lwD rules), some (false, .lst (come.map nD)), some (true, .lst ((pre.filter (goodH p come rules)).map nL)), some (false, .int p), j5, j6, j7, j8, j9]) (allH come.length l) ⟨rfl, none, none, none, none, none, rfl⟩ ?_ ?_
  · rintro pre h post δ w4 N2 C2 e ⟨rfl, j5, j6, j7, j8, j9, rfl⟩ hN2 hC2
    obtain ⟨hhl, hhn⟩ := allH_mem.mp (show h ∈ allH come.length l by rw [e]; simp)
    have hmv : ∀ r ∈ h, come[r]? = some ((come[r]?).getD []) := fun r hr => by rw [List.getElem?_eq_getElem (hhn r hr)]; rfl
    have tns : Tns p (movH come h) := ⟨fun t ht => by
      obtain ⟨r, hr, rfl⟩ := List.mem_map.mp ht
      exact cm.pm _ (List.mem_of_getElem? (hmv r hr))⟩
    have hml : (movH come h).length = l := by rw [movH, List.length_map, hhl]
    refine seq_n fun N3 hN3 => ?_
    try simp_arith [nL]
    refine lc_map (fun r : Nat => D.int (r : Int)) (fun r => nD ((come[r]?).getD [])) h (fun r hr P hP => ?_) [] (by simp; omega) ?_
    · try simp_arith []
      exact ⟨_, atI_f nD (by omega) (by rw [Int.toNat_natCast]; exact hmv r hr), hP _⟩
    try simp_arith []
    have em : h.map (fun r => nD ((come[r]?).getD [])) = (movH come h).map nD := by rw [movH, List.map_map]; rfl
    rw [em]
    refine hN3 _ _ ?_
    refine seq_n fun N3 hN3 => ?_
    try simp_arith []
    refine hN3 _ _ ?_
    refine seq_n fun N3 hN3 => ?_
    try simp_arith [lwD]
    refine for_go wD (fun pre2 δ w5 => w5 = w4 ∧ ∃ (j8 j9 : Option (Bool × D)), δ = [some (false, .int l), some (false, lwD rules), some (false, .lst (come.map nD)), some (true, .lst ((pre.filter (goodH p come rules)).map nL)), some (false, .int p), some (false, nL h), some (false, .lst ((movH come h).map nD)), some (false, .bl (goodH p come pre2 h)), j8, j9]) rules ⟨rfl, j8, j9, rfl⟩ ?_ ?_
    · rintro pre2 r post2 δ w5 N4 C4 e2 ⟨rfl, j8, j9, rfl⟩ hN4 hC4
      have hr := R.st r (by rw [e2]; simp)
      have hgs : goodH p come (pre2 ++ [r]) h = (goodH p come pre2 h && decide (thr (movH come h) (idP p) r = idP p)) := by unfold goodH; rw [List.all_append]; simp
      try simp_arith []
      refine if_join (fun c => ?_) (fun c => hN4 _ _ ⟨rfl, some (false, wD r), j9, by rw [hgs]; simp at c; rw [c]; rfl⟩)
      refine ⟨p, movH come h, r, rfl, tns, hp, by rw [hml]; exact hr.1, nD (idP p), hat0, ?_⟩
      try simp_arith [rs_nD, sEq_nD]
      refine hN4 _ _ ⟨rfl, some (false, wD r), j9, by rw [hgs, c]; rfl⟩
    · rintro δ w5 ⟨rfl, j8, j9, rfl⟩
      refine hN3 _ _ ?_
      try simp_arith []
      have hfl := List.length_filter_le (goodH p come rules) pre
      have hal := allH_len come.length l
      rw [e] at hal
      simp at hal
      refine if_join (fun c => ⟨by omega, hN2 _ _ ⟨rfl, some (false, nL h), some (false, .lst ((movH come h).map nD)), some (false, .bl (goodH p come rules h)), j8, j9, ?_⟩⟩) (fun c => hN2 _ _ ⟨rfl, some (false, nL h), some (false, .lst ((movH come h).map nD)), some (false, .bl (goodH p come rules h)), j8, j9, ?_⟩)
      · rw [List.filter_append, List.filter_cons, if_pos c]
        simp
      · rw [List.filter_append, List.filter_cons, if_neg c]
        simp
  · rintro δ w4 ⟨rfl, j5, j6, j7, j8, j9, rfl⟩
    refine hN _ _ ?_
    try simp_arith []
    exact q
/-! SPLIT -/
def T_Lsame : DSp := fun ds w P => ∃ (ls : List (List Nat)) (a : Addr) (bs : List Addr), ds = [.ref a, .lst (ls.map nL)] ∧ LL w a bs ls ∧ P false (.bl true) w
theorem len_Lsame (ds : List D) (w : Om) (P : Bool → D → Om → Prop) (h : T_Lsame ds w P) : ds.length = 2 := by first | (have h := h.1; subst h; rfl) | (obtain ⟨rfl, _⟩ := h; rfl) | (obtain ⟨_, rfl, _⟩ := h; rfl) | (obtain ⟨_, _, rfl, _⟩ := h; rfl) | (obtain ⟨_, _, _, rfl, _⟩ := h; rfl) | (obtain ⟨_, _, _, _, rfl, _⟩ := h; rfl) | (obtain ⟨_, _, _, _, _, rfl, _⟩ := h; rfl) | (obtain ⟨_, _, _, _, _, _, rfl, _⟩ := h; rfl) | (obtain ⟨_, _, _, _, _, _, _, rfl, _⟩ := h; rfl) | (obtain ⟨_, _, _, _, _, _, _, _, rfl, _⟩ := h; rfl) | (obtain ⟨_, _, _, _, _, _, _, _, _, rfl, _⟩ := h; rfl) | (obtain ⟨_, _, _, _, _, _, _, _, _, _, rfl, _⟩ := h; rfl) | (obtain ⟨_, _, _, _, _, _, _, _, _, _, _, rfl, _⟩ := h; rfl) | (obtain ⟨_, _, _, _, _, _, _, _, _, _, _, _, rfl, _⟩ := h; rfl) | (obtain ⟨_, _, _, _, _, _, _, _, _, _, _, _, _, rfl, _⟩ := h; rfl)
def b_Lsame : DS := (dSeq (dIf (dTOr (dTNot (dTru (oX (dBin sIsi (dVarR 0) (oX (dC (.ty "list"))))))) (dB (dBin sNe (oX (dUn sLenA (dVarR 0))) (oX (dUn sLenA (dVarR 1)))))) (dRet (dC (.bl false))) dNext)
    (dSeq (dForZN (dCons (dVar 0) (dCons (dVar 1) dNil)) (gT 2 (gsC (gN 2) (gsC (gN 3) gsN))) (dSeq (dIf (dTOr (dTNot (dTru (oX (dBin sIsi (dVarR 2) (oX (dC (.ty "list"))))))) (dB (dBin sNe (dVarR 2) (dVarR 3)))) (dRet (dC (.bl false))) dNext)
    (dForN (dVarR 2) (gN 4) (dIf (dTOr (dTNot (dTru (oX (dBin sIsi (dVarR 4) (oX (dC (.ty "int"))))))) (dTru (oX (dBin sIsi (dVarR 4) (oX (dC (.ty "bool"))))))) (dRet (dC (.bl false))) dNext))))
    (dRet (dC (.bl true)))))
theorem v_Lsame (ds : List D) (w : Om) (P : Bool → D → Om → Prop) (h : T_Lsame ds w P) : b_Lsame { nx := fun _ w => P false .non w, rt := P } (startD ["_law_found", "_law_due_here", "_law_one", "_law_home", "_law_room"] ds) w := by
  unfold b_Lsame
  obtain ⟨ls, a, bs, rfl, L, q⟩ := h
  have hs := sizeLine_eq
  obtain ⟨wa, nab, nd, hl, hb⟩ := L
  refine seq_n fun N hN => ?_
  try simp_arith [resC, wa, hl]
  refine hN _ _ ?_
  refine seq_n fun N hN => ?_
  try simp_arith []
  refine ⟨a, _, _, ⟨rfl, rfl⟩, wa, ?_⟩
  rw [zip_LL]
  refine forN_go (fun p : Addr × List Nat => D.tup [.ref p.1, nL p.2]) (fun _ δ w2 => w2 = w ∧ ∃ j2 j3 j4, δ = [some (false, .ref a), some (false, .lst (ls.map nL)), j2, j3, j4]) (bs.zip ls) ⟨rfl, _, _, _, rfl⟩ ?_ ?_
  · rintro pre ⟨b, r⟩ post δ w2 N2 C2 e ⟨rfl, j2, j3, j4, rfl⟩ hN2 hC2
    have hz : (bs.zip ls)[pre.length]? = some (b, r) := by rw [e]; simp
    obtain ⟨hz1, hz2⟩ := List.getElem?_zip_eq_some.mp hz
    have wb := hb _ _ _ hz1 hz2
    try simp_arith [resC, wb, nL]
    refine seq_n fun N3 hN3 => ?_
    try simp_arith [resC, wb]
    rw [sNe_nats]
    try simp_arith []
    refine hN3 _ _ ?_
    try simp_arith [resC, wb]
    refine ⟨b, _, rfl, wb, ?_⟩
    refine forN_go (fun n : Nat => D.int n) (fun _ δ w3 => w3 = w2 ∧ ∃ j4, δ = [some (false, .ref a), some (false, .lst (ls.map nL)), some (false, .ref b), some (false, nL r), j4]) r ⟨rfl, _, rfl⟩ ?_ ?_
    · rintro pre2 x post2 δ w3 N4 C4 e2 ⟨rfl, j4, rfl⟩ hN4 hC4
      try simp_arith []
      exact hN4 _ _ wb ⟨rfl, _, rfl⟩
    · rintro δ w3 ⟨rfl, j4, rfl⟩
      exact hN2 _ _ wa ⟨rfl, _, _, _, rfl⟩
  · rintro δ w2 ⟨rfl, j2, j3, j4, rfl⟩
    refine hN _ _ ?_
    try simp_arith []
    exact q
def T_Lmany : DSp := fun ds w P => ∃ l n : Nat, ds = [.int l, .int n] ∧ 1 ≤ n ∧ n ≤ 5000 ∧ l ≤ 500 ∧ P false (.int (min 5001 (n ^ l) : Nat)) w
theorem len_Lmany (ds : List D) (w : Om) (P : Bool → D → Om → Prop) (h : T_Lmany ds w P) : ds.length = 2 := by first | (have h := h.1; subst h; rfl) | (obtain ⟨rfl, _⟩ := h; rfl) | (obtain ⟨_, rfl, _⟩ := h; rfl) | (obtain ⟨_, _, rfl, _⟩ := h; rfl) | (obtain ⟨_, _, _, rfl, _⟩ := h; rfl) | (obtain ⟨_, _, _, _, rfl, _⟩ := h; rfl) | (obtain ⟨_, _, _, _, _, rfl, _⟩ := h; rfl) | (obtain ⟨_, _, _, _, _, _, rfl, _⟩ := h; rfl) | (obtain ⟨_, _, _, _, _, _, _, rfl, _⟩ := h; rfl) | (obtain ⟨_, _, _, _, _, _, _, _, rfl, _⟩ := h; rfl) | (obtain ⟨_, _, _, _, _, _, _, _, _, rfl, _⟩ := h; rfl) | (obtain ⟨_, _, _, _, _, _, _, _, _, _, rfl, _⟩ := h; rfl) | (obtain ⟨_, _, _, _, _, _, _, _, _, _, _, rfl, _⟩ := h; rfl) | (obtain ⟨_, _, _, _, _, _, _, _, _, _, _, _, rfl, _⟩ := h; rfl) | (obtain ⟨_, _, _, _, _, _, _, _, _, _, _, _, _, rfl, _⟩ := h; rfl)
def b_Lmany : DS := (dSeq (dSet false 2 (dC (.int 1)))
    (dSeq (dFor (dRng1 (dVarR 0)) (gN 3) (dSet false 2 (dBin sMin (oX (dC (.int 5001))) (oX (dBin sMulB (dVarR 2) (dVarR 1))))))
    (dRetV 2)))
theorem v_Lmany (ds : List D) (w : Om) (P : Bool → D → Om → Prop) (h : T_Lmany ds w P) : b_Lmany { nx := fun _ w => P false .non w, rt := P } (startD ["_law_letters", "_law_rooms", "_law_many_here", "_law_k"] ds) w := by
  unfold b_Lmany
  obtain ⟨l, n, rfl, h1, h2, h3, q⟩ := h
  refine seq_n fun N hN => ?_
  try simp_arith []
  refine hN _ _ ?_
  refine seq_n fun N hN => ?_
  try simp_arith []
  refine ⟨⟨by omega, by omega⟩, ?_⟩
  rw [Int.toNat_natCast]
  refine for_rng 0 _ (fun k δ w' => w' = w ∧ ∃ j, δ = [some (false, .int l), some (false, .int n), some (false, .int (min 5001 (n ^ k) : Nat)), j]) ⟨rfl, none, by simp⟩ ?_ ?_
  · rintro k δ w' N2 C2 hk ⟨rfl, j, rfl⟩ hN2 hC2
    have hm : min 5001 (min 5001 (n ^ k) * n) = min 5001 (n ^ (k + 1)) := by
      rw [Nat.pow_succ]
      by_cases c : n ^ k ≤ 5001
      · rw [Nat.min_eq_right c]
      · have : 5001 * n ≤ n ^ k * n := Nat.mul_le_mul_right _ (by omega)
        rw [Nat.min_eq_left (show 5001 ≤ n ^ k by omega)]
        have : 5001 ≤ 5001 * n := Nat.le_mul_of_pos_right _ h1
        omega
    have hle : min 5001 (n ^ k) ≤ 5001 := Nat.min_le_left _ _
    generalize min 5001 (n ^ k) = x at *
    try simp_arith []
    rw [show (x : Int) * (n : Int) = ((x * n : Nat) : Int) by rw [Int.natCast_mul]]
    refine ⟨mulC (by omega) (by omega), hN2 _ _ ⟨rfl, some (false, .int (0 + (k : Nat))), ?_⟩⟩
    rw [← hm, show (if ((x * n : Nat) : Int) < 5001 then ((x * n : Nat) : Int) else 5001) = ((min 5001 (x * n) : Nat) : Int) by split <;> omega]
  · rintro δ w' ⟨rfl, j, rfl⟩
    refine hN _ _ ?_
    try simp_arith []
    exact q
theorem rs_exc (w : Om) (cn : Str) (fs : List (Str × D)) : res w (.exc cn fs) = .exc cn fs := rfl
theorem rs_cls (w : Om) (c : Str) : res w (.cls c) = .cls c := rfl
def T_Lrefused : DSp := fun ds w P => ∃ (n l m : Nat) (tab : List (List Nat)) (rules : List (List Int)), ds = [.int m, lwD rules, .lst (tab.map nL)] ∧ GT n l tab ∧ m ≤ 500 ∧ (∀ r ∈ rules, StT m r ∧ r.length ≤ 200) ∧ 5000 < n ^ m ∧ P false (.bl true) w
theorem len_Lrefused (ds : List D) (w : Om) (P : Bool → D → Om → Prop) (h : T_Lrefused ds w P) : ds.length = 3 := by first | (have h := h.1; subst h; rfl) | (obtain ⟨rfl, _⟩ := h; rfl) | (obtain ⟨_, rfl, _⟩ := h; rfl) | (obtain ⟨_, _, rfl, _⟩ := h; rfl) | (obtain ⟨_, _, _, rfl, _⟩ := h; rfl) | (obtain ⟨_, _, _, _, rfl, _⟩ := h; rfl) | (obtain ⟨_, _, _, _, _, rfl, _⟩ := h; rfl) | (obtain ⟨_, _, _, _, _, _, rfl, _⟩ := h; rfl) | (obtain ⟨_, _, _, _, _, _, _, rfl, _⟩ := h; rfl) | (obtain ⟨_, _, _, _, _, _, _, _, rfl, _⟩ := h; rfl) | (obtain ⟨_, _, _, _, _, _, _, _, _, rfl, _⟩ := h; rfl) | (obtain ⟨_, _, _, _, _, _, _, _, _, _, rfl, _⟩ := h; rfl) | (obtain ⟨_, _, _, _, _, _, _, _, _, _, _, rfl, _⟩ := h; rfl) | (obtain ⟨_, _, _, _, _, _, _, _, _, _, _, _, rfl, _⟩ := h; rfl) | (obtain ⟨_, _, _, _, _, _, _, _, _, _, _, _, _, rfl, _⟩ := h; rfl)
def b_Lrefused : DS := (dSeq (dSet false 3 (dC .non))
    (dSeq (dTryK EXN 4 "YardError" (fun y1 => (dDrop (dCallX T_homes y1 (dCons (dVar 0) (dCons (dVar 1) (dCons (dVar 2) dNil)))))) (fun _ => (dSet false 3 (dVar 4))) xNo)
    (dSeq (dIf (dTOr (dB (dBin sIsN (dVarR 3) (oX (dC .non)))) (dTru (oX (dBin (sIsiE EXN XN) (dVarR 3) (oX (dTup (dCons (dC (.cls "NoOrder")) (dCons (dC (.cls "NoWord")) (dCons (dC (.cls "TooLong")) (dCons (dC (.cls "TooMany")) dNil)))))))))) (dRet (dC (.bl false))) dNext)
    (dRet (dBin (sIsiE EXN XN) (dVarR 3) (oX (dC (.cls "TooGreat"))))))))
theorem v_Lrefused (ds : List D) (w : Om) (P : Bool → D → Om → Prop) (h : T_Lrefused ds w P) : b_Lrefused { nx := fun _ w => P false .non w, rt := P } (startD ["_law_letters", "_law_rules_here", "_law_table_here", "_law_kept", "e"] ds) w := by
  unfold b_Lrefused
  obtain ⟨n, l, m, tab, rules, rfl, g, hm, hru, hp, q⟩ := h
  refine seq_n fun N hN => ?_
  try simp_arith []
  refine hN _ _ ?_
  refine seq_cut (fun δ w2 => w2 = w ∧ ∃ j4, δ = [some (false, .int m), some (false, lwD rules), some (false, .lst (tab.map nL)), some (false, .exc "TooGreat" []), j4]) (fun N hN => ?_) ?_
  · try simp_arith [dTryK, dCallX]
    refine ⟨rfl, n, l, m, tab, rules, rfl, g, hm, hru, fun hp2 => by omega, fun _ => ?_⟩
    refine ⟨true, by decide +kernel, fun _ a ha => ?_, fun z => nomatch z⟩
    try simp_arith [keepD, keepS]
    exact hN _ _ ⟨rfl, _, rfl⟩
  rintro δ w2 ⟨rfl, j4, rfl⟩
  refine seq_n fun N hN => ?_
  try simp_arith [rs_exc, rs_cls, sIsiE]
  refine ⟨by decide, by decide +kernel, false, by decide +kernel, ?_⟩
  try simp_arith []
  refine hN _ _ ?_
  try simp_arith [rs_exc, rs_cls, sIsiE]
  refine ⟨by decide +kernel, true, by decide +kernel, ?_⟩
  try simp_arith []
  exact q
/-! SPLIT -/
mutual
theorem eqv_py : ∀ d : D, PyData.eqv d.py d.py = true
  | .non => by simp [D.py, PyData.eqv]
  | .bl _ => by simp [D.py, PyData.eqv]
  | .int _ => by simp [D.py, PyData.eqv]
  | .str _ => by simp [D.py, PyData.eqv]
  | .lst ds => by simp [D.py, PyData.eqv, eqv_pyAll ds]
  | .tup ds => by simp [D.py, PyData.eqv, eqv_pyAll ds]
  | .ref _ => by simp [D.py, PyData.eqv]
  | .ty _ => by simp [D.py, PyData.eqv]
  | .dK _ => by simp [D.py, PyData.eqv]
  | .dT _ => by simp [D.py, PyData.eqv]
  | .fK _ => by simp [D.py, PyData.eqv]
  | .fT _ => by simp [D.py, PyData.eqv]
  | .exc _ _ => by simp [D.py, PyData.eqv]
  | .cls _ => by simp [D.py, PyData.eqv]
  | .scr ns => by
    simp only [D.py, PyData.eqv]
    induction ns with
    | nil => rfl
    | cons n ns ih => simp [PyData.eqvAll, PyData.eqv, ih]
theorem eqv_pyAll : ∀ ds : List D, PyData.eqvAll (pyAll ds) (pyAll ds) = true
  | [] => rfl
  | d :: ds => by simp [pyAll, PyData.eqvAll, eqv_py d, eqv_pyAll ds]
end
theorem sEq_self {d : D} (h : d.pl = true) (hd : d.py.depth ≤ 64) (P : Bool → D → Prop) : sEq d d P = P false (.bl true) := by
  unfold sEq
  have e : d.eqv d = true := eqv_py d
  rw [e]
  simp [h, hd]
theorem sNe_self {d : D} (h : d.pl = true) (hd : d.py.depth ≤ 64) (P : Bool → D → Prop) : sNe d d P = P false (.bl false) := by
  unfold sNe
  have e : d.eqv d = true := eqv_py d
  rw [e]
  simp [h, hd]
/-- plain data of little depth -/
structure Flat (d : D) (n : Nat) : Prop where
  pl : d.pl = true
  dep : d.py.depth ≤ n
theorem Flat.int (i : Int) (n : Nat) : Flat (.int i) n := ⟨rfl, Nat.zero_le _⟩
theorem Flat.str (i : Str) (n : Nat) : Flat (.str i) n := ⟨rfl, Nat.zero_le _⟩
theorem Flat.all {n : Nat} : ∀ {ds : List D}, (∀ d ∈ ds, Flat d n) → plAll ds = true ∧ PyData.depthAll (pyAll ds) ≤ n
  | [], _ => ⟨rfl, Nat.zero_le _⟩
  | d :: ds, h => by
    obtain ⟨a, b⟩ := Flat.all (ds := ds) fun x hx => h x (List.mem_cons_of_mem _ hx)
    have := h d List.mem_cons_self
    exact ⟨by rw [plAll, this.pl, a]; rfl, by rw [pyAll, PyData.depthAll]; exact Nat.max_le.mpr ⟨this.dep, b⟩⟩
theorem Flat.lst {n : Nat} {ds : List D} (h : ∀ d ∈ ds, Flat d n) : Flat (.lst ds) (n + 1) := ⟨(Flat.all h).1, Nat.succ_le_succ (Flat.all h).2⟩
theorem Flat.tup {n : Nat} {ds : List D} (h : ∀ d ∈ ds, Flat d n) : Flat (.tup ds) (n + 1) := ⟨(Flat.all h).1, Nat.succ_le_succ (Flat.all h).2⟩
theorem Flat.eq {d : D} {n : Nat} (h : Flat d n) (hn : n ≤ 64) (P : Bool → D → Prop) : sEq d d P = P false (.bl true) := sEq_self h.pl (Nat.le_trans h.dep hn) P
theorem Flat.ne {d : D} {n : Nat} (h : Flat d n) (hn : n ≤ 64) (P : Bool → D → Prop) : sNe d d P = P false (.bl false) := sNe_self h.pl (Nat.le_trans h.dep hn) P

theorem good_car {p : Nat} {ts come tab : List (List Nat)} (tb : Tbl p ts come tab) (tns : Tns p ts) {n l : Nat} {ws rules : List (List Int)} (hn : come.length = n) (lw : LW n ts.length tab ws) (R : RuL l rules) {h : List Nat} (hh : h ∈ allH n l) : carB tab (h.map (wayOf ws)) rules = goodH p come rules h := by
  obtain ⟨hhl, hhn⟩ := allH_mem.mp hh
  have hw : ∀ r ∈ h, lead tab 0 (wayOf ws r) = r ∧ StT ts.length (wayOf ws r) := fun r hr => by
    have hrn := hhn r hr
    have hwl := lw.len
    have e : ws[r]? = some (wayOf ws r) := by unfold wayOf; rw [List.getElem?_eq_getElem (by omega)]; rfl
    obtain ⟨a, b, _⟩ := lw.ok r _ e
    exact ⟨a, b⟩
  have hst : ∀ im ∈ h.map (wayOf ws), StT ts.length im := fun im him => by
    obtain ⟨r, hr, rfl⟩ := List.mem_map.mp him
    exact (hw r hr).2
  have hmv : movesOf p ts (h.map (wayOf ws)) = movH come h := by
    unfold movesOf movH
    rw [List.map_map]
    refine List.map_congr_left fun r hr => ?_
    have := tbl_lead tb tb.c0 (hw r hr).2
    rw [(hw r hr).1] at this
    rw [this]
    rfl
  unfold carB goodH
  rw [Bool.eq_iff_iff, List.all_eq_true, List.all_eq_true]
  have key : ∀ r ∈ rules, (lead tab 0 (fillW (h.map (wayOf ws)) r) = 0 ↔ thr (movH come h) (idP p) r = idP p) := fun r hr => by
    have h1 := tbl_lead tb tb.c0 (st_fill hst r)
    rw [thr_fill tns hst (by rw [List.length_map, hhl]; exact (R.st r hr).1) (pm_id p), hmv] at h1
    constructor
    · intro e
      rw [e, tb.c0] at h1
      exact (Option.some.inj h1).symm
    · intro e
      rw [e] at h1
      exact nodup_same tb.nd h1 tb.c0
  constructor
  · intro a r hr
    exact decide_eq_true ((key r hr).mp (of_decide_eq_true (a r hr)))
  · intro a r hr
    exact decide_eq_true ((key r hr).mpr (of_decide_eq_true (a r hr)))
theorem due_homes {p : Nat} {ts come tab : List (List Nat)} (tb : Tbl p ts come tab) (tns : Tns p ts) {l : Nat} {ws rules : List (List Int)} (lw : LW come.length ts.length tab ws) (R : RuL l rules) : homesF come.length l tab ws rules = dueH p come l rules := by
  unfold homesF dueH
  exact List.filter_congr fun h hh => good_car tb tns rfl lw R hh
def someL : List (Nat × Nat) := [(70, 2), (71, 2), (17, 3), (18, 3), (8, 4), (9, 4), (5, 5), (6, 5), (2, 12), (2, 13), (1, 200)]
/-- the law's table: turnings, and what bounds them -/
structure Ts (p : Nat) (ts : List (List Nat)) (l : Nat) (e : Bool) : Prop where
  tns : Tns p ts
  p1 : 1 ≤ p
  p2 : p ≤ 100
  tl : ts.length ≤ 3
  all : ∃ All, AllOk p ts All
  l1 : 1 ≤ l
  l2 : l ≤ 200
  le : e = false → l ≤ 3
def T_law : DSp := fun ds w P => lawT ds w P
theorem len_law (ds : List D) (w : Om) (P : Bool → D → Om → Prop) (h : T_law ds w P) : ds.length = 1 := by first | (have h := h.1; subst h; rfl) | (obtain ⟨rfl, _⟩ := h; rfl) | (obtain ⟨_, rfl, _⟩ := h; rfl) | (obtain ⟨_, _, rfl, _⟩ := h; rfl) | (obtain ⟨_, _, _, rfl, _⟩ := h; rfl) | (obtain ⟨_, _, _, _, rfl, _⟩ := h; rfl) | (obtain ⟨_, _, _, _, _, rfl, _⟩ := h; rfl) | (obtain ⟨_, _, _, _, _, _, rfl, _⟩ := h; rfl) | (obtain ⟨_, _, _, _, _, _, _, rfl, _⟩ := h; rfl) | (obtain ⟨_, _, _, _, _, _, _, _, rfl, _⟩ := h; rfl) | (obtain ⟨_, _, _, _, _, _, _, _, _, rfl, _⟩ := h; rfl) | (obtain ⟨_, _, _, _, _, _, _, _, _, _, rfl, _⟩ := h; rfl) | (obtain ⟨_, _, _, _, _, _, _, _, _, _, _, rfl, _⟩ := h; rfl) | (obtain ⟨_, _, _, _, _, _, _, _, _, _, _, _, rfl, _⟩ := h; rfl) | (obtain ⟨_, _, _, _, _, _, _, _, _, _, _, _, _, rfl, _⟩ := h; rfl)
def b_law : DS := (dSeq (dSet false 1 (dCall T_Lmix (dCons (dCall T_Lat (dCons (dVar 0) (dCons (dC (.int 0)) dNil))) (dCons (dC (.int 0)) dNil))))
    (dSeq (dSet false 2 (dBin sAdd (oX (dC (.int 1))) (oX (dBin sMod (oX (dBin sFdiv (dVarR 1) (oX (dC (.int 4))))) (oX (dC (.int 4)))))))
    (dSeq (dSet false 3 (dCall T_Lturns (dCons (dCall T_Lmix (dCons (dCall T_Lat (dCons (dVar 0) (dCons (dC (.int 0)) dNil))) (dCons (dC (.int 1)) dNil))) (dCons (dBin sAdd (oX (dC (.int 1))) (oX (dBin sMod (oX (dBin sFdiv (dVarR 1) (oX (dC (.int 2))))) (oX (dC (.int 2)))))) (dCons (dVar 2) dNil)))))
    (dSeq (dSet false 4 (dBin sAdd (oX (dC (.int 1))) (oX (dBin sMod (oX (dBin sFdiv (dVarR 1) (oX (dC (.int 16))))) (oX (dC (.int 3)))))))
    (dSeq (dSet false 5 (dBin sEq (oX (dBin sMod (oX (dBin sFdiv (dVarR 1) (oX (dC (.int 48))))) (oX (dC (.int 8))))) (oX (dC (.int 0)))))
    (dSeq (dIf (dTru (dVarR 5)) (dSeq (dSet false 6 (dLst (dCons (dTup (dCons (dC (.int 70)) (dCons (dC (.int 2)) dNil))) (dCons (dTup (dCons (dC (.int 71)) (dCons (dC (.int 2)) dNil))) (dCons (dTup (dCons (dC (.int 17)) (dCons (dC (.int 3)) dNil))) (dCons (dTup (dCons (dC (.int 18)) (dCons (dC (.int 3)) dNil))) (dCons (dTup (dCons (dC (.int 8)) (dCons (dC (.int 4)) dNil))) (dCons (dTup (dCons (dC (.int 9)) (dCons (dC (.int 4)) dNil))) (dCons (dTup (dCons (dC (.int 5)) (dCons (dC (.int 5)) dNil))) (dCons (dTup (dCons (dC (.int 6)) (dCons (dC (.int 5)) dNil))) (dCons (dTup (dCons (dC (.int 2)) (dCons (dC (.int 12)) dNil))) (dCons (dTup (dCons (dC (.int 2)) (dCons (dC (.int 13)) dNil))) (dCons (dTup (dCons (dC (.int 1)) (dCons (dC (.int 200)) dNil))) dNil)))))))))))))
    (dSeq (dAsg (dBin sIx (dVarR 6) (oX (dBin sMod (oX (dBin sFdiv (dVarR 1) (oX (dC (.int 384))))) (oX (dC (.int 11)))))) (gT 2 (gsC (gN 2) (gsC (gN 4) gsN))))
    (dSet false 3 (dLst (dCons (dUn sTuple (oX (dBin sAdd (oX (dBin sLR2 (oX (dC (.int 1))) (dVarR 2))) (oX (dLst (dCons (dC (.int 0)) dNil)))))) dNil))))) dNext)
    (dSeq (dAsg (dCall T_Ltable (dCons (dVar 3) (dCons (dVar 2) dNil))) (gT 2 (gsC (gN 7) (gsC (gN 8) gsN))))
    (dSeq (dIf (dTAnd (dTNot (dTru (dVarR 5))) (dB (dBin sGt (oX (dCall T_Lmany (dCons (dVar 4) (dCons (dUn sLenA (dVarR 8)) dNil)))) (oX (dC (.int 150)))))) (dSet false 4 (dC (.int 1))) dNext)
    (dSeq (dSet false 9 (dLst dNil))
    (dSeq (dIf (dTNot (dTru (dVarR 5))) (dSet false 9 (dCall T_Lrules (dCons (dVar 0) (dCons (dVar 4) (dCons (dCall T_Lmix (dCons (dCall T_Lat (dCons (dVar 0) (dCons (dC (.int 1)) dNil))) (dCons (dC (.int 0)) dNil))) dNil))))) dNext)
    (dSeq (dSet false 10 (dLst (dCons (dUn sList (dVarR 9)) (dCons (dLc (dIt (dVar 7)) (gN 13) dYes (dUn sList (dVarR 13)) [13]) dNil))))
    (dSeq (dIf (dB (dBin sGt (oX (dCall T_Lmany (dCons (dVar 4) (dCons (dUn sLenA (dVarR 8)) dNil)))) (oX (dC (.int 5000))))) (dRet (dAndV (dCall T_Lrefused (dCons (dVar 4) (dCons (dBin sIx (dVarR 10) (oX (dC (.int 0)))) (dCons (dBin sIx (dVarR 10) (oX (dC (.int 1)))) dNil)))) (dBin sEq (dVarR 10) (oX (dLst (dCons (dVar 9) (dCons (dVar 7) dNil))))))) dNext)
    (dSeq (dSet false 11 (dCall T_Ldue (dCons (dVar 4) (dCons (dVar 9) (dCons (dVar 8) dNil)))))
    (dSeq (dSet false 12 (dCallX T_homes xNo (dCons (dVar 4) (dCons (dBin sIx (dVarR 10) (oX (dC (.int 0)))) (dCons (dBin sIx (dVarR 10) (oX (dC (.int 1)))) dNil)))))
    (dSeq (dIf (dTOr (dTNot (dTru (oX (dCall T_Lsame (dCons (dVar 12) (dCons (dVar 11) dNil)))))) (dTru (dVarR 5))) (dRet (dCall T_Lsame (dCons (dVar 12) (dCons (dVar 11) dNil)))) dNext)
    (dSeq (dAppN true (dVarR 12) (dLst (dCons (dC (.int 0)) dNil)))
    (dSeq (dAppN false (oX (dBin sIx (dVarR 12) (oX (dC (.int 0))))) (dC (.int 0)))
    (dRet (dAndV (dCall T_Lsame (dCons (dCallX T_homes xNo (dCons (dVar 4) (dCons (dBin sIx (dVarR 10) (oX (dC (.int 0)))) (dCons (dBin sIx (dVarR 10) (oX (dC (.int 1)))) dNil)))) (dCons (dVar 11) dNil))) (dBin sEq (dVarR 10) (oX (dLst (dCons (dVar 9) (dCons (dVar 7) dNil))))))))))))))))))))))))
theorem v_law (ds : List D) (w : Om) (P : Bool → D → Om → Prop) (h : T_law ds w P) : b_law { nx := fun _ w => P false .non w, rt := P } (startD ["_law_script", "_law_number", "_law_points", "_law_turns_here", "_law_letters", "_law_edge", "_law_some", "_law_table_here", "_law_come", "_law_rules_here", "_law_handed", "_law_due_here", "_law_told", "_law_row"] ds) w := by
  unfold b_law
  obtain ⟨ns, rfl, hl, rfl, q⟩ := h
  have hs := sizeLine_eq
  refine seq_n fun N hN => ?_
  try simp_arith []
  refine ⟨ns, 0, rfl, by omega, by omega, fun x0 => ⟨x0, 0, rfl, by omega, by omega, fun x hx => ?_⟩⟩
  refine hN _ _ ?_
  refine seq_n fun N hN => ?_
  try simp_arith []
  obtain ⟨p, hp, hp1, hp4⟩ : ∃ p : Nat, 1 + (x : Int) / 4 % 4 = p ∧ 1 ≤ p ∧ p ≤ 4 := ⟨1 + x / 4 % 4, by omega, by omega, by omega⟩
  rw [hp]
  refine ⟨divC (by omega) (by omega), by omega, hN _ _ ?_⟩
  refine seq_n fun N hN => ?_
  try simp_arith []
  refine ⟨ns, 0, rfl, by omega, by omega, fun x1 => ⟨x1, 1, rfl, by omega, by omega, fun x2 hx2 => ?_⟩⟩
  try simp_arith []
  obtain ⟨m, hm, hm1, hm2⟩ : ∃ m : Nat, 1 + (x : Int) / 2 % 2 = m ∧ 1 ≤ m ∧ m ≤ 2 := ⟨1 + x / 2 % 2, by omega, by omega, by omega⟩
  rw [hm]
  refine ⟨divC (by omega) (by omega), by omega, x2, m, p, rfl, by omega, hp1, hp4, fun w1 ts htl tns => ?_⟩
  refine hN _ _ ?_
  refine seq_n fun N hN => ?_
  try simp_arith []
  obtain ⟨l, hle, hl1, hl3⟩ : ∃ l : Nat, 1 + (x : Int) / 16 % 3 = l ∧ 1 ≤ l ∧ l ≤ 3 := ⟨1 + x / 16 % 3, by omega, by omega, by omega⟩
  rw [hle]
  refine ⟨divC (by omega) (by omega), by omega, hN _ _ ?_⟩
  refine seq_n fun N hN => ?_
  try simp_arith []
  refine ⟨divC (by omega) (by omega), by omega, hN _ _ ?_⟩
  generalize decide ((x : Int) / 48 % 8 = 0) = e
  refine seq_cut (fun δ w2 => ∃ (p l : Nat) (ts : List (List Nat)) (j6 : Option (Bool × D)), Ts p ts l e ∧ δ = [some (false, .scr ns), some (false, .int x), some (false, .int p), some (false, .lst (ts.map nD)), some (false, .int l), some (false, .bl e), j6, none, none, none, none, none, none, none]) (fun N hN => ?_) ?_
  · try simp_arith []
    refine if_join (fun he => ?_) (fun he => hN _ _ ⟨p, l, ts, none, ⟨tns, hp1, by omega, by omega, ⟨_, all_small hp4 tns⟩, hl1, by omega, fun _ => hl3⟩, rfl⟩)
    refine seq_n fun N2 hN2 => ?_
    try simp_arith []
    have e0 : D.lst [D.tup [D.int 70, D.int 2], D.tup [D.int 71, D.int 2], D.tup [D.int 17, D.int 3], D.tup [D.int 18, D.int 3], D.tup [D.int 8, D.int 4], D.tup [D.int 9, D.int 4], D.tup [D.int 5, D.int 5], D.tup [D.int 6, D.int 5], D.tup [D.int 2, D.int 12], D.tup [D.int 2, D.int 13], D.tup [D.int 1, D.int 200]] = D.lst (someL.map fun q => D.tup [.int q.1, .int q.2]) := rfl
    rw [e0]
    iterate 12 (refine ⟨by omega, ?_⟩)
    refine hN2 _ _ ?_
    refine seq_n fun N2 hN2 => ?_
    try simp_arith []
    obtain ⟨k, hk, hk2⟩ : ∃ k : Nat, (x : Int) / 384 % 11 = k ∧ k < 11 := ⟨x / 384 % 11, by omega, by omega⟩
    rw [hk]
    have hk3 : k < someL.length := hk2
    have hall : ∀ q ∈ someL, 1 ≤ q.1 ∧ q.1 ≤ 71 ∧ 1 ≤ q.2 ∧ q.2 ≤ 200 := by decide
    have hq := hall _ (List.getElem_mem hk3)
    have hqa : atI (someL.map fun q => D.tup [.int q.1, .int q.2]) (k : Int) = some (D.tup [.int (someL[k]).1, .int (someL[k]).2]) := atI_f (fun q : Nat × Nat => D.tup [.int q.1, .int q.2]) (by omega) (by rw [Int.toNat_natCast]; exact List.getElem?_eq_getElem hk3)
    refine ⟨divC (by omega) (by omega), by omega, _, hqa, ?_⟩
    generalize someL[k] = pl at hq
    obtain ⟨p, l⟩ := pl
    dsimp only at hq ⊢
    try simp_arith []
    refine hN2 _ _ ?_
    try simp_arith []
    obtain ⟨hp1, hp71, hl1, hl200⟩ := hq
    have erot : D.tup (rngD 1 ((p : Int) - 1).toNat ++ [D.int 0]) = nD (rot p (1 % p)) := by
      unfold nD rngD
      congr 1
      refine List.ext_getElem (by simp [rot_len]; omega) fun i h1 h2 => ?_
      simp [rot_len] at h2
      by_cases hi : i < p - 1
      · have hr : (rot p (1 % p))[i]'(by rw [rot_len]; omega) = i + 1 := by
          rw [rot_get, Nat.mod_eq_of_lt (a := 1) (by omega), Nat.mod_eq_of_lt (a := i + 1) (by omega)]
        rw [List.getElem_append_left (by simp; omega)]
        simp only [List.getElem_map, List.getElem_range, hr]
        congr 1
        omega
      · have hie : i = p - 1 := by omega
        have hr : (rot p (1 % p))[i]'(by rw [rot_len]; omega) = 0 := by
          rw [rot_get]
          by_cases h1 : p = 1
          · subst h1; exact Nat.mod_one _
          · rw [Nat.mod_eq_of_lt (a := 1) (by omega), show i + 1 = p by omega, Nat.mod_self]
        rw [List.getElem_append_right (by simp; omega)]
        simp only [List.getElem_map, hr]
        simp
    refine ⟨RgOk.of_le (by omega) (by omega) (by omega) (by omega), by omega, by rw [rngD_length]; omega, by omega, ?_⟩
    rw [erot]
    exact hN _ _ ⟨p, l, [rot p (1 % p)], _, ⟨rot_tns (by omega), by omega, by omega, by simp, ⟨_, all_rot (by omega) (by omega)⟩, by omega, by omega, fun z => by rw [z] at he; cases he⟩, rfl⟩
  rintro δ w2 ⟨p, l, ts, j6, T, rfl⟩
  obtain ⟨All, aok⟩ := T.all
  refine seq_n fun N hN => ?_
  try simp_arith []
  refine ⟨p, ts, All, rfl, T.tns, T.p2, T.tl, aok, fun w3 come tab hA tb rc => ?_⟩
  have hcl := aok.le tb.nd hA
  have g := tbl_gt tb rc T.tl hcl
  have hc1 := g.n1
  try simp_arith []
  refine hN _ _ ?_
  refine seq_cut (fun δ w4 => w4 = w3 ∧ ∃ l : Nat, 1 ≤ l ∧ l ≤ 200 ∧ δ = [some (false, .scr ns), some (false, .int x), some (false, .int p), some (false, .lst (ts.map nD)), some (false, .int l), some (false, .bl e), j6, some (false, .lst (tab.map nL)), some (false, .lst (come.map nD)), none, none, none, none, none]) (fun N hN => ?_) ?_
  · have hl1 := T.l1
    have hl2 := T.l2
    try simp_arith []
    refine if_join (fun he => ?_) (fun he => hN _ _ ⟨rfl, l, T.l1, T.l2, rfl⟩)
    have he : e = false := by simpa using he
    refine ⟨l, come.length, rfl, hc1, by omega, by omega, ?_⟩
    try simp_arith []
    exact if_join (fun _ => hN _ _ ⟨rfl, 1, by omega, by omega, rfl⟩) (fun _ => hN _ _ ⟨rfl, l, T.l1, T.l2, rfl⟩)
  rintro δ w4 ⟨rfl, l, hl1, hl2, rfl⟩
  refine seq_n fun N hN => ?_
  try simp_arith []
  refine hN _ _ ?_
  refine seq_cut (fun δ w5 => ∃ rules : List (List Int), RuL l rules ∧ δ = [some (false, .scr ns), some (false, .int x), some (false, .int p), some (false, .lst (ts.map nD)), some (false, .int l), some (false, .bl e), j6, some (false, .lst (tab.map nL)), some (false, .lst (come.map nD)), some (false, lwD rules), none, none, none, none]) (fun N hN => ?_) ?_
  · try simp_arith []
    refine if_join (fun he => ?_) (fun he => hN _ _ ⟨[], ⟨(fun r h => nomatch h), by simp⟩, rfl⟩)
    refine ⟨ns, 1, rfl, by omega, by omega, fun x3 => ⟨x3, 0, rfl, by omega, by omega, fun x4 hx4 => ?_⟩⟩
    exact ⟨ns, l, x4, rfl, by omega, hl1, hl2, fun w5 rules R => hN _ _ ⟨rules, R, rfl⟩⟩
  rintro δ w5 ⟨rules, R, rfl⟩
  refine seq_n fun N hN => ?_
  try simp_arith [lwD]
  refine lc_map nL nL tab (fun r hr P hP => ?_) [] (by have := g.len; simp; omega) ?_
  · try simp_arith [nL]
    exact hP _
  try simp_arith []
  refine ⟨by omega, hN _ _ ?_⟩
  have R2 : ∀ r ∈ rules, StT l r ∧ r.length ≤ 200 := R.st
  have tbl : tab.length = come.length := tb.len
  have same : ∀ {w' : Om} {P : Bool → D → Om → Prop}, P false (.bl true) w' → sEq (D.lst [D.lst (rules.map wD), D.lst (tab.map nL)]) (D.lst [D.lst (rules.map wD), D.lst (tab.map nL)]) fun b d => P b d w' := fun {w' P} hP => by
    have fi : ∀ i : Int, Flat (.int i) 0 := fun i => Flat.int i 0
    have f1 : Flat (D.lst (rules.map wD)) 2 := Flat.lst fun d hd => by
      obtain ⟨r, _, rfl⟩ := List.mem_map.mp hd
      exact Flat.tup fun d hd => by
        obtain ⟨i, _, rfl⟩ := List.mem_map.mp hd
        exact fi i
    have f2 : Flat (D.lst (tab.map nL)) 2 := Flat.lst fun d hd => by
      obtain ⟨r, _, rfl⟩ := List.mem_map.mp hd
      exact Flat.lst fun d hd => by
        obtain ⟨i, _, rfl⟩ := List.mem_map.mp hd
        exact fi _
    rw [Flat.eq (Flat.lst (n := 2) fun d hd => by
      rcases List.mem_cons.mp hd with h | h
      · rw [h]; exact f1
      · rw [List.mem_singleton.mp h]; exact f2) (by decide)]
    exact hP
  refine seq_n fun N hN => ?_
  try simp_arith []
  refine ⟨l, come.length, rfl, hc1, by omega, by omega, ?_⟩
  try simp_arith []
  refine if_join (fun c => ?_) (fun c => hN _ _ ?_)
  · have c : 5000 < come.length ^ l := by have := of_decide_eq_true c; omega
    refine ⟨_, rfl, _, rfl, come.length, ts.length, l, tab, rules, rfl, g, by omega, R2, c, ?_⟩
    try simp_arith []
    refine ⟨by omega, ?_⟩
    exact same (q _)
  have hp : come.length ^ l ≤ 5000 := by
    refine Classical.byContradiction fun z => c (decide_eq_true ?_)
    omega
  refine seq_n fun N hN => ?_
  try simp_arith []
  refine ⟨p, l, come, rules, rfl, tb.toCome, by omega, by omega, by have := T.p2; omega, hp, R, ?_⟩
  refine hN _ _ ?_
  refine seq_n fun N hN => ?_
  try simp_arith [dCallX]
  refine ⟨_, rfl, _, rfl, come.length, ts.length, l, tab, rules, rfl, g, by omega, R2, fun _ ws lw w6 a bs hx6 hwa hwb L => ?_, fun z => by omega⟩
  rw [due_homes tb T.tns lw R] at L
  refine hN _ _ ?_
  obtain ⟨ls, hls⟩ : ∃ ls, ls = dueH p come l rules := ⟨_, rfl⟩
  rw [← hls] at L ⊢
  refine seq_n fun N hN => ?_
  try simp_arith []
  refine ⟨ls, a, bs, rfl, L, ?_⟩
  try simp_arith []
  refine if_join (fun _ => ⟨ls, a, bs, rfl, L, q _⟩) (fun _ => hN _ _ ?_)
  have hlsl : ls.length ≤ 5000 := by
    have := List.length_filter_le (goodH p come rules) (allH come.length l)
    rw [allH_len] at this
    rw [hls]
    unfold dueH
    omega
  have hbl := L.2.2.2.1
  refine seq_n fun N hN => ?_
  try simp_arith []
  refine ⟨a, _, rfl, L.1, by omega, fun c hc => ?_⟩
  have nac : a ≠ c := fun z => by rw [← z, L.1] at hc; cases hc
  refine ⟨_, by rw [updW_ne nac]; exact L.1, by simp; omega, hN _ _ ?_⟩
  obtain ⟨w8, hw8⟩ : ∃ w8, w8 = updW (updW w6 c (Cell.lst [D.int 0])) a (Cell.lst (List.map D.ref bs ++ [D.ref c])) := ⟨_, rfl⟩
  have ha8 : w8 a = some (Cell.lst (List.map D.ref bs ++ [D.ref c])) := by rw [hw8, updW_same]
  have hc8 : w8 c = some (Cell.lst [D.int 0]) := by rw [hw8, updW_ne (Ne.symm nac), updW_same]
  obtain ⟨b0, xs, hb0, hxs, hxl⟩ : ∃ b0 xs, atI (List.map D.ref bs ++ [D.ref c]) 0 = some (D.ref b0) ∧ w8 b0 = some (Cell.lst xs) ∧ xs.length ≤ 500 := by
    cases hbs : bs with
    | nil => exact ⟨c, _, rfl, hc8, by simp⟩
    | cons b bs' =>
      have hls0 : ∃ r, ls[0]? = some r := by
        rw [hbs] at hbl
        cases h9 : ls with
        | nil => rw [h9] at hbl; simp at hbl
        | cons r _ => exact ⟨r, rfl⟩
      obtain ⟨r, hr⟩ := hls0
      have hwb := L.2.2.2.2 0 b r (by rw [hbs]; rfl) hr
      have hba : b ≠ a := fun z => L.2.1 (by rw [hbs, ← z]; simp)
      have hbc : b ≠ c := fun z => by rw [z, hc] at hwb; cases hwb
      have hrl : r.length = l := by
        have := List.mem_of_getElem? hr
        rw [hls] at this
        exact (allH_mem.mp (List.mem_filter.mp this).1).1
      refine ⟨b, r.map fun n : Nat => D.int n, by rw [atI_nn (by omega) (by simp; omega)]; rfl, ?_, by simp; omega⟩
      rw [hw8, updW_ne hba, updW_ne hbc]
      exact hwb
  rw [← hw8]
  refine seq_n fun N hN => ?_
  try simp_arith [resC, ha8]
  refine ⟨_, hb0, b0, _, rfl, hxs, _, hxs, by omega, hN _ _ ?_⟩
  generalize updW w8 b0 _ = w9
  try simp_arith [dCallX]
  refine ⟨_, rfl, _, rfl, come.length, ts.length, l, tab, rules, rfl, g, by omega, R2, fun _ ws lw w6 a bs hx6 hwa hwb L => ?_, fun z => by omega⟩
  rw [due_homes tb T.tns lw R, ← hls] at L
  try simp_arith []
  refine ⟨ls, a, bs, rfl, L, ?_⟩
  try simp_arith []
  refine ⟨by omega, ?_⟩
  exact same (q _)

/-! ### the defs by their places, and that they do so -/
def top (i : Nat) : Stmt := PySem.Challenge.pw_cosetyard_k72_homes.main.body.getD i (.Pass ⟨0, 0, 0, 0⟩)
structure Bs (mg : Str → Option Value) : Prop where
  abs_ : mg "abs" = none
  bool_ : mg "bool" = none
  int_ : mg "int" = none
  isinstance_ : mg "isinstance" = none
  len_ : mg "len" = none
  list_ : mg "list" = none
  min_ : mg "min" = none
  range_ : mg "range" = none
  tuple_ : mg "tuple" = none
  zip_ : mg "zip" = none
abbrev s_steps_of : Stmt := top 8
theorem sc_steps_of : FnScope ["letters", "steps", "letter"] ["letters"] (defScope s_steps_of) := ⟨rfl, rfl, rfl, by decide +kernel, rfl, by decide +kernel, by decide +kernel⟩
abbrev s_back : Stmt := top 9
theorem sc_back : FnScope ["word", "step"] ["word"] (defScope s_back) := ⟨rfl, rfl, rfl, by decide +kernel, rfl, by decide +kernel, by decide +kernel⟩
abbrev s_led : Stmt := top 12
theorem sc_led : FnScope ["table", "room", "word", "step"] ["table", "room", "word"] (defScope s_led) := ⟨rfl, rfl, rfl, by decide +kernel, rfl, by decide +kernel, by decide +kernel⟩
abbrev s_least_ways : Stmt := top 14
theorem sc_least_ways : FnScope ["table", "steps", "ways", "come", "at", "room", "step", "other"] ["table"] (defScope s_least_ways) := ⟨rfl, rfl, rfl, by decide +kernel, rfl, by decide +kernel, by decide +kernel⟩
abbrev s_filled_in : Stmt := top 10
theorem sc_filled_in : FnScope ["word", "images", "found", "step"] ["word", "images"] (defScope s_filled_in) := ⟨rfl, rfl, rfl, by decide +kernel, rfl, by decide +kernel, by decide +kernel⟩
abbrev s_carries : Stmt := top 17
theorem sc_carries : FnScope ["rules", "table", "images", "rule"] ["rules", "table", "images"] (defScope s_carries) := ⟨rfl, rfl, rfl, by decide +kernel, rfl, by decide +kernel, by decide +kernel⟩
abbrev s_choices : Stmt := top 18
theorem sc_choices : FnScope ["letters", "rooms", "many", "letter"] ["letters", "rooms"] (defScope s_choices) := ⟨rfl, rfl, rfl, by decide +kernel, rfl, by decide +kernel, by decide +kernel⟩
abbrev s_choice : Stmt := top 19
theorem sc_choice : FnScope ["number", "letters", "rooms", "home", "letter"] ["number", "letters", "rooms"] (defScope s_choice) := ⟨rfl, rfl, rfl, by decide +kernel, rfl, by decide +kernel, by decide +kernel⟩
abbrev s_homes : Stmt := top 20
theorem sc_homes : FnScope ["letters", "rules", "table", "many", "ways", "found", "number", "home", "room"] ["letters", "rules", "table"] (defScope s_homes) := ⟨rfl, rfl, rfl, by decide +kernel, rfl, by decide +kernel, by decide +kernel⟩
abbrev s_Lat : Stmt := top 22
theorem sc_Lat : FnScope ["_law_script", "_law_k"] ["_law_script", "_law_k"] (defScope s_Lat) := ⟨rfl, rfl, rfl, by decide +kernel, rfl, by decide +kernel, by decide +kernel⟩
abbrev s_Lmix : Stmt := top 23
theorem sc_Lmix : FnScope ["_law_number", "_law_place", "_law_part"] ["_law_number", "_law_place"] (defScope s_Lmix) := ⟨rfl, rfl, rfl, by decide +kernel, rfl, by decide +kernel, by decide +kernel⟩
abbrev s_Lturns : Stmt := top 24
theorem sc_Lturns : FnScope ["_law_number", "_law_letters", "_law_points", "_law_turns_here", "_law_k", "_law_row", "_law_j", "_law_at_here", "_law_kept"] ["_law_number", "_law_letters", "_law_points"] (defScope s_Lturns) := ⟨rfl, rfl, rfl, by decide +kernel, rfl, by decide +kernel, by decide +kernel⟩
abbrev s_Lback : Stmt := top 25
theorem sc_Lback : FnScope ["_law_turned", "_law_found", "_law_k"] ["_law_turned"] (defScope s_Lback) := ⟨rfl, rfl, rfl, by decide +kernel, rfl, by decide +kernel, by decide +kernel⟩
abbrev s_Lthrough : Stmt := top 26
theorem sc_Lthrough : FnScope ["_law_turns_here", "_law_word_here", "_law_points", "_law_spots", "_law_step", "_law_turned", "_law_spot"] ["_law_turns_here", "_law_word_here", "_law_points"] (defScope s_Lthrough) := ⟨rfl, rfl, rfl, by decide +kernel, rfl, by decide +kernel, by decide +kernel⟩
abbrev s_Ltable : Stmt := top 27
theorem sc_Ltable : FnScope ["_law_turns_here", "_law_points", "_law_come", "_law_table_here", "_law_spots", "_law_row", "_law_k", "_law_turned", "_law_other", "_law_spot"] ["_law_turns_here", "_law_points"] (defScope s_Ltable) := ⟨rfl, rfl, rfl, by decide +kernel, rfl, by decide +kernel, by decide +kernel⟩
abbrev s_Lword : Stmt := top 28
theorem sc_Lword : FnScope ["_law_cells", "_law_letters", "_law_steps", "_law_cell", "_law_number", "_law_step"] ["_law_cells", "_law_letters"] (defScope s_Lword) := ⟨rfl, rfl, rfl, by decide +kernel, rfl, by decide +kernel, by decide +kernel⟩
abbrev s_Lrules : Stmt := top 29
theorem sc_Lrules : FnScope ["_law_script", "_law_letters", "_law_number", "_law_rules_here", "_law_k", "_law_some", "_law_kept", "_law_cell"] ["_law_script", "_law_letters", "_law_number"] (defScope s_Lrules) := ⟨rfl, rfl, rfl, by decide +kernel, rfl, by decide +kernel, by decide +kernel⟩
abbrev s_Llists : Stmt := top 30
theorem sc_Llists : FnScope ["_law_letters", "_law_many_here", "_law_found", "_law_k", "_law_longer", "_law_one", "_law_room"] ["_law_letters", "_law_many_here"] (defScope s_Llists) := ⟨rfl, rfl, rfl, by decide +kernel, rfl, by decide +kernel, by decide +kernel⟩
abbrev s_Ldue : Stmt := top 31
theorem sc_Ldue : FnScope ["_law_letters", "_law_rules_here", "_law_come", "_law_found", "_law_points", "_law_home", "_law_moves", "_law_good", "_law_rule", "_law_room"] ["_law_letters", "_law_rules_here", "_law_come"] (defScope s_Ldue) := ⟨rfl, rfl, rfl, by decide +kernel, rfl, by decide +kernel, by decide +kernel⟩
abbrev s_Lsame : Stmt := top 32
theorem sc_Lsame : FnScope ["_law_found", "_law_due_here", "_law_one", "_law_home", "_law_room"] ["_law_found", "_law_due_here"] (defScope s_Lsame) := ⟨rfl, rfl, rfl, by decide +kernel, rfl, by decide +kernel, by decide +kernel⟩
abbrev s_Lrefused : Stmt := top 33
theorem sc_Lrefused : FnScope ["_law_letters", "_law_rules_here", "_law_table_here", "_law_kept", "e"] ["_law_letters", "_law_rules_here", "_law_table_here"] (defScope s_Lrefused) := ⟨rfl, rfl, rfl, by decide +kernel, rfl, by decide +kernel, by decide +kernel⟩
abbrev s_Lmany : Stmt := top 34
theorem sc_Lmany : FnScope ["_law_letters", "_law_rooms", "_law_many_here", "_law_k"] ["_law_letters", "_law_rooms"] (defScope s_Lmany) := ⟨rfl, rfl, rfl, by decide +kernel, rfl, by decide +kernel, by decide +kernel⟩
abbrev s_law : Stmt := top 35
theorem sc_law : FnScope ["_law_script", "_law_number", "_law_points", "_law_turns_here", "_law_letters", "_law_edge", "_law_some", "_law_table_here", "_law_come", "_law_rules_here", "_law_handed", "_law_due_here", "_law_told", "_law_row"] ["_law_script"] (defScope s_law) := ⟨rfl, rfl, rfl, by decide +kernel, rfl, by decide +kernel, by decide +kernel⟩
section
variable {P : Program} {w : World} {K : PySem.W.Frag} {mg : Str → Option Value} {base : Heap}
def prX (s : Str) : Bool := (["NoWord", "TooLong", "NoOrder", "TooMany", "TooGreat", "YardError"] : List Str).contains s
theorem d_steps_of {f : Addr} {fd : FuncData} (F : TopFn K mg "steps_of" "steps_of" s_steps_of f fd) (B : Bs mg) : Fn P w K mg base 1 "steps_of" T_steps_of :=
  fn_ok F.fn sc_steps_of F.at_ (fun _ _ _ _ _ _ us hl => match us, hl with | [_], _ => rfl) (fun ds w P h => len_steps_of ds w P h) ⟨fun _ => b_steps_of, fun cdv A outer s H F0 He0 w0 rep0 E hr => (jss_cons (js_set (i := 1) true sc_steps_of.nd (jx_lst ja_nil)) (jss_cons (js_for PassesOwn.never rfl (ji_rng2 B.range_ (jo_of jx_int) (jo_of (jx_op op_addD sem_add (jo_var (pv 0)) (jo_of jx_int)))) (pg_name (i := 2) sc_steps_of.nd rfl (by first | exact Or.inl rfl | exact Or.inr rfl)) (gok_name 2) (jss_cons (js_app rfl (pv 1) (jx_var (pv 2))) (jss_one (js_app rfl (pv 1) (jx_un un_neg sem_neg (jo_var (pv 2))))))) (jss_one (js_retV (pv 1))))), fun ds w P h => v_steps_of ds w P h⟩
theorem d_back {f : Addr} {fd : FuncData} (F : TopFn K mg "back" "back" s_back f fd) (B : Bs mg) : Fn P w K mg base 1 "back" T_back :=
  fn_ok F.fn sc_back F.at_ (fun _ _ _ _ _ _ us hl => match us, hl with | [_], _ => rfl) (fun ds w P h => len_back ds w P h) ⟨fun _ => b_back, fun cdv A outer s H F0 He0 w0 rep0 E hr => (jss_one (js_ret (jx_t1 call_tuple_of sem_tuple (by rfl) B.tuple_ bt_tuple (jo_of (jx_lc rfl sc_back.nd (ji_any rfl (jx_rev rfl (jo_var (pv 0)))) (blkOk_by (own := [("step", 1)]) rfl) (gokv_name 1 (by decide)) (fun _ _ _ _ _ => (pg_name (i := 1) sc_back.nd rfl (by first | exact Or.inl rfl | exact Or.inr rfl))) (fun _ _ _ _ _ => jts_nil) (fun _ _ _ _ _ => (jx_un un_neg sem_neg (jo_var (pv 1))))))))), fun ds w P h => v_back ds w P h⟩
theorem d_led {f : Addr} {fd : FuncData} (F : TopFn K mg "led" "led" s_led f fd) (B : Bs mg) : Fn P w K mg base 1 "led" T_led :=
  fn_ok F.fn sc_led F.at_ (fun _ _ _ _ _ _ us hl => match us, hl with | [_, _, _], _ => rfl) (fun ds w P h => len_led ds w P h) ⟨fun _ => b_led, fun cdv A outer s H F0 He0 w0 rep0 E hr => (jss_cons (js_for PassesOwn.never rfl (ji_any rfl (jx_var (pv 2))) (pg_name (i := 3) sc_led.nd rfl (by first | exact Or.inl rfl | exact Or.inr rfl)) (gok_name 3) (jss_one (js_if (jt_cmp op_gt sem_gt (jo_var (pv 3)) (jo_of jx_int) (by rfl)) (jss_one (js_set (i := 1) false sc_led.nd (jx_ix rfl (hu1 hr) (jo_of (jx_ix rfl (hu1 hr) (jo_var (pv 0)) (jo_var (pv 1)))) (jo_of (jx_op op_sub sem_sub (jo_of (jx_op op_mulB sem_mulB (jo_of jx_int) (jo_var (pv 3)))) (jo_of jx_int)))))) (jss_one (js_set (i := 1) false sc_led.nd (jx_ix rfl (hu1 hr) (jo_of (jx_ix rfl (hu1 hr) (jo_var (pv 0)) (jo_var (pv 1)))) (jo_of (jx_op op_sub sem_sub (jo_of (jx_op op_mulB sem_mulB (jo_of (jx_un un_neg sem_neg (jo_of jx_int))) (jo_var (pv 3)))) (jo_of jx_int))))))))) (jss_one (js_retV (pv 1)))), fun ds w P h => v_led ds w P h⟩
theorem d_least_ways {f : Addr} {fd : FuncData} (F : TopFn K mg "least_ways" "least_ways" s_least_ways f fd) (B : Bs mg) (h_steps_of : Fn P w K mg base 1 "steps_of" T_steps_of) : Fn P w K mg base 2 "least_ways" T_least_ways :=
  fn_ok F.fn sc_least_ways F.at_ (fun _ _ _ _ _ _ us hl => match us, hl with | [_], _ => rfl) (fun ds w P h => len_least_ways ds w P h) ⟨fun _ => b_least_ways, fun cdv A outer s H F0 He0 w0 rep0 E hr => (jss_cons (js_set (i := 1) false sc_least_ways.nd (jx_call h_steps_of rfl (hr.mono (by decide)) (ja_cons (jx_op op_fdivW sem_fdiv (jo_of (jx_b1 call_lenB sem_lenA (by rfl) B.len_ bb_len (jo_of (jx_ix rfl (hu1 hr) (jo_var (pv 0)) (jo_of jx_int))))) (jo_of jx_int)) ja_nil))) (jss_cons (js_set (i := 2) true sc_least_ways.nd (jx_disp1 (jo_of jx_int) (jx_tup ja_nil))) (jss_cons (js_set (i := 3) true sc_least_ways.nd (jx_lst (ja_cons jx_int ja_nil))) (jss_cons (js_set (i := 4) false sc_least_ways.nd jx_int) (jss_cons (js_while PassesOwn.never (jt_cmp (op_ltD (hu0 hr)) sem_lt (jo_var (pv 4)) (jo_of (jx_b1 call_lenB sem_lenA (by rfl) B.len_ bb_len (jo_var (pv 3)))) (by rfl)) (jss_cons (js_set (i := 5) false sc_least_ways.nd (jx_ix rfl (hu1 hr) (jo_var (pv 3)) (jo_var (pv 4)))) (jss_cons (js_for PassesOwn.never rfl (ji_zip rfl B.zip_ (ja_cons (jx_var (pv 1)) (ja_cons (jx_ix rfl (hu1 hr) (jo_var (pv 0)) (jo_var (pv 5))) ja_nil))) (pg_tup rfl (pgs_cons (pg_name (i := 6) sc_least_ways.nd rfl (by first | exact Or.inl rfl | exact Or.inr rfl)) (pgs_cons (pg_name (i := 7) sc_least_ways.nd rfl (by first | exact Or.inl rfl | exact Or.inr rfl)) pgs_nil))) (gok_tup (gsok_cons (gok_name 6) (gsok_cons (gok_name 7) gsok_nil))) (jss_one (js_if (jt_cmp (op_notInA (hu65 hr)) (sem_in true) (jo_var (pv 7)) (jo_var (pv 2)) (by rfl)) (jss_cons (js_put rfl (hu1 hr) (pv 2) (jo_var (pv 7)) (jx_op op_addD sem_add (jo_of (jx_ix rfl (hu1 hr) (jo_var (pv 2)) (jo_var (pv 5)))) (jo_of (jx_tup (ja_cons (jx_var (pv 6)) ja_nil))))) (jss_one (js_app rfl (pv 3) (jx_var (pv 7))))) jss_nil))) (jss_one (js_aug (i := 4) iop_addI sem_addI sc_least_ways.nd (jo_of jx_int)))))) (jss_one (js_ret (jx_lc rfl sc_least_ways.nd (ji_rng1 B.range_ (jo_of (jx_b1 call_lenB sem_lenA (by rfl) B.len_ bb_len (jo_var (pv 0))))) (blkOk_by (own := [("room", 5)]) rfl) (gokv_name 5 (by decide)) (fun _ _ _ _ _ => (pg_name (i := 5) sc_least_ways.nd rfl (by first | exact Or.inl rfl | exact Or.inr rfl))) (fun _ _ _ _ _ => jts_nil) (fun _ _ _ _ _ => (jx_ix rfl (hu1 hr) (jo_var (pv 2)) (jo_var (pv 5)))))))))))), fun ds w P h => v_least_ways ds w P h⟩
theorem d_filled_in {f : Addr} {fd : FuncData} (F : TopFn K mg "filled_in" "filled_in" s_filled_in f fd) (B : Bs mg) (h_back : Fn P w K mg base 1 "back" T_back) : Fn P w K mg base 2 "filled_in" T_filled_in :=
  fn_ok F.fn sc_filled_in F.at_ (fun _ _ _ _ _ _ us hl => match us, hl with | [_, _], _ => rfl) (fun ds w P h => len_filled_in ds w P h) ⟨fun _ => b_filled_in, fun cdv A outer s H F0 He0 w0 rep0 E hr => (jss_cons (js_set (i := 2) true sc_filled_in.nd (jx_lst ja_nil)) (jss_cons (js_for PassesOwn.never rfl (ji_any rfl (jx_var (pv 0))) (pg_name (i := 3) sc_filled_in.nd rfl (by first | exact Or.inl rfl | exact Or.inr rfl)) (gok_name 3) (jss_one (js_if (jt_cmp op_gt sem_gt (jo_var (pv 3)) (jo_of jx_int) (by rfl)) (jss_one (js_ext rfl (pv 2) (jo_of (jx_ix rfl (hu1 hr) (jo_var (pv 1)) (jo_of (jx_op op_sub sem_sub (jo_var (pv 3)) (jo_of jx_int))))))) (jss_one (js_ext rfl (pv 2) (jo_of (jx_call h_back rfl (hr.mono (by decide)) (ja_cons (jx_ix rfl (hu1 hr) (jo_var (pv 1)) (jo_of (jx_op op_sub sem_sub (jo_of (jx_un un_neg sem_neg (jo_var (pv 3)))) (jo_of jx_int)))) ja_nil)))))))) (jss_one (js_ret (jx_t1 call_tuple_of sem_tuple (by rfl) B.tuple_ bt_tuple (jo_var (pv 2))))))), fun ds w P h => v_filled_in ds w P h⟩
theorem d_carries {f : Addr} {fd : FuncData} (F : TopFn K mg "carries" "carries" s_carries f fd) (B : Bs mg) (h_filled_in : Fn P w K mg base 2 "filled_in" T_filled_in) (h_led : Fn P w K mg base 1 "led" T_led) : Fn P w K mg base 3 "carries" T_carries :=
  fn_ok F.fn sc_carries F.at_ (fun _ _ _ _ _ _ us hl => match us, hl with | [_, _, _], _ => rfl) (fun ds w P h => len_carries ds w P h) ⟨fun _ => b_carries, fun cdv A outer s H F0 He0 w0 rep0 E hr => (jss_cons (js_for PassesOwn.never rfl (ji_any rfl (jx_var (pv 0))) (pg_name (i := 3) sc_carries.nd rfl (by first | exact Or.inl rfl | exact Or.inr rfl)) (gok_name 3) (jss_one (js_if (jt_cmp (op_neP (hu64 hr)) sem_ne (jo_of (jx_call h_led rfl (hr.mono (by decide)) (ja_cons (jx_var (pv 1)) (ja_cons jx_int (ja_cons (jx_call h_filled_in rfl (hr.mono (by decide)) (ja_cons (jx_var (pv 3)) (ja_cons (jx_var (pv 2)) ja_nil))) ja_nil))))) (jo_of jx_int) (by rfl)) (jss_one (js_ret jx_bl)) jss_nil))) (jss_one (js_ret jx_bl))), fun ds w P h => v_carries ds w P h⟩
theorem d_choices {f : Addr} {fd : FuncData} (F : TopFn K mg "choices" "choices" s_choices f fd) (B : Bs mg) {C_NoWord C_TooLong C_NoOrder C_TooMany C_TooGreat C_YardError : Addr} (XT : XTabP K prX C_NoWord C_TooLong C_NoOrder C_TooMany C_TooGreat C_YardError) (XM : XMgP K mg prX C_NoWord C_TooLong C_NoOrder C_TooMany C_TooGreat C_YardError) (g_CHOICES : ∃ u, mg "CHOICES" = some u ∧ RelV (V.int 5000) u) : FnX P w K mg base 1 "choices" T_choices :=
  fnX_ok F.fn sc_choices F.at_ (fun _ _ _ _ _ _ us hl => match us, hl with | [_, _], _ => rfl) (fun ds w P Px h => len_choices ds w P Px h) ⟨fun _ x => b_choices x, fun cdv A outer s H F0 He0 w0 rep0 E x hr tk => (jss_cons (js_set (i := 2) false sc_choices.nd jx_int) (jss_cons (js_for (passes_of rfl) rfl (ji_rng1 B.range_ (jo_var (pv 0))) (pg_name (i := 3) sc_choices.nd rfl (by first | exact Or.inl rfl | exact Or.inr rfl)) (gok_name 3) (jss_cons (js_set (i := 2) false sc_choices.nd (jx_op op_mulB sem_mulB (jo_var (pv 2)) (jo_var (pv 1)))) (jss_one (js_if (jt_cmp op_gt sem_gt (jo_var (pv 2)) (jo_of (jx_gcI g_CHOICES)) (by rfl)) (jss_one (js_raise ⟨(XT.o5 (by decide +kernel)).ns, XM.m5 (by decide +kernel), XM.k5 (by decide +kernel), (XT.o5 (by decide +kernel)).sb, (XT.o5 (by decide +kernel)).ty⟩ (XM.q5 (by decide +kernel)) tk rfl rfl)) jss_nil)))) (jss_one (js_retV (pv 2))))), fun ds w P Px h => v_choices ds w P Px h⟩
theorem d_choice {f : Addr} {fd : FuncData} (F : TopFn K mg "choice" "choice" s_choice f fd) (B : Bs mg) : Fn P w K mg base 1 "choice" T_choice :=
  fn_ok F.fn sc_choice F.at_ (fun _ _ _ _ _ _ us hl => match us, hl with | [_, _, _], _ => rfl) (fun ds w P h => len_choice ds w P h) ⟨fun _ => b_choice, fun cdv A outer s H F0 He0 w0 rep0 E hr => (jss_cons (js_set (i := 3) true sc_choice.nd (jx_lst ja_nil)) (jss_cons (js_for PassesOwn.never rfl (ji_rng1 B.range_ (jo_var (pv 1))) (pg_name (i := 4) sc_choice.nd rfl (by first | exact Or.inl rfl | exact Or.inr rfl)) (gok_name 4) (jss_cons (js_app rfl (pv 3) (jx_op op_mod sem_mod (jo_var (pv 0)) (jo_var (pv 2)))) (jss_one (js_set (i := 0) false sc_choice.nd (jx_op op_fdivW sem_fdiv (jo_var (pv 0)) (jo_var (pv 2))))))) (jss_one (js_ret (jx_rev rfl (jo_var (pv 3))))))), fun ds w P h => v_choice ds w P h⟩
theorem d_homes {f : Addr} {fd : FuncData} (F : TopFn K mg "homes" "homes" s_homes f fd) (B : Bs mg) (h_carries : Fn P w K mg base 3 "carries" T_carries) (h_choice : Fn P w K mg base 1 "choice" T_choice) (h_choices : FnX P w K mg base 1 "choices" T_choices) (h_least_ways : Fn P w K mg base 2 "least_ways" T_least_ways) : FnX P w K mg base 4 "homes" T_homes :=
  fnX_ok F.fn sc_homes F.at_ (fun _ _ _ _ _ _ us hl => match us, hl with | [_, _, _], _ => rfl) (fun ds w P Px h => len_homes ds w P Px h) ⟨fun _ x => b_homes x, fun cdv A outer s H F0 He0 w0 rep0 E x hr tk => (jss_cons (js_set (i := 3) false sc_homes.nd (jx_callX h_choices tk rfl (hr.mono (by decide)) (ja_cons (jx_var (pv 0)) (ja_cons (jx_b1 call_lenB sem_lenA (by rfl) B.len_ bb_len (jo_var (pv 2))) ja_nil)))) (jss_cons (js_set (i := 4) false sc_homes.nd (jx_call h_least_ways rfl (hr.mono (by decide)) (ja_cons (jx_var (pv 2)) ja_nil))) (jss_cons (js_setN (i := 5) sc_homes.nd (jx_lst ja_nil)) (jss_cons (js_for (passes_of rfl) rfl (ji_rng1 B.range_ (jo_var (pv 3))) (pg_name (i := 6) sc_homes.nd rfl (by first | exact Or.inl rfl | exact Or.inr rfl)) (gok_name 6) (jss_cons (js_setN (i := 7) sc_homes.nd (jx_call h_choice rfl (hr.mono (by decide)) (ja_cons (jx_var (pv 6)) (ja_cons (jx_var (pv 0)) (ja_cons (jx_b1 call_lenB sem_lenA (by rfl) B.len_ bb_len (jo_var (pv 2))) ja_nil))))) (jss_one (js_if (jt_tru rfl (jo_of (jx_call h_carries rfl (hr.mono (by decide)) (ja_cons (jx_var (pv 1)) (ja_cons (jx_var (pv 2)) (ja_cons (jx_lcN rfl rfl sc_homes.nd (jo_var (pv 7)) (blkOk_by (own := [("room", 8)]) rfl) (gokv_name 8 (by decide)) (fun _ _ _ _ _ => (pg_name (i := 8) sc_homes.nd rfl (by first | exact Or.inl rfl | exact Or.inr rfl))) (fun _ _ _ _ _ => jts_nil) (fun _ _ _ _ _ => (jx_ix rfl (hu1 hr) (jo_var (pv 4)) (jo_var (pv 8))))) ja_nil)))))) (jss_one (js_appN false rfl (jo_var (pv 5)) (jx_var (pv 7)))) jss_nil)))) (jss_one (js_retV (pv 5))))))), fun ds w P Px h => v_homes ds w P Px h⟩
theorem d_Lat {f : Addr} {fd : FuncData} (F : TopFn K mg "_law_at" "_law_at" s_Lat f fd) (B : Bs mg) : Fn P w K mg base 1 "_law_at" T_Lat :=
  fn_ok F.fn sc_Lat F.at_ (fun _ _ _ _ _ _ us hl => match us, hl with | [_, _], _ => rfl) (fun ds w P h => len_Lat ds w P h) ⟨fun _ => b_Lat, fun cdv A outer s H F0 He0 w0 rep0 E hr => (jss_cons (js_if (jt_cmp (op_ltD (hu0 hr)) sem_lt (jo_var (pv 1)) (jo_of (jx_b1 call_lenB sem_lenA (by rfl) B.len_ bb_len (jo_var (pv 0)))) (by rfl)) (jss_one (js_ret (jx_ix rfl (hu1 hr) (jo_var (pv 0)) (jo_var (pv 1))))) jss_nil) (jss_one (js_ret (jx_op op_addD sem_add (jo_of (jx_op op_mulB sem_mulB (jo_of jx_int) (jo_var (pv 1)))) (jo_of jx_int))))), fun ds w P h => v_Lat ds w P h⟩
theorem d_Lmix {f : Addr} {fd : FuncData} (F : TopFn K mg "_law_mix" "_law_mix" s_Lmix f fd) (B : Bs mg) : Fn P w K mg base 1 "_law_mix" T_Lmix :=
  fn_ok F.fn sc_Lmix F.at_ (fun _ _ _ _ _ _ us hl => match us, hl with | [_, _], _ => rfl) (fun ds w P h => len_Lmix ds w P h) ⟨fun _ => b_Lmix, fun cdv A outer s H F0 He0 w0 rep0 E hr => (jss_cons (js_set (i := 2) false sc_Lmix.nd (jx_op op_mod sem_mod (jo_of (jx_op op_mulB sem_mulB (jo_of (jx_op op_addD sem_add (jo_of (jx_op op_addD sem_add (jo_of (jx_op op_mod sem_mod (jo_var (pv 0)) (jo_of jx_int))) (jo_var (pv 1)))) (jo_of jx_int))) (jo_of (jx_op op_addD sem_add (jo_of (jx_op op_mulB sem_mulB (jo_of (jx_op op_mulB sem_mulB (jo_of jx_int) (jo_var (pv 1)))) (jo_var (pv 1)))) (jo_of jx_int))))) (jo_of jx_int))) (jss_one (js_ret (jx_op op_mod sem_mod (jo_of (jx_op op_mulB sem_mulB (jo_var (pv 2)) (jo_var (pv 2)))) (jo_of jx_int))))), fun ds w P h => v_Lmix ds w P h⟩
theorem d_Lturns {f : Addr} {fd : FuncData} (F : TopFn K mg "_law_turns" "_law_turns" s_Lturns f fd) (B : Bs mg) (h_Lmix : Fn P w K mg base 1 "_law_mix" T_Lmix) : Fn P w K mg base 2 "_law_turns" T_Lturns :=
  fn_ok F.fn sc_Lturns F.at_ (fun _ _ _ _ _ _ us hl => match us, hl with | [_, _, _], _ => rfl) (fun ds w P h => len_Lturns ds w P h) ⟨fun _ => b_Lturns, fun cdv A outer s H F0 He0 w0 rep0 E hr => (jss_cons (js_set (i := 3) true sc_Lturns.nd (jx_lst ja_nil)) (jss_cons (js_for PassesOwn.never rfl (ji_rng1 B.range_ (jo_var (pv 1))) (pg_name (i := 4) sc_Lturns.nd rfl (by first | exact Or.inl rfl | exact Or.inr rfl)) (gok_name 4) (jss_cons (js_set (i := 5) true sc_Lturns.nd (jx_listRng1 B.list_ B.range_ (jo_var (pv 2)))) (jss_cons (js_for PassesOwn.never rfl (ji_rng1 B.range_ (jo_var (pv 2))) (pg_name (i := 6) sc_Lturns.nd rfl (by first | exact Or.inl rfl | exact Or.inr rfl)) (gok_name 6) (jss_cons (js_set (i := 7) false sc_Lturns.nd (jx_op op_mod sem_mod (jo_of (jx_call h_Lmix rfl (hr.mono (by decide)) (ja_cons (jx_var (pv 0)) (ja_cons (jx_op op_addD sem_add (jo_of (jx_op op_mulB sem_mulB (jo_of jx_int) (jo_var (pv 4)))) (jo_var (pv 6))) ja_nil)))) (jo_var (pv 2)))) (jss_cons (js_set (i := 8) false sc_Lturns.nd (jx_ix rfl (hu1 hr) (jo_var (pv 5)) (jo_var (pv 6)))) (jss_cons (js_put rfl (hu1 hr) (pv 5) (jo_var (pv 6)) (jx_ix rfl (hu1 hr) (jo_var (pv 5)) (jo_var (pv 7)))) (jss_one (js_put rfl (hu1 hr) (pv 5) (jo_var (pv 7)) (jx_var (pv 8)))))))) (jss_one (js_app rfl (pv 3) (jx_t1 call_tuple_of sem_tuple (by rfl) B.tuple_ bt_tuple (jo_var (pv 5)))))))) (jss_one (js_retV (pv 3))))), fun ds w P h => v_Lturns ds w P h⟩
theorem d_Lback {f : Addr} {fd : FuncData} (F : TopFn K mg "_law_back" "_law_back" s_Lback f fd) (B : Bs mg) : Fn P w K mg base 1 "_law_back" T_Lback :=
  fn_ok F.fn sc_Lback F.at_ (fun _ _ _ _ _ _ us hl => match us, hl with | [_], _ => rfl) (fun ds w P h => len_Lback ds w P h) ⟨fun _ => b_Lback, fun cdv A outer s H F0 He0 w0 rep0 E hr => (jss_cons (js_set (i := 1) true sc_Lback.nd (jx_op op_mulB sem_mulB (jo_of (jx_lst (ja_cons jx_int ja_nil))) (jo_of (jx_b1 call_lenB sem_lenA (by rfl) B.len_ bb_len (jo_var (pv 0)))))) (jss_cons (js_for PassesOwn.never rfl (ji_rng1 B.range_ (jo_of (jx_b1 call_lenB sem_lenA (by rfl) B.len_ bb_len (jo_var (pv 0))))) (pg_name (i := 2) sc_Lback.nd rfl (by first | exact Or.inl rfl | exact Or.inr rfl)) (gok_name 2) (jss_one (js_put rfl (hu1 hr) (pv 1) (jo_of (jx_ix rfl (hu1 hr) (jo_var (pv 0)) (jo_var (pv 2)))) (jx_var (pv 2))))) (jss_one (js_ret (jx_t1 call_tuple_of sem_tuple (by rfl) B.tuple_ bt_tuple (jo_var (pv 1))))))), fun ds w P h => v_Lback ds w P h⟩
theorem d_Lthrough {f : Addr} {fd : FuncData} (F : TopFn K mg "_law_through" "_law_through" s_Lthrough f fd) (B : Bs mg) (h_Lback : Fn P w K mg base 1 "_law_back" T_Lback) : Fn P w K mg base 2 "_law_through" T_Lthrough :=
  fn_ok F.fn sc_Lthrough F.at_ (fun _ _ _ _ _ _ us hl => match us, hl with | [_, _, _], _ => rfl) (fun ds w P h => len_Lthrough ds w P h) ⟨fun _ => b_Lthrough, fun cdv A outer s H F0 He0 w0 rep0 E hr => (jss_cons (js_set (i := 3) false sc_Lthrough.nd (jx_tupleRng1 B.tuple_ B.range_ (jo_var (pv 2)))) (jss_cons (js_for PassesOwn.never rfl (ji_any rfl (jx_var (pv 1))) (pg_name (i := 4) sc_Lthrough.nd rfl (by first | exact Or.inl rfl | exact Or.inr rfl)) (gok_name 4) (jss_cons (js_set (i := 5) false sc_Lthrough.nd (jx_ix rfl (hu1 hr) (jo_var (pv 0)) (jo_of (jx_op op_sub sem_sub (jo_of (jx_b1 call_abs sem_abs (by rfl) B.abs_ bb_abs (jo_var (pv 4)))) (jo_of jx_int))))) (jss_cons (js_if (jt_cmp (op_ltD (hu0 hr)) sem_lt (jo_var (pv 4)) (jo_of jx_int) (by rfl)) (jss_one (js_set (i := 5) false sc_Lthrough.nd (jx_call h_Lback rfl (hr.mono (by decide)) (ja_cons (jx_var (pv 5)) ja_nil)))) jss_nil) (jss_one (js_set (i := 3) false sc_Lthrough.nd (jx_t1 call_tuple_of sem_tuple (by rfl) B.tuple_ bt_tuple (jo_of (jx_lc rfl sc_Lthrough.nd (ji_any rfl (jx_var (pv 3))) (blkOk_by (own := [("_law_spot", 6)]) rfl) (gokv_name 6 (by decide)) (fun _ _ _ _ _ => (pg_name (i := 6) sc_Lthrough.nd rfl (by first | exact Or.inl rfl | exact Or.inr rfl))) (fun _ _ _ _ _ => jts_nil) (fun _ _ _ _ _ => (jx_ix rfl (hu1 hr) (jo_var (pv 5)) (jo_var (pv 6)))))))))))) (jss_one (js_retV (pv 3))))), fun ds w P h => v_Lthrough ds w P h⟩
theorem d_Ltable {f : Addr} {fd : FuncData} (F : TopFn K mg "_law_table" "_law_table" s_Ltable f fd) (B : Bs mg) (h_Lback : Fn P w K mg base 1 "_law_back" T_Lback) : Fn P w K mg base 2 "_law_table" T_Ltable :=
  fn_ok F.fn sc_Ltable F.at_ (fun _ _ _ _ _ _ us hl => match us, hl with | [_, _], _ => rfl) (fun ds w P h => len_Ltable ds w P h) ⟨fun _ => b_Ltable, fun cdv A outer s H F0 He0 w0 rep0 E hr => (jss_cons (js_set (i := 2) true sc_Ltable.nd (jx_lst (ja_cons (jx_tupleRng1 B.tuple_ B.range_ (jo_var (pv 1))) ja_nil))) (jss_cons (js_set (i := 3) true sc_Ltable.nd (jx_lst ja_nil)) (jss_cons (js_while PassesOwn.never (jt_cmp (op_ltD (hu0 hr)) sem_lt (jo_of (jx_b1 call_lenB sem_lenA (by rfl) B.len_ bb_len (jo_var (pv 3)))) (jo_of (jx_b1 call_lenB sem_lenA (by rfl) B.len_ bb_len (jo_var (pv 2)))) (by rfl)) (jss_cons (js_set (i := 4) false sc_Ltable.nd (jx_ix rfl (hu1 hr) (jo_var (pv 2)) (jo_of (jx_b1 call_lenB sem_lenA (by rfl) B.len_ bb_len (jo_var (pv 3)))))) (jss_cons (js_set (i := 5) true sc_Ltable.nd (jx_lst ja_nil)) (jss_cons (js_for PassesOwn.never rfl (ji_rng1 B.range_ (jo_of (jx_op op_mulB sem_mulB (jo_of jx_int) (jo_of (jx_b1 call_lenB sem_lenA (by rfl) B.len_ bb_len (jo_var (pv 0))))))) (pg_name (i := 6) sc_Ltable.nd rfl (by first | exact Or.inl rfl | exact Or.inr rfl)) (gok_name 6) (jss_cons (js_set (i := 7) false sc_Ltable.nd (jx_ix rfl (hu1 hr) (jo_var (pv 0)) (jo_of (jx_op op_fdivW sem_fdiv (jo_var (pv 6)) (jo_of jx_int))))) (jss_cons (js_if (jt_cmp (op_eqP (hu64 hr)) sem_eq (jo_of (jx_op op_mod sem_mod (jo_var (pv 6)) (jo_of jx_int))) (jo_of jx_int) (by rfl)) (jss_one (js_set (i := 7) false sc_Ltable.nd (jx_call h_Lback rfl (hr.mono (by decide)) (ja_cons (jx_var (pv 7)) ja_nil)))) jss_nil) (jss_cons (js_set (i := 8) false sc_Ltable.nd (jx_t1 call_tuple_of sem_tuple (by rfl) B.tuple_ bt_tuple (jo_of (jx_lc rfl sc_Ltable.nd (ji_any rfl (jx_var (pv 4))) (blkOk_by (own := [("_law_spot", 9)]) rfl) (gokv_name 9 (by decide)) (fun _ _ _ _ _ => (pg_name (i := 9) sc_Ltable.nd rfl (by first | exact Or.inl rfl | exact Or.inr rfl))) (fun _ _ _ _ _ => jts_nil) (fun _ _ _ _ _ => (jx_ix rfl (hu1 hr) (jo_var (pv 7)) (jo_var (pv 9)))))))) (jss_cons (js_if (jt_cmp (op_notInA (hu65 hr)) (sem_in true) (jo_var (pv 8)) (jo_var (pv 2)) (by rfl)) (jss_one (js_app rfl (pv 2) (jx_var (pv 8)))) jss_nil) (jss_one (js_app rfl (pv 5) (jx_m1 PySem.F.plainAttrs_list PySem.F.slot_list_index PySem.F.type_list_index (mt_indexD (hu65 hr)) ty_list sem_lindex rfl (jo_var (pv 2)) (jo_var (pv 8)))))))))) (jss_one (js_frz 5 (js_app rfl (pv 3) (jx_var (pv 5))))))))) (jss_one (js_frz 2 (js_frz 3 (js_ret (jx_tup (ja_cons (jx_var (pv 3)) (ja_cons (jx_var (pv 2)) ja_nil)))))))))), fun ds w P h => v_Ltable ds w P h⟩
theorem d_Lword {f : Addr} {fd : FuncData} (F : TopFn K mg "_law_word" "_law_word" s_Lword f fd) (B : Bs mg) (h_Lmix : Fn P w K mg base 1 "_law_mix" T_Lmix) : Fn P w K mg base 2 "_law_word" T_Lword :=
  fn_ok F.fn sc_Lword F.at_ (fun _ _ _ _ _ _ us hl => match us, hl with | [_, _], _ => rfl) (fun ds w P h => len_Lword ds w P h) ⟨fun _ => b_Lword, fun cdv A outer s H F0 He0 w0 rep0 E hr => (jss_cons (js_set (i := 2) true sc_Lword.nd (jx_lst ja_nil)) (jss_cons (js_for PassesOwn.never rfl (ji_any rfl (jx_var (pv 0))) (pg_name (i := 3) sc_Lword.nd rfl (by first | exact Or.inl rfl | exact Or.inr rfl)) (gok_name 3) (jss_cons (js_set (i := 4) false sc_Lword.nd (jx_call h_Lmix rfl (hr.mono (by decide)) (ja_cons (jx_var (pv 3)) (ja_cons jx_int ja_nil)))) (jss_cons (js_set (i := 5) false sc_Lword.nd (jx_op op_addD sem_add (jo_of jx_int) (jo_of (jx_op op_mod sem_mod (jo_of (jx_op op_fdivW sem_fdiv (jo_var (pv 4)) (jo_of jx_int))) (jo_var (pv 1)))))) (jss_cons (js_if (jt_cmp (op_eqP (hu64 hr)) sem_eq (jo_of (jx_op op_mod sem_mod (jo_var (pv 4)) (jo_of jx_int))) (jo_of jx_int) (by rfl)) (jss_one (js_set (i := 5) false sc_Lword.nd (jx_op op_sub sem_sub (jo_of jx_int) (jo_var (pv 5))))) jss_nil) (jss_one (js_app rfl (pv 2) (jx_var (pv 5)))))))) (jss_one (js_ret (jx_t1 call_tuple_of sem_tuple (by rfl) B.tuple_ bt_tuple (jo_var (pv 2))))))), fun ds w P h => v_Lword ds w P h⟩
theorem d_Lrules {f : Addr} {fd : FuncData} (F : TopFn K mg "_law_rules" "_law_rules" s_Lrules f fd) (B : Bs mg) (h_Lmix : Fn P w K mg base 1 "_law_mix" T_Lmix) (h_Lword : Fn P w K mg base 2 "_law_word" T_Lword) : Fn P w K mg base 3 "_law_rules" T_Lrules :=
  fn_ok F.fn sc_Lrules F.at_ (fun _ _ _ _ _ _ us hl => match us, hl with | [_, _, _], _ => rfl) (fun ds w P h => len_Lrules ds w P h) ⟨fun _ => b_Lrules, fun cdv A outer s H F0 He0 w0 rep0 E hr => (jss_cons (js_set (i := 3) true sc_Lrules.nd (jx_lst ja_nil)) (jss_cons (js_for PassesOwn.never rfl (ji_rng1 B.range_ (jo_var (pv 1))) (pg_name (i := 4) sc_Lrules.nd rfl (by first | exact Or.inl rfl | exact Or.inr rfl)) (gok_name 4) (jss_cons (js_set (i := 5) false sc_Lrules.nd (jx_call h_Lmix rfl (hr.mono (by decide)) (ja_cons (jx_var (pv 2)) (ja_cons (jx_var (pv 4)) ja_nil)))) (jss_one (js_if (jt_cmp (op_eqP (hu64 hr)) sem_eq (jo_of (jx_op op_mod sem_mod (jo_var (pv 5)) (jo_of jx_int))) (jo_of jx_int) (by rfl)) (jss_one (js_app rfl (pv 3) (jx_op op_mulB sem_mulB (jo_of (jx_tup (ja_cons (jx_op op_addD sem_add (jo_var (pv 4)) (jo_of jx_int)) ja_nil))) (jo_of (jx_op op_addD sem_add (jo_of jx_int) (jo_of (jx_op op_mod sem_mod (jo_of (jx_op op_fdivW sem_fdiv (jo_var (pv 5)) (jo_of jx_int))) (jo_of jx_int)))))))) jss_nil)))) (jss_cons (js_set (i := 6) true sc_Lrules.nd (jx_lst ja_nil)) (jss_cons (js_for PassesOwn.never rfl (ji_any rfl (jx_sl rfl (jo_var (pv 0)) (jp_some (jo_of jx_int)) (jp_some (jo_of jx_int)))) (pg_name (i := 7) sc_Lrules.nd rfl (by first | exact Or.inl rfl | exact Or.inr rfl)) (gok_name 7) (jss_cons (js_app rfl (pv 6) (jx_var (pv 7))) (jss_one (js_if (jt_cmp (op_eqP (hu64 hr)) sem_eq (jo_of (jx_op op_mod sem_mod (jo_of (jx_call h_Lmix rfl (hr.mono (by decide)) (ja_cons (jx_var (pv 7)) (ja_cons jx_int ja_nil)))) (jo_of jx_int))) (jo_of jx_int) (by rfl)) (jss_cons (js_frz 6 (js_app rfl (pv 3) (jx_op op_mulB sem_mulB (jo_of (jx_call h_Lword rfl (hr.mono (by decide)) (ja_cons (jx_var (pv 6)) (ja_cons (jx_var (pv 1)) ja_nil)))) (jo_of (jx_op op_addD sem_add (jo_of jx_int) (jo_of (jx_op op_mod sem_mod (jo_var (pv 2)) (jo_of jx_int)))))))) (jss_one (js_set (i := 6) true sc_Lrules.nd (jx_lst ja_nil)))) jss_nil)))) (jss_cons (js_if (jt_cmp op_gt sem_gt (jo_of (jx_b1 call_lenB sem_lenA (by rfl) B.len_ bb_len (jo_var (pv 0)))) (jo_of jx_int) (by rfl)) (jss_one (js_app rfl (pv 3) (jx_call h_Lword rfl (hr.mono (by decide)) (ja_cons (jx_sl rfl (jo_var (pv 0)) (jp_some (jo_of jx_int)) (jp_some (jo_of jx_int))) (ja_cons (jx_var (pv 1)) ja_nil))))) jss_nil) (jss_one (js_retV (pv 3)))))))), fun ds w P h => v_Lrules ds w P h⟩
theorem d_Llists {f : Addr} {fd : FuncData} (F : TopFn K mg "_law_lists" "_law_lists" s_Llists f fd) (B : Bs mg) : Fn P w K mg base 1 "_law_lists" T_Llists :=
  fn_ok F.fn sc_Llists F.at_ (fun _ _ _ _ _ _ us hl => match us, hl with | [_, _], _ => rfl) (fun ds w P h => len_Llists ds w P h) ⟨fun _ => b_Llists, fun cdv A outer s H F0 He0 w0 rep0 E hr => (jss_cons (js_set (i := 2) false sc_Llists.nd (jx_lst (ja_cons (jx_lst ja_nil) ja_nil))) (jss_cons (js_for PassesOwn.never rfl (ji_rng1 B.range_ (jo_var (pv 0))) (pg_name (i := 3) sc_Llists.nd rfl (by first | exact Or.inl rfl | exact Or.inr rfl)) (gok_name 3) (jss_cons (js_set (i := 4) true sc_Llists.nd (jx_lst ja_nil)) (jss_cons (js_for PassesOwn.never rfl (ji_any rfl (jx_var (pv 2))) (pg_name (i := 5) sc_Llists.nd rfl (by first | exact Or.inl rfl | exact Or.inr rfl)) (gok_name 5) (jss_one (js_ext rfl (pv 4) (jo_of (jx_lc rfl sc_Llists.nd (ji_rng1 B.range_ (jo_var (pv 1))) (blkOk_by (own := [("_law_room", 6)]) rfl) (gokv_name 6 (by decide)) (fun _ _ _ _ _ => (pg_name (i := 6) sc_Llists.nd rfl (by first | exact Or.inl rfl | exact Or.inr rfl))) (fun _ _ _ _ _ => jts_nil) (fun _ _ _ _ _ => (jx_op op_addD sem_add (jo_var (pv 5)) (jo_of (jx_lst (ja_cons (jx_var (pv 6)) ja_nil)))))))))) (jss_one (js_frz 4 (js_set (i := 2) false sc_Llists.nd (jx_var (pv 4)))))))) (jss_one (js_retV (pv 2))))), fun ds w P h => v_Llists ds w P h⟩
theorem d_Ldue {f : Addr} {fd : FuncData} (F : TopFn K mg "_law_due" "_law_due" s_Ldue f fd) (B : Bs mg) (h_Llists : Fn P w K mg base 1 "_law_lists" T_Llists) (h_Lthrough : Fn P w K mg base 2 "_law_through" T_Lthrough) : Fn P w K mg base 3 "_law_due" T_Ldue :=
  fn_ok F.fn sc_Ldue F.at_ (fun _ _ _ _ _ _ us hl => match us, hl with | [_, _, _], _ => rfl) (fun ds w P h => len_Ldue ds w P h) ⟨fun _ => b_Ldue, fun cdv A outer s H F0 He0 w0 rep0 E hr => (jss_cons (js_set (i := 3) true sc_Ldue.nd (jx_lst ja_nil)) (jss_cons (js_set (i := 4) false sc_Ldue.nd (jx_b1 call_lenB sem_lenA (by rfl) B.len_ bb_len (jo_of (jx_ix rfl (hu1 hr) (jo_var (pv 2)) (jo_of jx_int))))) (jss_cons (js_for PassesOwn.never rfl (ji_any rfl (jx_call h_Llists rfl (hr.mono (by decide)) (ja_cons (jx_var (pv 0)) (ja_cons (jx_b1 call_lenB sem_lenA (by rfl) B.len_ bb_len (jo_var (pv 2))) ja_nil)))) (pg_name (i := 5) sc_Ldue.nd rfl (by first | exact Or.inl rfl | exact Or.inr rfl)) (gok_name 5) (jss_cons (js_setLc (i := 6) false rfl sc_Ldue.nd rfl rfl (sw_true rfl rfl rfl (by decide +kernel)) (ji_any rfl (jx_var (pv 5))) (blkOk_by (own := [("_law_room", 9)]) rfl) (gokv_name 9 (by decide)) (fun _ _ _ _ _ => (pg_name (i := 9) sc_Ldue.nd rfl (by first | exact Or.inl rfl | exact Or.inr rfl))) (fun _ _ _ _ _ => jts_nil) (fun _ _ _ _ _ => (jx_ix rfl (hu1 hr) (jo_var (pv 2)) (jo_var (pv 9))))) (jss_cons (js_set (i := 7) false sc_Ldue.nd jx_bl) (jss_cons (js_for PassesOwn.never rfl (ji_any rfl (jx_var (pv 1))) (pg_name (i := 8) sc_Ldue.nd rfl (by first | exact Or.inl rfl | exact Or.inr rfl)) (gok_name 8) (jss_one (js_set (i := 7) false sc_Ldue.nd (jx_and (jx_var (pv 7)) (jx_one (jx_cmp (op_eqP (hu64 hr)) sem_eq (jo_of (jx_call h_Lthrough rfl (hr.mono (by decide)) (ja_cons (jx_var (pv 6)) (ja_cons (jx_var (pv 8)) (ja_cons (jx_var (pv 4)) ja_nil))))) (jo_of (jx_ix rfl (hu1 hr) (jo_var (pv 2)) (jo_of jx_int))) (by rfl))))))) (jss_one (js_if (jt_tru rfl (jo_var (pv 7))) (jss_one (js_app rfl (pv 3) (jx_var (pv 5)))) jss_nil)))))) (jss_one (js_retV (pv 3)))))), fun ds w P h => v_Ldue ds w P h⟩
theorem d_Lsame {f : Addr} {fd : FuncData} (F : TopFn K mg "_law_same" "_law_same" s_Lsame f fd) (B : Bs mg) : Fn P w K mg base 1 "_law_same" T_Lsame :=
  fn_ok F.fn sc_Lsame F.at_ (fun _ _ _ _ _ _ us hl => match us, hl with | [_, _], _ => rfl) (fun ds w P h => len_Lsame ds w P h) ⟨fun _ => b_Lsame, fun cdv A outer s H F0 He0 w0 rep0 E hr => (jss_cons (js_if (jt_w (jw_or (jt_not (jt_tru rfl (jo_of (jx_b2 call_isi sem_isi (by rfl) B.isinstance_ bb_isinstance (jo_var (pv 0)) (jo_of (jx_ty (by rfl) B.list_ bt_list)))))) (jw_or1 (jt_cmp (op_neP (hu64 hr)) sem_ne (jo_of (jx_b1 call_lenB sem_lenA (by rfl) B.len_ bb_len (jo_var (pv 0)))) (jo_of (jx_b1 call_lenB sem_lenA (by rfl) B.len_ bb_len (jo_var (pv 1)))) (by rfl))))) (jss_one (js_ret jx_bl)) jss_nil) (jss_cons (js_forZN rfl PassesOwn.never rfl B.zip_ (ja_cons (jx_var (pv 0)) (ja_cons (jx_var (pv 1)) ja_nil)) (pg_tup rfl (pgs_cons (pg_name (i := 2) sc_Lsame.nd rfl (by first | exact Or.inl rfl | exact Or.inr rfl)) (pgs_cons (pg_name (i := 3) sc_Lsame.nd rfl (by first | exact Or.inl rfl | exact Or.inr rfl)) pgs_nil))) (gok_tup (gsok_cons (gok_name 2) (gsok_cons (gok_name 3) gsok_nil))) (jss_cons (js_if (jt_w (jw_or (jt_not (jt_tru rfl (jo_of (jx_b2 call_isi sem_isi (by rfl) B.isinstance_ bb_isinstance (jo_var (pv 2)) (jo_of (jx_ty (by rfl) B.list_ bt_list)))))) (jw_or1 (jt_cmp (op_neP (hu64 hr)) sem_ne (jo_var (pv 2)) (jo_var (pv 3)) (by rfl))))) (jss_one (js_ret jx_bl)) jss_nil) (jss_one (js_forN rfl PassesOwn.never rfl (jo_var (pv 2)) (pg_name (i := 4) sc_Lsame.nd rfl (by first | exact Or.inl rfl | exact Or.inr rfl)) (gok_name 4) (jss_one (js_if (jt_w (jw_or (jt_not (jt_tru rfl (jo_of (jx_b2 call_isi sem_isi (by rfl) B.isinstance_ bb_isinstance (jo_var (pv 4)) (jo_of (jx_ty (by rfl) B.int_ bt_int)))))) (jw_or1 (jt_tru rfl (jo_of (jx_b2 call_isi sem_isi (by rfl) B.isinstance_ bb_isinstance (jo_var (pv 4)) (jo_of (jx_ty (by rfl) B.bool_ bt_bool)))))))) (jss_one (js_ret jx_bl)) jss_nil)))))) (jss_one (js_ret jx_bl)))), fun ds w P h => v_Lsame ds w P h⟩
theorem d_Lrefused {f : Addr} {fd : FuncData} (F : TopFn K mg "_law_refused" "_law_refused" s_Lrefused f fd) (B : Bs mg) {C_NoWord C_TooLong C_NoOrder C_TooMany C_TooGreat C_YardError : Addr} (XT : XTabP K prX C_NoWord C_TooLong C_NoOrder C_TooMany C_TooGreat C_YardError) (XM : XMgP K mg prX C_NoWord C_TooLong C_NoOrder C_TooMany C_TooGreat C_YardError) (h_homes : FnX P w K mg base 4 "homes" T_homes) : Fn P w K mg base 5 "_law_refused" T_Lrefused :=
  fn_ok F.fn sc_Lrefused F.at_ (fun _ _ _ _ _ _ us hl => match us, hl with | [_, _, _], _ => rfl) (fun ds w P h => len_Lrefused ds w P h) ⟨fun _ => b_Lrefused, fun cdv A outer s H F0 He0 w0 rep0 E hr => (jss_cons (js_set (i := 3) false sc_Lrefused.nd jx_non) (jss_cons (js_tryK (i := 4) rfl rfl rfl rfl sc_Lrefused.nd rfl rfl ⟨⟨rfl, by decide, .inl (XM.m0 (by decide +kernel))⟩, XT.mt .w0 (by decide +kernel)⟩ takesNo (fun F1 He1 H1 w1 r1 y1 pn1 xe1 tk1 pw1 => (jss_one (js_expr (jx_callX h_homes tk1 rfl (hr.mono (by decide)) (ja_cons (jx_var (pv 0)) (ja_cons (jx_var (pv 1)) (ja_cons (jx_var (pv 2)) ja_nil))))))) (fun a oe pn => (jss_one (js_set (i := 3) false sc_Lrefused.nd (jx_var (pv 4)))))) (jss_cons (js_if (jt_w (jw_or (jt_cmp op_isN sem_isN (jo_var (pv 3)) (jo_of jx_non) (by rfl)) (jw_or1 (jt_tru rfl (jo_of (jx_b2 call_isAll (sem_isiE XT.exi) (by rfl) B.isinstance_ bb_isinstance (jo_var (pv 3)) (jo_of (jx_tup (ja_cons (jx_cls rfl (XT.o3 (by decide +kernel)).ns (XM.m3 (by decide +kernel))) (ja_cons (jx_cls rfl (XT.o1 (by decide +kernel)).ns (XM.m1 (by decide +kernel))) (ja_cons (jx_cls rfl (XT.o2 (by decide +kernel)).ns (XM.m2 (by decide +kernel))) (ja_cons (jx_cls rfl (XT.o4 (by decide +kernel)).ns (XM.m4 (by decide +kernel))) ja_nil)))))))))))) (jss_one (js_ret jx_bl)) jss_nil) (jss_one (js_ret (jx_b2 call_isAll (sem_isiE XT.exi) (by rfl) B.isinstance_ bb_isinstance (jo_var (pv 3)) (jo_of (jx_cls rfl (XT.o5 (by decide +kernel)).ns (XM.m5 (by decide +kernel)))))))))), fun ds w P h => v_Lrefused ds w P h⟩
theorem d_Lmany {f : Addr} {fd : FuncData} (F : TopFn K mg "_law_many" "_law_many" s_Lmany f fd) (B : Bs mg) : Fn P w K mg base 1 "_law_many" T_Lmany :=
  fn_ok F.fn sc_Lmany F.at_ (fun _ _ _ _ _ _ us hl => match us, hl with | [_, _], _ => rfl) (fun ds w P h => len_Lmany ds w P h) ⟨fun _ => b_Lmany, fun cdv A outer s H F0 He0 w0 rep0 E hr => (jss_cons (js_set (i := 2) false sc_Lmany.nd jx_int) (jss_cons (js_for PassesOwn.never rfl (ji_rng1 B.range_ (jo_var (pv 0))) (pg_name (i := 3) sc_Lmany.nd rfl (by first | exact Or.inl rfl | exact Or.inr rfl)) (gok_name 3) (jss_one (js_set (i := 2) false sc_Lmany.nd (jx_b2 (call_min2 rfl) sem_min (by rfl) B.min_ bb_min (jo_of jx_int) (jo_of (jx_op op_mulB sem_mulB (jo_var (pv 2)) (jo_var (pv 1)))))))) (jss_one (js_retV (pv 2))))), fun ds w P h => v_Lmany ds w P h⟩
theorem d_law {f : Addr} {fd : FuncData} (F : TopFn K mg "law" "law" s_law f fd) (B : Bs mg) (h_Lat : Fn P w K mg base 1 "_law_at" T_Lat) (h_Ldue : Fn P w K mg base 3 "_law_due" T_Ldue) (h_Lmany : Fn P w K mg base 1 "_law_many" T_Lmany) (h_Lmix : Fn P w K mg base 1 "_law_mix" T_Lmix) (h_Lrefused : Fn P w K mg base 5 "_law_refused" T_Lrefused) (h_Lrules : Fn P w K mg base 3 "_law_rules" T_Lrules) (h_Lsame : Fn P w K mg base 1 "_law_same" T_Lsame) (h_Ltable : Fn P w K mg base 2 "_law_table" T_Ltable) (h_Lturns : Fn P w K mg base 2 "_law_turns" T_Lturns) (h_homes : FnX P w K mg base 4 "homes" T_homes) : Fn P w K mg base 6 "law" T_law :=
  fn_ok F.fn sc_law F.at_ (fun _ _ _ _ _ _ us hl => match us, hl with | [_], _ => rfl) (fun ds w P h => len_law ds w P h) ⟨fun _ => b_law, fun cdv A outer s H F0 He0 w0 rep0 E hr => (jss_cons (js_set (i := 1) false sc_law.nd (jx_call h_Lmix rfl (hr.mono (by decide)) (ja_cons (jx_call h_Lat rfl (hr.mono (by decide)) (ja_cons (jx_var (pv 0)) (ja_cons jx_int ja_nil))) (ja_cons jx_int ja_nil)))) (jss_cons (js_set (i := 2) false sc_law.nd (jx_op op_addD sem_add (jo_of jx_int) (jo_of (jx_op op_mod sem_mod (jo_of (jx_op op_fdivW sem_fdiv (jo_var (pv 1)) (jo_of jx_int))) (jo_of jx_int))))) (jss_cons (js_set (i := 3) false sc_law.nd (jx_call h_Lturns rfl (hr.mono (by decide)) (ja_cons (jx_call h_Lmix rfl (hr.mono (by decide)) (ja_cons (jx_call h_Lat rfl (hr.mono (by decide)) (ja_cons (jx_var (pv 0)) (ja_cons jx_int ja_nil))) (ja_cons jx_int ja_nil))) (ja_cons (jx_op op_addD sem_add (jo_of jx_int) (jo_of (jx_op op_mod sem_mod (jo_of (jx_op op_fdivW sem_fdiv (jo_var (pv 1)) (jo_of jx_int))) (jo_of jx_int)))) (ja_cons (jx_var (pv 2)) ja_nil))))) (jss_cons (js_set (i := 4) false sc_law.nd (jx_op op_addD sem_add (jo_of jx_int) (jo_of (jx_op op_mod sem_mod (jo_of (jx_op op_fdivW sem_fdiv (jo_var (pv 1)) (jo_of jx_int))) (jo_of jx_int))))) (jss_cons (js_set (i := 5) false sc_law.nd (jx_cmp (op_eqP (hu64 hr)) sem_eq (jo_of (jx_op op_mod sem_mod (jo_of (jx_op op_fdivW sem_fdiv (jo_var (pv 1)) (jo_of jx_int))) (jo_of jx_int))) (jo_of jx_int) (by rfl))) (jss_cons (js_if (jt_tru rfl (jo_var (pv 5))) (jss_cons (js_set (i := 6) false sc_law.nd (jx_lst (ja_cons (jx_tup (ja_cons jx_int (ja_cons jx_int ja_nil))) (ja_cons (jx_tup (ja_cons jx_int (ja_cons jx_int ja_nil))) (ja_cons (jx_tup (ja_cons jx_int (ja_cons jx_int ja_nil))) (ja_cons (jx_tup (ja_cons jx_int (ja_cons jx_int ja_nil))) (ja_cons (jx_tup (ja_cons jx_int (ja_cons jx_int ja_nil))) (ja_cons (jx_tup (ja_cons jx_int (ja_cons jx_int ja_nil))) (ja_cons (jx_tup (ja_cons jx_int (ja_cons jx_int ja_nil))) (ja_cons (jx_tup (ja_cons jx_int (ja_cons jx_int ja_nil))) (ja_cons (jx_tup (ja_cons jx_int (ja_cons jx_int ja_nil))) (ja_cons (jx_tup (ja_cons jx_int (ja_cons jx_int ja_nil))) (ja_cons (jx_tup (ja_cons jx_int (ja_cons jx_int ja_nil))) ja_nil))))))))))))) (jss_cons (js_asg (jx_ix rfl (hu1 hr) (jo_var (pv 6)) (jo_of (jx_op op_mod sem_mod (jo_of (jx_op op_fdivW sem_fdiv (jo_var (pv 1)) (jo_of jx_int))) (jo_of jx_int)))) (pg_tup rfl (pgs_cons (pg_name (i := 2) sc_law.nd rfl (by first | exact Or.inl rfl | exact Or.inr rfl)) (pgs_cons (pg_name (i := 4) sc_law.nd rfl (by first | exact Or.inl rfl | exact Or.inr rfl)) pgs_nil))) (gok_tup (gsok_cons (gok_name 2) (gsok_cons (gok_name 4) gsok_nil)))) (jss_one (js_set (i := 3) false sc_law.nd (jx_lst (ja_cons (jx_t1 call_tuple_of sem_tuple (by rfl) B.tuple_ bt_tuple (jo_of (jx_op op_addD sem_add (jo_of (jx_listRng2 B.list_ B.range_ (jo_of jx_int) (jo_var (pv 2)))) (jo_of (jx_lst (ja_cons jx_int ja_nil)))))) ja_nil)))))) jss_nil) (jss_cons (js_asg (jx_call h_Ltable rfl (hr.mono (by decide)) (ja_cons (jx_var (pv 3)) (ja_cons (jx_var (pv 2)) ja_nil))) (pg_tup rfl (pgs_cons (pg_name (i := 7) sc_law.nd rfl (by first | exact Or.inl rfl | exact Or.inr rfl)) (pgs_cons (pg_name (i := 8) sc_law.nd rfl (by first | exact Or.inl rfl | exact Or.inr rfl)) pgs_nil))) (gok_tup (gsok_cons (gok_name 7) (gsok_cons (gok_name 8) gsok_nil)))) (jss_cons (js_if (jt_w (jw_and (jt_not (jt_tru rfl (jo_var (pv 5)))) (jw_and1 (jt_cmp op_gt sem_gt (jo_of (jx_call h_Lmany rfl (hr.mono (by decide)) (ja_cons (jx_var (pv 4)) (ja_cons (jx_b1 call_lenB sem_lenA (by rfl) B.len_ bb_len (jo_var (pv 8))) ja_nil)))) (jo_of jx_int) (by rfl))))) (jss_one (js_set (i := 4) false sc_law.nd jx_int)) jss_nil) (jss_cons (js_set (i := 9) false sc_law.nd (jx_lst ja_nil)) (jss_cons (js_if (jt_not (jt_tru rfl (jo_var (pv 5)))) (jss_one (js_set (i := 9) false sc_law.nd (jx_call h_Lrules rfl (hr.mono (by decide)) (ja_cons (jx_var (pv 0)) (ja_cons (jx_var (pv 4)) (ja_cons (jx_call h_Lmix rfl (hr.mono (by decide)) (ja_cons (jx_call h_Lat rfl (hr.mono (by decide)) (ja_cons (jx_var (pv 0)) (ja_cons jx_int ja_nil))) (ja_cons jx_int ja_nil))) ja_nil)))))) jss_nil) (jss_cons (js_set (i := 10) false sc_law.nd (jx_lst (ja_cons (jx_t1 call_list_of sem_list (by rfl) B.list_ bt_list (jo_var (pv 9))) (ja_cons (jx_lc rfl sc_law.nd (ji_any rfl (jx_var (pv 7))) (blkOk_by (own := [("_law_row", 13)]) rfl) (gokv_name 13 (by decide)) (fun _ _ _ _ _ => (pg_name (i := 13) sc_law.nd rfl (by first | exact Or.inl rfl | exact Or.inr rfl))) (fun _ _ _ _ _ => jts_nil) (fun _ _ _ _ _ => (jx_t1 call_list_of sem_list (by rfl) B.list_ bt_list (jo_var (pv 13))))) ja_nil)))) (jss_cons (js_if (jt_cmp op_gt sem_gt (jo_of (jx_call h_Lmany rfl (hr.mono (by decide)) (ja_cons (jx_var (pv 4)) (ja_cons (jx_b1 call_lenB sem_lenA (by rfl) B.len_ bb_len (jo_var (pv 8))) ja_nil)))) (jo_of jx_int) (by rfl)) (jss_one (js_ret (jx_and (jx_call h_Lrefused rfl (hr.mono (by decide)) (ja_cons (jx_var (pv 4)) (ja_cons (jx_ix rfl (hu1 hr) (jo_var (pv 10)) (jo_of jx_int)) (ja_cons (jx_ix rfl (hu1 hr) (jo_var (pv 10)) (jo_of jx_int)) ja_nil)))) (jx_one (jx_cmp (op_eqP (hu64 hr)) sem_eq (jo_var (pv 10)) (jo_of (jx_lst (ja_cons (jx_var (pv 9)) (ja_cons (jx_var (pv 7)) ja_nil)))) (by rfl)))))) jss_nil) (jss_cons (js_set (i := 11) false sc_law.nd (jx_call h_Ldue rfl (hr.mono (by decide)) (ja_cons (jx_var (pv 4)) (ja_cons (jx_var (pv 9)) (ja_cons (jx_var (pv 8)) ja_nil))))) (jss_cons (js_set (i := 12) false sc_law.nd (jx_callX h_homes takesNo rfl (hr.mono (by decide)) (ja_cons (jx_var (pv 4)) (ja_cons (jx_ix rfl (hu1 hr) (jo_var (pv 10)) (jo_of jx_int)) (ja_cons (jx_ix rfl (hu1 hr) (jo_var (pv 10)) (jo_of jx_int)) ja_nil))))) (jss_cons (js_if (jt_w (jw_or (jt_not (jt_tru rfl (jo_of (jx_call h_Lsame rfl (hr.mono (by decide)) (ja_cons (jx_var (pv 12)) (ja_cons (jx_var (pv 11)) ja_nil)))))) (jw_or1 (jt_tru rfl (jo_var (pv 5)))))) (jss_one (js_ret (jx_call h_Lsame rfl (hr.mono (by decide)) (ja_cons (jx_var (pv 12)) (ja_cons (jx_var (pv 11)) ja_nil))))) jss_nil) (jss_cons (js_appN true rfl (jo_var (pv 12)) (jx_lst (ja_cons jx_int ja_nil))) (jss_cons (js_appN false rfl (jo_of (jx_ix rfl (hu1 hr) (jo_var (pv 12)) (jo_of jx_int))) jx_int) (jss_one (js_ret (jx_and (jx_call h_Lsame rfl (hr.mono (by decide)) (ja_cons (jx_callX h_homes takesNo rfl (hr.mono (by decide)) (ja_cons (jx_var (pv 4)) (ja_cons (jx_ix rfl (hu1 hr) (jo_var (pv 10)) (jo_of jx_int)) (ja_cons (jx_ix rfl (hu1 hr) (jo_var (pv 10)) (jo_of jx_int)) ja_nil)))) (ja_cons (jx_var (pv 11)) ja_nil))) (jx_one (jx_cmp (op_eqP (hu64 hr)) sem_eq (jo_var (pv 10)) (jo_of (jx_lst (ja_cons (jx_var (pv 9)) (ja_cons (jx_var (pv 7)) ja_nil)))) (by rfl))))))))))))))))))))))), fun ds w P h => v_law ds w P h⟩
end
theorem dl_law {P : Program} {w : World} {K : PySem.W.Frag} {mg : Str → Option Value} {base : Heap} {f : Addr} {fd : FuncData} (F : TopFn K mg "law" "law" s_law f fd) (B : Bs mg) (h_Lat : Fn P w K mg base 1 "_law_at" T_Lat) (h_Ldue : Fn P w K mg base 3 "_law_due" T_Ldue) (h_Lmany : Fn P w K mg base 1 "_law_many" T_Lmany) (h_Lmix : Fn P w K mg base 1 "_law_mix" T_Lmix) (h_Lrefused : Fn P w K mg base 5 "_law_refused" T_Lrefused) (h_Lrules : Fn P w K mg base 3 "_law_rules" T_Lrules) (h_Lsame : Fn P w K mg base 1 "_law_same" T_Lsame) (h_Ltable : Fn P w K mg base 2 "_law_table" T_Ltable) (h_Lturns : Fn P w K mg base 2 "_law_turns" T_Lturns) (h_homes : FnX P w K mg base 4 "homes" T_homes) : FnOk P w K mg base CX0 6 f fd ["_law_script"] (toSp K T_law) :=
  fn_okF F.fn sc_law (fun ds w P h => len_law ds w P h) ⟨fun _ => b_law, fun cdv A outer s H F0 He0 w0 rep0 E hr => (jss_cons (js_set (i := 1) false sc_law.nd (jx_call h_Lmix rfl (hr.mono (by decide)) (ja_cons (jx_call h_Lat rfl (hr.mono (by decide)) (ja_cons (jx_var (pv 0)) (ja_cons jx_int ja_nil))) (ja_cons jx_int ja_nil)))) (jss_cons (js_set (i := 2) false sc_law.nd (jx_op op_addD sem_add (jo_of jx_int) (jo_of (jx_op op_mod sem_mod (jo_of (jx_op op_fdivW sem_fdiv (jo_var (pv 1)) (jo_of jx_int))) (jo_of jx_int))))) (jss_cons (js_set (i := 3) false sc_law.nd (jx_call h_Lturns rfl (hr.mono (by decide)) (ja_cons (jx_call h_Lmix rfl (hr.mono (by decide)) (ja_cons (jx_call h_Lat rfl (hr.mono (by decide)) (ja_cons (jx_var (pv 0)) (ja_cons jx_int ja_nil))) (ja_cons jx_int ja_nil))) (ja_cons (jx_op op_addD sem_add (jo_of jx_int) (jo_of (jx_op op_mod sem_mod (jo_of (jx_op op_fdivW sem_fdiv (jo_var (pv 1)) (jo_of jx_int))) (jo_of jx_int)))) (ja_cons (jx_var (pv 2)) ja_nil))))) (jss_cons (js_set (i := 4) false sc_law.nd (jx_op op_addD sem_add (jo_of jx_int) (jo_of (jx_op op_mod sem_mod (jo_of (jx_op op_fdivW sem_fdiv (jo_var (pv 1)) (jo_of jx_int))) (jo_of jx_int))))) (jss_cons (js_set (i := 5) false sc_law.nd (jx_cmp (op_eqP (hu64 hr)) sem_eq (jo_of (jx_op op_mod sem_mod (jo_of (jx_op op_fdivW sem_fdiv (jo_var (pv 1)) (jo_of jx_int))) (jo_of jx_int))) (jo_of jx_int) (by rfl))) (jss_cons (js_if (jt_tru rfl (jo_var (pv 5))) (jss_cons (js_set (i := 6) false sc_law.nd (jx_lst (ja_cons (jx_tup (ja_cons jx_int (ja_cons jx_int ja_nil))) (ja_cons (jx_tup (ja_cons jx_int (ja_cons jx_int ja_nil))) (ja_cons (jx_tup (ja_cons jx_int (ja_cons jx_int ja_nil))) (ja_cons (jx_tup (ja_cons jx_int (ja_cons jx_int ja_nil))) (ja_cons (jx_tup (ja_cons jx_int (ja_cons jx_int ja_nil))) (ja_cons (jx_tup (ja_cons jx_int (ja_cons jx_int ja_nil))) (ja_cons (jx_tup (ja_cons jx_int (ja_cons jx_int ja_nil))) (ja_cons (jx_tup (ja_cons jx_int (ja_cons jx_int ja_nil))) (ja_cons (jx_tup (ja_cons jx_int (ja_cons jx_int ja_nil))) (ja_cons (jx_tup (ja_cons jx_int (ja_cons jx_int ja_nil))) (ja_cons (jx_tup (ja_cons jx_int (ja_cons jx_int ja_nil))) ja_nil))))))))))))) (jss_cons (js_asg (jx_ix rfl (hu1 hr) (jo_var (pv 6)) (jo_of (jx_op op_mod sem_mod (jo_of (jx_op op_fdivW sem_fdiv (jo_var (pv 1)) (jo_of jx_int))) (jo_of jx_int)))) (pg_tup rfl (pgs_cons (pg_name (i := 2) sc_law.nd rfl (by first | exact Or.inl rfl | exact Or.inr rfl)) (pgs_cons (pg_name (i := 4) sc_law.nd rfl (by first | exact Or.inl rfl | exact Or.inr rfl)) pgs_nil))) (gok_tup (gsok_cons (gok_name 2) (gsok_cons (gok_name 4) gsok_nil)))) (jss_one (js_set (i := 3) false sc_law.nd (jx_lst (ja_cons (jx_t1 call_tuple_of sem_tuple (by rfl) B.tuple_ bt_tuple (jo_of (jx_op op_addD sem_add (jo_of (jx_listRng2 B.list_ B.range_ (jo_of jx_int) (jo_var (pv 2)))) (jo_of (jx_lst (ja_cons jx_int ja_nil)))))) ja_nil)))))) jss_nil) (jss_cons (js_asg (jx_call h_Ltable rfl (hr.mono (by decide)) (ja_cons (jx_var (pv 3)) (ja_cons (jx_var (pv 2)) ja_nil))) (pg_tup rfl (pgs_cons (pg_name (i := 7) sc_law.nd rfl (by first | exact Or.inl rfl | exact Or.inr rfl)) (pgs_cons (pg_name (i := 8) sc_law.nd rfl (by first | exact Or.inl rfl | exact Or.inr rfl)) pgs_nil))) (gok_tup (gsok_cons (gok_name 7) (gsok_cons (gok_name 8) gsok_nil)))) (jss_cons (js_if (jt_w (jw_and (jt_not (jt_tru rfl (jo_var (pv 5)))) (jw_and1 (jt_cmp op_gt sem_gt (jo_of (jx_call h_Lmany rfl (hr.mono (by decide)) (ja_cons (jx_var (pv 4)) (ja_cons (jx_b1 call_lenB sem_lenA (by rfl) B.len_ bb_len (jo_var (pv 8))) ja_nil)))) (jo_of jx_int) (by rfl))))) (jss_one (js_set (i := 4) false sc_law.nd jx_int)) jss_nil) (jss_cons (js_set (i := 9) false sc_law.nd (jx_lst ja_nil)) (jss_cons (js_if (jt_not (jt_tru rfl (jo_var (pv 5)))) (jss_one (js_set (i := 9) false sc_law.nd (jx_call h_Lrules rfl (hr.mono (by decide)) (ja_cons (jx_var (pv 0)) (ja_cons (jx_var (pv 4)) (ja_cons (jx_call h_Lmix rfl (hr.mono (by decide)) (ja_cons (jx_call h_Lat rfl (hr.mono (by decide)) (ja_cons (jx_var (pv 0)) (ja_cons jx_int ja_nil))) (ja_cons jx_int ja_nil))) ja_nil)))))) jss_nil) (jss_cons (js_set (i := 10) false sc_law.nd (jx_lst (ja_cons (jx_t1 call_list_of sem_list (by rfl) B.list_ bt_list (jo_var (pv 9))) (ja_cons (jx_lc rfl sc_law.nd (ji_any rfl (jx_var (pv 7))) (blkOk_by (own := [("_law_row", 13)]) rfl) (gokv_name 13 (by decide)) (fun _ _ _ _ _ => (pg_name (i := 13) sc_law.nd rfl (by first | exact Or.inl rfl | exact Or.inr rfl))) (fun _ _ _ _ _ => jts_nil) (fun _ _ _ _ _ => (jx_t1 call_list_of sem_list (by rfl) B.list_ bt_list (jo_var (pv 13))))) ja_nil)))) (jss_cons (js_if (jt_cmp op_gt sem_gt (jo_of (jx_call h_Lmany rfl (hr.mono (by decide)) (ja_cons (jx_var (pv 4)) (ja_cons (jx_b1 call_lenB sem_lenA (by rfl) B.len_ bb_len (jo_var (pv 8))) ja_nil)))) (jo_of jx_int) (by rfl)) (jss_one (js_ret (jx_and (jx_call h_Lrefused rfl (hr.mono (by decide)) (ja_cons (jx_var (pv 4)) (ja_cons (jx_ix rfl (hu1 hr) (jo_var (pv 10)) (jo_of jx_int)) (ja_cons (jx_ix rfl (hu1 hr) (jo_var (pv 10)) (jo_of jx_int)) ja_nil)))) (jx_one (jx_cmp (op_eqP (hu64 hr)) sem_eq (jo_var (pv 10)) (jo_of (jx_lst (ja_cons (jx_var (pv 9)) (ja_cons (jx_var (pv 7)) ja_nil)))) (by rfl)))))) jss_nil) (jss_cons (js_set (i := 11) false sc_law.nd (jx_call h_Ldue rfl (hr.mono (by decide)) (ja_cons (jx_var (pv 4)) (ja_cons (jx_var (pv 9)) (ja_cons (jx_var (pv 8)) ja_nil))))) (jss_cons (js_set (i := 12) false sc_law.nd (jx_callX h_homes takesNo rfl (hr.mono (by decide)) (ja_cons (jx_var (pv 4)) (ja_cons (jx_ix rfl (hu1 hr) (jo_var (pv 10)) (jo_of jx_int)) (ja_cons (jx_ix rfl (hu1 hr) (jo_var (pv 10)) (jo_of jx_int)) ja_nil))))) (jss_cons (js_if (jt_w (jw_or (jt_not (jt_tru rfl (jo_of (jx_call h_Lsame rfl (hr.mono (by decide)) (ja_cons (jx_var (pv 12)) (ja_cons (jx_var (pv 11)) ja_nil)))))) (jw_or1 (jt_tru rfl (jo_var (pv 5)))))) (jss_one (js_ret (jx_call h_Lsame rfl (hr.mono (by decide)) (ja_cons (jx_var (pv 12)) (ja_cons (jx_var (pv 11)) ja_nil))))) jss_nil) (jss_cons (js_appN true rfl (jo_var (pv 12)) (jx_lst (ja_cons jx_int ja_nil))) (jss_cons (js_appN false rfl (jo_of (jx_ix rfl (hu1 hr) (jo_var (pv 12)) (jo_of jx_int))) jx_int) (jss_one (js_ret (jx_and (jx_call h_Lsame rfl (hr.mono (by decide)) (ja_cons (jx_callX h_homes takesNo rfl (hr.mono (by decide)) (ja_cons (jx_var (pv 4)) (ja_cons (jx_ix rfl (hu1 hr) (jo_var (pv 10)) (jo_of jx_int)) (ja_cons (jx_ix rfl (hu1 hr) (jo_var (pv 10)) (jo_of jx_int)) ja_nil)))) (ja_cons (jx_var (pv 11)) ja_nil))) (jx_one (jx_cmp (op_eqP (hu64 hr)) sem_eq (jo_var (pv 10)) (jo_of (jx_lst (ja_cons (jx_var (pv 9)) (ja_cons (jx_var (pv 7)) ja_nil)))) (by rfl))))))))))))))))))))))), fun ds w P h => v_law ds w P h⟩
/-! ### the head -/
theorem topfn {K : PySem.W.Frag} {h : Heap} {mg : Str → Option Value} {x : Str} {st : Stmt} {f : Addr} {oc : Value} {od an : Option Addr} {osl : Array (Option Value)} {kV dc pm cd ct : Value} (X : K.In h) (G : h.Ns mainGlobals mg)
    (a : PySem.W.nsIn K mainGlobals x = some (some (.ref f))) (l : K.lookup f = some ⟨oc, od, .func (PySem.W.fnOf x x (defArgs st) (defBody st) (defScope st) .none kV dc pm an cd ct), osl⟩) (c : PySem.W.codeIn K cd x = true) (k : PySem.W.keepIn K (.ref f) = true) :
    TopFn K mg x x st f (PySem.W.fnOf x x (defArgs st) (defBody st) (defScope st) .none kV dc pm an cd ct) := ⟨fun_mk l c k, PySem.W.mg_of X G a⟩
theorem all_mk {l : PySem.W.OpenLaw} {w : World} {K : PySem.W.Frag} {h : Heap} {mg : Str → Option Value} {fa : Addr}
    {f0 : Addr} {od0 an0 : Option Addr} {sl0 : Array (Option Value)} {oc0 kV0 dc0 pm0 cd0 ct0 : Value} {f1 : Addr} {od1 an1 : Option Addr} {sl1 : Array (Option Value)} {oc1 kV1 dc1 pm1 cd1 ct1 : Value} {f2 : Addr} {od2 an2 : Option Addr} {sl2 : Array (Option Value)} {oc2 kV2 dc2 pm2 cd2 ct2 : Value} {f3 : Addr} {od3 an3 : Option Addr} {sl3 : Array (Option Value)} {oc3 kV3 dc3 pm3 cd3 ct3 : Value} {f4 : Addr} {od4 an4 : Option Addr} {sl4 : Array (Option Value)} {oc4 kV4 dc4 pm4 cd4 ct4 : Value} {f5 : Addr} {od5 an5 : Option Addr} {sl5 : Array (Option Value)} {oc5 kV5 dc5 pm5 cd5 ct5 : Value} {f6 : Addr} {od6 an6 : Option Addr} {sl6 : Array (Option Value)} {oc6 kV6 dc6 pm6 cd6 ct6 : Value} {f7 : Addr} {od7 an7 : Option Addr} {sl7 : Array (Option Value)} {oc7 kV7 dc7 pm7 cd7 ct7 : Value} {f8 : Addr} {od8 an8 : Option Addr} {sl8 : Array (Option Value)} {oc8 kV8 dc8 pm8 cd8 ct8 : Value} {f9 : Addr} {od9 an9 : Option Addr} {sl9 : Array (Option Value)} {oc9 kV9 dc9 pm9 cd9 ct9 : Value} {f10 : Addr} {od10 an10 : Option Addr} {sl10 : Array (Option Value)} {oc10 kV10 dc10 pm10 cd10 ct10 : Value} {f11 : Addr} {od11 an11 : Option Addr} {sl11 : Array (Option Value)} {oc11 kV11 dc11 pm11 cd11 ct11 : Value} {f12 : Addr} {od12 an12 : Option Addr} {sl12 : Array (Option Value)} {oc12 kV12 dc12 pm12 cd12 ct12 : Value} {f13 : Addr} {od13 an13 : Option Addr} {sl13 : Array (Option Value)} {oc13 kV13 dc13 pm13 cd13 ct13 : Value} {f14 : Addr} {od14 an14 : Option Addr} {sl14 : Array (Option Value)} {oc14 kV14 dc14 pm14 cd14 ct14 : Value} {f15 : Addr} {od15 an15 : Option Addr} {sl15 : Array (Option Value)} {oc15 kV15 dc15 pm15 cd15 ct15 : Value} {f16 : Addr} {od16 an16 : Option Addr} {sl16 : Array (Option Value)} {oc16 kV16 dc16 pm16 cd16 ct16 : Value} {f17 : Addr} {od17 an17 : Option Addr} {sl17 : Array (Option Value)} {oc17 kV17 dc17 pm17 cd17 ct17 : Value} {f18 : Addr} {od18 an18 : Option Addr} {sl18 : Array (Option Value)} {oc18 kV18 dc18 pm18 cd18 ct18 : Value} {f19 : Addr} {od19 an19 : Option Addr} {sl19 : Array (Option Value)} {oc19 kV19 dc19 pm19 cd19 ct19 : Value} {f20 : Addr} {od20 an20 : Option Addr} {sl20 : Array (Option Value)} {oc20 kV20 dc20 pm20 cd20 ct20 : Value} {f21 : Addr} {od21 an21 : Option Addr} {sl21 : Array (Option Value)} {oc21 kV21 dc21 pm21 cd21 ct21 : Value} {f22 : Addr} {od22 an22 : Option Addr} {sl22 : Array (Option Value)} {oc22 kV22 dc22 pm22 cd22 ct22 : Value}
    (X : K.In h) (G : h.Ns mainGlobals mg) (hfa : mg "law" = some (.ref fa))
    {C_NoWord C_TooLong C_NoOrder C_TooMany C_TooGreat C_YardError : Addr}
    (xa_NoWord : PySem.W.nsIn K mainGlobals "NoWord" = some (some (.ref C_NoWord)))
    (xa_TooLong : PySem.W.nsIn K mainGlobals "TooLong" = some (some (.ref C_TooLong)))
    (xa_NoOrder : PySem.W.nsIn K mainGlobals "NoOrder" = some (some (.ref C_NoOrder)))
    (xa_TooMany : PySem.W.nsIn K mainGlobals "TooMany" = some (some (.ref C_TooMany)))
    (xa_TooGreat : PySem.W.nsIn K mainGlobals "TooGreat" = some (some (.ref C_TooGreat)))
    (xa_YardError : PySem.W.nsIn K mainGlobals "YardError" = some (some (.ref C_YardError)))
    (xc_NoWord : PySem.W.isClsIn K C_NoWord = true)
    (xt_NoWord : PySem.W.typeIn K (.ref C_NoWord) = some (.type "type"))
    (xb_NoWord : PySem.W.subIn K (.ref C_NoWord) (.type "BaseException") = some true)
    (xv_NoWord : PySem.W.subIn K (.ref C_NoWord) (.type "ValueError") = some true)
    (xh_NoWord : PySem.W.hasDictIn K C_NoWord = true)
    (xg_NoWord : PySem.W.findIn K (.ref C_NoWord) "__getattribute__" = some (some (.builtin "BaseException.__getattribute__")))
    (xq_NoWord : PySem.W.findIn K (.ref C_NoWord) "__getattr__" = some none)
    (xe_NoWord : PySem.W.findIn K (.ref C_NoWord) "__class__" = some (some (.builtin "object.__class__")))
    (xm_NoWord : PySem.W.mroIn K C_NoWord (.type "object") = some true)
    (xs_NoWord_NoWord : PySem.W.subIn K (.ref C_NoWord) (.ref C_NoWord) = some true)
    (xs_NoWord_TooLong : PySem.W.subIn K (.ref C_NoWord) (.ref C_TooLong) = some false)
    (xs_NoWord_NoOrder : PySem.W.subIn K (.ref C_NoWord) (.ref C_NoOrder) = some false)
    (xs_NoWord_TooMany : PySem.W.subIn K (.ref C_NoWord) (.ref C_TooMany) = some false)
    (xs_NoWord_TooGreat : PySem.W.subIn K (.ref C_NoWord) (.ref C_TooGreat) = some false)
    (xs_NoWord_YardError : PySem.W.subIn K (.ref C_NoWord) (.ref C_YardError) = some true)
    (xk_NoWord : PySem.W.keepIn K (.ref C_NoWord) = true)
    (xx_NoWord : PySem.W.excIn K C_NoWord [.type "ValueError", .type "Exception", .type "BaseException", .type "object"] "ValueError.__new__" = true)
    (xc_TooLong : PySem.W.isClsIn K C_TooLong = true)
    (xt_TooLong : PySem.W.typeIn K (.ref C_TooLong) = some (.type "type"))
    (xb_TooLong : PySem.W.subIn K (.ref C_TooLong) (.type "BaseException") = some true)
    (xv_TooLong : PySem.W.subIn K (.ref C_TooLong) (.type "ValueError") = some true)
    (xh_TooLong : PySem.W.hasDictIn K C_TooLong = true)
    (xg_TooLong : PySem.W.findIn K (.ref C_TooLong) "__getattribute__" = some (some (.builtin "BaseException.__getattribute__")))
    (xq_TooLong : PySem.W.findIn K (.ref C_TooLong) "__getattr__" = some none)
    (xe_TooLong : PySem.W.findIn K (.ref C_TooLong) "__class__" = some (some (.builtin "object.__class__")))
    (xm_TooLong : PySem.W.mroIn K C_TooLong (.type "object") = some true)
    (xs_TooLong_NoWord : PySem.W.subIn K (.ref C_TooLong) (.ref C_NoWord) = some false)
    (xs_TooLong_TooLong : PySem.W.subIn K (.ref C_TooLong) (.ref C_TooLong) = some true)
    (xs_TooLong_NoOrder : PySem.W.subIn K (.ref C_TooLong) (.ref C_NoOrder) = some false)
    (xs_TooLong_TooMany : PySem.W.subIn K (.ref C_TooLong) (.ref C_TooMany) = some false)
    (xs_TooLong_TooGreat : PySem.W.subIn K (.ref C_TooLong) (.ref C_TooGreat) = some false)
    (xs_TooLong_YardError : PySem.W.subIn K (.ref C_TooLong) (.ref C_YardError) = some true)
    (xk_TooLong : PySem.W.keepIn K (.ref C_TooLong) = true)
    (xx_TooLong : PySem.W.excIn K C_TooLong [.type "ValueError", .type "Exception", .type "BaseException", .type "object"] "ValueError.__new__" = true)
    (xc_NoOrder : PySem.W.isClsIn K C_NoOrder = true)
    (xt_NoOrder : PySem.W.typeIn K (.ref C_NoOrder) = some (.type "type"))
    (xb_NoOrder : PySem.W.subIn K (.ref C_NoOrder) (.type "BaseException") = some true)
    (xv_NoOrder : PySem.W.subIn K (.ref C_NoOrder) (.type "ValueError") = some true)
    (xh_NoOrder : PySem.W.hasDictIn K C_NoOrder = true)
    (xg_NoOrder : PySem.W.findIn K (.ref C_NoOrder) "__getattribute__" = some (some (.builtin "BaseException.__getattribute__")))
    (xq_NoOrder : PySem.W.findIn K (.ref C_NoOrder) "__getattr__" = some none)
    (xe_NoOrder : PySem.W.findIn K (.ref C_NoOrder) "__class__" = some (some (.builtin "object.__class__")))
    (xm_NoOrder : PySem.W.mroIn K C_NoOrder (.type "object") = some true)
    (xs_NoOrder_NoWord : PySem.W.subIn K (.ref C_NoOrder) (.ref C_NoWord) = some false)
    (xs_NoOrder_TooLong : PySem.W.subIn K (.ref C_NoOrder) (.ref C_TooLong) = some false)
    (xs_NoOrder_NoOrder : PySem.W.subIn K (.ref C_NoOrder) (.ref C_NoOrder) = some true)
    (xs_NoOrder_TooMany : PySem.W.subIn K (.ref C_NoOrder) (.ref C_TooMany) = some false)
    (xs_NoOrder_TooGreat : PySem.W.subIn K (.ref C_NoOrder) (.ref C_TooGreat) = some false)
    (xs_NoOrder_YardError : PySem.W.subIn K (.ref C_NoOrder) (.ref C_YardError) = some true)
    (xk_NoOrder : PySem.W.keepIn K (.ref C_NoOrder) = true)
    (xx_NoOrder : PySem.W.excIn K C_NoOrder [.type "ValueError", .type "Exception", .type "BaseException", .type "object"] "ValueError.__new__" = true)
    (xc_TooMany : PySem.W.isClsIn K C_TooMany = true)
    (xt_TooMany : PySem.W.typeIn K (.ref C_TooMany) = some (.type "type"))
    (xb_TooMany : PySem.W.subIn K (.ref C_TooMany) (.type "BaseException") = some true)
    (xv_TooMany : PySem.W.subIn K (.ref C_TooMany) (.type "ValueError") = some true)
    (xh_TooMany : PySem.W.hasDictIn K C_TooMany = true)
    (xg_TooMany : PySem.W.findIn K (.ref C_TooMany) "__getattribute__" = some (some (.builtin "BaseException.__getattribute__")))
    (xq_TooMany : PySem.W.findIn K (.ref C_TooMany) "__getattr__" = some none)
    (xe_TooMany : PySem.W.findIn K (.ref C_TooMany) "__class__" = some (some (.builtin "object.__class__")))
    (xm_TooMany : PySem.W.mroIn K C_TooMany (.type "object") = some true)
    (xs_TooMany_NoWord : PySem.W.subIn K (.ref C_TooMany) (.ref C_NoWord) = some false)
    (xs_TooMany_TooLong : PySem.W.subIn K (.ref C_TooMany) (.ref C_TooLong) = some false)
    (xs_TooMany_NoOrder : PySem.W.subIn K (.ref C_TooMany) (.ref C_NoOrder) = some false)
    (xs_TooMany_TooMany : PySem.W.subIn K (.ref C_TooMany) (.ref C_TooMany) = some true)
    (xs_TooMany_TooGreat : PySem.W.subIn K (.ref C_TooMany) (.ref C_TooGreat) = some false)
    (xs_TooMany_YardError : PySem.W.subIn K (.ref C_TooMany) (.ref C_YardError) = some true)
    (xc_TooGreat : PySem.W.isClsIn K C_TooGreat = true)
    (xt_TooGreat : PySem.W.typeIn K (.ref C_TooGreat) = some (.type "type"))
    (xb_TooGreat : PySem.W.subIn K (.ref C_TooGreat) (.type "BaseException") = some true)
    (xv_TooGreat : PySem.W.subIn K (.ref C_TooGreat) (.type "ValueError") = some true)
    (xh_TooGreat : PySem.W.hasDictIn K C_TooGreat = true)
    (xg_TooGreat : PySem.W.findIn K (.ref C_TooGreat) "__getattribute__" = some (some (.builtin "BaseException.__getattribute__")))
    (xq_TooGreat : PySem.W.findIn K (.ref C_TooGreat) "__getattr__" = some none)
    (xe_TooGreat : PySem.W.findIn K (.ref C_TooGreat) "__class__" = some (some (.builtin "object.__class__")))
    (xm_TooGreat : PySem.W.mroIn K C_TooGreat (.type "object") = some true)
    (xs_TooGreat_NoWord : PySem.W.subIn K (.ref C_TooGreat) (.ref C_NoWord) = some false)
    (xs_TooGreat_TooLong : PySem.W.subIn K (.ref C_TooGreat) (.ref C_TooLong) = some false)
    (xs_TooGreat_NoOrder : PySem.W.subIn K (.ref C_TooGreat) (.ref C_NoOrder) = some false)
    (xs_TooGreat_TooMany : PySem.W.subIn K (.ref C_TooGreat) (.ref C_TooMany) = some false)
    (xs_TooGreat_TooGreat : PySem.W.subIn K (.ref C_TooGreat) (.ref C_TooGreat) = some true)
    (xs_TooGreat_YardError : PySem.W.subIn K (.ref C_TooGreat) (.ref C_YardError) = some true)
    (xk_TooGreat : PySem.W.keepIn K (.ref C_TooGreat) = true)
    (xx_TooGreat : PySem.W.excIn K C_TooGreat [.type "ValueError", .type "Exception", .type "BaseException", .type "object"] "ValueError.__new__" = true)
    (xc_YardError : PySem.W.isClsIn K C_YardError = true)
    (xt_YardError : PySem.W.typeIn K (.ref C_YardError) = some (.type "type"))
    (xb_YardError : PySem.W.subIn K (.ref C_YardError) (.type "BaseException") = some true)
    (xv_YardError : PySem.W.subIn K (.ref C_YardError) (.type "ValueError") = some true)
    (xh_YardError : PySem.W.hasDictIn K C_YardError = true)
    (xg_YardError : PySem.W.findIn K (.ref C_YardError) "__getattribute__" = some (some (.builtin "BaseException.__getattribute__")))
    (xq_YardError : PySem.W.findIn K (.ref C_YardError) "__getattr__" = some none)
    (xe_YardError : PySem.W.findIn K (.ref C_YardError) "__class__" = some (some (.builtin "object.__class__")))
    (xm_YardError : PySem.W.mroIn K C_YardError (.type "object") = some true)
    (xn_1 : PySem.W.findIn K (.ref C_TooMany) "made" = some none)
    (xn_2 : PySem.W.findIn K (.ref C_TooMany) "rows" = some none)
    (xbn : PySem.W.specialIn K (.builtin "object.__class__") "__get__" = some (some (.builtin "getset_descriptor.__get__")))
    (xbt : PySem.W.takesIn K (.builtin "object.__class__") = some true)
    (a0 : PySem.W.nsIn K mainGlobals "steps_of" = some (some (.ref f0)))
    (l0 : K.lookup f0 = some ⟨oc0, od0, .func (PySem.W.fnOf "steps_of" "steps_of" (defArgs s_steps_of) (defBody s_steps_of) (defScope s_steps_of) .none kV0 dc0 pm0 an0 cd0 ct0), sl0⟩)
    (c0 : PySem.W.codeIn K cd0 "steps_of" = true)
    (k0 : PySem.W.keepIn K (.ref f0) = true)
    (a1 : PySem.W.nsIn K mainGlobals "back" = some (some (.ref f1)))
    (l1 : K.lookup f1 = some ⟨oc1, od1, .func (PySem.W.fnOf "back" "back" (defArgs s_back) (defBody s_back) (defScope s_back) .none kV1 dc1 pm1 an1 cd1 ct1), sl1⟩)
    (c1 : PySem.W.codeIn K cd1 "back" = true)
    (k1 : PySem.W.keepIn K (.ref f1) = true)
    (a2 : PySem.W.nsIn K mainGlobals "led" = some (some (.ref f2)))
    (l2 : K.lookup f2 = some ⟨oc2, od2, .func (PySem.W.fnOf "led" "led" (defArgs s_led) (defBody s_led) (defScope s_led) .none kV2 dc2 pm2 an2 cd2 ct2), sl2⟩)
    (c2 : PySem.W.codeIn K cd2 "led" = true)
    (k2 : PySem.W.keepIn K (.ref f2) = true)
    (a3 : PySem.W.nsIn K mainGlobals "least_ways" = some (some (.ref f3)))
    (l3 : K.lookup f3 = some ⟨oc3, od3, .func (PySem.W.fnOf "least_ways" "least_ways" (defArgs s_least_ways) (defBody s_least_ways) (defScope s_least_ways) .none kV3 dc3 pm3 an3 cd3 ct3), sl3⟩)
    (c3 : PySem.W.codeIn K cd3 "least_ways" = true)
    (k3 : PySem.W.keepIn K (.ref f3) = true)
    (a4 : PySem.W.nsIn K mainGlobals "filled_in" = some (some (.ref f4)))
    (l4 : K.lookup f4 = some ⟨oc4, od4, .func (PySem.W.fnOf "filled_in" "filled_in" (defArgs s_filled_in) (defBody s_filled_in) (defScope s_filled_in) .none kV4 dc4 pm4 an4 cd4 ct4), sl4⟩)
    (c4 : PySem.W.codeIn K cd4 "filled_in" = true)
    (k4 : PySem.W.keepIn K (.ref f4) = true)
    (a5 : PySem.W.nsIn K mainGlobals "carries" = some (some (.ref f5)))
    (l5 : K.lookup f5 = some ⟨oc5, od5, .func (PySem.W.fnOf "carries" "carries" (defArgs s_carries) (defBody s_carries) (defScope s_carries) .none kV5 dc5 pm5 an5 cd5 ct5), sl5⟩)
    (c5 : PySem.W.codeIn K cd5 "carries" = true)
    (k5 : PySem.W.keepIn K (.ref f5) = true)
    (a6 : PySem.W.nsIn K mainGlobals "choices" = some (some (.ref f6)))
    (l6 : K.lookup f6 = some ⟨oc6, od6, .func (PySem.W.fnOf "choices" "choices" (defArgs s_choices) (defBody s_choices) (defScope s_choices) .none kV6 dc6 pm6 an6 cd6 ct6), sl6⟩)
    (c6 : PySem.W.codeIn K cd6 "choices" = true)
    (k6 : PySem.W.keepIn K (.ref f6) = true)
    (a7 : PySem.W.nsIn K mainGlobals "choice" = some (some (.ref f7)))
    (l7 : K.lookup f7 = some ⟨oc7, od7, .func (PySem.W.fnOf "choice" "choice" (defArgs s_choice) (defBody s_choice) (defScope s_choice) .none kV7 dc7 pm7 an7 cd7 ct7), sl7⟩)
    (c7 : PySem.W.codeIn K cd7 "choice" = true)
    (k7 : PySem.W.keepIn K (.ref f7) = true)
    (a8 : PySem.W.nsIn K mainGlobals "homes" = some (some (.ref f8)))
    (l8 : K.lookup f8 = some ⟨oc8, od8, .func (PySem.W.fnOf "homes" "homes" (defArgs s_homes) (defBody s_homes) (defScope s_homes) .none kV8 dc8 pm8 an8 cd8 ct8), sl8⟩)
    (c8 : PySem.W.codeIn K cd8 "homes" = true)
    (k8 : PySem.W.keepIn K (.ref f8) = true)
    (a9 : PySem.W.nsIn K mainGlobals "_law_at" = some (some (.ref f9)))
    (l9 : K.lookup f9 = some ⟨oc9, od9, .func (PySem.W.fnOf "_law_at" "_law_at" (defArgs s_Lat) (defBody s_Lat) (defScope s_Lat) .none kV9 dc9 pm9 an9 cd9 ct9), sl9⟩)
    (c9 : PySem.W.codeIn K cd9 "_law_at" = true)
    (k9 : PySem.W.keepIn K (.ref f9) = true)
    (a10 : PySem.W.nsIn K mainGlobals "_law_mix" = some (some (.ref f10)))
    (l10 : K.lookup f10 = some ⟨oc10, od10, .func (PySem.W.fnOf "_law_mix" "_law_mix" (defArgs s_Lmix) (defBody s_Lmix) (defScope s_Lmix) .none kV10 dc10 pm10 an10 cd10 ct10), sl10⟩)
    (c10 : PySem.W.codeIn K cd10 "_law_mix" = true)
    (k10 : PySem.W.keepIn K (.ref f10) = true)
    (a11 : PySem.W.nsIn K mainGlobals "_law_turns" = some (some (.ref f11)))
    (l11 : K.lookup f11 = some ⟨oc11, od11, .func (PySem.W.fnOf "_law_turns" "_law_turns" (defArgs s_Lturns) (defBody s_Lturns) (defScope s_Lturns) .none kV11 dc11 pm11 an11 cd11 ct11), sl11⟩)
    (c11 : PySem.W.codeIn K cd11 "_law_turns" = true)
    (k11 : PySem.W.keepIn K (.ref f11) = true)
    (a12 : PySem.W.nsIn K mainGlobals "_law_back" = some (some (.ref f12)))
    (l12 : K.lookup f12 = some ⟨oc12, od12, .func (PySem.W.fnOf "_law_back" "_law_back" (defArgs s_Lback) (defBody s_Lback) (defScope s_Lback) .none kV12 dc12 pm12 an12 cd12 ct12), sl12⟩)
    (c12 : PySem.W.codeIn K cd12 "_law_back" = true)
    (k12 : PySem.W.keepIn K (.ref f12) = true)
    (a13 : PySem.W.nsIn K mainGlobals "_law_through" = some (some (.ref f13)))
    (l13 : K.lookup f13 = some ⟨oc13, od13, .func (PySem.W.fnOf "_law_through" "_law_through" (defArgs s_Lthrough) (defBody s_Lthrough) (defScope s_Lthrough) .none kV13 dc13 pm13 an13 cd13 ct13), sl13⟩)
    (c13 : PySem.W.codeIn K cd13 "_law_through" = true)
    (k13 : PySem.W.keepIn K (.ref f13) = true)
    (a14 : PySem.W.nsIn K mainGlobals "_law_table" = some (some (.ref f14)))
    (l14 : K.lookup f14 = some ⟨oc14, od14, .func (PySem.W.fnOf "_law_table" "_law_table" (defArgs s_Ltable) (defBody s_Ltable) (defScope s_Ltable) .none kV14 dc14 pm14 an14 cd14 ct14), sl14⟩)
    (c14 : PySem.W.codeIn K cd14 "_law_table" = true)
    (k14 : PySem.W.keepIn K (.ref f14) = true)
    (a15 : PySem.W.nsIn K mainGlobals "_law_word" = some (some (.ref f15)))
    (l15 : K.lookup f15 = some ⟨oc15, od15, .func (PySem.W.fnOf "_law_word" "_law_word" (defArgs s_Lword) (defBody s_Lword) (defScope s_Lword) .none kV15 dc15 pm15 an15 cd15 ct15), sl15⟩)
    (c15 : PySem.W.codeIn K cd15 "_law_word" = true)
    (k15 : PySem.W.keepIn K (.ref f15) = true)
    (a16 : PySem.W.nsIn K mainGlobals "_law_rules" = some (some (.ref f16)))
    (l16 : K.lookup f16 = some ⟨oc16, od16, .func (PySem.W.fnOf "_law_rules" "_law_rules" (defArgs s_Lrules) (defBody s_Lrules) (defScope s_Lrules) .none kV16 dc16 pm16 an16 cd16 ct16), sl16⟩)
    (c16 : PySem.W.codeIn K cd16 "_law_rules" = true)
    (k16 : PySem.W.keepIn K (.ref f16) = true)
    (a17 : PySem.W.nsIn K mainGlobals "_law_lists" = some (some (.ref f17)))
    (l17 : K.lookup f17 = some ⟨oc17, od17, .func (PySem.W.fnOf "_law_lists" "_law_lists" (defArgs s_Llists) (defBody s_Llists) (defScope s_Llists) .none kV17 dc17 pm17 an17 cd17 ct17), sl17⟩)
    (c17 : PySem.W.codeIn K cd17 "_law_lists" = true)
    (k17 : PySem.W.keepIn K (.ref f17) = true)
    (a18 : PySem.W.nsIn K mainGlobals "_law_due" = some (some (.ref f18)))
    (l18 : K.lookup f18 = some ⟨oc18, od18, .func (PySem.W.fnOf "_law_due" "_law_due" (defArgs s_Ldue) (defBody s_Ldue) (defScope s_Ldue) .none kV18 dc18 pm18 an18 cd18 ct18), sl18⟩)
    (c18 : PySem.W.codeIn K cd18 "_law_due" = true)
    (k18 : PySem.W.keepIn K (.ref f18) = true)
    (a19 : PySem.W.nsIn K mainGlobals "_law_same" = some (some (.ref f19)))
    (l19 : K.lookup f19 = some ⟨oc19, od19, .func (PySem.W.fnOf "_law_same" "_law_same" (defArgs s_Lsame) (defBody s_Lsame) (defScope s_Lsame) .none kV19 dc19 pm19 an19 cd19 ct19), sl19⟩)
    (c19 : PySem.W.codeIn K cd19 "_law_same" = true)
    (k19 : PySem.W.keepIn K (.ref f19) = true)
    (a20 : PySem.W.nsIn K mainGlobals "_law_refused" = some (some (.ref f20)))
    (l20 : K.lookup f20 = some ⟨oc20, od20, .func (PySem.W.fnOf "_law_refused" "_law_refused" (defArgs s_Lrefused) (defBody s_Lrefused) (defScope s_Lrefused) .none kV20 dc20 pm20 an20 cd20 ct20), sl20⟩)
    (c20 : PySem.W.codeIn K cd20 "_law_refused" = true)
    (k20 : PySem.W.keepIn K (.ref f20) = true)
    (a21 : PySem.W.nsIn K mainGlobals "_law_many" = some (some (.ref f21)))
    (l21 : K.lookup f21 = some ⟨oc21, od21, .func (PySem.W.fnOf "_law_many" "_law_many" (defArgs s_Lmany) (defBody s_Lmany) (defScope s_Lmany) .none kV21 dc21 pm21 an21 cd21 ct21), sl21⟩)
    (c21 : PySem.W.codeIn K cd21 "_law_many" = true)
    (k21 : PySem.W.keepIn K (.ref f21) = true)
    (a22 : PySem.W.nsIn K mainGlobals "law" = some (some (.ref f22)))
    (l22 : K.lookup f22 = some ⟨oc22, od22, .func (PySem.W.fnOf "law" "law" (defArgs s_law) (defBody s_law) (defScope s_law) .none kV22 dc22 pm22 an22 cd22 ct22), sl22⟩)
    (c22 : PySem.W.codeIn K cd22 "law" = true)
    (k22 : PySem.W.keepIn K (.ref f22) = true)
    {tk0 : Tok} (m0 : PySem.W.nsIn K mainGlobals "CHOICES" = some (some (.int 5000 tk0)))
    (z0 : PySem.W.nsIn K mainGlobals "abs" = some none)
    (z1 : PySem.W.nsIn K mainGlobals "bool" = some none)
    (z2 : PySem.W.nsIn K mainGlobals "int" = some none)
    (z3 : PySem.W.nsIn K mainGlobals "isinstance" = some none)
    (z4 : PySem.W.nsIn K mainGlobals "len" = some none)
    (z5 : PySem.W.nsIn K mainGlobals "list" = some none)
    (z6 : PySem.W.nsIn K mainGlobals "min" = some none)
    (z7 : PySem.W.nsIn K mainGlobals "range" = some none)
    (z8 : PySem.W.nsIn K mainGlobals "tuple" = some none)
    (z9 : PySem.W.nsIn K mainGlobals "zip" = some none) :
    ∃ fd : FuncData, (∀ (s : Shared) (v : Value), BindsTo s fd ⟨[v], []⟩ [("_law_script", v)]) ∧ ∀ base : Heap, K.In base → base.Ns mainGlobals mg → FnOk l.prog w K mg base CX0 6 fa fd ["_law_script"] (toSp K T_law) := by
  have e := hfa.symm.trans (PySem.W.mg_of X G a22)
  cases e
  have B : Bs mg := ⟨PySem.W.mg_none_of X G z0, PySem.W.mg_none_of X G z1, PySem.W.mg_none_of X G z2, PySem.W.mg_none_of X G z3, PySem.W.mg_none_of X G z4, PySem.W.mg_none_of X G z5, PySem.W.mg_none_of X G z6, PySem.W.mg_none_of X G z7, PySem.W.mg_none_of X G z8, PySem.W.mg_none_of X G z9⟩
  have g_CHOICES : ∃ u, mg "CHOICES" = some u ∧ RelV (V.int 5000) u := ⟨_, PySem.W.mg_of X G m0, _, rfl⟩
  have XT : XTabP K prX C_NoWord C_TooLong C_NoOrder C_TooMany C_TooGreat C_YardError := ⟨(fun _ => ⟨xa_NoWord, xc_NoWord, xt_NoWord, xb_NoWord, xv_NoWord, xh_NoWord, xg_NoWord, xq_NoWord, xe_NoWord, xm_NoWord⟩), (fun _ => ⟨xa_TooLong, xc_TooLong, xt_TooLong, xb_TooLong, xv_TooLong, xh_TooLong, xg_TooLong, xq_TooLong, xe_TooLong, xm_TooLong⟩), (fun _ => ⟨xa_NoOrder, xc_NoOrder, xt_NoOrder, xb_NoOrder, xv_NoOrder, xh_NoOrder, xg_NoOrder, xq_NoOrder, xe_NoOrder, xm_NoOrder⟩), (fun _ => ⟨xa_TooMany, xc_TooMany, xt_TooMany, xb_TooMany, xv_TooMany, xh_TooMany, xg_TooMany, xq_TooMany, xe_TooMany, xm_TooMany⟩), (fun _ => ⟨xa_TooGreat, xc_TooGreat, xt_TooGreat, xb_TooGreat, xv_TooGreat, xh_TooGreat, xg_TooGreat, xq_TooGreat, xe_TooGreat, xm_TooGreat⟩), (fun _ => ⟨xa_YardError, xc_YardError, xt_YardError, xb_YardError, xv_YardError, xh_YardError, xg_YardError, xq_YardError, xe_YardError, xm_YardError⟩), (fun h => absurd h (by decide +kernel)), (fun h => absurd h (by decide +kernel)), (fun h => absurd h (by decide +kernel)), (fun h => absurd h (by decide +kernel)), (fun h => absurd h (by decide +kernel)), (fun h => absurd h (by decide +kernel)), ⟨(fun _ _ => xs_NoWord_NoWord), (fun _ _ => xs_NoWord_TooLong), (fun _ _ => xs_NoWord_NoOrder), (fun _ _ => xs_NoWord_TooMany), (fun _ _ => xs_NoWord_TooGreat), (fun _ _ => xs_NoWord_YardError)⟩, ⟨(fun _ _ => xs_TooLong_NoWord), (fun _ _ => xs_TooLong_TooLong), (fun _ _ => xs_TooLong_NoOrder), (fun _ _ => xs_TooLong_TooMany), (fun _ _ => xs_TooLong_TooGreat), (fun _ _ => xs_TooLong_YardError)⟩, ⟨(fun _ _ => xs_NoOrder_NoWord), (fun _ _ => xs_NoOrder_TooLong), (fun _ _ => xs_NoOrder_NoOrder), (fun _ _ => xs_NoOrder_TooMany), (fun _ _ => xs_NoOrder_TooGreat), (fun _ _ => xs_NoOrder_YardError)⟩, ⟨(fun _ _ => xs_TooMany_NoWord), (fun _ _ => xs_TooMany_TooLong), (fun _ _ => xs_TooMany_NoOrder), (fun _ _ => xs_TooMany_TooMany), (fun _ _ => xs_TooMany_TooGreat), (fun _ _ => xs_TooMany_YardError)⟩, ⟨(fun _ _ => xs_TooGreat_NoWord), (fun _ _ => xs_TooGreat_TooLong), (fun _ _ => xs_TooGreat_NoOrder), (fun _ _ => xs_TooGreat_TooMany), (fun _ _ => xs_TooGreat_TooGreat), (fun _ _ => xs_TooGreat_YardError)⟩, ⟨xbn, xbt⟩⟩
  have XM : XMgP K mg prX C_NoWord C_TooLong C_NoOrder C_TooMany C_TooGreat C_YardError := ⟨(fun _ => PySem.W.mg_of X G xa_NoWord), (fun _ => PySem.W.mg_of X G xa_TooLong), (fun _ => PySem.W.mg_of X G xa_NoOrder), (fun _ => PySem.W.mg_of X G xa_TooMany), (fun _ => PySem.W.mg_of X G xa_TooGreat), (fun _ => PySem.W.mg_of X G xa_YardError), (fun _ => xk_NoWord), (fun _ => xk_TooLong), (fun _ => xk_NoOrder), (fun _ => xk_TooGreat), (fun _ => xx_NoWord), (fun _ => xx_TooLong), (fun _ => xx_NoOrder), (fun _ => xx_TooGreat), (fun _ => xn_1), (fun _ => xn_2)⟩
  have t0 := topfn (st := s_steps_of) X G a0 l0 c0 k0
  have t1 := topfn (st := s_back) X G a1 l1 c1 k1
  have t2 := topfn (st := s_led) X G a2 l2 c2 k2
  have t3 := topfn (st := s_least_ways) X G a3 l3 c3 k3
  have t4 := topfn (st := s_filled_in) X G a4 l4 c4 k4
  have t5 := topfn (st := s_carries) X G a5 l5 c5 k5
  have t6 := topfn (st := s_choices) X G a6 l6 c6 k6
  have t7 := topfn (st := s_choice) X G a7 l7 c7 k7
  have t8 := topfn (st := s_homes) X G a8 l8 c8 k8
  have t9 := topfn (st := s_Lat) X G a9 l9 c9 k9
  have t10 := topfn (st := s_Lmix) X G a10 l10 c10 k10
  have t11 := topfn (st := s_Lturns) X G a11 l11 c11 k11
  have t12 := topfn (st := s_Lback) X G a12 l12 c12 k12
  have t13 := topfn (st := s_Lthrough) X G a13 l13 c13 k13
  have t14 := topfn (st := s_Ltable) X G a14 l14 c14 k14
  have t15 := topfn (st := s_Lword) X G a15 l15 c15 k15
  have t16 := topfn (st := s_Lrules) X G a16 l16 c16 k16
  have t17 := topfn (st := s_Llists) X G a17 l17 c17 k17
  have t18 := topfn (st := s_Ldue) X G a18 l18 c18 k18
  have t19 := topfn (st := s_Lsame) X G a19 l19 c19 k19
  have t20 := topfn (st := s_Lrefused) X G a20 l20 c20 k20
  have t21 := topfn (st := s_Lmany) X G a21 l21 c21 k21
  have t22 := topfn (st := s_law) X G a22 l22 c22 k22
  refine ⟨PySem.W.fnOf "law" "law" (defArgs s_law) (defBody s_law) (defScope s_law) .none kV22 dc22 pm22 an22 cd22 ct22, fun s v => .of_eq rfl, fun base _ _ => ?_⟩
  have h_steps_of : Fn l.prog w K mg base 1 "steps_of" T_steps_of := d_steps_of t0 B
  have h_back : Fn l.prog w K mg base 1 "back" T_back := d_back t1 B
  have h_led : Fn l.prog w K mg base 1 "led" T_led := d_led t2 B
  have h_choices : FnX l.prog w K mg base 1 "choices" T_choices := d_choices t6 B XT XM g_CHOICES
  have h_choice : Fn l.prog w K mg base 1 "choice" T_choice := d_choice t7 B
  have h_Lat : Fn l.prog w K mg base 1 "_law_at" T_Lat := d_Lat t9 B
  have h_Lmix : Fn l.prog w K mg base 1 "_law_mix" T_Lmix := d_Lmix t10 B
  have h_Lback : Fn l.prog w K mg base 1 "_law_back" T_Lback := d_Lback t12 B
  have h_Llists : Fn l.prog w K mg base 1 "_law_lists" T_Llists := d_Llists t17 B
  have h_Lsame : Fn l.prog w K mg base 1 "_law_same" T_Lsame := d_Lsame t19 B
  have h_Lmany : Fn l.prog w K mg base 1 "_law_many" T_Lmany := d_Lmany t21 B
  have h_least_ways : Fn l.prog w K mg base 2 "least_ways" T_least_ways := d_least_ways t3 B h_steps_of
  have h_filled_in : Fn l.prog w K mg base 2 "filled_in" T_filled_in := d_filled_in t4 B h_back
  have h_Lturns : Fn l.prog w K mg base 2 "_law_turns" T_Lturns := d_Lturns t11 B h_Lmix
  have h_Lthrough : Fn l.prog w K mg base 2 "_law_through" T_Lthrough := d_Lthrough t13 B h_Lback
  have h_Ltable : Fn l.prog w K mg base 2 "_law_table" T_Ltable := d_Ltable t14 B h_Lback
  have h_Lword : Fn l.prog w K mg base 2 "_law_word" T_Lword := d_Lword t15 B h_Lmix
  have h_carries : Fn l.prog w K mg base 3 "carries" T_carries := d_carries t5 B h_filled_in h_led
  have h_Lrules : Fn l.prog w K mg base 3 "_law_rules" T_Lrules := d_Lrules t16 B h_Lmix h_Lword
  have h_Ldue : Fn l.prog w K mg base 3 "_law_due" T_Ldue := d_Ldue t18 B h_Llists h_Lthrough
  have h_homes : FnX l.prog w K mg base 4 "homes" T_homes := d_homes t8 B h_carries h_choice h_choices h_least_ways
  have h_Lrefused : Fn l.prog w K mg base 5 "_law_refused" T_Lrefused := d_Lrefused t20 B XT XM h_homes
  exact dl_law t22 B h_Lat h_Ldue h_Lmany h_Lmix h_Lrefused h_Lrules h_Lsame h_Ltable h_Lturns h_homes
theorem walk {l : PySem.W.OpenLaw} {q : Program} {loose : List Str} {XP : (Str → Option Value) → Heap → Prop} {YP : World → Heap → Prop} {d : DefRec} {K : Params → PySem.W.Frag} (hn : l.most = some 63) (hdf : d.params.defaults = [])
    (hY : ∀ (w : World) (h : Heap), YP w h → (K w.params).In h)
    (F : ∀ (w : World) (mg : Str → Option Value) (fa : Addr) (h : Heap), (K w.params).In h → h.Ns mainGlobals mg → mg d.name = some (.ref fa) →
      ∃ fd : FuncData, (∀ (s : Shared) (u : Value), BindsTo s fd ⟨[u], []⟩ [("_law_script", u)]) ∧ ∀ base : Heap, (K w.params).In base → base.Ns mainGlobals mg → FnOk l.prog w (K w.params) mg base CX0 6 fa fd ["_law_script"] (toSp (K w.params) T_law)) :
    PySem.W.WalkO q loose XP YP l.row.toRowW d [] (fun f vs => PySem.call f vs) :=
  L2.walk_of (n := 63) (k := 6) (x := "_law_script") (CX := fun _ => CX0) (sp := fun w => toSp (K w.params) T_law) hn (by decide) hdf ⟨rfl, by decide, by decide⟩ hY F (fun _ _ a ns hl _ hS => law_sp hl hS fun _ => rfl) fun _ _ _ _ _ z => z
end My
open PySem PySem.W PyProof.Rows
set_option maxRecDepth 100000 in
set_option maxHeartbeats 0 in
theorem PySem.Challenge.cw_cosetyard_k72_homes_holds : PySem.Challenge.rw_cosetyard_k72_homes.Holds := by
  w_on; o_law; k_head; (case hw => w_witness2)
  k_fill
  refine My.walk (l := PySem.Challenge.rw_cosetyard_k72_homes) rfl rfl (fun w h Y => PySem.W.kIn_of Y) ?F
  case F =>
    intro w mg fa h KX G hmg
    refine' My.all_mk KX G hmg ?xa_NoWord ?xa_TooLong ?xa_NoOrder ?xa_TooMany ?xa_TooGreat ?xa_YardError ?xc_NoWord ?xt_NoWord ?xb_NoWord ?xv_NoWord ?xh_NoWord ?xg_NoWord ?xq_NoWord ?xe_NoWord ?xm_NoWord ?xs_NoWord_NoWord ?xs_NoWord_TooLong ?xs_NoWord_NoOrder ?xs_NoWord_TooMany ?xs_NoWord_TooGreat ?xs_NoWord_YardError ?xk_NoWord ?xx_NoWord ?xc_TooLong ?xt_TooLong ?xb_TooLong ?xv_TooLong ?xh_TooLong ?xg_TooLong ?xq_TooLong ?xe_TooLong ?xm_TooLong ?xs_TooLong_NoWord ?xs_TooLong_TooLong ?xs_TooLong_NoOrder ?xs_TooLong_TooMany ?xs_TooLong_TooGreat ?xs_TooLong_YardError ?xk_TooLong ?xx_TooLong ?xc_NoOrder ?xt_NoOrder ?xb_NoOrder ?xv_NoOrder ?xh_NoOrder ?xg_NoOrder ?xq_NoOrder ?xe_NoOrder ?xm_NoOrder ?xs_NoOrder_NoWord ?xs_NoOrder_TooLong ?xs_NoOrder_NoOrder ?xs_NoOrder_TooMany ?xs_NoOrder_TooGreat ?xs_NoOrder_YardError ?xk_NoOrder ?xx_NoOrder ?xc_TooMany ?xt_TooMany ?xb_TooMany ?xv_TooMany ?xh_TooMany ?xg_TooMany ?xq_TooMany ?xe_TooMany ?xm_TooMany ?xs_TooMany_NoWord ?xs_TooMany_TooLong ?xs_TooMany_NoOrder ?xs_TooMany_TooMany ?xs_TooMany_TooGreat ?xs_TooMany_YardError ?xc_TooGreat ?xt_TooGreat ?xb_TooGreat ?xv_TooGreat ?xh_TooGreat ?xg_TooGreat ?xq_TooGreat ?xe_TooGreat ?xm_TooGreat ?xs_TooGreat_NoWord ?xs_TooGreat_TooLong ?xs_TooGreat_NoOrder ?xs_TooGreat_TooMany ?xs_TooGreat_TooGreat ?xs_TooGreat_YardError ?xk_TooGreat ?xx_TooGreat ?xc_YardError ?xt_YardError ?xb_YardError ?xv_YardError ?xh_YardError ?xg_YardError ?xq_YardError ?xe_YardError ?xm_YardError ?xn_1 ?xn_2 ?xbn ?xbt ?a0 ?l0 ?c0 ?k0 ?a1 ?l1 ?c1 ?k1 ?a2 ?l2 ?c2 ?k2 ?a3 ?l3 ?c3 ?k3 ?a4 ?l4 ?c4 ?k4 ?a5 ?l5 ?c5 ?k5 ?a6 ?l6 ?c6 ?k6 ?a7 ?l7 ?c7 ?k7 ?a8 ?l8 ?c8 ?k8 ?a9 ?l9 ?c9 ?k9 ?a10 ?l10 ?c10 ?k10 ?a11 ?l11 ?c11 ?k11 ?a12 ?l12 ?c12 ?k12 ?a13 ?l13 ?c13 ?k13 ?a14 ?l14 ?c14 ?k14 ?a15 ?l15 ?c15 ?k15 ?a16 ?l16 ?c16 ?k16 ?a17 ?l17 ?c17 ?k17 ?a18 ?l18 ?c18 ?k18 ?a19 ?l19 ?c19 ?k19 ?a20 ?l20 ?c20 ?k20 ?a21 ?l21 ?c21 ?k21 ?a22 ?l22 ?c22 ?k22 ?m0 ?z0 ?z1 ?z2 ?z3 ?z4 ?z5 ?z6 ?z7 ?z8 ?z9
    (case xa_NoWord => k_is)
    (case xa_TooLong => k_is)
    (case xa_NoOrder => k_is)
    (case xa_TooMany => k_is)
    (case xa_TooGreat => k_is)
    (case xa_YardError => k_is)
    (case xc_NoWord => k_is)
    (case xt_NoWord => k_is)
    (case xb_NoWord => k_is)
    (case xv_NoWord => k_is)
    (case xh_NoWord => k_is)
    (case xg_NoWord => k_is)
    (case xq_NoWord => k_is)
    (case xe_NoWord => k_is)
    (case xm_NoWord => k_is)
    (case xs_NoWord_NoWord => k_is)
    (case xs_NoWord_TooLong => k_is)
    (case xs_NoWord_NoOrder => k_is)
    (case xs_NoWord_TooMany => k_is)
    (case xs_NoWord_TooGreat => k_is)
    (case xs_NoWord_YardError => k_is)
    (case xk_NoWord => k_is)
    (case xx_NoWord => k_exc)
    (case xc_TooLong => k_is)
    (case xt_TooLong => k_is)
    (case xb_TooLong => k_is)
    (case xv_TooLong => k_is)
    (case xh_TooLong => k_is)
    (case xg_TooLong => k_is)
    (case xq_TooLong => k_is)
    (case xe_TooLong => k_is)
    (case xm_TooLong => k_is)
    (case xs_TooLong_NoWord => k_is)
    (case xs_TooLong_TooLong => k_is)
    (case xs_TooLong_NoOrder => k_is)
    (case xs_TooLong_TooMany => k_is)
    (case xs_TooLong_TooGreat => k_is)
    (case xs_TooLong_YardError => k_is)
    (case xk_TooLong => k_is)
    (case xx_TooLong => k_exc)
    (case xc_NoOrder => k_is)
    (case xt_NoOrder => k_is)
    (case xb_NoOrder => k_is)
    (case xv_NoOrder => k_is)
    (case xh_NoOrder => k_is)
    (case xg_NoOrder => k_is)
    (case xq_NoOrder => k_is)
    (case xe_NoOrder => k_is)
    (case xm_NoOrder => k_is)
    (case xs_NoOrder_NoWord => k_is)
    (case xs_NoOrder_TooLong => k_is)
    (case xs_NoOrder_NoOrder => k_is)
    (case xs_NoOrder_TooMany => k_is)
    (case xs_NoOrder_TooGreat => k_is)
    (case xs_NoOrder_YardError => k_is)
    (case xk_NoOrder => k_is)
    (case xx_NoOrder => k_exc)
    (case xc_TooMany => k_is)
    (case xt_TooMany => k_is)
    (case xb_TooMany => k_is)
    (case xv_TooMany => k_is)
    (case xh_TooMany => k_is)
    (case xg_TooMany => k_is)
    (case xq_TooMany => k_is)
    (case xe_TooMany => k_is)
    (case xm_TooMany => k_is)
    (case xs_TooMany_NoWord => k_is)
    (case xs_TooMany_TooLong => k_is)
    (case xs_TooMany_NoOrder => k_is)
    (case xs_TooMany_TooMany => k_is)
    (case xs_TooMany_TooGreat => k_is)
    (case xs_TooMany_YardError => k_is)
    (case xc_TooGreat => k_is)
    (case xt_TooGreat => k_is)
    (case xb_TooGreat => k_is)
    (case xv_TooGreat => k_is)
    (case xh_TooGreat => k_is)
    (case xg_TooGreat => k_is)
    (case xq_TooGreat => k_is)
    (case xe_TooGreat => k_is)
    (case xm_TooGreat => k_is)
    (case xs_TooGreat_NoWord => k_is)
    (case xs_TooGreat_TooLong => k_is)
    (case xs_TooGreat_NoOrder => k_is)
    (case xs_TooGreat_TooMany => k_is)
    (case xs_TooGreat_TooGreat => k_is)
    (case xs_TooGreat_YardError => k_is)
    (case xk_TooGreat => k_is)
    (case xx_TooGreat => k_exc)
    (case xc_YardError => k_is)
    (case xt_YardError => k_is)
    (case xb_YardError => k_is)
    (case xv_YardError => k_is)
    (case xh_YardError => k_is)
    (case xg_YardError => k_is)
    (case xq_YardError => k_is)
    (case xe_YardError => k_is)
    (case xm_YardError => k_is)
    (case xn_1 => k_is)
    (case xn_2 => k_is)
    (case xbn => k_is)
    (case xbt => k_is)
    (case a0 => k_is)
    (case l0 => k_is)
    (case c0 => k_is)
    (case k0 => k_is)
    (case a1 => k_is)
    (case l1 => k_is)
    (case c1 => k_is)
    (case k1 => k_is)
    (case a2 => k_is)
    (case l2 => k_is)
    (case c2 => k_is)
    (case k2 => k_is)
    (case a3 => k_is)
    (case l3 => k_is)
    (case c3 => k_is)
    (case k3 => k_is)
    (case a4 => k_is)
    (case l4 => k_is)
    (case c4 => k_is)
    (case k4 => k_is)
    (case a5 => k_is)
    (case l5 => k_is)
    (case c5 => k_is)
    (case k5 => k_is)
    (case a6 => k_is)
    (case l6 => k_is)
    (case c6 => k_is)
    (case k6 => k_is)
    (case a7 => k_is)
    (case l7 => k_is)
    (case c7 => k_is)
    (case k7 => k_is)
    (case a8 => k_is)
    (case l8 => k_is)
    (case c8 => k_is)
    (case k8 => k_is)
    (case a9 => k_is)
    (case l9 => k_is)
    (case c9 => k_is)
    (case k9 => k_is)
    (case a10 => k_is)
    (case l10 => k_is)
    (case c10 => k_is)
    (case k10 => k_is)
    (case a11 => k_is)
    (case l11 => k_is)
    (case c11 => k_is)
    (case k11 => k_is)
    (case a12 => k_is)
    (case l12 => k_is)
    (case c12 => k_is)
    (case k12 => k_is)
    (case a13 => k_is)
    (case l13 => k_is)
    (case c13 => k_is)
    (case k13 => k_is)
    (case a14 => k_is)
    (case l14 => k_is)
    (case c14 => k_is)
    (case k14 => k_is)
    (case a15 => k_is)
    (case l15 => k_is)
    (case c15 => k_is)
    (case k15 => k_is)
    (case a16 => k_is)
    (case l16 => k_is)
    (case c16 => k_is)
    (case k16 => k_is)
    (case a17 => k_is)
    (case l17 => k_is)
    (case c17 => k_is)
    (case k17 => k_is)
    (case a18 => k_is)
    (case l18 => k_is)
    (case c18 => k_is)
    (case k18 => k_is)
    (case a19 => k_is)
    (case l19 => k_is)
    (case c19 => k_is)
    (case k19 => k_is)
    (case a20 => k_is)
    (case l20 => k_is)
    (case c20 => k_is)
    (case k20 => k_is)
    (case a21 => k_is)
    (case l21 => k_is)
    (case c21 => k_is)
    (case k21 => k_is)
    (case a22 => k_is)
    (case l22 => k_is)
    (case c22 => k_is)
    (case k22 => k_is)
    (case m0 => k_is)
    (case z0 => k_is)
    (case z1 => k_is)
    (case z2 => k_is)
    (case z3 => k_is)
    (case z4 => k_is)
    (case z5 => k_is)
    (case z6 => k_is)
    (case z7 => k_is)
    (case z8 => k_is)
    (case z9 => k_is)
