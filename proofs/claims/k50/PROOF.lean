import PyProof.Rows.All
import Wide.All
import OpenK.AllK
import Wide.FinOn
import HandS.ForMost
import HandS.Sort
import HandS.SortInts
import HandS.SortKw
import HandS.TupAny
import HandS.Conv
import HandS.Flow
import HandS.IsInst
import HandS.Defaults
import HandS.Exc
import HandS.TryOnly
import HandS.ExcOwn
import HandS.WordsExc
import HandS.Zip
import HandS.HeadHook1
import HandS.HeadHook2
import HandS.HeadHook4
import HandS.Lambda
import HandS.WordsDict
import HandS.Style
import HandS.Head0
import HandS.Head1
import HandS.Head2
import HandS.HeadEnd
import HandS.HeadHook3
import KE.KSortKey
import HandS.More
import HandS.Codes
import HandS.Strs
import HandS.TupMul
import KE.DataMinMax
import KE.SortData
import HandS.Iter
import KE.GoesEnum
import HandS.SetFor
import KE.OsSetLaws
import PyProof.SumAny
import HandS.ExcIs
import HandS.ExcValue
import HandS.Deep
import HandS.NoneIn
import PyProof.ReprRoads
import PyProof.ReprLen
import KE.DataMinKey
import KE.KLam
import HandS.EndTab
import HandS.SetKeys
import KE.DataFind
import PyProof.Rows.ReprOcc
import HandS.DictTup
import HandS.Text
import HandS.RaiseMore
import HandS.TryMany
import PySem.Challenge.RW_nearstairs_k50_sheets_read
set_option Elab.async false
set_option linter.all false
set_option maxRecDepth 100000
set_option maxHeartbeats 4000000
namespace NV
open PySem PySem.Spec PyProof.Rows L2

/-! ### pure data, values, nodes, state -/
/-- data that is never changed -/
inductive D where
  | non | bl (b : Bool) | int (i : Int) | str (s : Str) | lst (l : List D) | lsw (l : List D) | tup (l : List D) | dct (l : List (Key × D)) | ty (n : String) | exc (c : Str) | tpw (l : List D)
/-- a value: data, or a mutable thing by its number in the store, or a tuple of such -/
inductive W where
  | d (x : D) | obj (n : Nat) | tp (es : List (Sum D Nat))
/-- a mutable thing -/
inductive Nd where
  | lst (ws : List W) | dct (kws : List (Key × W)) | ins (c : Str) (fs : List (Str × W)) | tab (x q : Str)
abbrev Sto := List (Option Nd)
structure S where
  sl : List (Option W)
  st : Sto
/-- an expression's outcome: a value, or a thing made just now that none holds -/
inductive R where
  | val (w : W) | new (nd : Nd)

/-- what is at hand: frozen objects, the store's addresses, the heap -/
structure G where
  Φ : Hp
  ι : List Addr
  H : Hp

/-- an exception of the class cls at a, caught and kept -/
def ExK (cls : Value) (a : Addr) : HO := .ext fun h => ∃ (oe : Obj) (vs : Array Value), h.get? a = some oe ∧ Zc cls none oe ∧ oe.data = .fields vs
section
variable (K : PySem.W.Frag)
mutual
inductive Dd (h : Hp) : V → D → Prop
  | non : Dd h .non .non
  | bl {b} : Dd h (.bl b) (.bl b)
  | int {i} : Dd h (.int i) (.int i)
  | str {s} : Dd h (.str s) (.str s)
  | ty {n} : Dd h (.ty n) (.ty n)
  | exc {a c} : h a = some (ExK (.ref (He.ga K c)) a) → Dd h (.ref a) (.exc c)
  | lst {a vs ds} : h a = some (.lst vs) → DdL h vs ds → Dd h (.ref a) (.lst ds)
  | lsw {a vs ds} : SqL K h a vs → DdL h vs ds → Dd h (.ref a) (.lsw ds)
  | tup {a vs ds} : h a = some (.tup vs) → DdL h vs ds → Dd h (.ref a) (.tup ds)
  | dct {a kvs kds} : h a = some (.dK kvs) → DdK h kvs kds → Dd h (.ref a) (.dct kds)
  | tpw {a vs ds} : (∀ H, SqT K H a vs) → DdL h vs ds → Dd h (.ref a) (.tpw ds)
inductive DdL (h : Hp) : List V → List D → Prop
  | nil : DdL h [] []
  | cons {v d vs ds} : Dd h v d → DdL h vs ds → DdL h (v :: vs) (d :: ds)
inductive DdK (h : Hp) : List (Key × V) → List (Key × D) → Prop
  | nil : DdK h [] []
  | cons {k v d vs ds} : Dd h v d → DdK h vs ds → DdK h ((k, v) :: vs) ((k, d) :: ds)
end
/-- within a tuple -/
def Wr1 (Φ : Hp) (ι : List Addr) (v : V) : Sum D Nat → Prop
  | .inl x => Dd K Φ v x
  | .inr n => ∃ a, ι[n]? = some a ∧ v = .ref a
def Wr (Φ : Hp) (ι : List Addr) (v : V) : W → Prop
  | .d x => Dd K Φ v x
  | .obj n => ∃ a, ι[n]? = some a ∧ v = .ref a
  | .tp es => ∃ a vs, v = .ref a ∧ Φ a = some (.tup vs) ∧ Paired (Wr1 K Φ ι) vs es
abbrev WrL (Φ : Hp) (ι : List Addr) : List V → List W → Prop := Paired (Wr K Φ ι)
abbrev WrK (Φ : Hp) (ι : List Addr) {κ : Type} : List (κ × V) → List (κ × W) → Prop := Paired fun p q => p.1 = q.1 ∧ Wr K Φ ι p.2 q.2
/-- the table of the def x, whose codes' names are q -/
def TbAt (g : G) (a : Addr) (x q : Str) : Prop := a = (He.cT K (x, none)).2 ∧ ∃ ps : Array Value, g.H a = some (.tbl ps) ∧ TriplesOk ps.toList ∧ ∀ (pos : Pos) (cv : Value), codeAmong pos ps.toList = some cv → ∃ c, cv = .ref c ∧ g.Φ c = some (LamX.CodeO c q)
def NdAt (g : G) (a : Addr) : Nd → Prop
  | .lst ws => ∃ vs, g.H a = some (.lst vs) ∧ WrL K g.Φ g.ι vs ws
  | .dct kws => ∃ kvs, g.H a = some (.dK kvs) ∧ WrK K g.Φ g.ι kvs kws
  | .ins c fs => ∃ dx fvs, g.H a = some (.ins (He.ga K c) dx fvs) ∧ WrK K g.Φ g.ι fvs fs
  | .tab x q => TbAt K g a x q
structure StOk (g : G) (st : Sto) : Prop where
  len : g.ι.length = st.length
  at_ : ∀ (n : Nat) (nd : Nd) (a : Addr), st[n]? = some (some nd) → g.ι[n]? = some a → NdAt K g a nd
  nd : g.ι.Nodup
  live : ∀ (n : Nat) (x : Nd) (a : Addr), st[n]? = some (some x) → g.ι[n]? = some a → g.Φ a = none
  sub : ∀ a o, g.Φ a = some o → g.H a = some o
  dom : ∀ a ∈ g.ι, g.H a ≠ none
def SlOk (g : G) (σ : L2.St) (sl : List (Option W)) : Prop :=
  sl.length = σ.length ∧ ∀ (i : Nat) (w : W), sl[i]? = some (some w) → ∃ v, σ[i]? = some (some v) ∧ Wr K g.Φ g.ι v w
structure Rel (g : G) (σ : L2.St) (s : S) : Prop where
  st : StOk K g s.st
  sl : SlOk K g σ s.sl
/-- an outcome: H0 the heap ahead -/
def RR (H0 : Hp) (g : G) (v : V) : R → Prop
  | .val w => Wr K g.Φ g.ι v w
  | .new nd => ∃ a, v = .ref a ∧ NdAt K g a nd ∧ g.Φ a = none ∧ a ∉ g.ι ∧ H0 a = none ∧ (match nd with | .ins _ _ => False | .tab _ _ => False | _ => True)
end
/-- live in the store -/
def Liv (g : G) (st : Sto) (a : Addr) : Prop := ∃ (n : Nat) (x : Nd), st[n]? = some (some x) ∧ g.ι[n]? = some a
structure Step (g : G) (st : Sto) (g' : G) (st' : Sto) : Prop where
  phi : ∀ a o, g.Φ a = some o → g'.Φ a = some o
  io : ∃ more, g'.ι = g.ι ++ more
  fr : ∀ a o, g.H a = some o → ¬ Liv g st a → g'.H a = some o
  dm : ∀ a, (g'.Φ a ≠ none ∨ a ∈ g'.ι) → g.Φ a ≠ none ∨ a ∈ g.ι ∨ g.H a = none
  there : ∀ a, g.H a ≠ none → g'.H a ≠ none
  dead : ∀ n : Nat, n < st.length → (∀ x, st[n]? ≠ some (some x)) → ∀ x, st'[n]? ≠ some (some x)

section
variable {K : PySem.W.Frag} {h h' Φ Φ' : Hp} {ι ι' : List Addr} {g g1 g2 : G} {σ : L2.St} {s s1 s2 : S} {st st1 st2 : Sto}
mutual
theorem Dd.mono {v : V} {d : D} (e : ∀ a o, h a = some o → h' a = some o) : Dd K h v d → Dd K h' v d
  | .non => .non
  | .bl => .bl
  | .int => .int
  | .str => .str
  | .ty => .ty
  | .exc s => .exc (e _ _ s)
  | .lst s l => .lst (e _ _ s) (DdL.mono e l)
  | .lsw s l => .lsw (by
      rcases s with (s | ⟨o, s⟩) | s
      · exact .inl (.inl (e _ _ s))
      · exact .inl (.inr ⟨o, e _ _ s⟩)
      · exact .inr s) (DdL.mono e l)
  | .tup s l => .tup (e _ _ s) (DdL.mono e l)
  | .dct s l => .dct (e _ _ s) (DdK.mono e l)
  | .tpw s l => .tpw s (DdL.mono e l)
theorem DdL.mono {vs : List V} {ds : List D} (e : ∀ a o, h a = some o → h' a = some o) : DdL K h vs ds → DdL K h' vs ds
  | .nil => .nil
  | .cons a b => .cons (Dd.mono e a) (DdL.mono e b)
theorem DdK.mono {vs : List (Key × V)} {ds : List (Key × D)} (e : ∀ a o, h a = some o → h' a = some o) : DdK K h vs ds → DdK K h' vs ds
  | .nil => .nil
  | .cons a b => .cons (Dd.mono e a) (DdK.mono e b)
end
theorem SqL.mono' {a : Addr} {vs : List V} (e : ∀ a o, h a = some o → h' a = some o) (s : SqL K h a vs) : SqL K h' a vs := by
  rcases s with (s | ⟨o, s⟩) | s
  · exact .inl (.inl (e _ _ s))
  · exact .inl (.inr ⟨o, e _ _ s⟩)
  · exact .inr s
theorem SqT.mono' {a : Addr} {vs : List V} (e : ∀ a o, h a = some o → h' a = some o) (s : SqT K h a vs) : SqT K h' a vs := by
  rcases s with (s | ⟨o, s⟩) | s
  · exact .inl (.inl (e _ _ s))
  · exact .inl (.inr ⟨o, e _ _ s⟩)
  · exact .inr s
theorem pre_get {ι more : List Addr} {n : Nat} {a : Addr} (h : ι[n]? = some a) : (ι ++ more)[n]? = some a := by
  rw [List.getElem?_append_left (List.getElem?_eq_some_iff.mp h).1]
  exact h
theorem Wr1.mono {v : V} {w : Sum D Nat} (e : ∀ a o, Φ a = some o → Φ' a = some o) (i : ∃ more, ι' = ι ++ more) (x : Wr1 K Φ ι v w) : Wr1 K Φ' ι' v w := by
  obtain ⟨more, rfl⟩ := i
  cases w with
  | inl x' => exact Dd.mono e x
  | inr n =>
    obtain ⟨a, ha, hv⟩ := x
    exact ⟨a, pre_get ha, hv⟩
theorem Wr.mono {v : V} {w : W} (e : ∀ a o, Φ a = some o → Φ' a = some o) (i : ∃ more, ι' = ι ++ more) (x : Wr K Φ ι v w) : Wr K Φ' ι' v w := by
  obtain ⟨more, rfl⟩ := i
  cases w with
  | d x' => exact Dd.mono e x
  | obj n =>
    obtain ⟨a, ha, hv⟩ := x
    exact ⟨a, pre_get ha, hv⟩
  | tp es =>
    obtain ⟨a, vs, h1, h2, h3⟩ := x
    exact ⟨a, vs, h1, e _ _ h2, Paired.mapP h3 fun _ _ q => q.mono e ⟨more, rfl⟩⟩
theorem WrL.mono {v : List V} {w : List W} (e : ∀ a o, Φ a = some o → Φ' a = some o) (i : ∃ more, ι' = ι ++ more) (x : WrL K Φ ι v w) : WrL K Φ' ι' v w := Paired.mapP x fun _ _ q => q.mono e i
theorem WrK.mono {κ : Type} {v : List (κ × V)} {w : List (κ × W)} (e : ∀ a o, Φ a = some o → Φ' a = some o) (i : ∃ more, ι' = ι ++ more) (x : WrK K Φ ι v w) : WrK K Φ' ι' v w := Paired.mapP x fun _ _ q => ⟨q.1, q.2.mono e i⟩
theorem TbAt.stay {a : Addr} {x q : Str} (e : ∀ a o, g.Φ a = some o → g1.Φ a = some o) (hh : ∀ o, g.H a = some o → g1.H a = some o) (t : TbAt K g a x q) : TbAt K g1 a x q := by
  obtain ⟨h0, ps, h1, h2, h3⟩ := t
  refine ⟨h0, ps, hh _ h1, h2, fun pos cv hc => ?_⟩
  obtain ⟨c, h4, h5⟩ := h3 pos cv hc
  exact ⟨c, h4, e _ _ h5⟩
/-- a node stays where its object stays -/
theorem NdAt.stay {a : Addr} {nd : Nd} (e : ∀ a o, g.Φ a = some o → g1.Φ a = some o) (i : ∃ more, g1.ι = g.ι ++ more) (hh : ∀ o, g.H a = some o → g1.H a = some o) (x : NdAt K g a nd) : NdAt K g1 a nd := by
  cases nd with
  | lst ws => obtain ⟨vs, h1, h2⟩ := x; exact ⟨vs, hh _ h1, WrL.mono e i h2⟩
  | dct ws => obtain ⟨vs, h1, h2⟩ := x; exact ⟨vs, hh _ h1, WrK.mono e i h2⟩
  | ins c fs => obtain ⟨dx, vs, h1, h2⟩ := x; exact ⟨dx, vs, hh _ h1, WrK.mono e i h2⟩
  | tab x' q => exact TbAt.stay e hh x
theorem NdAt.some {a : Addr} {nd : Nd} (x : NdAt K g a nd) : g.H a ≠ none := by
  cases nd with
  | lst ws => obtain ⟨vs, h1, h2⟩ := x; rw [h1]; exact fun z => nomatch z
  | dct ws => obtain ⟨vs, h1, h2⟩ := x; rw [h1]; exact fun z => nomatch z
  | ins c fs => obtain ⟨dx, vs, h1, h2⟩ := x; rw [h1]; exact fun z => nomatch z
  | tab x' q => obtain ⟨_, ps, h1, _⟩ := x; rw [h1]; exact fun z => nomatch z
theorem Step.refl : Step g st g st where
  phi := fun _ _ h => h
  io := ⟨[], by simp⟩
  fr := fun _ _ h _ => h
  dm := fun a h => h.elim .inl fun z => .inr (.inl z)
  there := fun _ h => h
  dead := fun _ _ h => h
theorem mem_get {ι : List Addr} {a : Addr} (h : a ∈ ι) : ∃ n : Nat, ι[n]? = some a := by
  obtain ⟨n, hn, e⟩ := List.mem_iff_getElem.mp h
  exact ⟨n, by rw [List.getElem?_eq_getElem hn, e]⟩
theorem nodup_at {ι : List Addr} (nd : ι.Nodup) {n m : Nat} {a : Addr} (h1 : ι[n]? = some a) (h2 : ι[m]? = some a) : n = m := by
  obtain ⟨h1, e1⟩ := List.getElem?_eq_some_iff.mp h1
  obtain ⟨h2, e2⟩ := List.getElem?_eq_some_iff.mp h2
  exact (List.getElem_inj nd).mp (e1.trans e2.symm)
/-- what is live later was live, or is new -/
theorem Step.liv (o : StOk K g st) (o1 : StOk K g1 st1) (p : Step g st g1 st1) {a : Addr} {ob : HO} (h : g.H a = some ob) (nl : ¬ Liv g st a) : ¬ Liv g1 st1 a := by
  rintro ⟨n, x, hx, ha⟩
  have hm : a ∈ g1.ι := List.mem_of_getElem? ha
  rcases p.dm a (.inr hm) with z | z | z
  · cases e : g.Φ a with
    | none => exact z e
    | some ob' =>
      have := o1.live n x a hx ha
      rw [p.phi _ _ e] at this
      cases this
  · obtain ⟨m, hm'⟩ := mem_get z
    obtain ⟨more, em⟩ := p.io
    have e2 : g1.ι[m]? = some a := by rw [em]; exact pre_get hm'
    have : n = m := nodup_at o1.nd ha e2
    subst this
    have hlt : n < st.length := by rw [← o.len]; exact (List.getElem?_eq_some_iff.mp hm').1
    refine p.dead n hlt (fun y hy => nl ⟨n, y, hy, hm'⟩) x hx
  · rw [z] at h; cases h
theorem Step.trans (o : StOk K g st) (o1 : StOk K g1 st1) (p : Step g st g1 st1) (q : Step g1 st1 g2 st2) : Step g st g2 st2 where
  phi := fun a ob h => q.phi a ob (p.phi a ob h)
  io := by
    obtain ⟨m1, e1⟩ := p.io
    obtain ⟨m2, e2⟩ := q.io
    exact ⟨m1 ++ m2, by rw [e2, e1, List.append_assoc]⟩
  fr := fun a ob h nl => q.fr a ob (p.fr a ob h nl) (p.liv o o1 h nl)
  dm := fun a h => by
    rcases q.dm a h with z | z | z
    · exact p.dm a (.inl z)
    · exact p.dm a (.inr z)
    · cases e : g.H a with
      | none => exact .inr (.inr rfl)
      | some ob =>
        by_cases nl : Liv g st a
        · obtain ⟨n, x, hx, ha⟩ := nl
          exact .inr (.inl (List.mem_of_getElem? ha))
        · have := p.fr a ob e nl
          rw [z] at this; cases this
  there := fun a h => q.there a (p.there a h)
  dead := fun n hn h => by
    have hn1 : n < st1.length := by
      rw [← o1.len]
      obtain ⟨m1, e1⟩ := p.io
      rw [e1, List.length_append, o.len]
      omega
    exact q.dead n hn1 (p.dead n hn h)
theorem SlOk.step {sl : List (Option W)} (p : Step g st g1 st1) (x : SlOk K g σ sl) : SlOk K g1 σ sl := ⟨x.1, fun i w h => by
  obtain ⟨v, h1, h2⟩ := x.2 i w h
  exact ⟨v, h1, h2.mono p.phi p.io⟩⟩
/-- an outcome stays through a step -/
theorem RR.step {H0 : Hp} {v : V} {r : R} (o : StOk K g st) (p : Step g st g1 st1) (x : RR K H0 g v r) : RR K H0 g1 v r := by
  cases r with
  | val w => exact Wr.mono p.phi p.io x
  | new nd =>
    obtain ⟨a, h1, h2, h3, h4, h5, h6⟩ := x
    have hs := h2.some
    have nl : ¬ Liv g st a := fun ⟨n, y, hy, ha⟩ => h4 (List.mem_of_getElem? ha)
    have no : ¬ (g1.Φ a ≠ none ∨ a ∈ g1.ι) := fun z => by
      rcases p.dm a z with z | z | z
      · exact z h3
      · exact h4 z
      · exact hs z
    refine ⟨a, h1, h2.stay p.phi p.io fun ob hob => p.fr a ob hob nl, ?_, fun z => no (.inr z), h5, h6⟩
    cases e : g1.Φ a with
    | none => rfl
    | some _ => exact (no (.inl (by rw [e]; exact fun z => nomatch z))).elim
theorem RR.back {v : V} {r : R} (o : StOk K g st) (p : Step g st g1 st1) (x : RR K g1.H g2 v r) : RR K g.H g2 v r := by
  cases r with
  | val w => exact x
  | new nd =>
    obtain ⟨a, h1, h2, h3, h4, h5, h6⟩ := x
    refine ⟨a, h1, h2, h3, h4, ?_, h6⟩
    cases e : g.H a with
    | none => rfl
    | some _ => exact (p.there a (by rw [e]; exact fun z => nomatch z) h5).elim
end
end NV

namespace NV
open PySem PySem.Spec PyProof.Rows L2

/-! ### what a new frozen thing, a new root leaves -/
structure Ext (g g' : G) : Prop where
  phi : ∀ a o, g.Φ a = some o → g'.Φ a = some o
  io : g'.ι = g.ι
  ex : ∀ a o, g.H a = some o → g'.H a = some o
  dm : ∀ a, g'.Φ a ≠ none → g.Φ a ≠ none ∨ g.H a = none
  sub : ∀ a o, g'.Φ a = some o → g'.H a = some o
structure GOk (g : G) : Prop where
  sub : ∀ a o, g.Φ a = some o → g.H a = some o
  dom : ∀ a ∈ g.ι, g.H a ≠ none
section
variable {K : PySem.W.Frag} {h h' Φ Φ' : Hp} {ι ι' : List Addr} {g g1 g2 : G} {σ : L2.St} {s s1 s2 : S} {st st1 st2 : Sto}
theorem StOk.ok (o : StOk K g st) : GOk g := ⟨o.sub, o.dom⟩
theorem Ext.refl (o : GOk g) : Ext g g := ⟨fun _ _ h => h, rfl, fun _ _ h => h, fun _ h => .inl h, o.sub⟩
theorem Ext.there (e : Ext g g1) (a : Addr) (h : g.H a ≠ none) : g1.H a ≠ none := by
  cases q : g.H a with
  | none => exact (h q).elim
  | some o => rw [e.ex a o q]; exact fun z => nomatch z
theorem Ext.trans (p : Ext g g1) (q : Ext g1 g2) : Ext g g2 where
  phi := fun a o h => q.phi a o (p.phi a o h)
  io := q.io.trans p.io
  ex := fun a o h => q.ex a o (p.ex a o h)
  dm := fun a h => by
    rcases q.dm a h with z | z
    · exact p.dm a z
    · refine .inr ?_
      cases e : g.H a with
      | none => rfl
      | some o => rw [p.ex a o e] at z; cases z
  sub := q.sub
theorem Ext.step (e : Ext g g1) : Step g st g1 st where
  phi := e.phi
  io := ⟨[], by simp [e.io]⟩
  fr := fun a o h _ => e.ex a o h
  dm := fun a h => h.elim (fun z => (e.dm a z).elim .inl fun z => .inr (.inr z)) fun z => .inr (.inl (e.io ▸ z))
  there := e.there
  dead := fun _ _ h => h
theorem Ext.sto (e : Ext g g1) (o : StOk K g st) : StOk K g1 st where
  len := by rw [e.io]; exact o.len
  at_ := fun n nd a h1 h2 => by
    rw [e.io] at h2
    exact (o.at_ n nd a h1 h2).stay e.phi ⟨[], by simp [e.io]⟩ (fun ob => e.ex a ob)
  nd := by rw [e.io]; exact o.nd
  live := fun n x a h1 h2 => by
    rw [e.io] at h2
    cases q : g1.Φ a with
    | none => rfl
    | some ob =>
      rcases e.dm a (by rw [q]; exact fun z => nomatch z) with z | z
      · exact (z (o.live n x a h1 h2)).elim
      · exact (o.dom a (List.mem_of_getElem? h2) z).elim
  sub := e.sub
  dom := fun a h => e.there a (o.dom a (e.io ▸ h))
theorem Ext.rel (e : Ext g g1) (o : Rel K g σ s) : Rel K g1 σ s := ⟨e.sto o.st, o.sl.step (st := s.st) (st1 := s.st) e.step⟩
/-- a new frozen thing at p -/
theorem Ext.frz (o : GOk g) {p : Addr} {ob : HO} (hp : g.H p = none) : Ext g ⟨upd g.Φ p ob, g.ι, upd g.H p ob⟩ where
  phi := fun a x h => by
    have : a ≠ p := ne_of_none (o.sub a x h) hp
    show upd g.Φ p ob a = _
    rw [upd_ne this]; exact h
  io := rfl
  ex := fun a x h => by
    show upd g.H p ob a = _
    rw [upd_ne (ne_of_none h hp)]; exact h
  dm := fun a h => by
    by_cases e : a = p
    · subst e; exact .inr hp
    · left
      have h : upd g.Φ p ob a ≠ none := h
      rw [upd_ne e] at h; exact h
  sub := fun a x h => by
    have h : upd g.Φ p ob a = some x := h
    show upd g.H p ob a = some x
    by_cases e : a = p
    · subst e; rw [upd_same] at h ⊢; exact h
    · rw [upd_ne e] at h ⊢; exact o.sub a x h
/-- a new thing at p, not frozen, not numbered -/
theorem Ext.new (o : GOk g) {p : Addr} {ob : HO} (hp : g.H p = none) : Ext g ⟨g.Φ, g.ι, upd g.H p ob⟩ where
  phi := fun _ _ h => h
  io := rfl
  ex := fun a x h => by
    show upd g.H p ob a = _
    rw [upd_ne (ne_of_none h hp)]; exact h
  dm := fun a h => .inl h
  sub := fun a x h => by
    show upd g.H p ob a = _
    rw [upd_ne (ne_of_none (o.sub a x h) hp)]; exact o.sub a x h
theorem Ext.ok (e : Ext g g1) (o : GOk g) : GOk g1 := ⟨e.sub, fun a h => e.there a (o.dom a (e.io ▸ h))⟩
theorem GOk.free (o : GOk g) {p : Addr} (hp : g.H p = none) : g.Φ p = none := by
  cases e : g.Φ p with
  | none => rfl
  | some ob => rw [o.sub _ _ e] at hp; cases hp
theorem GOk.nmem (o : GOk g) {p : Addr} (hp : g.H p = none) : p ∉ g.ι := fun h => o.dom p h hp
end

/-! ### views -/
/-- a thing looked at: an atom, a list, a tuple, a dict, an object -/
inductive Vu where
  | at (x : D) | lst (ws : List W) | lsw (ws : List W) | tup (ws : List W) | dct (kws : List (Key × W)) | ref (n : Nat)
def D.view : D → Vu
  | .lst ds => .lst (ds.map .d)
  | .lsw ds => .lsw (ds.map .d)
  | .tup ds => .tup (ds.map .d)
  | .dct ds => .dct (ds.map fun p => (p.1, .d p.2))
  | x => .at x
def Nd.view (n : Nat) : Nd → Vu
  | .lst ws => .lst ws
  | .dct kws => .dct kws
  | .ins _ _ => .ref n
  | .tab _ _ => .ref n
def e1W : Sum D Nat → W
  | .inl x => .d x
  | .inr n => .obj n
def R.view (st : Sto) : R → Option Vu
  | .val (.d x) => some x.view
  | .val (.obj n) => match st[n]? with
    | some (some nd) => some (nd.view n)
    | _ => none
  | .val (.tp es) => some (.tup (es.map e1W))
  | .new (.lst ws) => some (.lst ws)
  | .new (.dct kws) => some (.dct kws)
  | .new (.ins _ _) => none
  | .new (.tab _ _) => none
section
variable (K : PySem.W.Frag)
def VuOk (g : G) (v : V) : Vu → Prop
  | .at x => Dd K g.Φ v x ∧ x.view = .at x
  | .lst ws => ∃ a vs, v = .ref a ∧ g.H a = some (.lst vs) ∧ WrL K g.Φ g.ι vs ws
  | .lsw ws => ∃ a vs, v = .ref a ∧ SqL K g.H a vs ∧ WrL K g.Φ g.ι vs ws
  | .tup ws => ∃ a vs, v = .ref a ∧ g.Φ a = some (.tup vs) ∧ WrL K g.Φ g.ι vs ws
  | .dct kws => ∃ a kvs, v = .ref a ∧ g.H a = some (.dK kvs) ∧ WrK K g.Φ g.ι kvs kws
  | .ref n => ∃ a, v = .ref a ∧ g.ι[n]? = some a
end
section
variable {K : PySem.W.Frag} {h h' Φ Φ' : Hp} {ι ι' : List Addr} {g g1 g2 : G} {σ : L2.St} {s s1 s2 : S} {st st1 st2 : Sto}
theorem DdL.wr : ∀ {vs : List V} {ds : List D}, DdL K Φ vs ds → WrL K Φ ι vs (ds.map .d)
  | _, _, .nil => .nil
  | _, _, .cons a b => .cons a b.wr
theorem DdK.wr : ∀ {vs : List (Key × V)} {ds : List (Key × D)}, DdK K Φ vs ds → WrK K Φ ι vs (ds.map fun p => (p.1, .d p.2))
  | _, _, .nil => .nil
  | _, _, .cons a b => .cons ⟨rfl, a⟩ b.wr
theorem Dd.view {v : V} {x : D} (sub : ∀ a o, g.Φ a = some o → g.H a = some o) (q : Dd K g.Φ v x) : VuOk K g v x.view := by
  cases q with
  | lst a b => exact ⟨_, _, rfl, sub _ _ a, b.wr⟩
  | lsw a b => exact ⟨_, _, rfl, SqL.mono' sub a, b.wr⟩
  | tpw a b => exact ⟨.tpw a b, rfl⟩
  | tup a b => exact ⟨_, _, rfl, a, b.wr⟩
  | dct a b => exact ⟨_, _, rfl, sub _ _ a, b.wr⟩
  | non => exact ⟨.non, rfl⟩
  | bl => exact ⟨.bl, rfl⟩
  | int => exact ⟨.int, rfl⟩
  | str => exact ⟨.str, rfl⟩
  | ty => exact ⟨.ty, rfl⟩
  | exc h => exact ⟨.exc h, rfl⟩
theorem Wr1.e1 {v : V} {w : Sum D Nat} (q : Wr1 K Φ ι v w) : Wr K Φ ι v (e1W w) := by
  cases w <;> exact q
theorem wr1_l : ∀ {vs : List V} {es : List (Sum D Nat)}, Paired (Wr1 K Φ ι) vs es → WrL K Φ ι vs (es.map e1W)
  | _, _, .nil => .nil
  | _, _, .cons a b => .cons a.e1 (wr1_l b)
theorem view_ok {H0 : Hp} {v : V} {r : R} {u : Vu} (o : StOk K g st) (q : RR K H0 g v r) (e : r.view st = some u) : VuOk K g v u := by
  cases r with
  | val w =>
    cases w with
    | d x =>
      have e : some x.view = some u := e
      cases e
      exact Dd.view o.sub q
    | obj n =>
      obtain ⟨a, ha, rfl⟩ := q
      unfold R.view at e
      dsimp only at e
      split at e
      · rename_i nd hn
        cases e
        have z := o.at_ n nd a hn ha
        cases nd with
        | lst ws => obtain ⟨vs, h1, h2⟩ := z; exact ⟨a, vs, rfl, h1, h2⟩
        | dct ws => obtain ⟨vs, h1, h2⟩ := z; exact ⟨a, vs, rfl, h1, h2⟩
        | ins c fs => exact ⟨a, rfl, ha⟩
        | tab x q => exact ⟨a, rfl, ha⟩
      · cases e
    | tp es =>
      cases e
      obtain ⟨a, vs, h1, h2, h3⟩ := q
      exact ⟨a, vs, h1, h2, wr1_l h3⟩
  | new nd =>
    obtain ⟨a, rfl, z, _⟩ := q
    cases nd with
    | lst ws => cases e; obtain ⟨vs, h1, h2⟩ := z; exact ⟨a, vs, rfl, h1, h2⟩
    | dct ws => cases e; obtain ⟨vs, h1, h2⟩ := z; exact ⟨a, vs, rfl, h1, h2⟩
    | ins c fs => cases e
    | tab x q => cases e
end

/-! ### judgements -/
section
variable (K : PySem.W.Frag)
abbrev EF := S → Option (R × S)
abbrev TF := S → Option (Bool × S)
abbrev AF := S → Option (List W × S)
def upE (f : EF) : TE := fun σ H Q => ∃ g s r s', g.H = H ∧ Rel K g σ s ∧ f s = some (r, s') ∧ ∀ v g', Step g s.st g' s'.st → Rel K g' σ s' → RR K g.H g' v r → Q v g'.H
def upT (f : TF) : TT := fun σ H Q => ∃ g s b s', g.H = H ∧ Rel K g σ s ∧ f s = some (b, s') ∧ ∀ g', Step g s.st g' s'.st → Rel K g' σ s' → Q b g'.H
def upA (f : AF) : TA := fun σ H Q => ∃ g s rs s', g.H = H ∧ Rel K g σ s ∧ f s = some (rs, s') ∧ ∀ vs g', Step g s.st g' s'.st → Rel K g' σ s' → WrL K g'.Φ g'.ι vs rs → Q vs g'.H
end
structure VE (X : Cx) (e : Expr) (f : EF) : Prop where
  pe : PE X e (upE X.K f)
structure VT (X : Cx) (e : Expr) (f : TF) : Prop where
  pt : PT X e (upT X.K f)
structure VWt (X : Cx) (e : Expr) (f : TF) : Prop where
  pw : PW X e (upT X.K f)
structure VA (X : Cx) (es : List Expr) (f : AF) : Prop where
  pa : PA X es (upA X.K f)
theorem _root_.L2.PE.imp {X : Cx} {e : Expr} {t t' : TE} (h : PE X e t) (w : ∀ σ H Q, t' σ H Q → t σ H Q) : PE X e t' := ⟨fun pins s σ H Q I q => h.run pins s σ H Q I (w σ H Q q)⟩
theorem _root_.L2.PT.imp {X : Cx} {e : Expr} {t t' : TT} (h : PT X e t) (w : ∀ σ H Q, t' σ H Q → t σ H Q) : PT X e t' := ⟨fun pins s σ H Q I q => h.run pins s σ H Q I (w σ H Q q)⟩
theorem _root_.L2.PW.imp {X : Cx} {e : Expr} {t t' : TT} (h : PW X e t) (w : ∀ σ H Q, t' σ H Q → t σ H Q) : PW X e t' := ⟨fun wh pins s σ H Q I q => h.run wh pins s σ H Q I (w σ H Q q)⟩
theorem _root_.L2.PA.imp {X : Cx} {e : List Expr} {t t' : TA} (h : PA X e t) (w : ∀ σ H Q, t' σ H Q → t σ H Q) : PA X e t' := ⟨fun p pins s σ H Q I q => h.run p pins s σ H Q I (w σ H Q q)⟩
theorem _root_.L2.PS.imp {X : Cx} {e : Stmt} {t t' : TS} (h : PS X e t) (w : ∀ D σ H, t' D σ H → t D σ H) : PS X e t' := ⟨fun pins s σ H D I q => h.run pins s σ H D I (w D σ H q)⟩
theorem _root_.L2.PSs.imp {X : Cx} {e : List Stmt} {t t' : TS} (h : PSs X e t) (w : ∀ D σ H, t' D σ H → t D σ H) : PSs X e t' := ⟨fun pins s σ H D I q => h.run pins s σ H D I (w D σ H q)⟩

section
variable {X : Cx} {a b c e : Expr} {es : List Expr} {fa fb fc f : EF} {ff : AF} {pos : Pos}
/-! ### names and constants -/
def eC (d : D) : EF := fun s => some (.val (.d d), s)
def eVar (i : Nat) : EF := fun s => match s.sl[i]? with
  | some (some w) => some (.val w, s)
  | _ => none
theorem v_const {t : V} {d : D} (h : PE X e (tC t)) (r : ∀ Φ, Dd X.K Φ t d) : VE X e (eC d) := ⟨h.imp fun σ H Q ⟨g, s, r', s', hg, R, hf, k⟩ => by
  cases hf
  subst hg
  exact k _ g Step.refl R (r _)⟩
theorem v_int {i j} : VE X (.Constant (.int i) j pos) (eC (.int i)) := v_const pe_int fun _ => .int
theorem v_bl {i j} : VE X (.Constant (.bool i) j pos) (eC (.bl i)) := v_const pe_bl fun _ => .bl
theorem v_non {j} : VE X (.Constant .none j pos) (eC .non) := v_const pe_non fun _ => .non
theorem v_str {i j} : VE X (.Constant (.str i) j pos) (eC (.str i)) := v_const pe_str fun _ => .str
theorem v_var {i : Nat} {x : Str} (hN : X.N[i]? = some x) (hv : Vis X.env.scope x) (hd : (x == ("__debug__" : Str)) = false := by decide) (hcd : (x == ("__classdict__" : Str)) = false := by decide) : VE X (.Name x pos) (eVar i) :=
  ⟨(pe_var hN hv hd hcd).imp fun σ H Q ⟨g, s, r', s', hg, R, hf, k⟩ => by
    unfold eVar at hf
    split at hf
    · rename_i w hw
      cases hf
      obtain ⟨v, h1, h2⟩ := R.sl.2 i w hw
      subst hg
      exact ⟨v, h1, k v g Step.refl R h2⟩
    · cases hf⟩
/-! ### two in a row -/
def seq2 {α : Type} (fa fb : EF) (k : R → R → S → Option α) : S → Option α := fun s => (fa s).bind fun p => (fb p.2).bind fun q => k p.1 q.1 q.2
/-- the lemma behind two operands -/
theorem two (ha : VE X a fa) (hb : VE X b fb) {α : Type} {k : R → R → S → Option α} {σ : L2.St} {g : G} {s : S} {res : α} (R : Rel X.K g σ s) (hf : seq2 fa fb k s = some res) {Q : V → V → Hp → Prop}
    (h : ∀ x y ra rb s2 g2, k ra rb s2 = some res → Step g s.st g2 s2.st → Rel X.K g2 σ s2 → RR X.K g.H g2 x ra → RR X.K g.H g2 y rb → Q x y g2.H) :
    upE X.K fa σ g.H fun x H1 => upE X.K fb σ H1 fun y H2 => Q x y H2 := by
  unfold seq2 at hf
  obtain ⟨⟨ra, s1⟩, h1, hf⟩ := Option.bind_eq_some_iff.mp hf
  obtain ⟨⟨rb, s2⟩, h2, hf⟩ := Option.bind_eq_some_iff.mp hf
  refine ⟨g, s, ra, s1, rfl, R, h1, fun x g1 p1 R1 q1 => ⟨g1, s1, rb, s2, rfl, R1, h2, fun y g2 p2 R2 q2 => ?_⟩⟩
  exact h x y ra rb s2 g2 hf (p1.trans R.st R1.st p2) R2 (q1.step R1.st p2) (q2.back R.st p1)

/-! ### operators -/
abbrev OpH := Vu → Vu → Option R
/-- an operation on things looked at -/
def OpV (X : Cx) (f : Value → Value → Sem Value) (h : OpH) : Prop := ∃ r : R2, OpR X f r ∧ ∀ (g : G) (x y : V) (u w : Vu) (res : R) (Q : VK), GOk g → VuOk X.K g x u → VuOk X.K g y w → h u w = some res →
  (∀ v g', Ext g g' → RR X.K g.H g' v res → Q v g'.H) → r x y g.H Q
def orH (h1 h2 : OpH) : OpH := fun u w => match h1 u w with
  | some r => some r
  | none => h2 u w
theorem OpV.or {f : Value → Value → Sem Value} {h1 h2 : OpH} (p : OpV X f h1) (q : OpV X f h2) : OpV X f (orH h1 h2) := by
  obtain ⟨r1, o1, k1⟩ := p
  obtain ⟨r2, o2, k2⟩ := q
  refine ⟨_, o1.or o2, fun g x y u w res Q o vx vy e k => ?_⟩
  unfold orH at e
  split at e
  · rename_i r' e'
    cases e
    exact .inl (k1 g x y u w _ Q o vx vy e' k)
  · exact .inr (k2 g x y u w _ Q o vx vy e k)
def eOp (h : OpH) (fa fb : EF) : EF := seq2 fa fb fun ra rb s => (ra.view s.st).bind fun u => (rb.view s.st).bind fun w => (h u w).map fun r => (r, s)
theorem v_op {op : Operator} {h : OpH} (ho : OpV X (binaryOp op) h) (ha : VE X a fa) (hb : VE X b fb) : VE X (.BinOp a op b pos) (eOp h fa fb) := by
  obtain ⟨r, o, ho⟩ := ho
  refine ⟨(pe_op o ha.pe hb.pe).imp fun σ H Q ⟨g, s, r', s', hg, R, hf, k⟩ => ?_⟩
  subst hg
  refine two ha hb R hf fun x y ra rb s2 g2 e p R2 q1 q2 => ?_
  obtain ⟨u, e1, e⟩ := Option.bind_eq_some_iff.mp e
  obtain ⟨w, e2, e⟩ := Option.bind_eq_some_iff.mp e
  obtain ⟨r2, e3, e⟩ := Option.map_eq_some_iff.mp e
  cases e
  refine ho g2 x y u w _ Q R2.st.ok (view_ok R2.st q1 e1) (view_ok R2.st q2 e2) e3 fun v g' x' rr => ?_
  exact k v g' (p.trans R.st R2.st x'.step) (x'.rel R2) (rr.back R.st p)
theorem v_cmp {op : CmpOp} {h : OpH} (ho : OpV X (compareOp op) h) (ha : VE X a fa) (hb : VE X b fb) (hm : behindInMarks op b = false) : VE X (.Compare a [op] [b] pos) (eOp h fa fb) := by
  obtain ⟨r, o, ho⟩ := ho
  refine ⟨(pe_cmpR o ha.pe hb.pe hm).imp fun σ H Q ⟨g, s, r', s', hg, R, hf, k⟩ => ?_⟩
  subst hg
  refine two ha hb R hf fun x y ra rb s2 g2 e p R2 q1 q2 => ?_
  obtain ⟨u, e1, e⟩ := Option.bind_eq_some_iff.mp e
  obtain ⟨w, e2, e⟩ := Option.bind_eq_some_iff.mp e
  obtain ⟨r2, e3, e⟩ := Option.map_eq_some_iff.mp e
  cases e
  refine ho g2 x y u w _ Q R2.st.ok (view_ok R2.st q1 e1) (view_ok R2.st q2 e2) e3 fun v g' x' rr => ?_
  exact k v g' (p.trans R.st R2.st x'.step) (x'.rel R2) (rr.back R.st p)
/-- a truth out of an outcome -/
def R.tru : R → Option Bool
  | .val (.d (.bl b)) => some b
  | _ => none
theorem tru_eq {r : R} {b : Bool} (h : r.tru = some b) : r = .val (.d (.bl b)) := by
  unfold R.tru at h
  split at h
  · cases h; rfl
  · cases h
def tE (f : EF) : TF := fun s => (f s).bind fun p => p.1.tru.map fun b => (b, p.2)
theorem tE_ok {σ : L2.St} {H : Hp} {Q : Bool → Hp → Prop} (h : upT X.K (tE f) σ H Q) : upE X.K f σ H fun x H' => ∃ k, x = .bl k ∧ Q k H' := by
  obtain ⟨g, s, b, s', hg, R, hf, k⟩ := h
  obtain ⟨⟨r, s1⟩, h1, hf⟩ := Option.bind_eq_some_iff.mp hf
  obtain ⟨b', h2, hf⟩ := Option.map_eq_some_iff.mp hf
  cases hf
  have := tru_eq h2
  subst this
  refine ⟨g, s, _, _, hg, R, h1, fun v g' p R' q => ?_⟩
  cases q
  exact ⟨b, rfl, k g' p R'⟩
theorem vt_val (h : VE X e f) (he : ∀ whole, isTrue e X.env whole = (do let v ← whole; standAt e.pos; holding [v] (truthy v)) := by intro _; rfl) : VT X e (tE f) := ⟨(pt_val h.pe he).imp fun σ H Q q => tE_ok q⟩
theorem vt_cmp {op : CmpOp} {h : OpH} (ho : OpV X (compareOp op) h) (ha : VE X a fa) (hb : VE X b fb) (hm : behindInMarks op b = false) : VT X (.Compare a [op] [b] pos) (tE (eOp h fa fb)) := by
  obtain ⟨r, o, ho⟩ := ho
  refine ⟨(pt_cmpR o ha.pe hb.pe hm).imp fun σ H Q q => ?_⟩
  obtain ⟨g, s, r', s', hg, R, hf, k⟩ := tE_ok (X := X) q
  subst hg
  refine two ha hb R hf fun x y ra rb s2 g2 e p R2 q1 q2 => ?_
  obtain ⟨u, e1, e⟩ := Option.bind_eq_some_iff.mp e
  obtain ⟨w, e2, e⟩ := Option.bind_eq_some_iff.mp e
  obtain ⟨r2, e3, e⟩ := Option.map_eq_some_iff.mp e
  cases e
  refine ho g2 x y u w _ _ R2.st.ok (view_ok R2.st q1 e1) (view_ok R2.st q2 e2) e3 fun v g' x' rr => ?_
  exact k v g' (p.trans R.st R2.st x'.step) (x'.rel R2) (rr.back R.st p)

/-! ### and, or, not, if -/
variable {ta tb tc : TF} {rest : List Expr}
def tAndF (ta tb : TF) : TF := fun s => (ta s).bind fun p => if p.1 = true then tb p.2 else some (false, p.2)
def tOrF (ta tb : TF) : TF := fun s => (ta s).bind fun p => if p.1 = true then some (true, p.2) else tb p.2
def tNotF (ta : TF) : TF := fun s => (ta s).map fun p => (!p.1, p.2)
theorem upT_bind {k : Bool → TF} {σ : L2.St} {H : Hp} {Q Q' : Bool → Hp → Prop} (h : upT X.K (fun s => (ta s).bind fun p => k p.1 p.2) σ H Q) (q : ∀ b H1, upT X.K (k b) σ H1 Q → Q' b H1) : upT X.K ta σ H Q' := by
  obtain ⟨g, s, b, s', hg, R, hf, kk⟩ := h
  obtain ⟨⟨b1, s1⟩, h1, hf⟩ := Option.bind_eq_some_iff.mp hf
  subst hg
  refine ⟨g, s, b1, s1, rfl, R, h1, fun g1 p1 R1 => q b1 _ ⟨g1, s1, b, s', rfl, R1, hf, fun g2 p2 R2 => ?_⟩⟩
  exact kk g2 (p1.trans R.st R1.st p2) R2
theorem upT_val {b : Bool} {σ : L2.St} {H : Hp} {Q : Bool → Hp → Prop} (h : upT X.K (fun s => some (b, s)) σ H Q) : Q b H := by
  obtain ⟨g, s, b', s', hg, R, hf, kk⟩ := h
  cases hf
  subst hg
  exact kk g Step.refl R
theorem vw_and1 (ha : VT X a ta) : VWt X (.BoolOp .And [a] pos) ta := ⟨pw_and1 ha.pt⟩
theorem vw_or1 (ha : VT X a ta) : VWt X (.BoolOp .Or [a] pos) ta := ⟨pw_or1 ha.pt⟩
theorem vw_and (ha : VT X a ta) (hb : VWt X (.BoolOp .And (b :: rest) pos) tb) : VWt X (.BoolOp .And (a :: b :: rest) pos) (tAndF ta tb) := ⟨(pw_and ha.pt hb.pw).imp fun σ H Q q =>
  upT_bind (k := fun b s => if b = true then tb s else some (false, s)) q fun b H1 z => by
    cases b with
    | true => exact z
    | false => exact upT_val z⟩
theorem vw_or (ha : VT X a ta) (hb : VWt X (.BoolOp .Or (b :: rest) pos) tb) : VWt X (.BoolOp .Or (a :: b :: rest) pos) (tOrF ta tb) := ⟨(pw_or ha.pt hb.pw).imp fun σ H Q q =>
  upT_bind (k := fun b s => if b = true then some (true, s) else tb s) q fun b H1 z => by
    cases b with
    | true => exact upT_val z
    | false => exact z⟩
theorem VWt.t (h : VWt X e ta) : VT X e ta := ⟨h.pw.pt⟩
theorem vt_not (ha : VT X a ta) : VT X (.UnaryOp .Not a pos) (tNotF ta) := ⟨(pt_not ha.pt).imp fun σ H Q ⟨g, s, b, s', hg, R, hf, k⟩ => by
  obtain ⟨⟨b1, s1⟩, h1, hf⟩ := Option.map_eq_some_iff.mp hf
  cases hf
  exact ⟨g, s, b1, _, hg, R, h1, k⟩⟩
/-- a bool's test as a value -/
theorem upE_bind {k : R → EF} {σ : L2.St} {H : Hp} {Q : VK} {Q' : VK} (h : upE X.K (fun s => (fa s).bind fun p => k p.1 p.2) σ H Q) (q : ∀ b v H1, (∃ g s, g.H = H1 ∧ Rel X.K g σ s ∧ ∃ H0, RR X.K H0 g v b ∧ ∃ r s', k b s = some (r, s') ∧ ∀ v g', Step g s.st g' s'.st → Rel X.K g' σ s' → RR X.K g.H g' v r → Q v g'.H) → Q' v H1) : upE X.K fa σ H Q' := by
  obtain ⟨g, s, b, s', hg, R, hf, kk⟩ := h
  obtain ⟨⟨b1, s1⟩, h1, hf⟩ := Option.bind_eq_some_iff.mp hf
  subst hg
  refine ⟨g, s, b1, s1, rfl, R, h1, fun v g1 p1 R1 q1 => q b1 v _ ⟨g1, s1, rfl, R1, g.H, q1, b, s', hf, fun v g2 p2 R2 q2 => ?_⟩⟩
  exact kk v g2 (p1.trans R.st R1.st p2) R2 (q2.back R.st p1)
def eAnd (fa fb : EF) : EF := fun s => (fa s).bind fun p => (p.1.tru).bind fun b => if b = true then fb p.2 else some (.val (.d (.bl false)), p.2)
def eOr (fa fb : EF) : EF := fun s => (fa s).bind fun p => (p.1.tru).bind fun b => if b = true then some (.val (.d (.bl true)), p.2) else fb p.2
def eNot (fa : EF) : EF := fun s => (fa s).bind fun p => (p.1.tru).map fun b => (.val (.d (.bl (!b))), p.2)
theorem v_one {op} (ha : VE X a fa) : VE X (.BoolOp op [a] pos) fa := ⟨pe_one ha.pe⟩
theorem v_and (ha : VE X a fa) (hb : VE X (.BoolOp .And (b :: rest) pos) fb) : VE X (.BoolOp .And (a :: b :: rest) pos) (eAnd fa fb) := ⟨(pe_and ha.pe hb.pe).imp fun σ H Q q =>
  upE_bind (k := fun r s => (r.tru).bind fun b => if b = true then fb s else some (.val (.d (.bl false)), s)) q fun r v H1 ⟨g, s, hg, R, H0, q1, r', s', hf, k⟩ => by
    obtain ⟨b, e, hf⟩ := Option.bind_eq_some_iff.mp hf
    have := tru_eq e
    subst this
    cases q1
    refine ⟨b, rfl, ?_⟩
    cases b with
    | true => exact ⟨g, s, r', s', hg, R, hf, k⟩
    | false =>
      cases hf
      subst hg
      exact k _ g Step.refl R Dd.bl⟩
theorem v_or (ha : VE X a fa) (hb : VE X (.BoolOp .Or (b :: rest) pos) fb) : VE X (.BoolOp .Or (a :: b :: rest) pos) (eOr fa fb) := ⟨(pe_or ha.pe hb.pe).imp fun σ H Q q =>
  upE_bind (k := fun r s => (r.tru).bind fun b => if b = true then some (.val (.d (.bl true)), s) else fb s) q fun r v H1 ⟨g, s, hg, R, H0, q1, r', s', hf, k⟩ => by
    obtain ⟨b, e, hf⟩ := Option.bind_eq_some_iff.mp hf
    have := tru_eq e
    subst this
    cases q1
    refine ⟨b, rfl, ?_⟩
    cases b with
    | false => exact ⟨g, s, r', s', hg, R, hf, k⟩
    | true =>
      cases hf
      subst hg
      exact k _ g Step.refl R Dd.bl⟩
def eIf (t : TF) (fa fb : EF) : EF := fun s => (t s).bind fun p => if p.1 = true then fa p.2 else fb p.2
theorem v_if (hc : VT X c tc) (ha : VE X a fa) (hb : VE X b fb) : VE X (.IfExp c a b pos) (eIf tc fa fb) := ⟨(pe_ifExp hc.pt ha.pe hb.pe).imp fun σ H Q ⟨g, s, r, s', hg, R, hf, k⟩ => by
  obtain ⟨⟨b1, s1⟩, h1, hf⟩ := Option.bind_eq_some_iff.mp hf
  subst hg
  refine ⟨g, s, b1, s1, rfl, R, h1, fun g1 p1 R1 => ?_⟩
  cases b1 with
  | true => exact ⟨g1, s1, r, s', rfl, R1, hf, fun v g2 p2 R2 q2 => k v g2 (p1.trans R.st R1.st p2) R2 (q2.back R.st p1)⟩
  | false => exact ⟨g1, s1, r, s', rfl, R1, hf, fun v g2 p2 R2 q2 => k v g2 (p1.trans R.st R1.st p2) R2 (q2.back R.st p1)⟩⟩

/-! ### arguments -/
def dats : List W → Option (List D)
  | [] => some []
  | .d x :: r => (dats r).map fun y => x :: y
  | .obj _ :: _ => none
  | .tp _ :: _ => none
def datk : List (Key × W) → Option (List (Key × D))
  | [] => some []
  | (k, .d x) :: r => (datk r).map fun y => (k, x) :: y
  | (_, .obj _) :: _ => none
  | (_, .tp _) :: _ => none
theorem dats_ok {K : PySem.W.Frag} {Φ : Hp} {ι : List Addr} : ∀ {vs : List V} {ws : List W} {ds : List D}, WrL K Φ ι vs ws → dats ws = some ds → DdL K Φ vs ds ∧ ws = ds.map .d
  | _, _, _, .nil, h => by cases h; exact ⟨.nil, rfl⟩
  | _, w :: _, _, .cons a b, h => by
    cases w with
    | d x =>
      unfold dats at h
      obtain ⟨ds', h1, h2⟩ := Option.map_eq_some_iff.mp h
      cases h2
      obtain ⟨q1, q2⟩ := dats_ok b h1
      exact ⟨.cons a q1, by rw [q2]; rfl⟩
    | obj n => unfold dats at h; cases h
    | tp es => unfold dats at h; cases h
theorem datk_ok {K : PySem.W.Frag} {Φ : Hp} {ι : List Addr} : ∀ {vs : List (Key × V)} {ws : List (Key × W)} {ds : List (Key × D)}, WrK K Φ ι vs ws → datk ws = some ds → DdK K Φ vs ds
  | _, _, _, .nil, h => by cases h; exact .nil
  | (k1, v) :: _, (k2, w) :: _, _, .cons a b, h => by
    obtain ⟨e, a⟩ := a
    dsimp only at e a
    subst e
    cases w with
    | d x =>
      unfold datk at h
      obtain ⟨ds', h1, h2⟩ := Option.map_eq_some_iff.mp h
      cases h2
      exact .cons a (datk_ok b h1)
    | obj n => unfold datk at h; cases h
    | tp es => unfold datk at h; cases h
theorem dats_map (ds : List D) : dats (ds.map .d) = some ds := by
  induction ds with
  | nil => rfl
  | cons d r ih => simp [dats, ih]
def Nd.dat : Nd → Option D
  | .lst ws => (dats ws).map .lst
  | .dct kws => (datk kws).map .dct
  | .ins _ _ => none
  | .tab _ _ => none
/-- an outcome as a value; what was made just now is frozen -/
def R.w : R → Option W
  | .val w => some w
  | .new nd => nd.dat.map .d
/-- something made since g0 is frozen -/
theorem late {K : PySem.W.Frag} {g0 g : G} {st0 st : Sto} {v : V} {nd : Nd} {d : D} (o0 : StOk K g0 st0) (p : Step g0 st0 g st) (o : StOk K g st) (q : RR K g0.H g v (.new nd)) (e : nd.dat = some d) :
    ∃ Φ', (∀ a ob, g.Φ a = some ob → Φ' a = some ob) ∧ Step g0 st0 ⟨Φ', g.ι, g.H⟩ st ∧ StOk K ⟨Φ', g.ι, g.H⟩ st ∧ Dd K Φ' v d := by
  obtain ⟨a, rfl, h2, h3, h4, h5, h6⟩ := q
  have core : ∀ ob, g.H a = some ob → (∀ a' ob', g.Φ a' = some ob' → upd g.Φ a ob a' = some ob') ∧ Step g0 st0 ⟨upd g.Φ a ob, g.ι, g.H⟩ st ∧ StOk K ⟨upd g.Φ a ob, g.ι, g.H⟩ st := fun ob hob => by
    have mono : ∀ a' ob', g.Φ a' = some ob' → upd g.Φ a ob a' = some ob' := fun a' ob' h => by rw [upd_ne (ne_of_none h h3)]; exact h
    refine ⟨mono, ⟨fun a' ob' h => mono _ _ (p.phi _ _ h), p.io, p.fr, fun a' h => ?_, p.there, p.dead⟩, ⟨o.len, fun n nd' a' h1 h2 => (o.at_ n nd' a' h1 h2).stay mono ⟨[], by simp⟩ fun _ h => h, o.nd, fun n x a' h1 h2 => ?_, fun a' ob' h => ?_, o.dom⟩⟩
    · rcases h with h | h
      · have h : upd g.Φ a ob a' ≠ none := h
        by_cases e : a' = a
        · subst e; exact .inr (.inr h5)
        · rw [upd_ne e] at h; exact p.dm a' (.inl h)
      · exact p.dm a' (.inr h)
    · show upd g.Φ a ob a' = none
      have : a' ≠ a := fun e => h4 (e ▸ List.mem_of_getElem? h2)
      rw [upd_ne this]
      exact o.live n x a' h1 h2
    · have h : upd g.Φ a ob a' = some ob' := h
      by_cases e : a' = a
      · subst e; rw [upd_same] at h; cases h; exact hob
      · rw [upd_ne e] at h; exact o.sub _ _ h
  cases nd with
  | lst ws =>
    obtain ⟨ds, e1, rfl⟩ := Option.map_eq_some_iff.mp e
    obtain ⟨vs, hv, hw⟩ := h2
    obtain ⟨c1, c2, c3⟩ := core _ hv
    exact ⟨_, c1, c2, c3, .lst upd_same ((dats_ok hw e1).1.mono c1)⟩
  | dct kws =>
    obtain ⟨ds, e1, rfl⟩ := Option.map_eq_some_iff.mp e
    obtain ⟨vs, hv, hw⟩ := h2
    obtain ⟨c1, c2, c3⟩ := core _ hv
    exact ⟨_, c1, c2, c3, .dct upd_same ((datk_ok hw e1).mono c1)⟩
  | ins _ _ => cases e
  | tab _ _ => cases e
theorem SlOk.phi {K : PySem.W.Frag} {g : G} {Φ' : Hp} {σ : L2.St} {sl : List (Option W)} (x : SlOk K g σ sl) (m : ∀ a ob, g.Φ a = some ob → Φ' a = some ob) : SlOk K ⟨Φ', g.ι, g.H⟩ σ sl := ⟨x.1, fun i w h => by
  obtain ⟨v, h1, h2⟩ := x.2 i w h
  exact ⟨v, h1, h2.mono m ⟨[], by simp⟩⟩⟩
/-- an outcome as a value -/
theorem toW {K : PySem.W.Frag} {g0 g : G} {st0 : Sto} {σ : L2.St} {s : S} {v : V} {r : R} {w : W} (o0 : StOk K g0 st0) (p : Step g0 st0 g s.st) (o : Rel K g σ s) (q : RR K g0.H g v r) (e : r.w = some w) :
    ∃ g', g'.H = g.H ∧ Step g0 st0 g' s.st ∧ Rel K g' σ s ∧ Wr K g'.Φ g'.ι v w := by
  cases r with
  | val w' => cases e; exact ⟨g, rfl, p, o, q⟩
  | new nd =>
    obtain ⟨d, e1, rfl⟩ := Option.map_eq_some_iff.mp e
    obtain ⟨Φ', m, h1, h2, h3⟩ := late o0 p o.st q e1
    exact ⟨⟨Φ', g.ι, g.H⟩, rfl, h1, ⟨h2, o.sl.phi m⟩, h3⟩
def aNil : AF := fun s => some ([], s)
def aCons (fa : EF) (ff : AF) : AF := fun s => (fa s).bind fun p => p.1.w.bind fun w => (ff p.2).map fun q => (w :: q.1, q.2)
theorem va_nil : VA X [] aNil := ⟨pa_nil.imp fun σ H Q ⟨g, s, r, s', hg, R, hf, k⟩ => by
  cases hf
  subst hg
  exact k [] g Step.refl R .nil⟩
theorem va_cons (ha : VE X a fa) (hb : VA X es ff) (hs : starEach (a :: es) X.env = (false, eval a X.env) :: starEach es X.env := by rfl) : VA X (a :: es) (aCons fa ff) := ⟨(pa_cons ha.pe hb.pa hs).imp fun σ H Q ⟨g, s, r, s', hg, R, hf, k⟩ => by
  obtain ⟨⟨ra, s1⟩, h1, hf⟩ := Option.bind_eq_some_iff.mp hf
  obtain ⟨w, h3, hf⟩ := Option.bind_eq_some_iff.mp hf
  obtain ⟨⟨rs, s2⟩, h2, hf⟩ := Option.map_eq_some_iff.mp hf
  cases hf
  subst hg
  refine ⟨g, s, ra, s1, rfl, R, h1, fun v g1 p1 R1 q1 => ?_⟩
  obtain ⟨g1', e1, p1', R1', q1'⟩ := toW R.st p1 R1 q1 h3
  refine ⟨g1', s1, rs, _, e1, R1', h2, fun vs g2 p2 R2 q2 => ?_⟩
  exact k (v :: vs) g2 (p1'.trans R.st R1'.st p2) R2 (.cons (q1'.mono p2.phi p2.io) q2)⟩
end
end NV

namespace NV
open PySem PySem.Spec PyProof.Rows L2
section
variable {X : Cx} {a b c e : Expr} {es : List Expr} {fa fb fc f : EF} {ff : AF} {pos : Pos} {K : PySem.W.Frag} {g g1 : G} {v : V}
abbrev iR (i : Int) : R := .val (.d (.int i))
abbrev bR (b : Bool) : R := .val (.d (.bl b))
theorem VuOk.at_ {x : D} (h : VuOk K g v (.at x)) : Dd K g.Φ v x := h.1
theorem VuOk.int {i : Int} (h : VuOk K g v (.at (.int i))) : v = .int i := by cases h.1; rfl
theorem VuOk.bl {i : Bool} (h : VuOk K g v (.at (.bl i))) : v = .bl i := by cases h.1; rfl
theorem VuOk.str {i : Str} (h : VuOk K g v (.at (.str i))) : v = .str i := by cases h.1; rfl
theorem VuOk.non (h : VuOk K g v (.at .non)) : v = .non := by cases h.1; rfl
theorem VuOk.ty {n : String} (h : VuOk K g v (.at (.ty n))) : v = .ty n := by cases h.1; rfl

/-! ### ints -/
/-- two ints in, an int out, under a test -/
def hII (c : Int → Int → Bool) (r : Int → Int → D) : OpH
  | .at (.int i), .at (.int j) => if c i j = true then some (.val (.d (r i j))) else none
  | _, _ => none
theorem opv_ii {f : Value → Value → Sem Value} {C : Int → Int → Prop} {gI : Int → Int → V} {c : Int → Int → Bool} {r : Int → Int → D} (o : OpR X f (rI C gI)) (hc : ∀ i j, c i j = true → C i j) (hr : ∀ Φ i j, Dd X.K Φ (gI i j) (r i j)) : OpV X f (hII c r) := by
  refine ⟨_, o, fun g x y u w res Q go vx vy e k => ?_⟩
  unfold hII at e
  split at e
  · split at e
    · rename_i hcc
      cases e
      cases vx.int
      cases vy.int
      exact ⟨_, _, rfl, rfl, hc _ _ hcc, k _ g (Ext.refl go) (hr _ _ _)⟩
    · cases e
  · cases e
theorem opv_ii0 {f : Value → Value → Sem Value} {gI : Int → Int → V} {r : Int → Int → D} (o : OpR X f (rI0 gI)) (hr : ∀ Φ i j, Dd X.K Φ (gI i j) (r i j)) : OpV X f (hII (fun _ _ => true) r) := by
  refine ⟨_, o, fun g x y u w res Q go vx vy e k => ?_⟩
  unfold hII at e
  split at e
  · rw [if_pos rfl] at e
    cases e
    cases vx.int
    cases vy.int
    exact ⟨_, _, rfl, rfl, k _ g (Ext.refl go) (hr _ _ _)⟩
  · cases e
def cMul (i j : Int) : Bool := (decide (-(2 ^ 64) < i) && decide (i < 2 ^ 64)) || (decide (-(2 ^ 64) < j) && decide (j < 2 ^ 64))
def cDiv (_ j : Int) : Bool := decide (0 < j) && decide (j < 1073741824)
def cMod (_ j : Int) : Bool := decide (0 < j)
def cPow (i j : Int) : Bool := decide (0 ≤ j) && (decide (j ≤ 1000000) && decide (i.natAbs < 2 ^ 64))
def hAddI : OpH := hII (fun _ _ => true) fun i j => .int (i + j)
def hSub : OpH := hII (fun _ _ => true) fun i j => .int (i - j)
def hMulI : OpH := hII cMul fun i j => .int (i * j)
def hDiv : OpH := hII cDiv fun i j => .int (i / j)
def hMod : OpH := hII cMod fun i j => .int (i % j)
def hPow : OpH := hII cPow fun i j => .int (i ^ j.toNat)
theorem o_addI : OpV X (binaryOp .Add) hAddI := opv_ii0 op_add fun _ _ _ => .int
theorem o_sub : OpV X (binaryOp .Sub) hSub := opv_ii0 op_sub fun _ _ _ => .int
theorem o_mulI : OpV X (binaryOp .Mult) hMulI := opv_ii op_mul (fun i j h => by
  unfold cMul at h
  simp only [Bool.or_eq_true, Bool.and_eq_true, decide_eq_true_eq] at h
  exact h) fun _ _ _ => .int
theorem o_div : OpV X (binaryOp .FloorDiv) hDiv := opv_ii op_fdiv (fun i j h => by
  unfold cDiv at h
  simp only [Bool.and_eq_true, decide_eq_true_eq] at h
  exact h) fun _ _ _ => .int
theorem o_mod : OpV X (binaryOp .Mod) hMod := opv_ii op_mod (fun i j h => by
  unfold cMod at h
  exact of_decide_eq_true h) fun _ _ _ => .int
theorem o_pow : OpV X (binaryOp .Pow) hPow := opv_ii op_pow (fun i j h => by
  unfold cPow at h
  simp only [Bool.and_eq_true, decide_eq_true_eq] at h
  exact h) fun _ _ _ => .int
/-! ### texts, lists, tuples added -/
def hAddS : OpH
  | .at (.str i), .at (.str j) => if i.length + j.length ≤ sizeLine then some (.val (.d (.str (i ++ j)))) else none
  | _, _ => none
theorem o_addS : OpV X (binaryOp .Add) hAddS := by
  refine ⟨_, op_add_str, fun g x y u w res Q go vx vy e k => ?_⟩
  unfold hAddS at e
  split at e
  · split at e
    · rename_i hc
      cases e
      cases vx.str
      cases vy.str
      exact ⟨_, _, rfl, rfl, hc, k _ g (Ext.refl go) Dd.str⟩
    · cases e
  · cases e
theorem WrL.append {Φ : Hp} {ι : List Addr} : ∀ {vs ws : List V} {xs ys : List W}, WrL K Φ ι vs xs → WrL K Φ ι ws ys → WrL K Φ ι (vs ++ ws) (xs ++ ys)
  | _, _, _, _, .nil, h => h
  | _, _, _, _, .cons a b, h => .cons a (WrL.append b h)
theorem WrL.length {Φ : Hp} {ι : List Addr} {vs : List V} {xs : List W} (h : WrL K Φ ι vs xs) : vs.length = xs.length := Paired.length h
/-- a new list made -/
theorem new_lst {ws : List W} {vs : List V} {Q : VK} (go : GOk g) (hw : WrL K g.Φ g.ι vs ws) (k : ∀ v g', Ext g g' → RR K g.H g' v (.new (.lst ws)) → Q v g'.H) : ∀ p, g.H p = none → Q (.ref p) (upd g.H p (.lst vs)) := fun p hp =>
  k (.ref p) ⟨g.Φ, g.ι, upd g.H p (.lst vs)⟩ (Ext.new go hp) ⟨p, rfl, ⟨vs, upd_same, hw⟩, go.free hp, go.nmem hp, hp, trivial⟩
/-- a new tuple of data made -/
theorem new_tup {ds : List D} {vs : List V} {Q : VK} (go : GOk g) (hw : DdL K g.Φ vs ds) (k : ∀ v g', Ext g g' → RR K g.H g' v (.val (.d (.tup ds))) → Q v g'.H) : ∀ p, g.H p = none → Q (.ref p) (upd g.H p (.tup vs)) := fun p hp =>
  k (.ref p) _ (Ext.frz go hp) (Dd.tup upd_same (hw.mono (Ext.frz go hp).phi))
def hAddL : OpH
  | .lst xs, .lst ys => if xs.length + ys.length ≤ sizeLine then some (.new (.lst (xs ++ ys))) else none
  | _, _ => none
theorem o_addL : OpV X (binaryOp .Add) hAddL := by
  refine ⟨_, op_cat, fun g x y u w res Q go vx vy e k => ?_⟩
  unfold hAddL at e
  split at e
  · split at e
    · rename_i hc
      cases e
      obtain ⟨l, vs, rfl, h1, w1⟩ := vx
      obtain ⟨l2, vs2, rfl, h2, w2⟩ := vy
      exact ⟨_, _, _, _, rfl, rfl, h1, h2, by rw [w1.length, w2.length]; exact hc, new_lst go (w1.append w2) k⟩
    · cases e
  · cases e
def hRepL : OpH
  | .lst xs, .at (.int k) => if 0 ≤ k ∧ k ≤ 100000 ∧ xs.length * k.toNat ≤ sizeLine then some (.new (.lst (List.replicate k.toNat xs).flatten)) else none
  | _, _ => none
theorem WrL.flat {Φ : Hp} {ι : List Addr} {vs : List V} {xs : List W} (h : WrL K Φ ι vs xs) : ∀ n : Nat, WrL K Φ ι (List.replicate n vs).flatten (List.replicate n xs).flatten
  | 0 => .nil
  | n + 1 => by
    rw [List.replicate_succ, List.replicate_succ, List.flatten_cons, List.flatten_cons]
    exact h.append (WrL.flat h n)
theorem o_repL : OpV X (binaryOp .Mult) hRepL := by
  refine ⟨_, op_rep, fun g x y u w res Q go vx vy e k => ?_⟩
  unfold hRepL at e
  split at e
  · split at e
    · rename_i hc
      cases e
      obtain ⟨l, vs, rfl, h1, w1⟩ := vx
      cases vy.int
      exact ⟨_, _, _, rfl, rfl, h1, by omega, by omega, by rw [w1.length]; exact hc.2.2, new_lst go (w1.flat _) k⟩
    · cases e
  · cases e
abbrev hAdd : OpH := orH hAddI (orH hAddS hAddL)
theorem o_add : OpV X (binaryOp .Add) hAdd := o_addI.or (o_addS.or o_addL)
abbrev hMul : OpH := orH hMulI hRepL
theorem o_mul : OpV X (binaryOp .Mult) hMul := o_mulI.or o_repL

/-! ### order -/
def hLt : OpH := hII (fun _ _ => true) fun i j => .bl (decide (i < j))
def hLe : OpH := hII (fun _ _ => true) fun i j => .bl (decide (i ≤ j))
def hGt : OpH := hII (fun _ _ => true) fun i j => .bl (decide (j < i))
def hGe : OpH := hII (fun _ _ => true) fun i j => .bl (decide (j ≤ i))
theorem o_lt : OpV X (compareOp .Lt) hLt := opv_ii0 op_lt fun _ _ _ => .bl
theorem o_le : OpV X (compareOp .LtE) hLe := opv_ii0 op_le fun _ _ _ => .bl
theorem o_gt : OpV X (compareOp .Gt) hGt := opv_ii0 op_gt fun _ _ _ => .bl
theorem o_ge : OpV X (compareOp .GtE) hGe := opv_ii0 op_ge fun _ _ _ => .bl

/-! ### is None -/
def isNon : Vu → Bool
  | .at .non => true
  | _ => false
def hIs : OpH
  | u, .at .non => some (bR (isNon u))
  | _, _ => none
def hIsNot : OpH
  | u, .at .non => some (bR (!isNon u))
  | _, _ => none
theorem isNon_ok {u : Vu} (h : VuOk K g v u) : decide (v = .non) = isNon u := by
  cases u with
  | «at» x =>
    obtain ⟨h, h2⟩ := h
    cases h <;> first | rfl | (exact absurd h2 (by simp [D.view]))
  | lst ws => obtain ⟨_, _, rfl, _⟩ := h; rfl
  | lsw ws => obtain ⟨_, _, rfl, _⟩ := h; rfl
  | tup ws => obtain ⟨_, _, rfl, _⟩ := h; rfl
  | dct ws => obtain ⟨_, _, rfl, _⟩ := h; rfl
  | ref n => obtain ⟨_, rfl, _⟩ := h; rfl
theorem o_is : OpV X (compareOp .Is) hIs := by
  refine ⟨_, op_isN, fun g x y u w res Q go vx vy e k => ?_⟩
  unfold hIs at e
  split at e
  · cases e
    cases vy.non
    exact ⟨rfl, by rw [isNon_ok vx]; exact k _ g (Ext.refl go) Dd.bl⟩
  · cases e
theorem o_isNot : OpV X (compareOp .IsNot) hIsNot := by
  refine ⟨_, op_notN, fun g x y u w res Q go vx vy e k => ?_⟩
  unfold hIsNot at e
  split at e
  · cases e
    cases vy.non
    exact ⟨rfl, by rw [isNon_ok vx]; exact k _ g (Ext.refl go) Dd.bl⟩
  · cases e

/-! ### == of data -/
mutual
/-- the same as the library's data; none of a dict, a type -/
def D.py : D → Option PyData
  | .non => some .none
  | .bl b => some (.bool b)
  | .int i => some (.int i)
  | .str s => some (.str s)
  | .lst l => (D.pys l).map .list
  | .lsw l => (D.pys l).map .list
  | .tup l => (D.pys l).map .tuple
  | .dct _ => none
  | .ty _ => none
  | .exc _ => none
  | .tpw l => (D.pys l).map .tuple
def D.pys : List D → Option (List PyData)
  | [] => some []
  | d :: l => (D.py d).bind fun x => (D.pys l).map fun y => x :: y
end
def W.dat : W → Option D
  | .d x => some x
  | .obj _ => none
  | .tp _ => none
/-- the thing looked at as data -/
def Vu.dat : Vu → Option D
  | .at x => some x
  | .lst ws => (dats ws).map .lst
  | .lsw ws => (dats ws).map .lsw
  | .tup ws => (dats ws).map .tup
  | _ => none
theorem Vu.dat_ok {u : Vu} {d : D} (sub : ∀ a o, g.Φ a = some o → g.H a = some o) (h : VuOk K g v u) (e : u.dat = some d) : Dd K g.H v d := by
  cases u with
  | «at» x => cases e; exact Dd.mono sub h.1
  | lst ws =>
    obtain ⟨ds, h1, rfl⟩ := Option.map_eq_some_iff.mp e
    obtain ⟨a, vs, rfl, h2, h3⟩ := h
    exact .lst h2 ((dats_ok h3 h1).1.mono sub)
  | lsw ws =>
    obtain ⟨ds, h1, rfl⟩ := Option.map_eq_some_iff.mp e
    obtain ⟨a, vs, rfl, h2, h3⟩ := h
    exact .lsw h2 ((dats_ok h3 h1).1.mono sub)
  | tup ws =>
    obtain ⟨ds, h1, rfl⟩ := Option.map_eq_some_iff.mp e
    obtain ⟨a, vs, rfl, h2, h3⟩ := h
    exact .tup (sub _ _ h2) ((dats_ok h3 h1).1.mono sub)
  | dct _ => cases e
  | ref _ => cases e
mutual
theorem D.py_ok {h : Hp} {v : V} {d : D} {p : PyData} : Dd K h v d → d.py = some p → Dp K h v p
  | .non, e => by simp only [D.py] at e; cases e; exact .non
  | .bl, e => by simp only [D.py] at e; cases e; exact .bl _
  | .int, e => by simp only [D.py] at e; cases e; exact .int _
  | .str, e => by simp only [D.py] at e; cases e; exact .str _
  | .ty, e => by simp only [D.py] at e; cases e
  | .exc _, e => by simp only [D.py] at e; cases e
  | .lst a b, e => by
    simp only [D.py] at e
    obtain ⟨ps, e1, rfl⟩ := Option.map_eq_some_iff.mp e
    exact .lst (.inl (.inl a)) (D.pys_ok b e1)
  | .lsw a b, e => by
    simp only [D.py] at e
    obtain ⟨ps, e1, rfl⟩ := Option.map_eq_some_iff.mp e
    exact .lst a (D.pys_ok b e1)
  | .tup a b, e => by
    simp only [D.py] at e
    obtain ⟨ps, e1, rfl⟩ := Option.map_eq_some_iff.mp e
    exact .tup (.inl (.inl a)) (D.pys_ok b e1)
  | .dct _ _, e => by simp only [D.py] at e; cases e
  | .tpw a b, e => by
    simp only [D.py] at e
    obtain ⟨ps, e1, rfl⟩ := Option.map_eq_some_iff.mp e
    exact .tup (a h) (D.pys_ok b e1)
theorem D.pys_ok {h : Hp} {vs : List V} {ds : List D} {ps : List PyData} : DdL K h vs ds → D.pys ds = some ps → DpAll K h vs ps
  | .nil, e => by simp only [D.pys] at e; cases e; exact .nil
  | .cons a b, e => by
    simp only [D.pys] at e
    obtain ⟨x, e1, e⟩ := Option.bind_eq_some_iff.mp e
    obtain ⟨y, e2, rfl⟩ := Option.map_eq_some_iff.mp e
    exact .cons (D.py_ok a e1) (D.pys_ok b e2)
end
def hEqP : OpH := fun u w => (u.dat.bind D.py).bind fun p => (w.dat.bind D.py).bind fun q => if SeqAt.shaped p = true ∧ SeqAt.shaped q = true then some (bR (PyData.eqv p q)) else none
def hNeP : OpH := fun u w => (u.dat.bind D.py).bind fun p => (w.dat.bind D.py).bind fun q => if SeqAt.shaped p = true ∧ SeqAt.shaped q = true then some (bR (!PyData.eqv p q)) else none
theorem o_eqP (hu : X.A.units + 64 < cLine) : OpV X (compareOp .Eq) hEqP := by
  refine ⟨_, op_eqD hu, fun g x y u w res Q go vx vy e k => ?_⟩
  unfold hEqP at e
  obtain ⟨p, e1, e⟩ := Option.bind_eq_some_iff.mp e
  obtain ⟨q, e2, e⟩ := Option.bind_eq_some_iff.mp e
  obtain ⟨d1, e3, e1⟩ := Option.bind_eq_some_iff.mp e1
  obtain ⟨d2, e4, e2⟩ := Option.bind_eq_some_iff.mp e2
  split at e
  · rename_i hc
    cases e
    exact ⟨p, q, D.py_ok (Vu.dat_ok go.sub vx e3) e1, D.py_ok (Vu.dat_ok go.sub vy e4) e2, hc.1, hc.2, k _ g (Ext.refl go) Dd.bl⟩
  · cases e
theorem o_neP (hu : X.A.units + 64 < cLine) : OpV X (compareOp .NotEq) hNeP := by
  refine ⟨_, op_neD hu, fun g x y u w res Q go vx vy e k => ?_⟩
  unfold hNeP at e
  obtain ⟨p, e1, e⟩ := Option.bind_eq_some_iff.mp e
  obtain ⟨q, e2, e⟩ := Option.bind_eq_some_iff.mp e
  obtain ⟨d1, e3, e1⟩ := Option.bind_eq_some_iff.mp e1
  obtain ⟨d2, e4, e2⟩ := Option.bind_eq_some_iff.mp e2
  split at e
  · rename_i hc
    cases e
    exact ⟨p, q, D.py_ok (Vu.dat_ok go.sub vx e3) e1, D.py_ok (Vu.dat_ok go.sub vy e4) e2, hc.1, hc.2, k _ g (Ext.refl go) Dd.bl⟩
  · cases e
/-- two atoms of one kind, or with None: told straight -/
def eqAt : D → D → Option Bool
  | .int i, .int j => some (decide (i = j))
  | .bl i, .bl j => some (i == j)
  | .str i, .str j => some (decide (i = j))
  | .non, .non => some true
  | .non, .int _ => some false
  | .int _, .non => some false
  | .non, .str _ => some false
  | .str _, .non => some false
  | .int _, .str _ => some false
  | .str _, .int _ => some false
  | _, _ => none
def hEqA : OpH
  | .at x, .at y => (eqAt x y).map bR
  | _, _ => none
def hNeA : OpH
  | .at x, .at y => (eqAt x y).map fun b => bR (!b)
  | _, _ => none
theorem eqAt_ok {Φ : Hp} {v w : V} {x y : D} {b : Bool} (hx : Dd K Φ v x) (hy : Dd K Φ w y) (e : eqAt x y = some b) : scal v w = true ∧ decide (v = w) = b := by
  unfold eqAt at e
  split at e <;> cases e <;> cases hx <;> cases hy <;> refine ⟨rfl, ?_⟩ <;> first | rfl | (rename_i i j; cases i <;> cases j <;> rfl) | (simp; done)
theorem o_eqA : OpV X (compareOp .Eq) hEqA := by
  refine ⟨_, op_eq, fun g x y u w res Q go vx vy e k => ?_⟩
  unfold hEqA at e
  split at e
  · obtain ⟨b, e1, e⟩ := Option.map_eq_some_iff.mp e
    cases e
    obtain ⟨h1, h2⟩ := eqAt_ok vx.1 vy.1 e1
    exact ⟨h1, by rw [h2]; exact k _ g (Ext.refl go) Dd.bl⟩
  · cases e
theorem o_neA : OpV X (compareOp .NotEq) hNeA := by
  refine ⟨_, op_ne, fun g x y u w res Q go vx vy e k => ?_⟩
  unfold hNeA at e
  split at e
  · obtain ⟨b, e1, e⟩ := Option.map_eq_some_iff.mp e
    cases e
    obtain ⟨h1, h2⟩ := eqAt_ok vx.1 vy.1 e1
    exact ⟨h1, by rw [h2]; exact k _ g (Ext.refl go) Dd.bl⟩
  · cases e
abbrev hEq : OpH := orH hEqA hEqP
abbrev hNe : OpH := orH hNeA hNeP
theorem o_eq (hu : X.A.units + 64 < cLine) : OpV X (compareOp .Eq) hEq := o_eqA.or (o_eqP hu)
theorem o_ne (hu : X.A.units + 64 < cLine) : OpV X (compareOp .NotEq) hNe := o_neA.or (o_neP hu)

/-! ### in -/
def W.flat : W → Bool
  | .d .non => true
  | .d (.bl _) => true
  | .d (.int _) => true
  | .d (.str _) => true
  | _ => false
/-- == of flat values -/
def eqW : W → W → Bool
  | .d .non, .d .non => true
  | .d (.bl a), .d (.bl b) => a == b
  | .d (.bl a), .d (.int b) => (if a then 1 else 0) == b
  | .d (.int a), .d (.bl b) => a == (if b then 1 else 0)
  | .d (.int a), .d (.int b) => a == b
  | .d (.str a), .d (.str b) => a == b
  | _, _ => false
def Vu.fl : Vu → Option W
  | .at x => if W.flat (.d x) = true then some (.d x) else none
  | _ => none
theorem flat_ok {Φ : Hp} {ι : List Addr} {v : V} {w : W} (h : Wr K Φ ι v w) (e : w.flat = true) : flatV v = true := by
  cases w with
  | d x => cases h <;> first | rfl | (exfalso; simp [W.flat] at e; done)
  | obj n => exact absurd e (by simp [W.flat])
  | tp n => exact absurd e (by simp [W.flat])
theorem eqW_ok {Φ : Hp} {ι : List Addr} {v v' : V} {w w' : W} (h : Wr K Φ ι v w) (h' : Wr K Φ ι v' w') (e : w.flat = true) (e' : w'.flat = true) : eqV v v' = eqW w w' := by
  cases w with
  | obj n => exact absurd e (by simp [W.flat])
  | tp n => exact absurd e (by simp [W.flat])
  | d x =>
    cases w' with
    | obj n => exact absurd e' (by simp [W.flat])
    | tp n => exact absurd e' (by simp [W.flat])
    | d x' =>
      cases h <;> first
        | (exfalso; simp [W.flat] at e; done)
        | (cases h' <;> first | rfl | (exfalso; simp [W.flat] at e'; done))
def inW (x : W) (ws : List W) : Bool := ws.any fun y => eqW y x
theorem inW_ok {Φ : Hp} {ι : List Addr} {v : V} {w : W} (h : Wr K Φ ι v w) (e : w.flat = true) : ∀ {vs : List V} {ws : List W}, WrL K Φ ι vs ws → ws.all W.flat = true → inV v vs = inW w ws ∧ vs.all flatV = true
  | _, _, .nil, _ => ⟨rfl, rfl⟩
  | _, _, .cons a b, q => by
    rw [List.all_cons, Bool.and_eq_true] at q
    obtain ⟨h1, h2⟩ := inW_ok h e b q.2
    have h3 := eqW_ok a h q.1 e
    unfold inV inW at h1 ⊢
    rw [List.any_cons, List.any_cons, h1, h3, List.all_cons, h2, flat_ok a q.1]
    exact ⟨rfl, rfl⟩
theorem Vu.fl_ok {u : Vu} {w : W} (h : VuOk K g v u) (e : u.fl = some w) : Wr K g.Φ g.ι v w ∧ w.flat = true := by
  unfold Vu.fl at e
  split at e
  · split at e
    · rename_i hf
      cases e
      exact ⟨h.1, hf⟩
    · cases e
  · cases e
def Vu.seq : Vu → Option (List W)
  | .lst ws => some ws
  | .lsw ws => some ws
  | .tup ws => some ws
  | _ => none
theorem Vu.seq_ok {u : Vu} {ws : List W} (sub : ∀ a o, g.Φ a = some o → g.H a = some o) (h : VuOk K g v u) (e : u.seq = some ws) : ∃ a vs, v = .ref a ∧ (SqL K g.H a vs ∨ SqT K g.H a vs) ∧ WrL K g.Φ g.ι vs ws := by
  unfold Vu.seq at e
  split at e
  · cases e; obtain ⟨a, vs, h1, h2, h3⟩ := h; exact ⟨a, vs, h1, .inl (.inl (.inl h2)), h3⟩
  · cases e; obtain ⟨a, vs, h1, h2, h3⟩ := h; exact ⟨a, vs, h1, .inl h2, h3⟩
  · cases e; obtain ⟨a, vs, h1, h2, h3⟩ := h; exact ⟨a, vs, h1, .inr (.inl (.inl (sub _ _ h2))), h3⟩
  · cases e
def hInS (neg : Bool) : OpH := fun u w => u.fl.bind fun x => w.seq.bind fun ws => if ws.all W.flat = true then some (bR (if neg then !inW x ws else inW x ws)) else none
theorem inS_ok {neg : Bool} {op : CmpOp} (o : OpR X (compareOp op) (rIn X.K neg)) : OpV X (compareOp op) (hInS neg) := by
  refine ⟨_, o, fun g x y u w res Q go vx vy e k => ?_⟩
  unfold hInS at e
  obtain ⟨w1, e1, e⟩ := Option.bind_eq_some_iff.mp e
  obtain ⟨ws, e2, e⟩ := Option.bind_eq_some_iff.mp e
  split at e
  · rename_i hc
    cases e
    obtain ⟨q1, q2⟩ := Vu.fl_ok vx e1
    obtain ⟨a, vs, rfl, q3, q4⟩ := Vu.seq_ok go.sub vy e2
    obtain ⟨q5, q6⟩ := inW_ok q1 q2 q4 hc
    exact ⟨a, vs, rfl, q3, flat_ok q1 q2, q6, by rw [q5]; exact k _ g (Ext.refl go) Dd.bl⟩
  · cases e
def D.key : D → Option Key
  | .int i => some (.inl i)
  | .str s => some (.inr s)
  | _ => none
def Vu.key : Vu → Option Key
  | .at x => x.key
  | _ => none
theorem Vu.key_ok {u : Vu} {k : Key} (h : VuOk K g v u) (e : u.key = some k) : v = kV k := by
  unfold Vu.key at e
  split at e
  · unfold D.key at e
    split at e
    · cases e; exact h.int
    · cases e; exact h.str
    · cases e
  · cases e
def Vu.dic : Vu → Option (List (Key × W))
  | .dct kws => some kws
  | _ => none
theorem Vu.dic_ok {u : Vu} {kws : List (Key × W)} (h : VuOk K g v u) (e : u.dic = some kws) : ∃ a kvs, v = .ref a ∧ g.H a = some (.dK kvs) ∧ WrK K g.Φ g.ι kvs kws := by
  unfold Vu.dic at e
  split at e
  · cases e; exact h
  · cases e
/-- the value at a key -/
def look {α : Type} (kws : List (Key × α)) (k : Key) : Option α := kws.findSome? fun p => if p.1 = k then some p.2 else none
theorem look_ok {Φ : Hp} {ι : List Addr} {k : Key} : ∀ {kvs : List (Key × V)} {kws : List (Key × W)}, WrK K Φ ι kvs kws → (match look kws k with | some w => ∃ v, valV kvs k = some v ∧ Wr K Φ ι v w | none => valV kvs k = none)
  | _, _, .nil => rfl
  | p :: kvs, q :: kws, .cons a b => by
    have ih := look_ok (k := k) b
    obtain ⟨k1, v1⟩ := p
    obtain ⟨k2, w2⟩ := q
    obtain ⟨e, h⟩ := a
    dsimp only at e h
    subst e
    unfold look at ih ⊢
    rw [List.findSome?_cons]
    by_cases hk : k1 = k
    · subst hk
      simp only [if_pos]
      exact ⟨v1, by simp [valV], h⟩
    · simp only [if_neg hk]
      have : valV ((k1, v1) :: kvs) k = valV kvs k := by simp [valV, hk]
      rw [this]
      exact ih
theorem op_inD {X : Cx} (hu : X.A.units + 1 < cLine) : OpR X (compareOp .In) (fun y x H Q => ∃ a o, x = .ref a ∧ DGet H a y o ∧ Q (.bl o.isSome) H) := by
  intro pins s σ H y x u v Q I ry rx h
  obtain ⟨a, o, rfl, g, q⟩ := h
  obtain rfl : v = Value.ref a := rx
  exact d_in hu I g ry fun s3 I3 => ⟨.bl _, H, I3, rfl, q⟩
theorem op_notInD {X : Cx} (hu : X.A.units + 1 < cLine) : OpR X (compareOp .NotIn) (fun y x H Q => ∃ a o, x = .ref a ∧ DGet H a y o ∧ Q (.bl (!o.isSome)) H) := by
  intro pins s σ H y x u v Q I ry rx h
  obtain ⟨a, o, rfl, g, q⟩ := h
  obtain rfl : v = Value.ref a := rx
  exact d_notIn hu I g ry fun s3 I3 => ⟨.bl _, H, I3, rfl, q⟩
def hInD (neg : Bool) : OpH := fun u w => u.key.bind fun k => w.dic.map fun kws => bR (if neg then !(look kws k).isSome else (look kws k).isSome)
theorem look_some {Φ : Hp} {ι : List Addr} {k : Key} {kvs : List (Key × V)} {kws : List (Key × W)} (h : WrK K Φ ι kvs kws) : (valV kvs k).isSome = (look kws k).isSome := by
  have := look_ok (k := k) h
  split at this
  · rename_i w e
    obtain ⟨v, h1, _⟩ := this
    rw [h1, e]; rfl
  · rename_i e
    rw [this, e]; rfl
theorem o_inD (hu : X.A.units + 64 < cLine) : OpV X (compareOp .In) (hInD false) := by
  refine ⟨_, op_inD (by omega), fun g x y u w res Q go vx vy e k => ?_⟩
  unfold hInD at e
  obtain ⟨k', e1, e⟩ := Option.bind_eq_some_iff.mp e
  obtain ⟨kws, e2, e⟩ := Option.map_eq_some_iff.mp e
  cases e
  cases Vu.key_ok vx e1
  obtain ⟨a, kvs, rfl, h1, h2⟩ := Vu.dic_ok vy e2
  exact ⟨a, _, rfl, DGet.k h1, by rw [look_some h2]; exact k _ g (Ext.refl go) Dd.bl⟩
theorem o_notInD (hu : X.A.units + 64 < cLine) : OpV X (compareOp .NotIn) (hInD true) := by
  refine ⟨_, op_notInD (by omega), fun g x y u w res Q go vx vy e k => ?_⟩
  unfold hInD at e
  obtain ⟨k', e1, e⟩ := Option.bind_eq_some_iff.mp e
  obtain ⟨kws, e2, e⟩ := Option.map_eq_some_iff.mp e
  cases e
  cases Vu.key_ok vx e1
  obtain ⟨a, kvs, rfl, h1, h2⟩ := Vu.dic_ok vy e2
  exact ⟨a, _, rfl, DGet.k h1, by rw [look_some h2]; exact k _ g (Ext.refl go) Dd.bl⟩
abbrev hIn : OpH := orH (hInS false) (hInD false)
abbrev hNotIn : OpH := orH (hInS true) (hInD true)
theorem o_in (hu : X.A.units + 64 < cLine) : OpV X (compareOp .In) hIn := (inS_ok op_in_seq).or (o_inD hu)
theorem o_notIn (hu : X.A.units + 64 < cLine) : OpV X (compareOp .NotIn) hNotIn := (inS_ok op_notIn_seq).or (o_notInD hu)
end
end NV

namespace NV
open PySem PySem.Spec PyProof.Rows L2
section
variable {X : Cx} {a b c e : Expr} {es : List Expr} {fa fb fc f : EF} {ff : AF} {pos : Pos} {K : PySem.W.Frag} {g g1 : G} {v : V} {σ : L2.St} {s s1 : S} {st st1 : Sto}

/-! ### a value as data: a mutable thing is frozen -/
def frzW : W → Sto → Option (D × Sto)
  | .d x, st => some (x, st)
  | .obj n, st => match st[n]? with
    | some (some nd) => nd.dat.map fun d => (d, st.set n none)
    | _ => none
  | .tp _, _ => none
def frzWs : List W → Sto → Option (List D × Sto)
  | [], st => some ([], st)
  | w :: ws, st => (frzW w st).bind fun p => (frzWs ws p.2).map fun q => (p.1 :: q.1, q.2)
theorem frzW_ok {w : W} {d : D} (o : StOk K g st) (q : Wr K g.Φ g.ι v w) (e : frzW w st = some (d, st1)) :
    ∃ Φ', (∀ a ob, g.Φ a = some ob → Φ' a = some ob) ∧ Step g st ⟨Φ', g.ι, g.H⟩ st1 ∧ StOk K ⟨Φ', g.ι, g.H⟩ st1 ∧ Dd K Φ' v d := by
  cases w with
  | d x => cases e; exact ⟨g.Φ, fun _ _ h => h, Step.refl, o, q⟩
  | obj n =>
    unfold frzW at e
    dsimp only at e
    split at e
    · rename_i nd hn
      obtain ⟨d', e1, e⟩ := Option.map_eq_some_iff.mp e
      cases e
      obtain ⟨a, ha, rfl⟩ := q
      have hs := o.at_ n nd a hn ha
      have hl := o.live n nd a hn ha
      have hnl : n < st.length := (List.getElem?_eq_some_iff.mp hn).1
      have core : ∀ ob, g.H a = some ob → (∀ a' ob', g.Φ a' = some ob' → upd g.Φ a ob a' = some ob') ∧ Step g st ⟨upd g.Φ a ob, g.ι, g.H⟩ (st.set n none) ∧ StOk K ⟨upd g.Φ a ob, g.ι, g.H⟩ (st.set n none) := fun ob hob => by
        have mono : ∀ a' ob', g.Φ a' = some ob' → upd g.Φ a ob a' = some ob' := fun a' ob' h => by rw [upd_ne (ne_of_none h hl)]; exact h
        refine ⟨mono, ⟨mono, ⟨[], by simp⟩, fun _ _ h _ => h, fun a' h => ?_, fun _ h => h, fun m hm h y => ?_⟩, ⟨by rw [List.length_set]; exact o.len, fun m nd' a' h1 h2 => ?_, o.nd, fun m x a' h1 h2 => ?_, fun a' ob' h => ?_, o.dom⟩⟩
        · rcases h with h | h
          · have h : upd g.Φ a ob a' ≠ none := h
            by_cases e : a' = a
            · subst e; exact .inr (.inl (List.mem_of_getElem? ha))
            · rw [upd_ne e] at h; exact .inl h
          · exact .inr (.inl h)
        · by_cases e : n = m
          · subst e; rw [List.getElem?_set_self hm]; exact fun z => nomatch z
          · rw [List.getElem?_set_ne e]; exact h y
        · by_cases e : n = m
          · subst e; rw [List.getElem?_set_self hnl] at h1; cases h1
          · rw [List.getElem?_set_ne e] at h1
            exact (o.at_ m nd' a' h1 h2).stay mono ⟨[], by simp⟩ fun _ h => h
        · by_cases e : n = m
          · subst e; rw [List.getElem?_set_self hnl] at h1; cases h1
          · rw [List.getElem?_set_ne e] at h1
            show upd g.Φ a ob a' = none
            have : a' ≠ a := fun z => e (nodup_at o.nd ha (z ▸ h2))
            rw [upd_ne this]
            exact o.live m x a' h1 h2
        · have h : upd g.Φ a ob a' = some ob' := h
          by_cases e : a' = a
          · subst e; rw [upd_same] at h; cases h; exact hob
          · rw [upd_ne e] at h; exact o.sub _ _ h
      cases nd with
      | lst ws =>
        obtain ⟨ds, e2, rfl⟩ := Option.map_eq_some_iff.mp e1
        obtain ⟨vs, hv, hw⟩ := hs
        obtain ⟨c1, c2, c3⟩ := core _ hv
        exact ⟨_, c1, c2, c3, .lst upd_same ((dats_ok hw e2).1.mono c1)⟩
      | dct kws =>
        obtain ⟨ds, e2, rfl⟩ := Option.map_eq_some_iff.mp e1
        obtain ⟨vs, hv, hw⟩ := hs
        obtain ⟨c1, c2, c3⟩ := core _ hv
        exact ⟨_, c1, c2, c3, .dct upd_same ((datk_ok hw e2).mono c1)⟩
      | ins _ _ => cases e1
      | tab _ _ => cases e1
    · cases e
  | tp es => cases e
theorem frzWs_ok : ∀ {ws : List W} {vs : List V} {ds : List D} {g : G} {st st1 : Sto}, StOk K g st → WrL K g.Φ g.ι vs ws → frzWs ws st = some (ds, st1) →
    ∃ Φ', (∀ a ob, g.Φ a = some ob → Φ' a = some ob) ∧ Step g st ⟨Φ', g.ι, g.H⟩ st1 ∧ StOk K ⟨Φ', g.ι, g.H⟩ st1 ∧ DdL K Φ' vs ds
  | [], _, _, g, _, _, o, .nil, e => by cases e; exact ⟨g.Φ, fun _ _ h => h, Step.refl, o, .nil⟩
  | w :: ws, _, _, g, st, st1, o, .cons a b, e => by
    unfold frzWs at e
    obtain ⟨⟨d, st2⟩, e1, e⟩ := Option.bind_eq_some_iff.mp e
    obtain ⟨⟨ds, st3⟩, e2, e⟩ := Option.map_eq_some_iff.mp e
    cases e
    obtain ⟨Φ1, m1, p1, o1, q1⟩ := frzW_ok o a e1
    obtain ⟨Φ2, m2, p2, o2, q2⟩ := frzWs_ok (g := ⟨Φ1, g.ι, g.H⟩) o1 (WrL.mono m1 ⟨[], by simp⟩ b) e2
    exact ⟨Φ2, fun a' ob h => m2 _ _ (m1 _ _ h), p1.trans o o1 p2, o2, .cons (q1.mono m2) q2⟩

/-! ### displays -/
def eTup (ff : AF) : EF := fun s => (ff s).bind fun p => (frzWs p.1 p.2.st).bind fun q => if q.1.length ≤ sizeLine then some (.val (.d (.tup q.1)), { p.2 with st := q.2 }) else none
theorem DdL.length {h : Hp} : ∀ {vs : List V} {ds : List D}, DdL K h vs ds → vs.length = ds.length
  | _, _, .nil => rfl
  | _, _, .cons _ b => by rw [List.length_cons, List.length_cons, b.length]
theorem v_tup {x1} (h : VA X es ff) : VE X (.Tuple es x1 pos) (eTup ff) := ⟨(pe_tup h.pa).imp fun σ H Q ⟨g, s, r, s', hg, R, hf, k⟩ => by
  obtain ⟨⟨ws, s1⟩, h1, hf⟩ := Option.bind_eq_some_iff.mp hf
  obtain ⟨⟨ds, st2⟩, h2, hf⟩ := Option.bind_eq_some_iff.mp hf
  dsimp only at hf h2
  split at hf
  · rename_i hz
    cases hf
    subst hg
    refine ⟨g, s, ws, _, rfl, R, h1, fun vs g1 p1 R1 q1 => ?_⟩
    obtain ⟨Φ', m, p2, o2, q2⟩ := frzWs_ok R1.st q1 h2
    refine ⟨by rw [q2.length]; exact hz, new_tup (g := ⟨Φ', g1.ι, g1.H⟩) o2.ok q2 fun v g' x rr => ?_⟩
    have R2 : Rel X.K ⟨Φ', g1.ι, g1.H⟩ σ ⟨_, st2⟩ := ⟨o2, R1.sl.phi m⟩
    exact k v g' ((p1.trans R.st R1.st p2).trans R.st o2 x.step) (x.rel R2) rr
  · cases hf⟩
def eLst (ff : AF) : EF := fun s => (ff s).bind fun p => if p.1.length ≤ sizeLine then some (.new (.lst p.1), p.2) else none
theorem v_lst (h : VA X es ff) : VE X (.List es pos) (eLst ff) := ⟨(pe_lst h.pa).imp fun σ H Q ⟨g, s, r, s', hg, R, hf, k⟩ => by
  obtain ⟨⟨ws, s1⟩, h1, hf⟩ := Option.bind_eq_some_iff.mp hf
  dsimp only at hf
  split at hf
  · rename_i hz
    cases hf
    subst hg
    refine ⟨g, s, ws, _, rfl, R, h1, fun vs g1 p1 R1 q1 => ⟨by rw [q1.length]; exact hz, new_lst R1.st.ok q1 fun v g' x rr => ?_⟩⟩
    exact k v g' (p1.trans R.st R1.st x.step) (x.rel R1) (rr.back R.st p1)
  · cases hf⟩
def eDnew : EF := fun s => some (.new (.dct []), s)
/-- a display of pairs with written keys -/
def putW (kws : List (Key × W)) (k : Key) (w : W) : List (Key × W) :=
  if (kws.any fun kv => decide (kv.1 = k)) = true then kws.map (fun kv => if kv.1 = k then (kv.1, w) else kv) else kws ++ [(k, w)]
def dropW (kws : List (Key × W)) (k : Key) : List (Key × W) := kws.filter fun kv => decide (kv.1 ≠ k)
theorem WrK.any {Φ : Hp} {ι : List Addr} {k : Key} : ∀ {kvs : List (Key × V)} {kws : List (Key × W)}, WrK K Φ ι kvs kws → (kvs.any fun kv => decide (kv.1 = k)) = kws.any fun kv => decide (kv.1 = k)
  | _, _, .nil => rfl
  | _, _, .cons a b => by
    rw [List.any_cons, List.any_cons, WrK.any b, a.1]
theorem WrK.put {Φ : Hp} {ι : List Addr} {k : Key} {v : V} {w : W} (h : Wr K Φ ι v w) : ∀ {kvs : List (Key × V)} {kws : List (Key × W)}, WrK K Φ ι kvs kws → WrK K Φ ι (kvs.map (fun kv => if kv.1 = k then (kv.1, v) else kv)) (kws.map (fun kv => if kv.1 = k then (kv.1, w) else kv))
  | _, _, .nil => .nil
  | (k1, v1) :: kvs, (k2, w2) :: kws, .cons a b => by
    obtain ⟨e, h'⟩ := a
    dsimp only at e h'
    subst e
    rw [List.map_cons, List.map_cons]
    by_cases hk : k1 = k
    · simp only [if_pos hk]; exact .cons ⟨rfl, h⟩ (WrK.put h b)
    · simp only [if_neg hk]; exact .cons ⟨rfl, h'⟩ (WrK.put h b)
theorem WrK.append {Φ : Hp} {ι : List Addr} : ∀ {vs ws : List (Key × V)} {xs ys : List (Key × W)}, WrK K Φ ι vs xs → WrK K Φ ι ws ys → WrK K Φ ι (vs ++ ws) (xs ++ ys)
  | _, _, _, _, .nil, h => h
  | _, _, _, _, .cons a b, h => .cons a (WrK.append b h)
theorem putW_ok {Φ : Hp} {ι : List Addr} {k : Key} {v : V} {w : W} (h : Wr K Φ ι v w) {kvs : List (Key × V)} {kws : List (Key × W)} (q : WrK K Φ ι kvs kws) : WrK K Φ ι (putK kvs k v) (putW kws k w) := by
  unfold putK putW
  rw [WrK.any q]
  split
  · exact WrK.put h q
  · exact WrK.append q (.cons ⟨rfl, h⟩ .nil)
end
end NV

namespace NV
open PySem PySem.Spec PyProof.Rows L2
section
variable {X : Cx} {a b c e : Expr} {es : List Expr} {fa fb fc f : EF} {ff : AF} {pos : Pos} {K : PySem.W.Frag} {g g1 : G} {v : V} {σ : L2.St} {s s1 : S} {st st1 : Sto}

/-! ### tuples added -/
def hAddT : OpH
  | .tup xs, .tup ys => (dats xs).bind fun p => (dats ys).bind fun q => if p.length + q.length ≤ sizeLine then some (.val (.d (.tup (p ++ q)))) else none
  | _, _ => none
theorem DdL.append {h : Hp} : ∀ {vs ws : List V} {xs ys : List D}, DdL K h vs xs → DdL K h ws ys → DdL K h (vs ++ ws) (xs ++ ys)
  | _, _, _, _, .nil, h => h
  | _, _, _, _, .cons a b, h => .cons a (DdL.append b h)
theorem o_addT : OpV X (binaryOp .Add) hAddT := by
  refine ⟨_, op_catA, fun g x y u w res Q go vx vy e k => ?_⟩
  unfold hAddT at e
  split at e
  · obtain ⟨p, e1, e⟩ := Option.bind_eq_some_iff.mp e
    obtain ⟨q, e2, e⟩ := Option.bind_eq_some_iff.mp e
    split at e
    · rename_i hz
      cases e
      obtain ⟨a, vs, rfl, h1, w1⟩ := vx
      obtain ⟨b, vs2, rfl, h2, w2⟩ := vy
      have d1 := (dats_ok w1 e1).1
      have d2 := (dats_ok w2 e2).1
      refine ⟨a, b, vs, vs2, rfl, rfl, .inl (.inl (go.sub _ _ h1)), .inl (.inl (go.sub _ _ h2)), by rw [d1.length, d2.length]; exact hz, fun z => ?_, fun z1 z2 => ?_, fun _ _ => new_tup go (d1.append d2) k⟩
      · subst z
        cases d1
        exact k _ g (Ext.refl go) (Dd.tup h2 d2)
      · subst z2
        cases d2
        exact k _ g (Ext.refl go) (by rw [List.append_nil]; exact Dd.tup h1 d1)
    · cases e
  · cases e
abbrev hAdd' : OpH := orH hAdd hAddT
theorem o_add' : OpV X (binaryOp .Add) hAdd' := o_add.or o_addT

/-! ### an item -/
def IxV (X : Cx) (h : OpH) : Prop := ∃ r : R2, IxR X r ∧ ∀ (g : G) (x y : V) (u w : Vu) (res : R) (Q : VK), GOk g → VuOk X.K g x u → VuOk X.K g y w → h u w = some res →
  (∀ v g', Ext g g' → RR X.K g.H g' v res → Q v g'.H) → r x y g.H Q
theorem IxR.or' {r1 r2 : R2} (h : IxR X r1) (h' : IxR X r2) : IxR X (fun x y H Q => r1 x y H Q ∨ r2 x y H Q) := by
  intro value slice pins s σ H x y v u Q I rx ry q hs
  rcases q with q | q
  · exact h value slice pins s σ H x y v u Q I rx ry q hs
  · exact h' value slice pins s σ H x y v u Q I rx ry q hs
theorem IxV.or {h1 h2 : OpH} (p : IxV X h1) (q : IxV X h2) : IxV X (orH h1 h2) := by
  obtain ⟨r1, o1, k1⟩ := p
  obtain ⟨r2, o2, k2⟩ := q
  refine ⟨_, IxR.or' o1 o2, fun g x y u w res Q o vx vy e k => ?_⟩
  unfold orH at e
  split at e
  · rename_i r' e'
    cases e
    exact .inl (k1 g x y u w _ Q o vx vy e' k)
  · exact .inr (k2 g x y u w _ Q o vx vy e k)
theorem WrL.get {Φ : Hp} {ι : List Addr} : ∀ {vs : List V} {ws : List W} {i : Nat} {w : W}, WrL K Φ ι vs ws → ws[i]? = some w → ∃ v, vs[i]? = some v ∧ Wr K Φ ι v w
  | _, _, _, _, .nil, e => by simp at e
  | _, _, 0, w, .cons a b, e => by simp at e; subst e; exact ⟨_, rfl, a⟩
  | _, _, i + 1, w, .cons a b, e => by
    obtain ⟨v, h1, h2⟩ := WrL.get (i := i) (w := w) b (by simpa using e)
    exact ⟨v, by simpa using h1, h2⟩
theorem WrL.atI {Φ : Hp} {ι : List Addr} {vs : List V} {ws : List W} {i : Int} {w : W} (h : WrL K Φ ι vs ws) (e : L2.atI ws i = some w) : ∃ v, L2.atI vs i = some v ∧ Wr K Φ ι v w := by
  unfold L2.atI at e ⊢
  rw [h.length]
  obtain ⟨j, h1, h2⟩ := Option.bind_eq_some_iff.mp e
  obtain ⟨v, h3, h4⟩ := h.get h2
  exact ⟨v, by rw [h1]; exact h3, h4⟩
def hIxL : OpH
  | .lst ws, .at (.int i) => (L2.atI ws i).map .val
  | .lsw ws, .at (.int i) => (L2.atI ws i).map .val
  | _, _ => none
theorem i_list : IxV X hIxL := by
  refine ⟨_, ix_list, fun g x y u w res Q go vx vy e k => ?_⟩
  unfold hIxL at e
  split at e
  · obtain ⟨w', e1, e⟩ := Option.map_eq_some_iff.mp e
    cases e
    obtain ⟨p, vs, rfl, h1, h2⟩ := vx
    obtain ⟨v, h3, h4⟩ := h2.atI e1
    exact ⟨p, vs, _, v, rfl, vy.int, .inl (.inl h1), h3, k v g (Ext.refl go) h4⟩
  · obtain ⟨w', e1, e⟩ := Option.map_eq_some_iff.mp e
    cases e
    obtain ⟨p, vs, rfl, h1, h2⟩ := vx
    obtain ⟨v, h3, h4⟩ := h2.atI e1
    exact ⟨p, vs, _, v, rfl, vy.int, h1, h3, k v g (Ext.refl go) h4⟩
  · cases e
def hIxT : OpH
  | .tup ws, .at (.int i) => (L2.atI ws i).map .val
  | _, _ => none
theorem i_tup : IxV X hIxT := by
  refine ⟨_, ix_tup, fun g x y u w res Q go vx vy e k => ?_⟩
  unfold hIxT at e
  split at e
  · obtain ⟨w', e1, e⟩ := Option.map_eq_some_iff.mp e
    cases e
    obtain ⟨p, vs, rfl, h1, h2⟩ := vx
    obtain ⟨v, h3, h4⟩ := h2.atI e1
    exact ⟨p, vs, _, v, rfl, vy.int, .inl (.inl (go.sub _ _ h1)), h3, k v g (Ext.refl go) h4⟩
  · cases e
def hIxS : OpH
  | .at (.str z), .at (.int i) => if z.length ≤ sizeLine then (L2.atI z.cps.toList i).map fun c => .val (.d (.str ⟨#[c]⟩)) else none
  | _, _ => none
theorem i_str : IxV X hIxS := by
  refine ⟨_, ix_str, fun g x y u w res Q go vx vy e k => ?_⟩
  unfold hIxS at e
  split at e
  · split at e
    · rename_i hz
      obtain ⟨w', e1, e⟩ := Option.map_eq_some_iff.mp e
      cases e
      exact ⟨_, _, _, vx.str, vy.int, hz, e1, k _ g (Ext.refl go) Dd.str⟩
    · cases e
  · cases e
theorem ix_dict (hu : X.A.units + 1 < cLine) : IxR X (fun x y H Q => ∃ a v, x = .ref a ∧ DGet H a y (some v) ∧ Q v H) := by
  intro value slice pins s σ H x y v u Q I rx ry h hs
  obtain ⟨a, w, rfl, g, q⟩ := h
  obtain rfl : v = Value.ref a := rx
  exact tail_any (dict_typeIs I g) PySem.F.slot_dict_getitem.lookup (d_getItem hu I g ry fun w' s3 I3 rw' => ⟨w, H, I3, rw', q⟩) hs
def hIxD : OpH := fun u w => u.dic.bind fun kws => w.key.bind fun k => (look kws k).map .val
theorem i_dict (hu : X.A.units + 64 < cLine) : IxV X hIxD := by
  refine ⟨_, ix_dict (by omega), fun g x y u w res Q go vx vy e k => ?_⟩
  unfold hIxD at e
  obtain ⟨kws, e1, e⟩ := Option.bind_eq_some_iff.mp e
  obtain ⟨k', e2, e⟩ := Option.bind_eq_some_iff.mp e
  obtain ⟨w', e3, e⟩ := Option.map_eq_some_iff.mp e
  cases e
  obtain ⟨a, kvs, rfl, h1, h2⟩ := Vu.dic_ok vx e1
  cases Vu.key_ok vy e2
  have := look_ok (k := k') h2
  rw [e3] at this
  obtain ⟨v, h3, h4⟩ := this
  exact ⟨a, v, rfl, by rw [← h3]; exact DGet.k h1, k v g (Ext.refl go) h4⟩
abbrev hIx : OpH := orH hIxL (orH hIxT (orH hIxS hIxD))
theorem i_any (hu : X.A.units + 64 < cLine) : IxV X hIx := i_list.or (i_tup.or (i_str.or (i_dict hu)))
theorem v_ix {h : OpH} (ho : IxV X h) (ha : VE X a fa) (hb : VE X b fb) (hs : PlainIx b) : VE X (.Subscript a b pos) (eOp h fa fb) := by
  obtain ⟨r, o, ho⟩ := ho
  refine ⟨(pe_ix o ha.pe hb.pe hs).imp fun σ H Q ⟨g, s, r', s', hg, R, hf, k⟩ => ?_⟩
  subst hg
  refine two ha hb R hf fun x y ra rb s2 g2 e p R2 q1 q2 => ?_
  obtain ⟨u, e1, e⟩ := Option.bind_eq_some_iff.mp e
  obtain ⟨w, e2, e⟩ := Option.bind_eq_some_iff.mp e
  obtain ⟨r2, e3, e⟩ := Option.map_eq_some_iff.mp e
  cases e
  refine ho g2 x y u w _ Q R2.st.ok (view_ok R2.st q1 e1) (view_ok R2.st q2 e2) e3 fun v g' x' rr => ?_
  exact k v g' (p.trans R.st R2.st x'.step) (x'.rel R2) (rr.back R.st p)

/-! ### slices -/
abbrev SlH := Vu → Option Int → Option Int → Option R
def SlV (X : Cx) (h : SlH) : Prop := ∃ r, SlR X r ∧ ∀ (g : G) (x : V) (u : Vu) (lo hi : Option Int) (res : R) (Q : VK), GOk g → VuOk X.K g x u → h u lo hi = some res →
  (∀ v g', Ext g g' → RR X.K g.H g' v res → Q v g'.H) → r x lo hi g.H Q
def orSl (h1 h2 : SlH) : SlH := fun u l h => match h1 u l h with
  | some r => some r
  | none => h2 u l h
theorem SlR.or' {r1 r2 : V → Option Int → Option Int → Hp → VK → Prop} (h : SlR X r1) (h' : SlR X r2) : SlR X (fun x l u H Q => r1 x l u H Q ∨ r2 x l u H Q) := by
  intro pins s σ H x v vl vu lo hi sl Q I rx hs pl pu q
  rcases q with q | q
  · exact h pins s σ H x v vl vu lo hi sl Q I rx hs pl pu q
  · exact h' pins s σ H x v vl vu lo hi sl Q I rx hs pl pu q
theorem SlV.or {h1 h2 : SlH} (p : SlV X h1) (q : SlV X h2) : SlV X (orSl h1 h2) := by
  obtain ⟨r1, o1, k1⟩ := p
  obtain ⟨r2, o2, k2⟩ := q
  refine ⟨_, SlR.or' o1 o2, fun g x u lo hi res Q o vx e k => ?_⟩
  unfold orSl at e
  split at e
  · rename_i r' e'
    cases e
    exact .inl (k1 g x u lo hi _ Q o vx e' k)
  · exact .inr (k2 g x u lo hi _ Q o vx e k)
def cut {α : Type} (xs : List α) (lo hi : Option Int) : List α := (xs.drop (HT.sIx xs.length 0 lo)).take (HT.sIx xs.length xs.length hi - HT.sIx xs.length 0 lo)
theorem WrL.take {Φ : Hp} {ι : List Addr} : ∀ {vs : List V} {ws : List W} (n : Nat), WrL K Φ ι vs ws → WrL K Φ ι (vs.take n) (ws.take n)
  | _, _, 0, _ => .nil
  | _, _, _ + 1, .nil => .nil
  | _, _, n + 1, .cons a b => .cons a (WrL.take n b)
theorem WrL.drop {Φ : Hp} {ι : List Addr} : ∀ {vs : List V} {ws : List W} (n : Nat), WrL K Φ ι vs ws → WrL K Φ ι (vs.drop n) (ws.drop n)
  | _, _, 0, h => h
  | _, _, _ + 1, .nil => .nil
  | _, _, n + 1, .cons a b => WrL.drop n b
theorem WrL.cut {Φ : Hp} {ι : List Addr} {vs : List V} {ws : List W} (h : WrL K Φ ι vs ws) (lo hi : Option Int) : WrL K Φ ι (cutV vs lo hi) (NV.cut ws lo hi) := by
  unfold cutV NV.cut
  rw [h.length]
  exact (h.drop _).take _
def hSlL : SlH
  | .lst ws, lo, hi => some (.new (.lst (cut ws lo hi)))
  | .lsw ws, lo, hi => some (.new (.lst (cut ws lo hi)))
  | _, _, _ => none
theorem s_list : SlV X hSlL := by
  refine ⟨_, sl_list, fun g x u lo hi res Q go vx e k => ?_⟩
  unfold hSlL at e
  split at e
  · cases e
    obtain ⟨p, vs, rfl, h1, h2⟩ := vx
    exact ⟨p, vs, rfl, .inl (.inl h1), new_lst go (h2.cut lo hi) k⟩
  · cases e
    obtain ⟨p, vs, rfl, h1, h2⟩ := vx
    exact ⟨p, vs, rfl, h1, new_lst go (h2.cut lo hi) k⟩
  · cases e
def hSlT : SlH
  | .tup ws, lo, hi => (dats ws).map fun ds => .val (.d (.tup (cut ds lo hi)))
  | _, _, _ => none
theorem DdL.take {h : Hp} : ∀ {vs : List V} {ws : List D} (n : Nat), DdL K h vs ws → DdL K h (vs.take n) (ws.take n)
  | _, _, 0, _ => .nil
  | _, _, _ + 1, .nil => .nil
  | _, _, n + 1, .cons a b => .cons a (DdL.take n b)
theorem DdL.drop {h : Hp} : ∀ {vs : List V} {ws : List D} (n : Nat), DdL K h vs ws → DdL K h (vs.drop n) (ws.drop n)
  | _, _, 0, h => h
  | _, _, _ + 1, .nil => .nil
  | _, _, n + 1, .cons a b => DdL.drop n b
theorem DdL.cut {h : Hp} {vs : List V} {ws : List D} (q : DdL K h vs ws) (lo hi : Option Int) : DdL K h (cutV vs lo hi) (NV.cut ws lo hi) := by
  unfold cutV NV.cut
  rw [q.length]
  exact (q.drop _).take _
theorem s_tup : SlV X hSlT := by
  refine ⟨_, sl_tupA, fun g x u lo hi res Q go vx e k => ?_⟩
  unfold hSlT at e
  split at e
  · obtain ⟨ds, e1, e⟩ := Option.map_eq_some_iff.mp e
    cases e
    obtain ⟨p, vs, rfl, h1, h2⟩ := vx
    have d1 := (dats_ok h2 e1).1
    refine ⟨p, vs, rfl, .inl (.inl (go.sub _ _ h1)), fun z => ?_, fun _ => new_tup go (d1.cut lo hi) k⟩
    have : NV.cut ds lo hi = ds := by
      unfold NV.cut
      rw [← d1.length, z.1, z.2]
      simp [d1.length]
    rw [this] at k
    exact k _ g (Ext.refl go) (Dd.tup h1 d1)
  · cases e
def hSlS : SlH
  | .at (.str z), lo, hi => if z.length ≤ sizeLine then some (.val (.d (.str (cutS z lo hi)))) else none
  | _, _, _ => none
theorem s_str : SlV X hSlS := by
  refine ⟨_, sl_str, fun g x u lo hi res Q go vx e k => ?_⟩
  unfold hSlS at e
  split at e
  · split at e
    · rename_i hz
      cases e
      exact ⟨_, vx.str, hz, k _ g (Ext.refl go) Dd.str⟩
    · cases e
  · cases e
abbrev hSl : SlH := orSl hSlL (orSl hSlT hSlS)
theorem s_any : SlV X hSl := s_list.or (s_tup.or s_str)
/-- a slice's part -/
abbrev OF := S → Option (Option Int × S)
def upO (K : PySem.W.Frag) (f : OF) : TO := fun σ H Q => ∃ g s b s', g.H = H ∧ Rel K g σ s ∧ f s = some (b, s') ∧ ∀ g', Step g s.st g' s'.st → Rel K g' σ s' → Q b g'.H
structure VO (X : Cx) (e : Option Expr) (f : OF) : Prop where
  po : PO X e (upO X.K f)
theorem _root_.L2.PO.imp {X : Cx} {e : Option Expr} {t t' : TO} (h : PO X e t) (w : ∀ σ H Q, t' σ H Q → t σ H Q) : PO X e t' := ⟨fun pins s σ H Q I q => h.run pins s σ H Q I (w σ H Q q)⟩
def oNone : OF := fun s => some (none, s)
def R.int? : R → Option Int
  | .val (.d (.int i)) => some i
  | _ => none
theorem int?_eq {r : R} {i : Int} (h : r.int? = some i) : r = .val (.d (.int i)) := by
  unfold R.int? at h
  split at h
  · cases h; rfl
  · cases h
def oSome (fa : EF) : OF := fun s => (fa s).bind fun p => p.1.int?.map fun i => (some i, p.2)
theorem vo_none : VO X none oNone := ⟨po_none.imp fun σ H Q ⟨g, s, r, s', hg, R, hf, k⟩ => by
  cases hf
  subst hg
  exact k g Step.refl R⟩
theorem vo_some (ha : VE X a fa) : VO X (some a) (oSome fa) := ⟨(po_some ha.pe).imp fun σ H Q ⟨g, s, r, s', hg, R, hf, k⟩ => by
  obtain ⟨⟨ra, s1⟩, h1, hf⟩ := Option.bind_eq_some_iff.mp hf
  obtain ⟨i, h2, hf⟩ := Option.map_eq_some_iff.mp hf
  cases hf
  cases int?_eq h2
  exact ⟨g, s, _, _, hg, R, h1, fun v g' p R' q => by cases q; exact ⟨i, rfl, k g' p R'⟩⟩⟩
variable {lo hi : Option Expr} {fl fh : OF} {p2 : Pos}
def eSl (h : SlH) (fa : EF) (fl fh : OF) : EF := fun s => (fa s).bind fun p => (fl p.2).bind fun l => (fh l.2).bind fun r => (p.1.view r.2.st).bind fun u => (h u l.1 r.1).map fun x => (x, r.2)
theorem v_sl {h : SlH} (ho : SlV X h) (ha : VE X a fa) (hl : VO X lo fl) (hh : VO X hi fh) : VE X (.Subscript a (.Slice lo hi none p2) pos) (eSl h fa fl fh) := by
  obtain ⟨r, o, ho⟩ := ho
  refine ⟨(pe_slice o ha.pe hl.po hh.po).imp fun σ H Q ⟨g, s, r', s', hg, R, hf, k⟩ => ?_⟩
  subst hg
  unfold eSl at hf
  obtain ⟨⟨ra, s1⟩, h1, hf⟩ := Option.bind_eq_some_iff.mp hf
  obtain ⟨⟨l, s2⟩, h2, hf⟩ := Option.bind_eq_some_iff.mp hf
  obtain ⟨⟨r, s3⟩, h3, hf⟩ := Option.bind_eq_some_iff.mp hf
  obtain ⟨u, h4, hf⟩ := Option.bind_eq_some_iff.mp hf
  obtain ⟨x, h5, hf⟩ := Option.map_eq_some_iff.mp hf
  cases hf
  refine ⟨g, s, ra, s1, rfl, R, h1, fun v g1 p1 R1 q1 => ⟨g1, s1, l, s2, rfl, R1, h2, fun g2 p2 R2 => ⟨g2, s2, r, _, rfl, R2, h3, fun g3 p3 R3 => ?_⟩⟩⟩
  have p12 := p1.trans R.st R1.st p2
  have p13 := p12.trans R.st R2.st p3
  have q3 := (q1.step R1.st p2).step R2.st p3
  refine ho g3 v u l r _ Q R3.st.ok (view_ok R3.st q3 h4) h5 fun v' g' x' rr => ?_
  exact k v' g' (p13.trans R.st R3.st x'.step) (x'.rel R3) (rr.back R.st p13)

/-! ### built-in functions -/
abbrev CaH := List Vu → Option R
def CaV (X : Cx) (f : Value) (h : CaH) : Prop := ∃ r : List V → Hp → VK → Prop, CallR X f r ∧ ∀ (g : G) (vs : List V) (us : List Vu) (res : R) (Q : VK), GOk g → Paired (VuOk X.K g) vs us → h us = some res →
  (∀ v g', Ext g g' → RR X.K g.H g' v res → Q v g'.H) → r vs g.H Q
def orCa (h1 h2 : CaH) : CaH := fun us => match h1 us with
  | some r => some r
  | none => h2 us
theorem CaV.or {f : Value} {h1 h2 : CaH} (p : CaV X f h1) (q : CaV X f h2) : CaV X f (orCa h1 h2) := by
  obtain ⟨r1, o1, k1⟩ := p
  obtain ⟨r2, o2, k2⟩ := q
  refine ⟨fun vs H Q => r1 vs H Q ∨ r2 vs H Q, fun pins s σ H xs us Q I r h => ?_, fun g vs us res Q o vx e k => ?_⟩
  · rcases h with h | h
    · exact o1 pins s σ H xs us Q I r h
    · exact o2 pins s σ H xs us Q I r h
  · unfold orCa at e
    split at e
    · rename_i r' e'
      cases e
      exact .inl (k1 g vs us _ Q o vx e' k)
    · exact .inr (k2 g vs us _ Q o vx e k)
def views (st : Sto) : List W → Option (List Vu)
  | [] => some []
  | w :: ws => ((R.val w).view st).bind fun u => (views st ws).map fun us => u :: us
theorem views_ok : ∀ {ws : List W} {vs : List V} {us : List Vu}, StOk K g st → WrL K g.Φ g.ι vs ws → views st ws = some us → Paired (VuOk K g) vs us
  | [], _, _, _, .nil, e => by cases e; exact .nil
  | w :: ws, _, _, o, .cons a b, e => by
    unfold views at e
    obtain ⟨u, e1, e⟩ := Option.bind_eq_some_iff.mp e
    obtain ⟨us, e2, e⟩ := Option.map_eq_some_iff.mp e
    cases e
    exact .cons (view_ok (H0 := fun _ => none) (r := .val w) o a e1) (views_ok o b e2)
def eCa (h : CaH) (ff : AF) : EF := fun s => (ff s).bind fun p => (views p.2.st p.1).bind fun us => (h us).map fun r => (r, p.2)
theorem ca_ok {f : Value} {h : CaH} (ho : CaV X f h) (ha : VA X es ff) : ∃ r, CallR X f r ∧ ∀ σ H Q, upE X.K (eCa h ff) σ H Q → upA X.K ff σ H fun vs H1 => r vs H1 Q := by
  obtain ⟨r, o, ho⟩ := ho
  refine ⟨r, o, fun σ H Q ⟨g, s, r', s', hg, R, hf, k⟩ => ?_⟩
  obtain ⟨⟨ws, s1⟩, h1, hf⟩ := Option.bind_eq_some_iff.mp hf
  obtain ⟨us, h2, hf⟩ := Option.bind_eq_some_iff.mp hf
  obtain ⟨x, h3, hf⟩ := Option.map_eq_some_iff.mp hf
  cases hf
  subst hg
  refine ⟨g, s, ws, _, rfl, R, h1, fun vs g1 p1 R1 q1 => ?_⟩
  exact ho g1 vs us _ Q R1.st.ok (views_ok R1.st q1 h2) h3 fun v g' x' rr => k v g' (p1.trans R.st R1.st x'.step) (x'.rel R1) (rr.back R.st p1)
theorem v_callB {x : Str} {id : String} {h : CaH} {p : Pos} (ho : CaV X (.builtin id) h) (hg : Gl X x) (hm : X.mg x = none) (hv : bootBuiltins x = some (.builtin id)) (ha : VA X (e :: es) ff) (hn : x ≠ "__name__" := by decide) (hdb : (x == ("__debug__" : Str)) = false := by decide)
    (he : starEach (e :: es) X.env = (false, eval e X.env) :: starEach es X.env := by rfl) (hpl : (backTo pos (starEach es X.env)).any (·.1) = false := by rfl) : VE X (.Call (.Name x p) (e :: es) [] pos) (eCa h ff) := by
  obtain ⟨r, o, ho⟩ := ca_ok ho ha
  exact ⟨(pe_callB o hg hm hv ha.pa hn hdb he hpl).imp fun σ H Q q => ho σ H Q q⟩
theorem v_callTy {x : Str} {T : String} {h : CaH} {p : Pos} (ho : CaV X (.type T) h) (hg : Gl X x) (hm : X.mg x = none) (hv : bootBuiltins x = some (.type T)) (ha : VA X (e :: es) ff) (hn : x ≠ "__name__" := by decide) (hdb : (x == ("__debug__" : Str)) = false := by decide)
    (he : starEach (e :: es) X.env = (false, eval e X.env) :: starEach es X.env := by rfl) (hpl : (backTo pos (starEach es X.env)).any (·.1) = false := by rfl) : VE X (.Call (.Name x p) (e :: es) [] pos) (eCa h ff) := by
  obtain ⟨r, o, ho⟩ := ca_ok ho ha
  exact ⟨(pe_callTy o hg hm hv ha.pa hn hdb he hpl).imp fun σ H Q q => ho σ H Q q⟩
end
end NV

namespace NV
open PySem PySem.Spec PyProof.Rows L2
section
variable {X : Cx} {a b c e : Expr} {es : List Expr} {fa fb fc f : EF} {ff : AF} {pos : Pos} {K : PySem.W.Frag} {g g1 : G} {v : V} {σ : L2.St} {s s1 : S} {st st1 : Sto}

/-! ### something made just now gets a number -/
theorem lateObj {g0 : G} {st0 : Sto} {nd : Nd} (o0 : StOk K g0 st0) (p : Step g0 st0 g s.st) (o : Rel K g σ s) (q : RR K g0.H g v (.new nd)) :
    ∃ g', g'.H = g.H ∧ Step g0 st0 g' (s.st ++ [some nd]) ∧ Rel K g' σ { s with st := s.st ++ [some nd] } ∧ Wr K g'.Φ g'.ι v (.obj s.st.length) := by
  obtain ⟨a, rfl, h2, h3, h4, h5, h6⟩ := q
  have io : ∃ more, (g.ι ++ [a]) = g.ι ++ more := ⟨[a], rfl⟩
  have hl := o.st.len
  refine ⟨⟨g.Φ, g.ι ++ [a], g.H⟩, rfl, ⟨p.phi, ?_, p.fr, fun a' h => ?_, p.there, fun n hn h x => ?_⟩, ⟨⟨by simp [hl], fun n nd' a' e1 e2 => ?_, ?_, fun n x a' e1 e2 => ?_, o.st.sub, fun a' h => ?_⟩, ⟨o.sl.1, fun i w h => ?_⟩⟩, a, ?_, rfl⟩
  · obtain ⟨m, e⟩ := p.io
    exact ⟨m ++ [a], by show g.ι ++ [a] = _; rw [e, List.append_assoc]⟩
  · rcases h with h | h
    · exact p.dm a' (.inl h)
    · have h : a' ∈ g.ι ++ [a] := h
      rcases List.mem_append.mp h with h | h
      · exact p.dm a' (.inr h)
      · have : a' = a := by simpa using h
        rw [this]; exact .inr (.inr h5)
  · by_cases hn2 : n < s.st.length
    · rw [List.getElem?_append_left hn2]; exact p.dead n hn h x
    · obtain ⟨m, e⟩ := p.io
      have l1 : g0.ι.length ≤ g.ι.length := by rw [e, List.length_append]; omega
      rw [hl, o0.len] at l1
      omega
  · by_cases hn2 : n < s.st.length
    · rw [List.getElem?_append_left hn2] at e1
      have e2 : (g.ι ++ [a])[n]? = some a' := e2
      rw [List.getElem?_append_left (by omega)] at e2
      exact NdAt.stay (g := g) (g1 := ⟨g.Φ, g.ι ++ [a], g.H⟩) (fun _ _ h => h) io (fun _ h => h) (o.st.at_ n nd' a' e1 e2)
    · have e2 : (g.ι ++ [a])[n]? = some a' := e2
      rw [List.getElem?_append_right (by omega)] at e1 e2
      have : n = s.st.length := by
        have := (List.getElem?_eq_some_iff.mp e1).1
        simp at this; omega
      subst this
      rw [hl] at e2
      simp at e1 e2
      subst e1 e2
      exact NdAt.stay (g := g) (g1 := ⟨g.Φ, g.ι ++ [a], g.H⟩) (fun _ _ h => h) io (fun _ h => h) h2
  · show (g.ι ++ [a]).Nodup
    rw [List.nodup_append]
    refine ⟨o.st.nd, by simp, fun x hx y hy e => h4 ?_⟩
    have ey : y = a := by simpa using hy
    rw [← ey, ← e]; exact hx
  · by_cases hn2 : n < s.st.length
    · rw [List.getElem?_append_left hn2] at e1
      have e2 : (g.ι ++ [a])[n]? = some a' := e2
      rw [List.getElem?_append_left (by omega)] at e2
      exact o.st.live n x a' e1 e2
    · have e2 : (g.ι ++ [a])[n]? = some a' := e2
      rw [List.getElem?_append_right (by omega)] at e1 e2
      have : n = s.st.length := by
        have := (List.getElem?_eq_some_iff.mp e1).1
        simp at this; omega
      subst this
      rw [hl] at e2
      simp at e2
      subst e2
      exact h3
  · have h : a' ∈ g.ι ++ [a] := h
    rcases List.mem_append.mp h with h | h
    · exact o.st.dom a' h
    · have : a' = a := by simpa using h
      rw [this]; exact h2.some
  · obtain ⟨v', q1, q2⟩ := o.sl.2 i w h
    exact ⟨v', q1, q2.mono (fun _ _ h => h) io⟩
  · show (g.ι ++ [a])[s.st.length]? = some a
    rw [← hl]; simp
/-- an outcome as a value; what was made just now gets a number -/
def R.wo : R → Sto → W × Sto
  | .val w, st => (w, st)
  | .new nd, st => (.obj st.length, st ++ [some nd])
theorem toWo {g0 : G} {st0 : Sto} {r : R} (o0 : StOk K g0 st0) (p : Step g0 st0 g s.st) (o : Rel K g σ s) (q : RR K g0.H g v r) :
    ∃ g', g'.H = g.H ∧ Step g0 st0 g' (r.wo s.st).2 ∧ Rel K g' σ { s with st := (r.wo s.st).2 } ∧ Wr K g'.Φ g'.ι v (r.wo s.st).1 := by
  cases r with
  | val w => exact ⟨g, rfl, p, o, q⟩
  | new nd => exact lateObj o0 p o q

/-! ### targets -/
/-- what is stored: a value, or a tuple of values (an iterator's) -/
inductive Y where
  | one (w : W) | tup (ws : List W)
def YOk (K : PySem.W.Frag) (g : G) (v : V) : Y → Prop
  | .one w => Wr K g.Φ g.ι v w
  | .tup ws => ∃ a vs, v = .ref a ∧ SqT K g.H a vs ∧ WrL K g.Φ g.ι vs ws
abbrev GF := Y → S → Option S
abbrev GsF := List W → S → Option S
def upG (K : PySem.W.Frag) (t : GF) : TG := fun v σ H Q => ∃ g s y s', g.H = H ∧ Rel K g σ s ∧ YOk K g v y ∧ t y s = some s' ∧ ∀ σ' g', Step g s.st g' s'.st → Rel K g' σ' s' → Q σ' g'.H
def upGs (K : PySem.W.Frag) (t : GsF) : TGs := fun vs σ H Q => ∃ g s ws s', g.H = H ∧ Rel K g σ s ∧ WrL K g.Φ g.ι vs ws ∧ t ws s = some s' ∧ ∀ σ' g', Step g s.st g' s'.st → Rel K g' σ' s' → Q σ' g'.H
structure VG (X : Cx) (tg : Expr) (t : GF) : Prop where
  pg : PG X tg (upG X.K t)
structure VGs (X : Cx) (tgs : List Expr) (t : GsF) : Prop where
  pgs : PGs X tgs (upGs X.K t)
theorem _root_.L2.PG.imp {X : Cx} {e : Expr} {t t' : TG} (h : PG X e t) (w : ∀ v σ H Q, t' v σ H Q → t v σ H Q) : PG X e t' := ⟨fun pins s σ H v u Q I r q => h.run pins s σ H v u Q I r (w v σ H Q q)⟩
theorem _root_.L2.PGs.imp {X : Cx} {e : List Expr} {t t' : TGs} (h : PGs X e t) (w : ∀ v σ H Q, t' v σ H Q → t v σ H Q) : PGs X e t' := ⟨fun pins s σ H v u Q I r q => h.run pins s σ H v u Q I r (w v σ H Q q)⟩
def gN (i : Nat) : GF
  | .one w, s => some { s with sl := s.sl.set i (some w) }
  | .tup _, _ => none
theorem SlOk.set {sl : List (Option W)} {i : Nat} {w : W} (x : SlOk K g σ sl) (h : Wr K g.Φ g.ι v w) : SlOk K g (σ.set i (some v)) (sl.set i (some w)) := ⟨by simp [x.1], fun j w' e => by
  by_cases hj : i = j
  · subst hj
    by_cases hi : i < sl.length
    · rw [List.getElem?_set_self hi] at e
      cases e
      exact ⟨v, List.getElem?_set_self (by rw [← x.1]; exact hi), h⟩
    · rw [List.getElem?_eq_none (by simp; omega)] at e; cases e
  · rw [List.getElem?_set_ne hj] at e
    obtain ⟨v', h1, h2⟩ := x.2 j w' e
    exact ⟨v', by rw [List.getElem?_set_ne hj]; exact h1, h2⟩⟩
theorem vg_name {i : Nat} {x : Str} (hN : X.N.Nodup) (hi : X.N[i]? = some x) (hx : Loc X.env.scope x) (hf : X.fn x = true ∨ X.env.scope.names.lookup x = some .local := by first | exact .inl rfl | exact .inr rfl | assumption) : VG X (.Name x pos) (gN i) :=
  ⟨(pg_name hN hi hx hf).imp fun v σ H Q ⟨g, s, y, s', hg, R, hy, ht, k⟩ => by
    cases y with
    | one w =>
      cases ht
      subst hg
      exact k _ g Step.refl ⟨R.st, R.sl.set hy⟩
    | tup ws => cases ht⟩
def gNil' : GsF
  | [], s => some s
  | _ :: _, _ => none
def gCons' (t : GF) (u : GsF) : GsF
  | [], _ => none
  | w :: ws, s => (t (.one w) s).bind (u ws)
theorem vgs_nil : VGs X [] gNil' := ⟨pgs_nil.imp fun v σ H Q ⟨g, s, ws, s', hg, R, hy, ht, k⟩ => by
  cases hy with
  | nil =>
    cases ht
    subst hg
    exact ⟨rfl, k _ g Step.refl R⟩
  | cons _ _ => cases ht⟩
theorem vgs_cons {t : GF} {u : GsF} (h1 : VG X e t) (h2 : VGs X es u) (hs : (assignEach (e :: es) X.env).map (·.2) = assign e X.env :: (assignEach es X.env).map (·.2) := by rfl) : VGs X (e :: es) (gCons' t u) :=
  ⟨(pgs_cons h1.pg h2.pgs hs).imp fun v σ H Q ⟨g, s, ws, s', hg, R, hy, ht, k⟩ => by
    cases hy with
    | nil => cases ht
    | cons hv hvs =>
      obtain ⟨s1, h3, h4⟩ := Option.bind_eq_some_iff.mp ht
      subst hg
      refine ⟨_, _, rfl, g, s, .one _, s1, rfl, R, hv, h3, fun σ1 g1 p1 R1 => ⟨g1, s1, _, s', rfl, R1, WrL.mono p1.phi p1.io hvs, h4, fun σ2 g2 p2 R2 => ?_⟩⟩
      exact k σ2 g2 (p1.trans R.st R1.st p2) R2⟩
def Y.items : Y → Option (List W)
  | .one (.d (.tup ds)) => some (ds.map .d)
  | .one (.tp es) => some (es.map e1W)
  | .one _ => none
  | .tup ws => some ws
def gT (n : Nat) (u : GsF) : GF := fun y s => y.items.bind fun ws => if ws.length = n then u ws s else none
theorem vg_tup {k : Nat} {u : GsF} {n : Nat} (hc : X.calm = true) (h : VGs X es u) (hn : (assignEach es X.env).length = n := by rfl) (hst : (assignEach es X.env).findIdx? (·.1) = none := by rfl) : VG X (.Tuple es k pos) (gT n u) :=
  ⟨(pg_tup hc h.pgs hn hst).imp fun v σ H Q ⟨g, s, y, s', hg, R, hy, ht, kk⟩ => by
    obtain ⟨ws, h1, ht⟩ := Option.bind_eq_some_iff.mp ht
    split at ht
    · rename_i hl
      subst hg
      have : ∃ a vs, v = .ref a ∧ SqT X.K g.H a vs ∧ WrL X.K g.Φ g.ι vs ws := by
        cases y with
        | one w =>
          unfold Y.items at h1
          split at h1
          · rename_i ds he
            cases h1
            cases he
            cases hy with
            | tup q1 q2 => exact ⟨_, _, rfl, .inl (.inl (R.st.sub _ _ q1)), q2.wr⟩
          · rename_i es he
            cases h1
            cases he
            obtain ⟨a, vs, h5, h6, h7⟩ := hy
            exact ⟨a, vs, h5, .inl (.inl (R.st.sub _ _ h6)), wr1_l h7⟩
          · cases h1
          · rename_i he
            cases he
        | tup ws' => cases h1; exact hy
      obtain ⟨a, vs, rfl, q1, q2⟩ := this
      exact ⟨a, vs, rfl, q1, by rw [q2.length]; exact hl, g, s, ws, s', rfl, R, q2, ht, kk⟩
    · cases ht⟩

/-! ### a mutable thing is changed -/
theorem write {n : Nat} {nd nd' : Nd} {ad : Addr} {ob : HO} (R : Rel K g σ s) (h : s.st[n]? = some (some nd)) (ha : g.ι[n]? = some ad) (q : NdAt K ⟨g.Φ, g.ι, upd g.H ad ob⟩ ad nd') :
    Step g s.st ⟨g.Φ, g.ι, upd g.H ad ob⟩ (s.st.set n (some nd')) ∧ Rel K ⟨g.Φ, g.ι, upd g.H ad ob⟩ σ { s with st := s.st.set n (some nd') } := by
  have hl := R.st.live n nd ad h ha
  have hn : n < s.st.length := (List.getElem?_eq_some_iff.mp h).1
  have ex : ∀ a o, a ≠ ad → g.H a = some o → upd g.H ad ob a = some o := fun a o h e => by rw [upd_ne h]; exact e
  refine ⟨⟨fun _ _ h => h, ⟨[], by simp⟩, fun a o e nl => ex a o (fun z => nl ⟨n, nd, h, z ▸ ha⟩) e, fun a h => h.elim .inl fun z => .inr (.inl z), fun a e => ?_, fun m hm e x => ?_⟩,
    ⟨⟨by rw [List.length_set]; exact R.st.len, fun m nd2 a e1 e2 => ?_, R.st.nd, fun m x a e1 e2 => ?_, fun a o e => ?_, fun a e => ?_⟩, R.sl⟩⟩
  · show upd g.H ad ob a ≠ none
    by_cases z : a = ad
    · subst z; rw [upd_same]; exact fun z => nomatch z
    · rw [upd_ne z]; exact e
  · by_cases z : n = m
    · subst z; exact (e nd h).elim
    · rw [List.getElem?_set_ne z]; exact e x
  · by_cases z : n = m
    · subst z
      rw [List.getElem?_set_self hn] at e1
      cases e1
      have : some a = some ad := e2.symm.trans ha
      cases this
      exact q
    · rw [List.getElem?_set_ne z] at e1
      have na : a ≠ ad := fun y => z (nodup_at R.st.nd ha (y ▸ e2))
      exact NdAt.stay (g := g) (g1 := ⟨g.Φ, g.ι, upd g.H ad ob⟩) (fun _ _ h => h) ⟨[], by simp⟩ (fun o e => ex a o na e) (R.st.at_ m nd2 a e1 e2)
  · by_cases z : n = m
    · subst z
      have : some a = some ad := e2.symm.trans ha
      cases this
      exact hl
    · rw [List.getElem?_set_ne z] at e1
      exact R.st.live m x a e1 e2
  · exact ex a o (fun z => by rw [z] at e; have e : g.Φ ad = some o := e; rw [hl] at e; cases e) (R.st.sub a o e)
  · show upd g.H ad ob a ≠ none
    by_cases z : a = ad
    · subst z; rw [upd_same]; exact fun z => nomatch z
    · rw [upd_ne z]; exact R.st.dom a e
theorem set_dict (hu : X.A.units + 1 < cLine) : PSet X (fun o i v H Q => ∃ a H', o = .ref a ∧ DPut H a i v H' ∧ Q H') := by
  intro pins s σ H o i v ov iv u Q I ro ri rv h
  obtain ⟨a, H', rfl, g, q⟩ := h
  obtain rfl : ov = Value.ref a := ro
  exact d_setItem hu I g ri rv fun s4 I4 => ⟨H', I4, q⟩
theorem PSet.or {t t' : TSet} (h : PSet X t) (h' : PSet X t') : PSet X (fun o i v H Q => t o i v H Q ∨ t' o i v H Q) := by
  intro pins s σ H o i v ov iv u Q I ro ri rv q
  rcases q with q | q
  · exact h pins s σ H o i v ov iv u Q I ro ri rv q
  · exact h' pins s σ H o i v ov iv u Q I ro ri rv q
/-- the thing with one place put -/
def Nd.put (nd : Nd) (i : Vu) (w : W) : Option Nd := match nd with
  | .lst ws => (match i with
    | .at (.int k) => (ixN ws.length k).map fun j => .lst (ws.set j w)
    | _ => none)
  | .dct kws => i.key.bind fun k => if kws.length < sizeLine then some (.dct (putW kws k w)) else none
  | .ins _ _ => none
  | .tab _ _ => none
theorem WrL.set {Φ : Hp} {ι : List Addr} {w : W} (h : Wr K Φ ι v w) : ∀ {vs : List V} {ws : List W} (i : Nat), WrL K Φ ι vs ws → WrL K Φ ι (vs.set i v) (ws.set i w)
  | _, _, _, .nil => .nil
  | _, _, 0, .cons _ t => .cons h t
  | _, _, i + 1, .cons q t => .cons q (WrL.set h i t)
def gSb (fa fb : EF) : GF
  | .one w, s => (fa s).bind fun p => (fb p.2).bind fun q => match p.1 with
    | .val (.obj n) => (match q.2.st[n]? with
      | some (some nd) => (q.1.view q.2.st).bind fun u => (nd.put u w).map fun nd' => { q.2 with st := q.2.st.set n (some nd') }
      | _ => none)
    | _ => none
  | .tup _, _ => none
theorem vg_sub (hu : X.A.units + 64 < cLine) (ha : VE X a fa) (hb : VE X b fb) (hs : ∀ v, assign (.Subscript a b pos) X.env v = (do
      let ov ← holding [v] (eval a X.env)
      let iv ← holding [v, ov] (eval b X.env)
      standAt pos
      holding [v, ov, iv] (setItem ov iv v)
      release [v, ov, iv] []) := by intro _; rfl) : VG X (.Subscript a b pos) (gSb fa fb) :=
  ⟨(pg_sub ha.pe hb.pe (PSet.or set_list (set_dict (by omega))) hs).imp fun v σ H Q ⟨g, s, y, s', hg, R, hy, ht, kk⟩ => by
    cases y with
    | tup ws => cases ht
    | one w =>
      unfold gSb at ht
      dsimp only at ht
      obtain ⟨⟨ra, s1⟩, h1, ht⟩ := Option.bind_eq_some_iff.mp ht
      obtain ⟨⟨rb, s2⟩, h2, ht⟩ := Option.bind_eq_some_iff.mp ht
      dsimp only at ht
      split at ht
      · rename_i n
        split at ht
        · rename_i nd hnd
          obtain ⟨u, h3, ht⟩ := Option.bind_eq_some_iff.mp ht
          obtain ⟨nd', h4, ht⟩ := Option.map_eq_some_iff.mp ht
          cases ht
          subst hg
          refine ⟨g, s, _, s1, rfl, R, h1, fun vo g1 p1 R1 q1 => ⟨g1, s1, rb, s2, rfl, R1, h2, fun vi g2 p2 R2 q2 => ?_⟩⟩
          have p := p1.trans R.st R1.st p2
          have hv : Wr X.K g2.Φ g2.ι v w := Wr.mono p.phi p.io hy
          have vi' := view_ok R2.st q2 h3
          obtain ⟨ad, had, rfl⟩ := (RR.step R1.st p2 q1 : RR X.K g.H g2 vo _)
          have hq := R2.st.at_ _ nd ad hnd had
          unfold Nd.put at h4
          cases nd with
          | lst ws =>
            dsimp only at h4
            split at h4
            · obtain ⟨j, h5, h4⟩ := Option.map_eq_some_iff.mp h4
              cases h4
              obtain ⟨vs, h6, h7⟩ := hq
              refine .inl ⟨ad, vs, _, j, rfl, vi'.int, h6, by rw [h7.length]; exact h5, ?_⟩
              obtain ⟨w1, w2⟩ := write (ob := .lst (vs.set j v)) (nd' := .lst (ws.set j w)) R2 hnd had ⟨_, upd_same, WrL.set hv j h7⟩
              exact kk _ _ (p.trans R.st R2.st w1) w2
            · cases h4
          | dct kws =>
            dsimp only at h4
            obtain ⟨k', h5, h4⟩ := Option.bind_eq_some_iff.mp h4
            split at h4
            · rename_i hz
              cases h4
              obtain ⟨kvs, h6, h7⟩ := hq
              cases Vu.key_ok vi' h5
              have hlen : kvs.length = kws.length := Paired.length h7
              refine .inr ⟨ad, _, rfl, DPut.k h6 (by rw [hlen]; exact hz), ?_⟩
              obtain ⟨w1, w2⟩ := write (ob := .dK (putK kvs k' v)) (nd' := .dct (putW kws k' w)) R2 hnd had ⟨_, upd_same, putW_ok hv h7⟩
              exact kk _ _ (p.trans R.st R2.st w1) w2
            · cases h4
          | ins _ _ => cases h4
          | tab _ _ => cases h4
        · cases ht
      · cases ht⟩

/-! ### statements -/
inductive O where
  | nx (s : S) | rt (r : R) (s : S) | bk (s : S) | ct (s : S)
abbrev SF := S → Option O
/-- what is wanted of an outcome, from the start g -/
def OutK (K : PySem.W.Frag) (g : G) (st : Sto) (D : Ends) : O → Prop
  | .nx s' => ∀ σ' g', Step g st g' s'.st → Rel K g' σ' s' → D.nx σ' g'.H
  | .bk s' => ∀ σ' g', Step g st g' s'.st → Rel K g' σ' s' → D.bk σ' g'.H
  | .ct s' => ∀ σ' g', Step g st g' s'.st → Rel K g' σ' s' → D.ct σ' g'.H
  | .rt r s' => ∀ v σ' g', Step g st g' s'.st → Rel K g' σ' s' → RR K g.H g' v r → D.rt v g'.H
def upS (K : PySem.W.Frag) (f : SF) : TS := fun D σ H => ∃ g s o, g.H = H ∧ Rel K g σ s ∧ f s = some o ∧ OutK K g s.st D o
theorem OutK.step {D : Ends} {o : O} (o0 : StOk K g st) (o1 : StOk K g1 st1) (p : Step g st g1 st1) (h : OutK K g st D o) : OutK K g1 st1 D o := by
  cases o with
  | nx s' => exact fun σ' g' q R => h σ' g' (p.trans o0 o1 q) R
  | bk s' => exact fun σ' g' q R => h σ' g' (p.trans o0 o1 q) R
  | ct s' => exact fun σ' g' q R => h σ' g' (p.trans o0 o1 q) R
  | rt r s' => exact fun v σ' g' q R z => h v σ' g' (p.trans o0 o1 q) R (z.back o0 p)
structure VS (X : Cx) (st : Stmt) (f : SF) : Prop where
  ps : PS X st (upS X.K f)
structure VSs (X : Cx) (st : List Stmt) (f : SF) : Prop where
  pss : PSs X st (upS X.K f)
variable {sm : Stmt} {sms sms' : List Stmt} {h1 h2 : SF} {ta tb tc : TF}
def sNext : SF := fun s => some (.nx s)
def sSeq (h1 h2 : SF) : SF := fun s => (h1 s).bind fun o => match o with
  | .nx s' => h2 s'
  | o => some o
theorem vss_nil : VSs X [] sNext := ⟨pss_nil.imp fun D σ H ⟨g, s, o, hg, R, hf, k⟩ => by
  cases hf
  subst hg
  exact k σ g Step.refl R⟩
theorem vss_cons (h : VS X sm h1) (h' : VSs X sms h2) : VSs X (sm :: sms) (sSeq h1 h2) := ⟨(pss_cons h.ps h'.pss).imp fun D σ H ⟨g, s, o, hg, R, hf, k⟩ => by
  obtain ⟨o1, e1, hf⟩ := Option.bind_eq_some_iff.mp hf
  refine ⟨g, s, o1, hg, R, e1, ?_⟩
  cases o1 with
  | nx s1 => exact fun σ1 g1 p1 R1 => ⟨g1, s1, o, rfl, R1, hf, k.step R.st R1.st p1⟩
  | bk s1 => cases hf; exact k
  | ct s1 => cases hf; exact k
  | rt r s1 => cases hf; exact k⟩
theorem vss_one (h : VS X sm h1) : VSs X [sm] h1 := ⟨pss_one h.ps⟩
def sBreak : SF := fun s => some (.bk s)
def sCont : SF := fun s => some (.ct s)
def sExpr (fa : EF) : SF := fun s => (fa s).map fun p => .nx p.2
theorem v_expr (ha : VE X a fa) (hs : swapsWith a none pos.line X.env = pure false := by rfl) : VS X (.Expr a pos) (sExpr fa) := ⟨(ps_expr ha.pe hs).imp fun D σ H ⟨g, s, o, hg, R, hf, k⟩ => by
  obtain ⟨⟨ra, s1⟩, e1, hf⟩ := Option.map_eq_some_iff.mp hf
  cases hf
  exact ⟨g, s, ra, s1, hg, R, e1, fun v g1 p1 R1 q1 => k σ g1 p1 R1⟩⟩
def sRet (fa : EF) : SF := fun s => (fa s).map fun p => .rt p.1 p.2
theorem v_ret (ha : VE X a fa) : VS X (.Return (some a) pos) (sRet fa) := ⟨(ps_ret ha.pe).imp fun D σ H ⟨g, s, o, hg, R, hf, k⟩ => by
  obtain ⟨⟨ra, s1⟩, e1, hf⟩ := Option.map_eq_some_iff.mp hf
  cases hf
  exact ⟨g, s, ra, s1, hg, R, e1, fun v g1 p1 R1 q1 => k v σ g1 p1 R1 q1⟩⟩
def sRetN : SF := fun s => some (.rt (.val (.d .non)) s)
def sIf (t : TF) (h1 h2 : SF) : SF := fun s => (t s).bind fun p => if p.1 = true then h1 p.2 else h2 p.2
theorem v_ifS (hc : VT X c tc) (h : VSs X sms h1) (h' : VSs X sms' h2) : VS X (.If c sms sms' pos) (sIf tc h1 h2) := ⟨(ps_if hc.pt h.pss h'.pss).imp fun D σ H ⟨g, s, o, hg, R, hf, k⟩ => by
  obtain ⟨⟨b1, s1⟩, e1, hf⟩ := Option.bind_eq_some_iff.mp hf
  refine ⟨g, s, b1, s1, hg, R, e1, fun g1 p1 R1 => ?_⟩
  cases b1 with
  | true => exact ⟨g1, s1, o, rfl, R1, hf, k.step R.st R1.st p1⟩
  | false => exact ⟨g1, s1, o, rfl, R1, hf, k.step R.st R1.st p1⟩⟩
/-- target = e; what was made just now is frozen -/
def sAsg (fa : EF) (t : GF) : SF := fun s => (fa s).bind fun p => p.1.w.bind fun w => (t (.one w) p.2).map .nx
theorem asg_imp {t : GF} {D : Ends} {σ : L2.St} {H : Hp} (h : upS X.K (sAsg fa t) D σ H) : upE X.K fa σ H fun x H1 => upG X.K t x σ H1 D.nx := by
  obtain ⟨g, s, o, hg, R, hf, k⟩ := h
  obtain ⟨⟨ra, s1⟩, e1, hf⟩ := Option.bind_eq_some_iff.mp hf
  obtain ⟨w, e2, hf⟩ := Option.bind_eq_some_iff.mp hf
  obtain ⟨s2, e3, hf⟩ := Option.map_eq_some_iff.mp hf
  cases hf
  subst hg
  refine ⟨g, s, ra, s1, rfl, R, e1, fun v g1 p1 R1 q1 => ?_⟩
  obtain ⟨g1', e4, p1', R1', q1'⟩ := toW R.st p1 R1 q1 e2
  exact ⟨g1', s1, .one w, s2, e4, R1', q1', e3, fun σ' g' p' R' => k σ' g' (p1'.trans R.st R1'.st p') R'⟩
theorem v_asg {t : GF} (ha : VE X a fa) (hg : VG X b t) (hs : swapsWithSole [b] a pos.line X.env = pure false := by rfl) (hw : swappedStores [b] a X.env = pure none := by rfl)
    (h1 : (assignEach [b] X.env).map (·.2) = [assign b X.env] := by rfl) : VS X (.Assign [b] a pos) (sAsg fa t) := ⟨(ps_asg ha.pe hg.pg hs hw h1).imp fun D σ H q => asg_imp q⟩
/-- target = e; what was made just now gets a number -/
def sAsgO (fa : EF) (t : GF) : SF := fun s => (fa s).bind fun p => (t (.one (p.1.wo p.2.st).1) { p.2 with st := (p.1.wo p.2.st).2 }).map .nx
theorem v_asgO {t : GF} (ha : VE X a fa) (hg : VG X b t) (hs : swapsWithSole [b] a pos.line X.env = pure false := by rfl) (hw : swappedStores [b] a X.env = pure none := by rfl)
    (h1 : (assignEach [b] X.env).map (·.2) = [assign b X.env] := by rfl) : VS X (.Assign [b] a pos) (sAsgO fa t) := ⟨(ps_asg ha.pe hg.pg hs hw h1).imp fun D σ H ⟨g, s, o, hg, R, hf, k⟩ => by
  obtain ⟨⟨ra, s1⟩, e1, hf⟩ := Option.bind_eq_some_iff.mp hf
  obtain ⟨s2, e3, hf⟩ := Option.map_eq_some_iff.mp hf
  cases hf
  subst hg
  refine ⟨g, s, ra, s1, rfl, R, e1, fun v g1 p1 R1 q1 => ?_⟩
  obtain ⟨g1', e4, p1', R1', q1'⟩ := toWo R.st p1 R1 q1
  exact ⟨g1', _, .one _, s2, e4, R1', q1', e3, fun σ' g' p' R' => k σ' g' (p1'.trans R.st R1'.st p') R'⟩⟩
/-- a, b = x, y with plain names -/
def sPar (i j : Nat) (ff : AF) : SF := fun s => (ff s).bind fun p => match p.1 with
  | [v, w] => some (.nx { p.2 with sl := (p.2.sl.set i (some v)).set j (some w) })
  | _ => none
theorem v_par {i j : Nat} {x y : Str} {px py pt : Pos} {kt k2 pt2} (hc : X.calm = true) (hN : X.N.Nodup) (hi : X.N[i]? = some x) (hj : X.N[j]? = some y) (hij : i ≠ j)
    (hx : X.env.scope.names.lookup x = some .local) (hy : X.env.scope.names.lookup y = some .local) (ha : VA X [a, b] ff)
    (hw : swappedStores [.Tuple [.Name x px, .Name y py] kt pt] (.Tuple [a, b] k2 pt2) X.env = pure (some [x, y]))
    (hs : swapsWithSole [.Tuple [.Name x px, .Name y py] kt pt] (.Tuple [a, b] k2 pt2) pos.line X.env = pure false := by rfl) :
    VS X (.Assign [.Tuple [.Name x px, .Name y py] kt pt] (.Tuple [a, b] k2 pt2) pos) (sPar i j ff) := ⟨(ps_par hc hN hi hj hij hx hy ha.pa hw hs).imp fun D σ H ⟨g, s, o, hg, R, hf, k⟩ => by
  obtain ⟨⟨ws, s1⟩, e1, hf⟩ := Option.bind_eq_some_iff.mp hf
  dsimp only at hf
  split at hf
  · cases hf
    refine ⟨g, s, _, s1, hg, R, e1, fun vs g1 p1 R1 q1 => ?_⟩
    cases q1 with
    | cons q1 q2 =>
      cases q2 with
      | cons q2 q3 =>
        cases q3
        exact ⟨_, _, rfl, k _ g1 p1 ⟨R1.st, (R1.sl.set q1).set q2⟩⟩
  · cases hf⟩

/-! ### while -/
end
end NV

namespace NV
open PySem PySem.Spec PyProof.Rows L2
section
variable {X : Cx} {a b c e : Expr} {es : List Expr} {fa fb fc f : EF} {ff : AF} {pos : Pos} {K : PySem.W.Frag} {g g1 : G} {v : V} {σ : L2.St} {s s1 : S} {st st1 : Sto}

/-! ### what is walked -/
/-- things of the store that stay as they are while they are walked -/
def gok (gd : List (Nat × Nd)) (st : Sto) : Prop := ∀ p ∈ gd, st[p.1]? = some (some p.2)
theorem gok_nil {st : Sto} : gok [] st := fun _ h => by cases h
open Classical in
noncomputable def gchk {α : Type} (gd : List (Nat × Nd)) (st : Sto) (o : Option α) : Option α := if gok gd st then o else none
theorem gchk_some {α : Type} {gd : List (Nat × Nd)} {st : Sto} {o : Option α} {a : α} (h : gchk gd st o = some a) : gok gd st ∧ o = some a := by
  unfold gchk at h
  split at h
  · exact ⟨by assumption, h⟩
  · cases h
theorem gchk_of {α : Type} {gd : List (Nat × Nd)} {st : Sto} {o : Option α} (h : gok gd st) : gchk gd st o = o := by unfold gchk; rw [if_pos h]
/-- what is walked, and what must stay -/
structure Itm where
  ys : List Y
  gd : List (Nat × Nd)
def ItOk (K : PySem.W.Frag) (J : It) (g0 : G) (st0 : Sto) (it : Itm) : Prop := ∀ g st, Step g0 st0 g st → StOk K g st → gok it.gd st → ∀ i : Nat, (it.ys.length ≤ i → J.stop i g.H) ∧
  ∀ y, it.ys[i]? = some y → J.go i g.H ∧ ∀ x H', J.yld i g.H x H' → ∃ Φ', Ext g ⟨Φ', g.ι, H'⟩ ∧ YOk K ⟨Φ', g.ι, H'⟩ x y
abbrev IF := S → Option (Itm × S)
def upI (K : PySem.W.Frag) (f : IF) : TI := fun σ H Q => ∃ g s its s', g.H = H ∧ Rel K g σ s ∧ f s = some (its, s') ∧ ∀ J g', Step g s.st g' s'.st → Rel K g' σ s' → ItOk K J g' s'.st its → Q J g'.H
structure VI (X : Cx) (tg iter : Expr) (f : IF) : Prop where
  pi : PI X tg iter (upI X.K f)
variable {tg iter : Expr} {fi : IF} {t : GF} {sms : List Stmt} {h1 : SF}
theorem _root_.L2.PI.imp {tg e : Expr} {t t' : TI} (h : PI X tg e t) (w : ∀ σ H Q, t' σ H Q → t σ H Q) : PI X tg e t' := ⟨fun pins s σ H R I q => h.run pins s σ H R I (w σ H R q)⟩
/-- a list or a tuple -/
theorem pi_sq {l : Expr} {tl : TE} (hl : PE X l tl) : PI X tg l (fun σ H R => tl σ H fun x H1 => ∃ a, x = .ref a ∧ (((∃ xs, SqL X.K H1 a xs) ∧ R (Itl X.K a) H1) ∨ ((∃ xs, SqT X.K H1 a xs) ∧ R (Itt X.K a) H1))) := by
  refine ⟨fun pins s σ H R I h => ?_⟩
  refine thn (hl.run pins s σ H _ I h) fun v s1 ⟨x, H1, I1, r1, q1⟩ => ?_
  obtain ⟨a, e, q1⟩ := q1
  subst e
  cases r1
  rcases q1 with ⟨⟨xs, hq⟩, q⟩ | ⟨⟨xs, hq⟩, q⟩
  · obtain ⟨its, rv, p, hz⟩ := I1.list hq
    refine wpAny_pyIter_list p.isList ?_
    refine ⟨s1.heap.objs.size, [s1.heap.objs.size], _, _, H1, rfl, I1.kept (t' := s1.toks) fun b o e => Heap.get?_push_of_some _ e, turn_list a _, ⟨_, Heap.get?_push_size _ rfl, rfl, rfl⟩, fun b hb => ?_, q⟩
    have e : b = s1.heap.objs.size := by simpa using hb
    subst e
    exact I1.fpOk (Nat.le_refl _) (I1.hok.fresh (Nat.le_refl _))
  · obtain ⟨its, rv, p, hz⟩ := I1.tuple hq
    refine wpAny_pyIter_tuple (show s1.heap.IsTuple a its.toArray from p) ?_
    refine ⟨s1.heap.objs.size, [s1.heap.objs.size], _, _, H1, rfl, I1.kept (t' := s1.toks) fun b o e => Heap.get?_push_of_some _ e, turn_tuple a _, ⟨_, Heap.get?_push_size _ rfl, rfl, rfl⟩, fun b hb => ?_, q⟩
    have e : b = s1.heap.objs.size := by simpa using hb
    subst e
    exact I1.fpOk (Nat.le_refl _) (I1.hok.fresh (Nat.le_refl _))
/-- the data a frozen list or tuple holds, to be walked -/
def D.walk : D → Option (List D)
  | .lst ds => some ds
  | .lsw ds => some ds
  | .tup ds => some ds
  | _ => none
/-- a list to be walked: its items, and what must stay -/
def seqR (r : R) (st : Sto) : Option (List W × List (Nat × Nd)) := match r with
  | .val (.d (.lst ds)) => some (ds.map .d, [])
  | .val (.d (.lsw ds)) => some (ds.map .d, [])
  | .val (.d _) => none
  | .val (.obj n) => (match st[n]? with
    | some (some (.lst ws)) => some (ws, [(n, .lst ws)])
    | _ => none)
  | .val (.tp _) => none
  | .new (.lst ws) => some (ws, [])
  | .new _ => none
def R.tupd : R → Option (List D)
  | .val (.d (.tup ds)) => some ds
  | _ => none
def iSq (fa : EF) : IF := fun s => (fa s).bind fun p => match p.1.tupd with
  | some ds => some (⟨ds.map fun d => .one (.d d), []⟩, p.2)
  | none => (seqR p.1 p.2.st).map fun q => (⟨q.1.map .one, q.2⟩, p.2)
/-- a list frozen: what an iterator of it yields -/
theorem DdL.get {h : Hp} : ∀ {vs : List V} {ds : List D} {i : Nat} {d : D}, DdL K h vs ds → ds[i]? = some d → ∃ v, vs[i]? = some v ∧ Dd K h v d
  | _, _, _, _, .nil, e => by simp at e
  | _, _, 0, w, .cons a b, e => by simp at e; subst e; exact ⟨_, rfl, a⟩
  | _, _, i + 1, w, .cons a b, e => by
    obtain ⟨v, h1, h2⟩ := DdL.get (i := i) (d := w) b (by simpa using e)
    exact ⟨v, by simpa using h1, h2⟩
/-- the list at ad has the items ws as long as what must stay stays -/
def Lvs (K : PySem.W.Frag) (g0 : G) (st0 : Sto) (ad : Addr) (ws : List W) (gd : List (Nat × Nd)) : Prop := ∀ g st, Step g0 st0 g st → StOk K g st → gok gd st → ∃ vs, SqL K g.H ad vs ∧ WrL K g.Φ g.ι vs ws
theorem seqR_ok {H0 : Hp} {r : R} {ws : List W} {gd : List (Nat × Nd)} (o : StOk K g st) (q : RR K H0 g v r) (e : seqR r st = some (ws, gd)) : gok gd st ∧ ∃ ad, v = .ref ad ∧ Lvs K g st ad ws gd := by
  unfold seqR at e
  split at e
  · cases e
    cases q with
    | lst h1 h2 => exact ⟨gok_nil, _, rfl, fun g' st' l o' _ => ⟨_, .inl (.inl (o'.sub _ _ (l.phi _ _ h1))), (h2.mono l.phi).wr⟩⟩
  · cases e
    cases q with
    | lsw h1 h2 => exact ⟨gok_nil, _, rfl, fun g' st' l o' _ => ⟨_, SqL.mono' o'.sub (SqL.mono' l.phi h1), (h2.mono l.phi).wr⟩⟩
  · cases e
  · rename_i n
    split at e
    · rename_i ws' hn
      cases e
      obtain ⟨ad, had, rfl⟩ := q
      refine ⟨fun p hp => by cases List.mem_singleton.mp hp; exact hn, ad, rfl, fun g' st' l o' gk => ?_⟩
      have h1 := gk (n, .lst ws) (List.mem_singleton.mpr rfl)
      obtain ⟨more, em⟩ := l.io
      have h2 : g'.ι[n]? = some ad := by rw [em]; exact pre_get had
      obtain ⟨vs, h3, h4⟩ := o'.at_ n _ ad h1 h2
      exact ⟨vs, .inl (.inl h3), h4⟩
    · cases e
  · cases e
  · rename_i ws'
    cases e
    obtain ⟨ad, rfl, ⟨vs, h1, h2⟩, h3, h4, h5, _⟩ := q
    refine ⟨gok_nil, ad, rfl, fun g' st' l o' _ => ⟨vs, .inl (.inl (l.fr ad _ h1 fun ⟨n, y, hy, hha⟩ => h4 (List.mem_of_getElem? hha))), WrL.mono l.phi l.io h2⟩⟩
  · cases e
theorem seqR_okW {w : W} {ws : List W} {gd : List (Nat × Nd)} (o : StOk K g st) (q : Wr K g.Φ g.ι v w) (e : seqR (.val w) st = some (ws, gd)) : gok gd st ∧ ∃ ad, v = .ref ad ∧ Lvs K g st ad ws gd := seqR_ok (H0 := g.H) (r := .val w) o q e
theorem it_list {ad : Addr} {ws : List W} {gd : List (Nat × Nd)} (h : Lvs K g st ad ws gd) : ItOk K (Itl K ad) g st ⟨ws.map .one, gd⟩ := fun g' st' l o' gk i => by
  obtain ⟨vs, sq, hw⟩ := h g' st' l o' gk
  refine ⟨fun hi => ⟨vs, sq, by rw [WrL.length hw]; simpa using hi⟩, fun y hy => ?_⟩
  rw [List.getElem?_map] at hy
  obtain ⟨w, hd, rfl⟩ := Option.map_eq_some_iff.mp hy
  obtain ⟨v, hv, q⟩ := WrL.get hw hd
  refine ⟨⟨vs, v, sq, hv⟩, fun x H' z => ?_⟩
  obtain ⟨e, z⟩ := z
  subst e
  have := z vs sq
  rw [hv] at this
  cases this
  exact ⟨g'.Φ, Ext.refl o'.ok, q⟩
theorem it_tup {ad : Addr} {vs : List V} {ds : List D} (h1 : g.Φ ad = some (.tup vs)) (h2 : DdL K g.Φ vs ds) : ItOk K (Itt K ad) g st ⟨ds.map fun d => .one (.d d), []⟩ := fun g' st' l o' _ i => by
  have o := o'.ok
  have sq : SqT K g'.H ad vs := .inl (.inl (o.sub _ _ (l.phi _ _ h1)))
  refine ⟨fun hi => ⟨vs, sq, by rw [h2.length]; simpa using hi⟩, fun y hy => ?_⟩
  rw [List.getElem?_map] at hy
  obtain ⟨d, hd, rfl⟩ := Option.map_eq_some_iff.mp hy
  obtain ⟨v, hv, q⟩ := h2.get hd
  refine ⟨⟨vs, v, sq, hv⟩, fun x H' z => ?_⟩
  obtain ⟨e, z⟩ := z
  subst e
  have := z vs sq
  rw [hv] at this
  cases this
  exact ⟨g'.Φ, Ext.refl o, Dd.mono l.phi q⟩
theorem vi_sq (ha : VE X iter fa) : VI X tg iter (iSq fa) := ⟨(pi_sq ha.pe).imp fun σ H Q ⟨g, s, its, s', hg, R, hf, k⟩ => by
  obtain ⟨⟨ra, s1⟩, e1, hf⟩ := Option.bind_eq_some_iff.mp hf
  dsimp only at hf
  split at hf
  · rename_i ds hx
    cases hf
    subst hg
    refine ⟨g, s, ra, _, rfl, R, e1, fun v g1 p1 R1 q1 => ?_⟩
    unfold NV.R.tupd at hx
    split at hx
    · cases hx
      cases q1 with
      | tup h1 h2 => exact ⟨_, rfl, .inr ⟨⟨_, .inl (.inl (R1.st.sub _ _ h1))⟩, k _ g1 p1 R1 (it_tup h1 h2)⟩⟩
    · cases hx
  · obtain ⟨⟨ws, gd⟩, e2, hf⟩ := Option.map_eq_some_iff.mp hf
    cases hf
    subst hg
    refine ⟨g, s, ra, _, rfl, R, e1, fun v g1 p1 R1 q1 => ?_⟩
    obtain ⟨gk, ad, rfl, lv⟩ := seqR_ok R1.st q1 e2
    obtain ⟨vs, h1, h2⟩ := lv _ _ Step.refl R1.st gk
    exact ⟨ad, rfl, .inl ⟨⟨vs, h1⟩, k _ g1 p1 R1 (it_list lv)⟩⟩⟩
def rng (lo : Int) (n : Nat) : List Int := (List.range n).map fun i => lo + (i : Nat)
def yInts (l : List Int) : List Y := l.map fun i => .one (.d (.int i))
theorem it_rng {lo : Int} {n : Nat} : ItOk K (Itr lo n) g st ⟨yInts (rng lo n), []⟩ := fun g' st' l o' _ i => by
  have o := o'.ok
  refine ⟨fun hi => (show n ≤ i by simpa [yInts, rng] using hi), fun y hy => ?_⟩
  unfold yInts rng at hy
  rw [List.getElem?_map, List.getElem?_map] at hy
  obtain ⟨z, hz, rfl⟩ := Option.map_eq_some_iff.mp hy
  obtain ⟨j, hj, rfl⟩ := Option.map_eq_some_iff.mp hz
  obtain ⟨h1, h2⟩ := List.getElem?_eq_some_iff.mp hj
  simp at h1 h2
  subst h2
  refine ⟨h1, fun x H' z => ?_⟩
  obtain ⟨e, z⟩ := z
  subst e z
  exact ⟨g'.Φ, Ext.refl o, Dd.int⟩
def W.int? : W → Option Int
  | .d (.int i) => some i
  | _ => none
def small (i : Int) : Bool := decide (-(2 ^ 62) ≤ i) && decide (i < 2 ^ 62)
def iR1 (ff : AF) : IF := fun s => (ff s).bind fun p => match p.1 with
  | [.d (.int j)] => if small j = true then some (⟨yInts (rng 0 j.toNat), []⟩, p.2) else none
  | _ => none
def iR2 (ff : AF) : IF := fun s => (ff s).bind fun p => match p.1 with
  | [.d (.int i), .d (.int j)] => if small i = true ∧ small j = true then some (⟨yInts (rng i (j - i).toNat), []⟩, p.2) else none
  | _ => none
theorem small_ok {i : Int} (h : small i = true) : -(2 ^ 62) ≤ i ∧ i < 2 ^ 62 := by
  unfold small at h
  simpa using h
theorem vi_range1 {p : Pos} (hg : Gl X "range") (hm : X.mg "range" = none) (ha : VA X [a] ff) (hs : starEach [a] X.env = [(false, eval a X.env)] := by rfl) : VI X tg (.Call (.Name "range" p) [a] [] pos) (iR1 ff) := ⟨(pi_range1 hg hm ha.pa hs).imp fun σ H Q ⟨g, s, its, s', hgg, R, hf, k⟩ => by
  obtain ⟨⟨ws, s1⟩, e1, hf⟩ := Option.bind_eq_some_iff.mp hf
  dsimp only at hf
  split at hf
  · split at hf
    · rename_i hz
      cases hf
      subst hgg
      refine ⟨g, s, _, _, rfl, R, e1, fun vs g1 p1 R1 q1 => ?_⟩
      cases q1 with
      | cons q1 q2 =>
        cases q2
        cases q1
        exact ⟨_, rfl, (small_ok hz).1, (small_ok hz).2, k _ g1 p1 R1 it_rng⟩
    · cases hf
  · cases hf⟩
/-- lo, lo + c, .. -/
def rngC (lo c : Int) (n : Nat) : List Int := (List.range n).map fun i => lo + (i : Nat) * c
/-- range(i, j, -1) -/
def iR3 (ff : AF) : IF := fun s => (ff s).bind fun p => match p.1 with
  | [.d (.int i), .d (.int j), .d (.int (-1))] => if small i = true ∧ small j = true ∧ -(2 ^ 60) ≤ i ∧ i < 2 ^ 60 ∧ -(2 ^ 60) ≤ j ∧ j < 2 ^ 60 then some (⟨yInts (rngC i (-1) (i - j).toNat), []⟩, p.2) else none
  | _ => none
/-- with the turn's number -/
def yEnum (ws : List W) : List Y := ((List.range ws.length).zip ws).map fun p => .tup [.d (.int (p.1 : Nat)), p.2]
def iEn (ff : AF) : IF := fun s => (ff s).bind fun p => match p.1 with
  | [w] => (seqR (.val w) p.2.st).map fun q => (⟨yEnum q.1, q.2⟩, p.2)
  | _ => none
theorem yEnum_get {ws : List W} {i : Nat} {y : Y} (h : (yEnum ws)[i]? = some y) : ∃ w, ws[i]? = some w ∧ y = .tup [.d (.int (i : Nat)), w] := by
  unfold yEnum at h
  rw [List.getElem?_map] at h
  obtain ⟨p, hp, rfl⟩ := Option.map_eq_some_iff.mp h
  obtain ⟨n, w⟩ := p
  rw [List.getElem?_zip_eq_some] at hp
  obtain ⟨h1, h2⟩ := hp
  obtain ⟨h3, h4⟩ := List.getElem?_eq_some_iff.mp h1
  simp at h4
  subst h4
  exact ⟨w, h2, rfl⟩
theorem it_enum {ad : Addr} {ws : List W} {gd : List (Nat × Nd)} (h : Lvs K g st ad ws gd) : ItOk K (Ite K ad) g st ⟨yEnum ws, gd⟩ := fun g' st' l o' gk i => by
  have o := o'.ok
  obtain ⟨vs, sq, hw⟩ := h g' st' l o' gk
  refine ⟨fun hi => ⟨vs, sq, by rw [WrL.length hw]; simpa [yEnum] using hi⟩, fun y hy => ?_⟩
  obtain ⟨w, hd, rfl⟩ := yEnum_get hy
  obtain ⟨v, hv, q⟩ := WrL.get hw hd
  refine ⟨⟨vs, v, sq, hv⟩, fun x H' z => ?_⟩
  obtain ⟨T, y, rfl, hT, rfl, z⟩ := z
  have := z vs sq
  rw [hv] at this
  cases this
  exact ⟨_, Ext.frz o hT, ⟨T, _, rfl, .inl (.inl upd_same), .cons Dd.int (.cons (Wr.mono (Ext.frz o hT).phi ⟨[], by simp⟩ q) .nil)⟩⟩
theorem vi_enum {p tpos : Pos} {elts : List Expr} {kk : Nat} (hg : Gl X "enumerate") (hm : X.mg "enumerate" = none) (ha : VA X [a] ff) (hs : starEach [a] X.env = [(false, eval a X.env)] := by rfl) :
    VI X (.Tuple elts kk tpos) (.Call (.Name "enumerate" p) [a] [] pos) (iEn ff) := ⟨(pi_enum hg hm ha.pa hs).imp fun σ H Q ⟨g, s, its, s', hgg, R, hf, k⟩ => by
  obtain ⟨⟨ws, s1⟩, e1, hf⟩ := Option.bind_eq_some_iff.mp hf
  dsimp only at hf
  split at hf
  · obtain ⟨⟨ws1, gd⟩, e2, hf⟩ := Option.map_eq_some_iff.mp hf
    cases hf
    subst hgg
    refine ⟨g, s, _, _, rfl, R, e1, fun vs g1 p1 R1 q1 => ?_⟩
    cases q1 with
    | cons q1 q2 =>
      cases q2
      obtain ⟨gk, ad, rfl, lv⟩ := seqR_okW R1.st q1 e2
      obtain ⟨xs, h1, h2⟩ := lv _ _ Step.refl R1.st gk
      exact ⟨ad, xs, rfl, h1, k _ g1 p1 R1 (it_enum lv)⟩
  · cases hf⟩
def yZip (xs ys : List W) : List Y := (xs.zip ys).map fun p => .tup [p.1, p.2]
def W.tupd : W → Option (List D)
  | .d (.tup ds) => some ds
  | .d (.tpw ds) => some ds
  | _ => none
theorem W.tupd_ok {w : W} {ds : List D} (h : Wr K g.Φ g.ι v w) (e : w.tupd = some ds) : ∃ ad vs, v = .ref ad ∧ SqT K g.Φ ad vs ∧ DdL K g.Φ vs ds := by
  unfold W.tupd at e
  split at e
  · cases e
    cases h with
    | tup h1 h2 => exact ⟨_, _, rfl, .inl (.inl h1), h2⟩
  · cases e
    cases h with
    | tpw h1 h2 => exact ⟨_, _, rfl, h1 _, h2⟩
  · cases e
def zipR (st : Sto) (w w' : W) : Option (List W × List W × List (Nat × Nd)) := match w.tupd with
  | some ds => w'.tupd.map fun ds' => (ds.map .d, ds'.map .d, [])
  | none => (seqR (.val w) st).bind fun q => (seqR (.val w') st).map fun q' => (q.1, q'.1, q.2 ++ q'.2)
def iZp (ff : AF) : IF := fun s => (ff s).bind fun p => match p.1 with
  | [w, w'] => (zipR p.2.st w w').map fun q => (⟨yZip q.1 q.2.1, q.2.2⟩, p.2)
  | _ => none
theorem yZip_get {xs ys : List W} {i : Nat} {y : Y} (h : (yZip xs ys)[i]? = some y) : ∃ w w', xs[i]? = some w ∧ ys[i]? = some w' ∧ y = .tup [w, w'] := by
  unfold yZip at h
  rw [List.getElem?_map] at h
  obtain ⟨p, hp, rfl⟩ := Option.map_eq_some_iff.mp h
  obtain ⟨n, w⟩ := p
  rw [List.getElem?_zip_eq_some] at hp
  exact ⟨n, w, hp.1, hp.2, rfl⟩
theorem gok_app {gd gd' : List (Nat × Nd)} : gok (gd ++ gd') st ↔ gok gd st ∧ gok gd' st :=
  ⟨fun h => ⟨fun p hp => h p (List.mem_append_left _ hp), fun p hp => h p (List.mem_append_right _ hp)⟩, fun h p hp => (List.mem_append.mp hp).elim (h.1 p) (h.2 p)⟩
theorem it_zip {ad bd : Addr} {ws ws' : List W} {gd gd' : List (Nat × Nd)} (h1 : Lvs K g st ad ws gd) (h2 : Lvs K g st bd ws' gd') : ItOk K (Itz K ad bd) g st ⟨yZip ws ws', gd ++ gd'⟩ := fun g' st' l o' gk i => by
  have o := o'.ok
  obtain ⟨vs, sq, hw⟩ := h1 g' st' l o' (gok_app.mp gk).1
  obtain ⟨vs', sq', hw'⟩ := h2 g' st' l o' (gok_app.mp gk).2
  refine ⟨fun hi => ⟨vs, vs', sq, sq', by
    rw [WrL.length hw, WrL.length hw']
    simp [yZip] at hi
    omega⟩, fun y hy => ?_⟩
  obtain ⟨w, w', hd, hd', rfl⟩ := yZip_get hy
  obtain ⟨v, hv, q⟩ := WrL.get hw hd
  obtain ⟨v', hv', q'⟩ := WrL.get hw' hd'
  refine ⟨⟨vs, vs', v, v', sq, sq', hv, hv'⟩, fun x H' z => ?_⟩
  obtain ⟨T, y, y', rfl, hT, rfl, z, z'⟩ := z
  have := z vs sq
  rw [hv] at this
  cases this
  have := z' vs' sq'
  rw [hv'] at this
  cases this
  exact ⟨_, Ext.frz o hT, ⟨T, _, rfl, .inl (.inl upd_same), .cons (Wr.mono (Ext.frz o hT).phi ⟨[], by simp⟩ q) (.cons (Wr.mono (Ext.frz o hT).phi ⟨[], by simp⟩ q') .nil)⟩⟩
theorem it_zipT {ad bd : Addr} {vs vs' : List V} {ds ds' : List D} (h1 : SqT K g.Φ ad vs) (h2 : DdL K g.Φ vs ds) (h1' : SqT K g.Φ bd vs') (h2' : DdL K g.Φ vs' ds') : ItOk K (RZ.ItzT K ad bd) g st ⟨yZip (ds.map .d) (ds'.map .d), []⟩ := fun g' st' l o' _ i => by
  have o := o'.ok
  have sq : SqT K g'.H ad vs := SqT.mono' o.sub (SqT.mono' l.phi h1)
  have sq' : SqT K g'.H bd vs' := SqT.mono' o.sub (SqT.mono' l.phi h1')
  refine ⟨fun hi => ⟨vs, vs', sq, sq', by
    rw [h2.length, h2'.length]
    simp [yZip] at hi
    omega⟩, fun y hy => ?_⟩
  obtain ⟨w, w', hw, hw', rfl⟩ := yZip_get hy
  rw [List.getElem?_map] at hw hw'
  obtain ⟨d, hd, rfl⟩ := Option.map_eq_some_iff.mp hw
  obtain ⟨d', hd', rfl⟩ := Option.map_eq_some_iff.mp hw'
  obtain ⟨v, hv, q⟩ := h2.get hd
  obtain ⟨v', hv', q'⟩ := h2'.get hd'
  refine ⟨⟨vs, vs', v, v', sq, sq', hv, hv'⟩, fun x H' z => ?_⟩
  obtain ⟨T, y, y', rfl, hT, rfl, z, z'⟩ := z
  have := z vs sq
  rw [hv] at this
  cases this
  have := z' vs' sq'
  rw [hv'] at this
  cases this
  exact ⟨_, Ext.frz o hT, ⟨T, _, rfl, .inl (.inl upd_same), .cons (Dd.mono (Ext.frz o hT).phi (Dd.mono l.phi q)) (.cons (Dd.mono (Ext.frz o hT).phi (Dd.mono l.phi q')) .nil)⟩⟩
theorem vi_zip {p tpos : Pos} {elts : List Expr} {kk : Nat} (hg : Gl X "zip") (hm : X.mg "zip" = none) (ha : VA X [a, b] ff)
    (hs : starEach [a, b] X.env = (false, eval a X.env) :: starEach [b] X.env := by rfl) (hpl : (backTo pos (starEach [b] X.env)).any (·.1) = false := by rfl) :
    VI X (.Tuple elts kk tpos) (.Call (.Name "zip" p) [a, b] [] pos) (iZp ff) := ⟨(RZ.pi_zipA hg hm ha.pa hs hpl).imp fun σ H Q ⟨g, s, its, s', hgg, R, hf, k⟩ => by
  obtain ⟨⟨ws, s1⟩, e1, hf⟩ := Option.bind_eq_some_iff.mp hf
  dsimp only at hf
  split at hf
  · obtain ⟨⟨xs, ys, gd⟩, e2, hf⟩ := Option.map_eq_some_iff.mp hf
    cases hf
    subst hgg
    refine ⟨g, s, _, _, rfl, R, e1, fun vs g1 p1 R1 q1 => ?_⟩
    cases q1 with
    | cons q1 q2 =>
      cases q2 with
      | cons q2 q3 =>
        cases q3
        unfold zipR at e2
        split at e2
        · rename_i ds1 e3
          obtain ⟨ds1', e4, e2⟩ := Option.map_eq_some_iff.mp e2
          cases e2
          obtain ⟨ad, xs, rfl, h1, h2⟩ := W.tupd_ok q1 e3
          obtain ⟨bd, ys, rfl, h1', h2'⟩ := W.tupd_ok q2 e4
          exact ⟨ad, bd, xs, ys, rfl, .inr ⟨SqT.mono' R1.st.sub h1, SqT.mono' R1.st.sub h1', k _ g1 p1 R1 (it_zipT h1 h2 h1' h2')⟩⟩
        · obtain ⟨⟨ws1, gd1⟩, e3, e2⟩ := Option.bind_eq_some_iff.mp e2
          obtain ⟨⟨ws2, gd2⟩, e4, e2⟩ := Option.map_eq_some_iff.mp e2
          cases e2
          obtain ⟨gk1, ad, rfl, lv1⟩ := seqR_okW R1.st q1 e3
          obtain ⟨gk2, bd, rfl, lv2⟩ := seqR_okW R1.st q2 e4
          obtain ⟨xs, h1, _⟩ := lv1 _ _ Step.refl R1.st gk1
          obtain ⟨ys, h1', _⟩ := lv2 _ _ Step.refl R1.st gk2
          exact ⟨ad, bd, xs, ys, rfl, .inl ⟨h1, h1', k _ g1 p1 R1 (it_zip lv1 lv2)⟩⟩
  · cases hf⟩

/-! ### for -/
noncomputable def forL (t : GF) (h : SF) (gd : List (Nat × Nd)) : List Y → SF
  | [], s => gchk gd s.st (some (.nx s))
  | y :: ys, s => gchk gd s.st ((t y s).bind fun s1 => (h s1).bind fun o => match o with
    | .nx s2 => forL t h gd ys s2
    | .ct s2 => forL t h gd ys s2
    | .bk s2 => some (.nx s2)
    | .rt r s2 => some (.rt r s2))
noncomputable def sFor (fi : IF) (t : GF) (h : SF) : SF := fun s => (fi s).bind fun p => forL t h p.1.gd p.1.ys p.2
theorem forL_gok {t : GF} {h : SF} {gd : List (Nat × Nd)} {ys : List Y} {s : S} {o : O} (e : forL t h gd ys s = some o) : gok gd s.st := by
  cases ys <;> unfold forL at e <;> exact (gchk_some e).1
theorem YOk.ext {y : Y} {x : V} (e : Ext g g1) (h : YOk K g x y) : YOk K g1 x y := by
  cases y with
  | one w => exact Wr.mono e.phi ⟨[], by simp [e.io]⟩ h
  | tup ws =>
    obtain ⟨a, vs, h1, h2, h3⟩ := h
    exact ⟨a, vs, h1, SqT.mono' e.ex h2, WrL.mono e.phi ⟨[], by simp [e.io]⟩ h3⟩
theorem v_for (hp : PassesOwn (model X.prog X.w) X.A X.env X.xe) (hc : X.calm = true) (hi : VI X tg iter fi) (hg : VG X tg t) (hb : VSs X sms h1)
    (hs : ∀ x, foldedSetIterable iter X.env x = pure x := by intro _; rfl) : VS X (.For tg iter sms [] pos) (sFor fi t h1) := ⟨(ps_for hp hc hi.pi hg.pg hb.pss hs).imp fun D σ H ⟨g, s, o, hgg, R, hf, k⟩ => by
  obtain ⟨⟨⟨its, gd⟩, s1⟩, e1, hf⟩ := Option.bind_eq_some_iff.mp hf
  refine ⟨g, s, ⟨its, gd⟩, s1, hgg, R, e1, fun J g1 p1 R1 hJ => ?_⟩
  refine ⟨fun i m σ H => m = its.length - i ∧ i ≤ its.length ∧ ∃ g2 s2 o2, g2.H = H ∧ Rel X.K g2 σ s2 ∧ Step g1 s1.st g2 s2.st ∧ forL t h1 gd (its.drop i) s2 = some o2 ∧ OutK X.K g2 s2.st D o2,
    ⟨its.length, by simp, Nat.zero_le _, g1, s1, o, rfl, R1, Step.refl, by simpa using hf, k.step R.st R1.st p1⟩, ?_⟩
  rintro i m σ2 H2 ⟨rfl, hi, g2, s2, o2, rfl, R2, l2, hf2, k2⟩
  obtain ⟨stop, go⟩ := hJ g2 _ l2 R2.st (forL_gok hf2) i
  by_cases hlt : i < its.length
  · have hy : its[i]? = some its[i] := List.getElem?_eq_getElem hlt
    obtain ⟨hgo, hyl⟩ := go _ hy
    rw [List.drop_eq_getElem_cons hlt] at hf2
    unfold forL at hf2
    have hf2 := (gchk_some hf2).2
    obtain ⟨s3, e3, hf2⟩ := Option.bind_eq_some_iff.mp hf2
    obtain ⟨o3, e4, hf2⟩ := Option.bind_eq_some_iff.mp hf2
    refine .inr ⟨hgo, fun σ' H' => ∃ g4 s4, g4.H = H' ∧ Rel X.K g4 σ' s4 ∧ Step g1 s1.st g4 s4.st ∧ ∃ o4, forL t h1 gd (its.drop (i + 1)) s4 = some o4 ∧ OutK X.K g4 s4.st D o4,
      fun σ' H' ⟨g4, s4, e, R4, l4, o4, h4, k4⟩ => ⟨its.length - (i + 1), by omega, rfl, hlt, g4, s4, o4, e, R4, l4, h4, k4⟩, fun x H' z => ?_⟩
    obtain ⟨Φ', ex, yo⟩ := hyl x H' z
    refine ⟨⟨Φ', g2.ι, H'⟩, s2, its[i], s3, rfl, ex.rel R2, yo, e3, fun σ3 g3 p3 R3 => ?_⟩
    have p23 := ex.step.trans R2.st (ex.sto R2.st) p3
    have k3 := k2.step R2.st R3.st p23
    have l3 := l2.trans R1.st R2.st p23
    refine ⟨g3, s3, o3, rfl, R3, e4, ?_⟩
    cases o3 with
    | nx s4 => exact fun σ4 g4 p4 R4 => ⟨g4, s4, rfl, R4, l3.trans R1.st R3.st p4, o2, hf2, k3.step R3.st R4.st p4⟩
    | ct s4 => exact fun σ4 g4 p4 R4 => ⟨g4, s4, rfl, R4, l3.trans R1.st R3.st p4, o2, hf2, k3.step R3.st R4.st p4⟩
    | bk s4 => cases hf2; exact k3
    | rt r s4 => cases hf2; exact k3
  · have e : its.drop i = [] := List.drop_eq_nil_of_le (by omega)
    rw [e] at hf2
    unfold forL at hf2
    have hf2 := (gchk_some hf2).2
    cases hf2
    exact .inl ⟨stop (by show its.length ≤ i; omega), k2 σ2 g2 Step.refl R2⟩⟩

/-! ### comprehensions -/
def wipeW (sl : List (Option W)) : List Nat → List (Option W)
  | [] => sl
  | v :: vs => (wipeW sl vs).set v none
theorem SlOk.wipe {sl : List (Option W)} (x : SlOk K g σ sl) : ∀ vs : List Nat, SlOk K g (L2.wipe σ vs) (wipeW sl vs)
  | [] => x
  | v :: vs => by
    have ih := x.wipe vs
    unfold wipeW L2.wipe
    refine ⟨by simp [ih.1], fun i w h => ?_⟩
    by_cases hi : v = i
    · subst hi
      by_cases hl : v < (wipeW sl vs).length
      · rw [List.getElem?_set_self hl] at h; cases h
      · rw [List.getElem?_eq_none (by simp; omega)] at h; cases h
    · rw [List.getElem?_set_ne hi] at h
      obtain ⟨v', h1, h2⟩ := ih.2 i w h
      exact ⟨v', by rw [List.getElem?_set_ne hi]; exact h1, h2⟩
abbrev Cv := R → Sto → Option (W × Sto)
def cvF : Cv := fun r st => r.w.map fun w => (w, st)
def cvO : Cv := fun r st => some (r.wo st)
/-- an outcome becomes a value -/
def CvOk (cv : Cv) : Prop := ∀ {K : PySem.W.Frag} {g0 g : G} {st0 : Sto} {σ : L2.St} {s : S} {v : V} {r : R} {w : W} {st' : Sto}, StOk K g0 st0 → Step g0 st0 g s.st → Rel K g σ s → RR K g0.H g v r → cv r s.st = some (w, st') →
  ∃ g', g'.H = g.H ∧ Step g0 st0 g' st' ∧ Rel K g' σ { s with st := st' } ∧ Wr K g'.Φ g'.ι v w
theorem cvF_ok : CvOk cvF := fun o0 p o q e => by
  obtain ⟨w, e1, e⟩ := Option.map_eq_some_iff.mp e
  cases e
  exact toW o0 p o q e1
theorem cvO_ok : CvOk cvO := fun o0 p o q e => by
  have h := toWo o0 p o q
  rw [Option.some.inj e] at h
  exact h
noncomputable def lcL (cv : Cv) (t : GF) (tt : TF) (fe : EF) (own : List Nat) (sl : List (Option W)) (gd : List (Nat × Nd)) : List Y → List W → Sto → Option (List W × Sto)
  | [], acc, st => gchk gd st (some (acc, st))
  | y :: ys, acc, st => gchk gd st ((t y ⟨wipeW sl own, st⟩).bind fun s1 => (tt s1).bind fun p => if p.1 = true then (fe p.2).bind fun q => (cv q.1 q.2.st).bind fun z => if acc.length < sizeLine then lcL cv t tt fe own sl gd ys (acc ++ [z.1]) z.2 else none
    else lcL cv t tt fe own sl gd ys acc p.2.st)
theorem lcL_gok {cv : Cv} {t : GF} {tt : TF} {fe : EF} {own : List Nat} {sl : List (Option W)} {gd : List (Nat × Nd)} {ys : List Y} {acc : List W} {st : Sto} {o : List W × Sto} (e : lcL cv t tt fe own sl gd ys acc st = some o) : gok gd st := by
  cases ys <;> unfold lcL at e <;> exact (gchk_some e).1
noncomputable def eLcC (cv : Cv) (fi : IF) (t : GF) (tt : TF) (fe : EF) (own : List Nat) : EF := fun s => (fi s).bind fun p => (lcL cv t tt fe own p.2.sl p.1.gd p.1.ys [] p.2.st).map fun q => (.new (.lst q.1), { p.2 with st := q.2 })
noncomputable abbrev eLc := eLcC cvF
noncomputable abbrev eLcO := eLcC cvO
theorem wipe_set {σ : L2.St} {x : Option V} : ∀ {vs : List Nat} {i : Nat}, i ∈ vs → ∀ τ : L2.St, L2.wipe τ vs = L2.wipe σ vs → L2.wipe (τ.set i x) vs = L2.wipe σ vs
  | v :: vs, i, h, τ, e => by
    have comm : ∀ (τ : L2.St) (vs : List Nat) , L2.wipe (τ.set i x) vs = if i ∈ vs then L2.wipe τ vs else (L2.wipe τ vs).set i x := by
      intro τ vs
      induction vs with
      | nil => simp [L2.wipe]
      | cons u us ih =>
        unfold L2.wipe
        rw [ih]
        by_cases h1 : i ∈ us
        · simp [h1]
        · by_cases h2 : i = u
          · subst h2; simp [h1, List.set_set]
          · simp [h1, h2, List.set_comm _ _ (Ne.symm h2)]
    rw [comm, if_pos h]
    exact e
/-- targets within a comprehension: own names alone are stored -/
def upGo (K : PySem.W.Frag) (own : List Nat) (t : GF) : TG := fun v σ H Q => ∃ g s y s', g.H = H ∧ Rel K g σ s ∧ YOk K g v y ∧ t y s = some s' ∧ ∀ σ' g', Step g s.st g' s'.st → Rel K g' σ' s' → L2.wipe σ' own = L2.wipe σ own → Q σ' g'.H
def upGso (K : PySem.W.Frag) (own : List Nat) (t : GsF) : TGs := fun vs σ H Q => ∃ g s ws s', g.H = H ∧ Rel K g σ s ∧ WrL K g.Φ g.ι vs ws ∧ t ws s = some s' ∧ ∀ σ' g', Step g s.st g' s'.st → Rel K g' σ' s' → L2.wipe σ' own = L2.wipe σ own → Q σ' g'.H
structure VGo (X : Cx) (own : List Nat) (tg : Expr) (t : GF) : Prop where
  pg : PG X tg (upGo X.K own t)
structure VGso (X : Cx) (own : List Nat) (tgs : List Expr) (t : GsF) : Prop where
  pgs : PGs X tgs (upGso X.K own t)
theorem vgo_name {own : List Nat} {i : Nat} {x : Str} (hN : X.N.Nodup) (hi : X.N[i]? = some x) (hx : Loc X.env.scope x) (ho : i ∈ own) (hf : X.fn x = true ∨ X.env.scope.names.lookup x = some .local := by first | exact .inl rfl | exact .inr rfl | assumption) : VGo X own (.Name x pos) (gN i) :=
  ⟨(pg_name hN hi hx hf).imp fun v σ H Q ⟨g, s, y, s', hg, R, hy, ht, k⟩ => by
    cases y with
    | one w =>
      cases ht
      subst hg
      exact k _ g Step.refl ⟨R.st, R.sl.set hy⟩ (wipe_set ho σ rfl)
    | tup ws => cases ht⟩
theorem vgso_nil {own : List Nat} : VGso X own [] gNil' := ⟨pgs_nil.imp fun v σ H Q ⟨g, s, ws, s', hg, R, hy, ht, k⟩ => by
  cases hy with
  | nil =>
    cases ht
    subst hg
    exact ⟨rfl, k _ g Step.refl R rfl⟩
  | cons _ _ => cases ht⟩
theorem vgso_cons {own : List Nat} {t : GF} {u : GsF} (h1 : VGo X own e t) (h2 : VGso X own es u) (hs : (assignEach (e :: es) X.env).map (·.2) = assign e X.env :: (assignEach es X.env).map (·.2) := by rfl) : VGso X own (e :: es) (gCons' t u) :=
  ⟨(pgs_cons h1.pg h2.pgs hs).imp fun v σ H Q ⟨g, s, ws, s', hg, R, hy, ht, k⟩ => by
    cases hy with
    | nil => cases ht
    | cons hv hvs =>
      obtain ⟨s1, h3, h4⟩ := Option.bind_eq_some_iff.mp ht
      subst hg
      refine ⟨_, _, rfl, g, s, .one _, s1, rfl, R, hv, h3, fun σ1 g1 p1 R1 w1 => ⟨g1, s1, _, s', rfl, R1, WrL.mono p1.phi p1.io hvs, h4, fun σ2 g2 p2 R2 w2 => ?_⟩⟩
      exact k σ2 g2 (p1.trans R.st R1.st p2) R2 (w2.trans w1)⟩
theorem vgo_tup {own : List Nat} {k : Nat} {u : GsF} {n : Nat} (hc : X.calm = true) (h : VGso X own es u) (hn : (assignEach es X.env).length = n := by rfl) (hst : (assignEach es X.env).findIdx? (·.1) = none := by rfl) : VGo X own (.Tuple es k pos) (gT n u) :=
  ⟨(pg_tup hc h.pgs hn hst).imp fun v σ H Q ⟨g, s, y, s', hg, R, hy, ht, kk⟩ => by
    obtain ⟨ws, h1, ht⟩ := Option.bind_eq_some_iff.mp ht
    split at ht
    · rename_i hl
      subst hg
      have : ∃ a vs, v = .ref a ∧ SqT X.K g.H a vs ∧ WrL X.K g.Φ g.ι vs ws := by
        cases y with
        | one w =>
          unfold Y.items at h1
          split at h1
          · rename_i ds he
            cases h1
            cases he
            cases hy with
            | tup q1 q2 => exact ⟨_, _, rfl, .inl (.inl (R.st.sub _ _ q1)), q2.wr⟩
          · rename_i es he
            cases h1
            cases he
            obtain ⟨a, vs, h5, h6, h7⟩ := hy
            exact ⟨a, vs, h5, .inl (.inl (R.st.sub _ _ h6)), wr1_l h7⟩
          · cases h1
          · rename_i he
            cases he
        | tup ws' => cases h1; exact hy
      obtain ⟨a, vs, rfl, q1, q2⟩ := this
      exact ⟨a, vs, rfl, q1, by rw [q2.length]; exact hl, g, s, ws, s', rfl, R, q2, ht, kk⟩
    · cases ht⟩
structure VTs (X : Cx) (ifs : List Expr) (t : TF) : Prop where
  pts : PTs X ifs (upT X.K t)
def tYes' : TF := fun s => some (true, s)
theorem vts_nil : VTs X [] tYes' := ⟨⟨fun pins s σ H Q I q => pts_nil.run pins s σ H Q I (upT_val q)⟩⟩
theorem lc_in {cv : Cv} (hcv : CvOk cv) {tt : TF} {fe : EF} {own : List Nat} {σ : L2.St} {H : Hp} {Q : VK} {g g1 : G} {s s1 : S} {J : It} {its : List Y} {gd : List (Nat × Nd)} {acc : List W} {st2 : Sto} (R : Rel X.K g σ s) (p1 : Step g s.st g1 s1.st) (R1 : Rel X.K g1 σ s1) (hJ : ItOk X.K J g1 s1.st ⟨its, gd⟩)
    (e2 : lcL cv t tt fe own s1.sl gd its [] s1.st = some (acc, st2)) (k : ∀ v g', Step g s.st g' st2 → Rel X.K g' σ { s1 with st := st2 } → RR X.K g.H g' v (.new (.lst acc)) → Q v g'.H) : tLc (fun _ _ R0 => R0 J g1.H) (upGo X.K own t) (upT X.K tt) (upE X.K fe) own σ H Q := by
  intro Dl hD
  -- the list being made stands at Dl, outside
  let Inv' (i : Nat) (H : Hp) := ∃ (g2 : G) (st3 : Sto) (vs : List V) (ws : List W), g2.H = H ∧ Step g1 s1.st g2 st3 ∧ StOk X.K g2 st3 ∧ SlOk X.K g2 σ s1.sl ∧
    g2.H Dl = some (.lst vs) ∧ g2.Φ Dl = none ∧ Dl ∉ g2.ι ∧ WrL X.K g2.Φ g2.ι vs ws ∧ lcL cv t tt fe own s1.sl gd (its.drop i) ws st3 = some (acc, st2)
  have hDg : g.H Dl = none := by
    cases e : g.H Dl with
    | none => rfl
    | some _ => exact absurd hD (p1.there Dl (by rw [e]; exact fun z => nomatch z))
  refine ⟨fun i m H => m = its.length - i ∧ i ≤ its.length ∧ Inv' i H, ⟨its.length, by simp, Nat.zero_le _, ?_⟩, ?_⟩
  · have x := Ext.new (g := g1) R1.st.ok (ob := .lst []) hD
    refine ⟨_, s1.st, [], [], rfl, x.step, x.sto R1.st, (x.rel R1).sl, upd_same, R1.st.ok.free hD, R1.st.ok.nmem hD, .nil, by simpa using e2⟩
  · rintro i m H2 ⟨rfl, hi, g2, st3, vs, ws, rfl, p2, o2, sl2, hDl, hDΦ, hDι, hw, hf2⟩
    obtain ⟨stop, go⟩ := hJ g2 _ p2 o2 (lcL_gok hf2) i
    by_cases hlt : i < its.length
    · have hy : its[i]? = some its[i] := List.getElem?_eq_getElem hlt
      obtain ⟨hgo, hyl⟩ := go _ hy
      rw [List.drop_eq_getElem_cons hlt] at hf2
      unfold lcL at hf2
      have hf2 := (gchk_some hf2).2
      obtain ⟨s3, e3, hf2⟩ := Option.bind_eq_some_iff.mp hf2
      obtain ⟨⟨b1, s4⟩, e4, hf2⟩ := Option.bind_eq_some_iff.mp hf2
      refine .inr ⟨hgo, Inv' (i + 1), fun H' q => ⟨its.length - (i + 1), by omega, rfl, hlt, q⟩, fun x H' z => ?_⟩
      obtain ⟨Φ', ex, yo⟩ := hyl x H' z
      have oe := ex.sto o2
      have Re : Rel X.K ⟨Φ', g2.ι, H'⟩ (L2.wipe σ own) ⟨wipeW s1.sl own, st3⟩ := ⟨oe, (sl2.step (st := st3) (st1 := st3) ex.step).wipe own⟩
      refine ⟨⟨Φ', g2.ι, H'⟩, _, its[i], s3, rfl, Re, yo, e3, fun σ3 g3 p3 R3 hw3 => ⟨?_, ?_⟩⟩
      · rw [hw3]
        -- wiped twice is wiped once
        have : ∀ (vs : List Nat) (τ : L2.St), L2.wipe (L2.wipe τ vs) vs = L2.wipe τ vs := by
          intro vs
          induction vs with
          | nil => intro τ; rfl
          | cons v vs ih =>
            intro τ
            show (L2.wipe ((L2.wipe τ vs).set v none) vs).set v none = (L2.wipe τ vs).set v none
            have c : ∀ (vs : List Nat) (τ : L2.St), (L2.wipe (τ.set v none) vs).set v none = (L2.wipe τ vs).set v none := by
              intro vs
              induction vs with
              | nil => intro τ; simp [L2.wipe]
              | cons u us ih2 =>
                intro τ
                unfold L2.wipe
                by_cases h2 : u = v
                · subst h2
                  rw [List.set_set, List.set_set]; exact ih2 τ
                · rw [List.set_comm _ _ h2, ih2, List.set_comm _ _ (Ne.symm h2)]
            rw [c, ih]
        exact this own σ
      have p2e := p2.trans R1.st o2 ex.step
      have p23 := p2e.trans R1.st oe p3
      refine ⟨g3, s3, b1, s4, rfl, R3, e4, fun g4 p4 R4 => ?_⟩
      have p24 := p23.trans R1.st R3.st p4
      -- Dl stands through the turn
      have pe4 : Step ⟨Φ', g2.ι, H'⟩ st3 g4 s4.st := p3.trans oe R3.st p4
      have hDe : H' Dl = some (.lst vs) := ex.ex Dl _ hDl
      have hDΦe : Φ' Dl = none := by
        cases e : Φ' Dl with
        | none => rfl
        | some ob => rcases ex.dm Dl (by show Φ' Dl ≠ none; rw [e]; exact fun z => nomatch z) with z | z
                     · exact (z hDΦ).elim
                     · rw [hDl] at z; cases z
      have keep : ∀ {g5 : G} {st5 : Sto}, Step ⟨Φ', g2.ι, H'⟩ st3 g5 st5 → g5.H Dl = some (.lst vs) ∧ g5.Φ Dl = none ∧ Dl ∉ g5.ι := fun {g5 st5} p => by
        have no : ¬ (g5.Φ Dl ≠ none ∨ Dl ∈ g5.ι) := fun z => by
          rcases p.dm Dl z with z | z | z
          · exact z hDΦe
          · exact hDι z
          · have z : H' Dl = none := z
            rw [hDe] at z; cases z
        refine ⟨p.fr Dl _ hDe fun ⟨n, y, hy, ha⟩ => hDι (List.mem_of_getElem? ha), ?_, fun z => no (.inr z)⟩
        cases e : g5.Φ Dl with
        | none => rfl
        | some _ => exact (no (.inl (by rw [e]; exact fun z => nomatch z))).elim
      have sl4 : SlOk X.K g4 σ s1.sl := (sl2.step (st := st3) (st1 := st3) ex.step).step pe4
      have hw4 : WrL X.K g4.Φ g4.ι vs ws := WrL.mono pe4.phi pe4.io (WrL.mono ex.phi ⟨[], by simp⟩ hw)
      cases b1 with
      | false =>
        obtain ⟨k1, k2, k3⟩ := keep pe4
        exact ⟨g4, s4.st, vs, ws, rfl, p24, R4.st, sl4, k1, k2, k3, hw4, hf2⟩
      | true =>
        have hf2 : ((fe s4).bind fun q => (cv q.1 q.2.st).bind fun z => if ws.length < sizeLine then lcL cv t tt fe own s1.sl gd (its.drop (i + 1)) (ws ++ [z.1]) z.2 else none) = some (acc, st2) := hf2
        obtain ⟨⟨ra, s5⟩, e5, hf2⟩ := Option.bind_eq_some_iff.mp hf2
        obtain ⟨⟨w, st6'⟩, e6, hf2⟩ := Option.bind_eq_some_iff.mp hf2
        dsimp only at hf2
        split at hf2
        · rename_i hz
          refine ⟨g4, s4, ra, s5, rfl, R4, e5, fun y g5 p5 R5 q5 => ?_⟩
          obtain ⟨g6, e7, p6, R6, q6⟩ := hcv R4.st p5 R5 q5 e6
          have pe6 := pe4.trans oe R4.st p6
          obtain ⟨k1, k2, k3⟩ := keep pe6
          rw [← e7]
          refine ⟨vs, k1, by rw [hw.length]; exact hz, ?_⟩
          -- the list grows: not ours, not frozen
          have st6 : StOk X.K ⟨g6.Φ, g6.ι, upd g6.H Dl (.lst (vs ++ [y]))⟩ st6' := by
            refine ⟨R6.st.len, fun n nd a h1 h2 => ?_, R6.st.nd, R6.st.live, fun a o e => ?_, fun a h => ?_⟩
            · have ne : a ≠ Dl := fun z => k3 (z ▸ List.mem_of_getElem? h2)
              exact NdAt.stay (g := g6) (g1 := ⟨g6.Φ, g6.ι, upd g6.H Dl (.lst (vs ++ [y]))⟩) (fun _ _ h => h) ⟨[], by simp⟩ (fun o e => by show upd g6.H Dl _ a = _; rw [upd_ne ne]; exact e) (R6.st.at_ n nd a h1 h2)
            · show upd g6.H Dl _ a = _
              have ne : a ≠ Dl := fun z => by rw [z] at e; rw [k2] at e; cases e
              rw [upd_ne ne]; exact R6.st.sub a o e
            · show upd g6.H Dl _ a ≠ none
              have ne : a ≠ Dl := fun z => k3 (z ▸ h)
              rw [upd_ne ne]; exact R6.st.dom a h
          have p46 : Step g1 s1.st g6 st6' := p24.trans R1.st R4.st p6
          refine ⟨⟨g6.Φ, g6.ι, upd g6.H Dl (.lst (vs ++ [y]))⟩, st6', vs ++ [y], ws ++ [w], rfl, ⟨p46.phi, p46.io, fun a o e nl => ?_, p46.dm, fun a e => ?_, p46.dead⟩, st6, ?_, upd_same, k2, k3, ?_, hf2⟩
          · show upd g6.H Dl _ a = _
            have ne : a ≠ Dl := fun z => by rw [z, hD] at e; cases e
            rw [upd_ne ne]; exact p46.fr a o e nl
          · show upd g6.H Dl _ a ≠ none
            by_cases z : a = Dl
            · rw [z, upd_same]; exact fun z => nomatch z
            · rw [upd_ne z]; exact p46.there a e
          · exact ⟨sl4.1, fun j w' h => by
              obtain ⟨v', h1, h2⟩ := sl4.2 j w' h
              exact ⟨v', h1, h2.mono p6.phi p6.io⟩⟩
          · exact WrL.append (WrL.mono p6.phi p6.io hw4) (.cons q6 .nil)
        · cases hf2
    · have e : its.drop i = [] := List.drop_eq_nil_of_le (by omega)
      rw [e] at hf2
      unfold lcL at hf2
      have hf2 := (gchk_some hf2).2
      cases hf2
      refine .inl ⟨stop (by show its.length ≤ i; omega), ?_⟩
      exact k (.ref Dl) g2 (p1.trans R.st R1.st p2) ⟨o2, sl2⟩ ⟨Dl, rfl, ⟨vs, hDl, hw⟩, hDΦ, hDι, hDg, trivial⟩
theorem lc_ok {cv : Cv} (hcv : CvOk cv) {tt : TF} {fe : EF} {own : List Nat} {σ : L2.St} {H : Hp} {Q : VK} (h : upE X.K (eLcC cv fi t tt fe own) σ H Q) : tLc (upI X.K fi) (upGo X.K own t) (upT X.K tt) (upE X.K fe) own σ H Q := by
  obtain ⟨g, s, r, s', hg, R, hf, k⟩ := h
  obtain ⟨⟨⟨its, gd⟩, s1⟩, e1, hf⟩ := Option.bind_eq_some_iff.mp hf
  obtain ⟨⟨acc, st2⟩, e2, hf⟩ := Option.map_eq_some_iff.mp hf
  cases hf
  dsimp only at e2 k
  subst hg
  exact ⟨g, s, ⟨its, gd⟩, s1, rfl, R, e1, fun J g1 p1 R1 hJ => lc_in (H := g.H) hcv R p1 R1 hJ e2 k⟩
theorem v_lcC {cv : Cv} (hcv : CvOk cv) {elt : Expr} {ifs : List Expr} {scope : Scope} {own : List (Str × Nat)} {tt : TF} {fe : EF} (hc : X.calm = true) (hN : X.N.Nodup) (hi : VI X tg iter fi) (ok : BlkOk X.N X.env.scope scope own)
    (hg : ∀ (s : Shared) (H : Hp) (C : Addr) (cl : List (Str × Addr)) (fp : List Addr), VGo (X.blk s H scope (compEnvC scope cl C X.env) fp) (own.map (·.2)) tg t) (ht : ∀ (s : Shared) (H : Hp) (C : Addr) (cl : List (Str × Addr)) (fp : List Addr), VTs (X.blk s H scope (compEnvC scope cl C X.env) fp) ifs tt)
    (he : ∀ (s : Shared) (H : Hp) (C : Addr) (cl : List (Str × Addr)) (fp : List Addr), VE (X.blk s H scope (compEnvC scope cl C X.env) fp) elt fe) (hs : ∀ x, foldedSetIterable iter X.env x = pure x := by intro _; rfl) :
    VE X (.ListComp elt [⟨tg, iter, ifs, 0⟩] scope pos) (eLcC cv fi t tt fe (own.map (·.2))) :=
  ⟨(pe_lc hc hN hi.pi ok (fun s H C cl fp => (hg s H C cl fp).pg) (fun s H C cl fp => (ht s H C cl fp).pts) (fun s H C cl fp => (he s H C cl fp).pe) hs).imp fun σ H Q q => lc_ok hcv q⟩
end
end NV

namespace NV
open PySem PySem.Spec PyProof.Rows L2
section
variable {X : Cx} {a b c e : Expr} {es : List Expr} {fa fb fc f : EF} {ff : AF} {pos : Pos} {K : PySem.W.Frag} {g g1 : G} {v : V} {σ : L2.St} {s s1 : S} {st st1 : Sto}

/-! ### defs -/
abbrev FF := List W → Sto → Option (R × Sto)
def runF (n : Nat) (h : SF) : FF := fun ws st => (h ⟨ws.map some ++ List.replicate (n - ws.length) none, st⟩).bind fun o => match o with
  | .nx s => some (.val (.d .non), s.st)
  | .rt r s => some (r, s.st)
  | _ => none
def spF (K : PySem.W.Frag) (n : Nat) (F : FF) : Sp := fun vs H Q _ => ∃ g ws st r st', g.H = H ∧ StOk K g st ∧ WrL K g.Φ g.ι vs ws ∧ ws.length = n ∧ F ws st = some (r, st') ∧
  ∀ v g', Step g st g' st' → StOk K g' st' → RR K g.H g' v r → Q v g'.H
theorem start_ok {ws : List W} {vs : List V} {N : List Str} (o : StOk K g st) (h : WrL K g.Φ g.ι vs ws) : Rel K g (L2.start N vs) ⟨ws.map some ++ List.replicate (N.length - ws.length) none, st⟩ := by
  refine ⟨o, ?_, fun i w e => ?_⟩
  · simp [L2.start, h.length]
  · have e : (ws.map some ++ List.replicate (N.length - ws.length) none)[i]? = some (some w) := e
    by_cases hi : i < ws.length
    · rw [List.getElem?_append_left (by simpa using hi), List.getElem?_map] at e
      obtain ⟨w', h1, h2⟩ := Option.map_eq_some_iff.mp e
      cases h2
      obtain ⟨v, h3, h4⟩ := WrL.get h h1
      refine ⟨v, ?_, h4⟩
      unfold L2.start
      rw [List.getElem?_append_left (by rw [List.length_map, h.length]; exact hi), List.getElem?_map, h3]
      rfl
    · rw [List.getElem?_append_right (by simpa using hi), List.getElem?_replicate] at e
      split at e <;> cases e
theorem body_ok {N : List Str} {h : SF} {n : Nat} {vs : List V} {H : Hp} {Q : VK} {E : XK} (q : spF K n (runF N.length h) vs H Q E) : upS K h { nx := fun _ H' => Q .non H', rt := Q } (L2.start N vs) H := by
  obtain ⟨g, ws, st, r, st', hg, o, hw, hn, hf, k⟩ := q
  obtain ⟨out, e1, hf⟩ := Option.bind_eq_some_iff.mp hf
  refine ⟨g, _, out, hg, start_ok o hw, e1, ?_⟩
  cases out with
  | nx s => cases hf; exact fun σ' g' p R => k .non g' p R.st Dd.non
  | rt r s => cases hf; exact fun v σ' g' p R z => k v g' p R.st z
  | bk s => cases hf
  | ct s => cases hf
theorem fn_ok {P : Program} {w : World} {mg : Str → Option Value} {base : Heap} {x qual : Str} {params : Arguments} {body : List Stmt} {scope : Scope} {f : Addr} {fd : FuncData} {N ps : List Str} {k : Nat} {h : SF}
    (F : FunD K x qual params body scope [] [] f fd) (Sc : FnScope N ps scope)
    (hd : ∀ (cdv : Value) (A : Around) (outer : List Env) (s : Shared) (H : Hp) (E : XK), Room k (A.deeper (envOfC qual scope s.heap.objs.size f cdv)) → VSs (cxOf CX0 P w K mg base N qual scope f cdv A outer s H E).nox body h) :
    FnOk P w K mg base CX0 (k + 1) f fd ps (spF K ps.length (runF N.length h)) :=
  F.ok Sc (fun vs H Q E ⟨g, ws, st, r, st', hg, o, hw, hn, hf, k⟩ => by rw [WrL.length hw]; exact hn) fun cdv A outer s H vs Q E hr q => ⟨_, PSs.nox (hd cdv A outer s H E hr).pss, body_ok q⟩

/-! ### calls -/
theorem dats_wr {Φ : Hp} {ι ι' : List Addr} {vs : List V} {ws : List W} {ds : List D} (h : WrL K Φ ι vs ws) (e : dats ws = some ds) : WrL K Φ ι' vs ws := by
  obtain ⟨h1, h2⟩ := dats_ok h e
  rw [h2]; exact h1.wr
theorem datk_eq : ∀ {ws : List (Key × W)} {ds : List (Key × D)}, datk ws = some ds → ws = ds.map fun p => (p.1, .d p.2)
  | [], _, h => by cases h; rfl
  | (k, w) :: r, _, h => by
    cases w with
    | d x =>
      unfold datk at h
      obtain ⟨ds', h1, h2⟩ := Option.map_eq_some_iff.mp h
      cases h2
      rw [datk_eq h1]; rfl
    | obj n => unfold datk at h; cases h
    | tp n => unfold datk at h; cases h
theorem Nd.dat_at {g g1 : G} {a : Addr} {nd : Nd} {d : D} (h : NdAt K g a nd) (e : nd.dat = some d) (hΦ : ∀ a o, g.Φ a = some o → g1.Φ a = some o) (hH : ∀ o, g.H a = some o → g1.H a = some o) : NdAt K g1 a nd := by
  cases nd with
  | lst ws =>
    obtain ⟨ds, e1, rfl⟩ := Option.map_eq_some_iff.mp e
    obtain ⟨vs, h1, h2⟩ := h
    exact ⟨vs, hH _ h1, dats_wr (ι := g.ι) (WrL.mono (ι := g.ι) (ι' := g.ι) hΦ ⟨[], by simp⟩ h2) e1⟩
  | dct kws =>
    obtain ⟨ds, e1, rfl⟩ := Option.map_eq_some_iff.mp e
    obtain ⟨vs, h1, h2⟩ := h
    have q := datk_ok h2 e1
    refine ⟨vs, hH _ h1, ?_⟩
    rw [datk_eq e1]
    exact (q.mono hΦ).wr
  | ins _ _ => cases e
  | tab _ _ => cases e
/-- an outcome without numbers (those from n0 on are made into new things) -/
def R.pure (n0 : Nat) (st : Sto) : R → Option R
  | .val (.d x) => some (.val (.d x))
  | .new nd => if nd.dat.isSome = true then some (.new nd) else none
  | .val (.obj n) => if n0 ≤ n then (match st[n]? with
    | some (some nd) => if nd.dat.isSome = true then some (.new nd) else none
    | _ => none) else none
  | .val (.tp _) => none
/-- a callee's world: the objects at ι0 alone -/
theorem callee {ιc : List Addr} {stc stc' : Sto} {gc' : G} (o : StOk K g st) (hs : ∀ a ∈ ιc, a ∈ g.ι) (oc : StOk K ⟨g.Φ, ιc, g.H⟩ stc) (p : Step ⟨g.Φ, ιc, g.H⟩ stc gc' stc') (oc' : StOk K gc' stc') {v : V} {r r' : R}
    (q : RR K g.H gc' v r) (e : r.pure ιc.length stc' = some r') : RR K g.H ⟨gc'.Φ, g.ι, gc'.H⟩ v r' := by
  have newN : ∀ (a : Addr) (nd : Nd), NdAt K gc' a nd → nd.dat.isSome = true → gc'.Φ a = none → g.H a = none → (match nd with | .ins _ _ => False | .tab _ _ => False | _ => True) → RR K g.H ⟨gc'.Φ, g.ι, gc'.H⟩ (.ref a) (.new nd) := fun a nd h1 h2 h3 h4 h5 => by
    obtain ⟨d, hd⟩ := Option.isSome_iff_exists.mp h2
    exact ⟨a, rfl, Nd.dat_at h1 hd (fun _ _ h => h) (fun _ h => h), h3, o.ok.nmem h4, h4, h5⟩
  cases r with
  | val w =>
    cases w with
    | d x => cases e; exact q
    | obj n =>
      unfold R.pure at e
      dsimp only at e
      split at e
      · rename_i hn
        split at e
        · rename_i nd hnd
          split at e
          · rename_i hd
            cases e
            obtain ⟨a, ha, rfl⟩ := q
            have hl := oc'.live n nd a hnd ha
            have hH : g.H a = none := by
              rcases p.dm a (.inr (List.mem_of_getElem? ha)) with z | z | z
              · cases e : g.Φ a with
                | none => exact (z e).elim
                | some ob => rw [p.phi a ob e] at hl; cases hl
              · obtain ⟨m, hm⟩ := mem_get z
                obtain ⟨more, em⟩ := p.io
                have e2 : gc'.ι[m]? = some a := by rw [em]; exact pre_get hm
                have := nodup_at oc'.nd ha e2
                have hm' : m < ιc.length := (List.getElem?_eq_some_iff.mp hm).1
                omega
              · exact z
            refine newN a nd (oc'.at_ n nd a hnd ha) hd hl hH ?_
            cases nd with
            | ins _ _ => cases hd
            | tab _ _ => cases hd
            | _ => trivial
          · cases e
        · cases e
      · cases e
    | tp es => cases e
  | new nd =>
    unfold R.pure at e
    dsimp only at e
    split at e
    · rename_i hd
      cases e
      obtain ⟨a, rfl, h1, h2, h3, h4, h5⟩ := q
      exact newN a nd h1 hd h2 h4 h5
    · cases e
/-- a def of data alone -/
def callP (F : FF) (ds : List D) : Option R := (F (ds.map .d) []).bind fun p => p.1.pure 0 p.2
def eCallP (F : FF) (ff : AF) : EF := fun s => (ff s).bind fun p => (dats p.1).bind fun ds => (callP F ds).map fun r => (r, p.2)
theorem sp_callP {F : FF} {n : Nat} {σ : L2.St} {H : Hp} {Q : VK} (hn : es.length = n) (ha : VA X es ff) (hl : ∀ s ws s', ff s = some (ws, s') → ws.length = es.length) (h : upE X.K (eCallP F ff) σ H Q) : upA X.K ff σ H fun vs H1 => spF X.K n F (vs ++ []) H1 Q E0 := by
  obtain ⟨g, s, r, s', hg, R, hf, k⟩ := h
  obtain ⟨⟨ws, s1⟩, e1, hf⟩ := Option.bind_eq_some_iff.mp hf
  obtain ⟨ds, e2, hf⟩ := Option.bind_eq_some_iff.mp hf
  obtain ⟨r', e3, hf⟩ := Option.map_eq_some_iff.mp hf
  cases hf
  dsimp only at e2 k
  obtain ⟨⟨r0, st0⟩, e4, e5⟩ := Option.bind_eq_some_iff.mp e3
  subst hg
  refine ⟨g, s, ws, s1, rfl, R, e1, fun vs g1 p1 R1 q1 => ?_⟩
  show spF X.K n F (vs ++ []) g1.H Q E0; rw [List.append_nil]
  obtain ⟨_, ews⟩ := dats_ok q1 e2
  have oc : StOk X.K ⟨g1.Φ, [], g1.H⟩ [] := ⟨rfl, fun n nd a h _ => by simp at h, List.nodup_nil, fun n x a h _ => by simp at h, R1.st.sub, fun a h => by simp at h⟩
  refine ⟨⟨g1.Φ, [], g1.H⟩, ws, [], r0, st0, rfl, oc, dats_wr q1 e2, by rw [hl _ _ _ e1]; exact hn, by rw [ews]; exact e4, fun v g' p o' q => ?_⟩
  have q' := callee R1.st (fun a h => by simp at h) oc p o' q e5
  have nl : ∀ a, ¬ Liv ⟨g1.Φ, [], g1.H⟩ [] a := fun a ⟨n, x, h, _⟩ => by simp at h
  have fr : ∀ a o, g1.H a = some o → g'.H a = some o := fun a o h => p.fr a o h (nl a)
  have dm : ∀ a, g'.Φ a ≠ none → g1.Φ a ≠ none ∨ g1.H a = none := fun a h => by
    rcases p.dm a (.inl h) with z | z | z
    · exact .inl z
    · simp at z
    · exact .inr z
  have x : Ext g1 ⟨g'.Φ, g1.ι, g'.H⟩ := ⟨p.phi, rfl, fr, dm, o'.sub⟩
  exact k v ⟨g'.Φ, g1.ι, g'.H⟩ (p1.trans R.st R1.st x.step) (x.rel R1) (q'.back R.st p1)
theorem v_callP {F : FF} {n k : Nat} {fad : Addr} {fd : FuncData} {ps : List Str} {x : Str} {p : Pos} (G : FnOk X.prog X.w X.K X.mg X.base CX0 k fad fd ps (spF X.K n F)) (hr : Room k X.A) (hg : Gl X x) (hm : X.mg x = some (.ref fad)) (hk : PySem.W.keepIn X.K (.ref fad) = true) (hb : Binds X.K fd ps [])
    (ha : VA X (e :: es) ff) (hl : ∀ s ws s', ff s = some (ws, s') → ws.length = (e :: es).length) (hn : (e :: es).length = n) (hdb : (x == ("__debug__" : Str)) = false := by decide) (he : starEach (e :: es) X.env = (false, eval e X.env) :: starEach es X.env := by rfl) (hpl : (backTo pos (starEach es X.env)).any (·.1) = false := by rfl) :
    VE X (.Call (.Name x p) (e :: es) [] pos) (eCallP F ff) := ⟨(pe_call G hr hg hm hk hb .nil pass0 ha.pa hdb he hpl).imp fun σ H Q q => sp_callP hn ha hl q⟩
theorem aNil_len : ∀ s ws s', aNil s = some (ws, s') → ws.length = ([] : List Expr).length := fun s ws s' h => by cases h; rfl
theorem aCons_len (h : ∀ s ws s', ff s = some (ws, s') → ws.length = es.length) : ∀ s ws s', aCons fa ff s = some (ws, s') → ws.length = (e :: es).length := fun s ws s' q => by
  obtain ⟨⟨ra, s1⟩, e1, q⟩ := Option.bind_eq_some_iff.mp q
  obtain ⟨w, e2, q⟩ := Option.bind_eq_some_iff.mp q
  obtain ⟨⟨rs, s2⟩, e3, q⟩ := Option.map_eq_some_iff.mp q
  cases q
  have := h _ _ _ e3
  simp [this]
/-! ### a def of data, lent things that stay as they are -/
mutual
/-- no list, dict inside -/
def D.tupo : D → Bool
  | .non => true
  | .bl _ => true
  | .int _ => true
  | .str _ => true
  | .tup l => D.tupos l
  | _ => false
def D.tupos : List D → Bool
  | [] => true
  | d :: l => D.tupo d && D.tupos l
end
mutual
theorem Dd.tupo {h h' : Hp} (e : ∀ a vs, h a = some (.tup vs) → h' a = some (.tup vs)) {v : V} {d : D} : Dd K h v d → d.tupo = true → Dd K h' v d
  | .non, _ => .non
  | .bl, _ => .bl
  | .int, _ => .int
  | .str, _ => .str
  | .ty, _ => .ty
  | .exc _, q => by simp [D.tupo] at q
  | .lst _ _, q => by simp [D.tupo] at q
  | .lsw _ _, q => by simp [D.tupo] at q
  | .tup s l, q => .tup (e _ _ s) (DdL.tupo e l (by simpa [D.tupo] using q))
  | .dct _ _, q => by simp [D.tupo] at q
theorem DdL.tupo {h h' : Hp} (e : ∀ a vs, h a = some (.tup vs) → h' a = some (.tup vs)) {vs : List V} {ds : List D} : DdL K h vs ds → D.tupos ds = true → DdL K h' vs ds
  | .nil, _ => .nil
  | .cons a b, q => by
    simp only [D.tupos, Bool.and_eq_true] at q
    exact .cons (Dd.tupo e a q.1) (DdL.tupo e b q.2)
end
def R.lendOk : R → Bool
  | .val (.d x) => x.tupo
  | .new (.lst ws) => match dats ws with
    | some ds => D.tupos ds
    | none => false
  | _ => false
def lend (st : Sto) : List W → Option (List D)
  | [] => some []
  | .d x :: r => (lend st r).map fun y => x :: y
  | .obj n :: r => match st[n]? with
    | some (some nd) => nd.dat.bind fun d => (lend st r).map fun y => d :: y
    | _ => none
  | .tp _ :: _ => none
def eCallL (F : FF) (ff : AF) : EF := fun s => (ff s).bind fun p => (lend p.2.st p.1).bind fun ds => (callP F ds).bind fun r => if r.lendOk = true then some (r, p.2) else none
open Classical in
noncomputable def lentΦ (g : G) (st : Sto) : Hp := fun a => if Liv g st a then g.H a else g.Φ a
theorem lent_sub {g : G} {st : Sto} (o : StOk K g st) : ∀ a ob, g.Φ a = some ob → lentΦ g st a = some ob := fun a ob h => by
  unfold lentΦ
  split
  · exact o.sub _ _ h
  · exact h
theorem lent_H {g : G} {st : Sto} (o : StOk K g st) : ∀ a ob, lentΦ g st a = some ob → g.H a = some ob := fun a ob h => by
  unfold lentΦ at h
  split at h
  · exact h
  · exact o.sub _ _ h
theorem DdL.wr' {Φ : Hp} {ι : List Addr} {vs : List V} {ds : List D} (h : DdL K Φ vs ds) : WrL K Φ ι vs (ds.map .d) := h.wr
/-- a def of one mutable thing and data -/
def argB : List W → Option (Nat × List W)
  | [] => none
  | .obj b :: r => (dats r).map fun _ => (b, .obj 0 :: r)
  | .d x :: r => (argB r).map fun p => (p.1, .d x :: p.2)
  | .tp _ :: _ => none
def callB (F : FF) (ws : List W) (nd : Nd) : Option (R × Nd) := (F ws [some nd]).bind fun p => (p.1.pure 1 p.2).bind fun r => match p.2[0]? with
  | some (some nd') => if nd'.dat.isSome = true then some (r, nd') else none
  | _ => none
def eCallB (F : FF) (ff : AF) : EF := fun s => (ff s).bind fun p => (argB p.1).bind fun q => match p.2.st[q.1]? with
  | some (some nd) => if nd.dat.isSome = true then (callB F q.2 nd).map fun r => (r.1, { p.2 with st := p.2.st.set q.1 (some r.2) }) else none
  | _ => none
theorem argB_ok {Φ : Hp} {ι : List Addr} : ∀ {vs : List V} {ws ws' : List W} {b : Nat}, WrL K Φ ι vs ws → argB ws = some (b, ws') → ∃ a, ι[b]? = some a ∧ WrL K Φ [a] vs ws' ∧ ws'.length = ws.length
  | _, [], _, _, .nil, h => by cases h
  | _, w :: ws, _, _, .cons a1 b1, h => by
    cases w with
    | obj n =>
      unfold argB at h
      obtain ⟨ds, h1, h2⟩ := Option.map_eq_some_iff.mp h
      cases h2
      obtain ⟨a, ha, rfl⟩ := a1
      exact ⟨a, ha, .cons ⟨a, rfl, rfl⟩ (dats_wr b1 h1), rfl⟩
    | d x =>
      unfold argB at h
      obtain ⟨p, h1, h2⟩ := Option.map_eq_some_iff.mp h
      cases h2
      obtain ⟨a, ha, hw, hl⟩ := argB_ok b1 h1
      exact ⟨a, ha, .cons a1 hw, by simp [hl]⟩
    | tp es => unfold argB at h; cases h
theorem sp_callB {F : FF} {n : Nat} {σ : L2.St} {H : Hp} {Q : VK} (hn : es.length = n) (ha : VA X es ff) (hl : ∀ s ws s', ff s = some (ws, s') → ws.length = es.length) (h : upE X.K (eCallB F ff) σ H Q) : upA X.K ff σ H fun vs H1 => spF X.K n F (vs ++ []) H1 Q E0 := by
  obtain ⟨g, s, r, s', hg, R, hf, k⟩ := h
  obtain ⟨⟨ws, s1⟩, e1, hf⟩ := Option.bind_eq_some_iff.mp hf
  obtain ⟨⟨bo, ws'⟩, e2, hf⟩ := Option.bind_eq_some_iff.mp hf
  dsimp only at hf e2
  split at hf
  · rename_i nd hnd
    split at hf
    · rename_i hpd
      obtain ⟨⟨r', nd'⟩, e3, hf⟩ := Option.map_eq_some_iff.mp hf
      cases hf
      dsimp only at k
      obtain ⟨⟨r0, st0⟩, e4, e5⟩ := Option.bind_eq_some_iff.mp e3
      obtain ⟨r1, e6, e5⟩ := Option.bind_eq_some_iff.mp e5
      dsimp only at e5 e6
      split at e5
      · rename_i nd2 hnd2
        split at e5
        · rename_i hpd2
          cases e5
          subst hg
          refine ⟨g, s, ws, s1, rfl, R, e1, fun vs g1 p1 R1 q1 => ?_⟩
          show spF X.K n F (vs ++ []) g1.H Q E0; rw [List.append_nil]
          obtain ⟨ad, had, hw, hlen⟩ := argB_ok q1 e2
          obtain ⟨dd, hdd⟩ := Option.isSome_iff_exists.mp hpd
          obtain ⟨dd2, hdd2⟩ := Option.isSome_iff_exists.mp hpd2
          have hmem : ad ∈ g1.ι := List.mem_of_getElem? had
          have oc : StOk X.K ⟨g1.Φ, [ad], g1.H⟩ [some nd] := by
            refine ⟨rfl, fun m x a h1 h2 => ?_, by simp, fun m x a h1 h2 => ?_, R1.st.sub, fun a h => ?_⟩
            · cases m with
              | zero =>
                simp at h1 h2
                subst h1 h2
                exact Nd.dat_at (R1.st.at_ bo nd ad hnd had) hdd (fun _ _ h => h) fun _ h => h
              | succ m => simp at h1
            · cases m with
              | zero =>
                simp at h2
                subst h2
                exact R1.st.live bo nd ad hnd had
              | succ m => simp at h1
            · have : a = ad := by simpa using h
              rw [this]; exact R1.st.dom ad hmem
          refine ⟨⟨g1.Φ, [ad], g1.H⟩, ws', [some nd], r0, st0, rfl, oc, hw, by rw [hlen, hl _ _ _ e1]; exact hn, e4, fun v g' p o' q => ?_⟩
          have q' := callee R1.st (fun a h => by have : a = ad := by simpa using h
                                                 rw [this]; exact hmem) oc p o' q e6
          have hl0 : Liv ⟨g1.Φ, [ad], g1.H⟩ [some nd] ad := ⟨0, nd, rfl, rfl⟩
          have nl : ∀ a, a ≠ ad → ¬ Liv ⟨g1.Φ, [ad], g1.H⟩ [some nd] a := fun a ne ⟨m, x, h1, h2⟩ => by
            cases m with
            | zero => simp at h2; exact ne h2.symm
            | succ m => simp at h1
          have fr : ∀ a o, a ≠ ad → g1.H a = some o → g'.H a = some o := fun a o ne h => p.fr a o h (nl a ne)
          have h0 : g'.ι[0]? = some ad := by
            obtain ⟨more, em⟩ := p.io
            rw [em]; rfl
          have dm : ∀ a, g'.Φ a ≠ none → g1.Φ a ≠ none ∨ a = ad ∨ g1.H a = none := fun a h => by
            rcases p.dm a (.inl h) with z | z | z
            · exact .inl z
            · exact .inr (.inl (by simpa using z))
            · exact .inr (.inr z)
          have hlb : g'.Φ ad = none := o'.live 0 _ ad hnd2 h0
          have hbn : bo < s1.st.length := (List.getElem?_eq_some_iff.mp hnd).1
          have stp : Step g1 s1.st ⟨g'.Φ, g1.ι, g'.H⟩ (s1.st.set bo (some nd')) := by
            refine ⟨p.phi, ⟨[], by simp⟩, fun a o h nl' => fr a o (fun z => nl' ⟨bo, nd, hnd, z ▸ had⟩) h, fun a h => ?_, p.there, fun m hm h x => ?_⟩
            · rcases h with h | h
              · rcases dm a h with z | z | z
                · exact .inl z
                · exact .inr (.inl (z ▸ hmem))
                · exact .inr (.inr z)
              · exact .inr (.inl h)
            · by_cases e : bo = m
              · subst e; exact (h nd hnd).elim
              · rw [List.getElem?_set_ne e]; exact h x
          have sto : StOk X.K ⟨g'.Φ, g1.ι, g'.H⟩ (s1.st.set bo (some nd')) := by
            refine ⟨by rw [List.length_set]; exact R1.st.len, fun m x a h1 h2 => ?_, R1.st.nd, fun m x a h1 h2 => ?_, o'.sub, fun a h => p.there a (R1.st.dom a h)⟩
            · by_cases e : bo = m
              · subst e
                rw [List.getElem?_set_self hbn] at h1
                cases h1
                have e9 : a = ad := Option.some.inj (h2.symm.trans had)
                rw [e9]
                exact Nd.dat_at (o'.at_ 0 _ ad hnd2 h0) hdd2 (fun _ _ h => h) fun _ h => h
              · rw [List.getElem?_set_ne e] at h1
                have ne : a ≠ ad := fun z => e (nodup_at R1.st.nd had (z ▸ h2))
                exact NdAt.stay (g := g1) (g1 := ⟨g'.Φ, g1.ι, g'.H⟩) p.phi ⟨[], by simp⟩ (fun o h => fr a o ne h) (R1.st.at_ m x a h1 h2)
            · by_cases e : bo = m
              · subst e
                have : some a = some ad := h2.symm.trans had
                cases this
                exact hlb
              · rw [List.getElem?_set_ne e] at h1
                have ne : a ≠ ad := fun z => e (nodup_at R1.st.nd had (z ▸ h2))
                have hl' := R1.st.live m x a h1 h2
                show g'.Φ a = none
                cases e2 : g'.Φ a with
                | none => rfl
                | some ob =>
                  rcases dm a (by rw [e2]; exact fun z => nomatch z) with z | z | z
                  · exact (z hl').elim
                  · exact (ne z).elim
                  · exact (R1.st.dom a (List.mem_of_getElem? h2) z).elim
          refine k v ⟨g'.Φ, g1.ι, g'.H⟩ (p1.trans R.st R1.st stp) ⟨sto, R1.sl.step stp⟩ (q'.back R.st p1)
        · cases e5
      · cases e5
    · cases hf
  · cases hf
theorem v_callB' {F : FF} {n k : Nat} {fad : Addr} {fd : FuncData} {ps : List Str} {x : Str} {p : Pos} (G : FnOk X.prog X.w X.K X.mg X.base CX0 k fad fd ps (spF X.K n F)) (hr : Room k X.A) (hg : Gl X x) (hm : X.mg x = some (.ref fad)) (hk : PySem.W.keepIn X.K (.ref fad) = true) (hb : Binds X.K fd ps [])
    (ha : VA X (e :: es) ff) (hl : ∀ s ws s', ff s = some (ws, s') → ws.length = (e :: es).length) (hn : (e :: es).length = n) (hdb : (x == ("__debug__" : Str)) = false := by decide) (he : starEach (e :: es) X.env = (false, eval e X.env) :: starEach es X.env := by rfl) (hpl : (backTo pos (starEach es X.env)).any (·.1) = false := by rfl) :
    VE X (.Call (.Name x p) (e :: es) [] pos) (eCallB F ff) := ⟨(pe_call G hr hg hm hk hb .nil pass0 ha.pa hdb he hpl).imp fun σ H Q q => sp_callB hn ha hl q⟩
/-- a def that sees the whole store -/
def eCallG (F : FF) (ff : AF) : EF := fun s => (ff s).bind fun p => (F p.1 p.2.st).map fun q => (q.1, { p.2 with st := q.2 })
theorem sp_callG {F : FF} {n : Nat} {σ : L2.St} {H : Hp} {Q : VK} (hn : es.length = n) (ha : VA X es ff) (hl : ∀ s ws s', ff s = some (ws, s') → ws.length = es.length) (h : upE X.K (eCallG F ff) σ H Q) : upA X.K ff σ H fun vs H1 => spF X.K n F (vs ++ []) H1 Q E0 := by
  obtain ⟨g, s, r, s', hg, R, hf, k⟩ := h
  obtain ⟨⟨ws, s1⟩, e1, hf⟩ := Option.bind_eq_some_iff.mp hf
  obtain ⟨⟨r', st'⟩, e2, hf⟩ := Option.map_eq_some_iff.mp hf
  cases hf
  subst hg
  refine ⟨g, s, ws, s1, rfl, R, e1, fun vs g1 p1 R1 q1 => ?_⟩
  show spF X.K n F (vs ++ []) g1.H Q E0; rw [List.append_nil]
  exact ⟨g1, ws, s1.st, _, _, rfl, R1.st, q1, by rw [hl _ _ _ e1]; exact hn, e2, fun v g' p o q => k v g' (p1.trans R.st R1.st p) ⟨o, R1.sl.step p⟩ (q.back R.st p1)⟩
theorem v_callG {F : FF} {n k : Nat} {fad : Addr} {fd : FuncData} {ps : List Str} {x : Str} {p : Pos} (G : FnOk X.prog X.w X.K X.mg X.base CX0 k fad fd ps (spF X.K n F)) (hr : Room k X.A) (hg : Gl X x) (hm : X.mg x = some (.ref fad)) (hk : PySem.W.keepIn X.K (.ref fad) = true) (hb : Binds X.K fd ps [])
    (ha : VA X (e :: es) ff) (hl : ∀ s ws s', ff s = some (ws, s') → ws.length = (e :: es).length) (hn : (e :: es).length = n) (hdb : (x == ("__debug__" : Str)) = false := by decide) (he : starEach (e :: es) X.env = (false, eval e X.env) :: starEach es X.env := by rfl) (hpl : (backTo pos (starEach es X.env)).any (·.1) = false := by rfl) :
    VE X (.Call (.Name x p) (e :: es) [] pos) (eCallG F ff) := ⟨(pe_call G hr hg hm hk hb .nil pass0 ha.pa hdb he hpl).imp fun σ H Q q => sp_callG hn ha hl q⟩
end
end NV

namespace NV
open PySem PySem.Spec PyProof.Rows L2
section
variable {X : Cx} {a b c e : Expr} {es : List Expr} {fa fb fc f : EF} {ff : AF} {pos : Pos} {K : PySem.W.Frag} {g g1 : G} {v : V} {σ : L2.St} {s s1 : S} {st st1 : Sto}

theorem v_bltn {x : Str} {n : String} (hg : Gl X x) (hm : X.mg x = none) (hv : bootBuiltins x = some (.type n)) (hn : x ≠ "__name__" := by decide) (hd : (x == ("__debug__" : Str)) = false := by decide) : VE X (.Name x pos) (eC (.ty n)) :=
  v_const (pe_bltn (v := .ty n) hg hm hv rfl hn hd) fun _ => .ty

theorem one_vu {vs : List V} {u : Vu} (h : Paired (VuOk K g) vs [u]) : ∃ v, vs = [v] ∧ VuOk K g v u := by
  cases h with
  | cons a b => cases b; exact ⟨_, rfl, a⟩
theorem two_vu {vs : List V} {u w : Vu} (h : Paired (VuOk K g) vs [u, w]) : ∃ v v', vs = [v, v'] ∧ VuOk K g v u ∧ VuOk K g v' w := by
  cases h with
  | cons a b => cases b with
    | cons b c => cases c; exact ⟨_, _, rfl, a, b⟩

/-! ### len -/
def hLen : CaH
  | [.at (.str z)] => if z.length ≤ sizeLine then some (iR z.length) else none
  | [.lst ws] => some (iR ws.length)
  | [.lsw ws] => some (iR ws.length)
  | [.tup ws] => some (iR ws.length)
  | [.dct kws] => some (iR kws.length)
  | [.at (.tpw ds)] => some (iR ds.length)
  | _ => none
theorem wrk_len {Φ : Hp} {ι : List Addr} {κ : Type} : ∀ {kvs : List (κ × V)} {kws : List (κ × W)}, WrK K Φ ι kvs kws → kvs.length = kws.length
  | _, _, .nil => rfl
  | _, _, .cons _ b => by rw [List.length_cons, List.length_cons, wrk_len b]
theorem call_len2 : CallR X (.builtin "len") (fun xs H Q => (∃ x n, xs = [x] ∧ LenV X.K x H n ∧ Q (.int n) H) ∨ ∃ a kvs, xs = [V.ref a] ∧ H a = some (.dK kvs) ∧ Q (.int kvs.length) H) := by
  intro pins s σ H xs us Q I r h
  rcases h with h | h
  · exact call_len pins s σ H xs us Q I r h
  · exact call_lenD pins s σ H xs us Q I r h
theorem c_len0 : CaV X (.builtin "len") hLen := by
  refine ⟨_, call_len2, fun g vs us res Q go h e k => ?_⟩
  unfold hLen at e
  split at e
  · split at e
    · rename_i hz
      cases e
      obtain ⟨v, rfl, q⟩ := one_vu h
      cases q.str
      exact .inl ⟨_, _, rfl, ⟨hz, rfl⟩, k _ g (Ext.refl go) Dd.int⟩
    · cases e
  · cases e
    obtain ⟨v, rfl, a, vs, rfl, h1, h2⟩ := one_vu h
    exact .inl ⟨_, _, rfl, .inl ⟨vs, .inl (.inl h1), h2.length.symm⟩, k _ g (Ext.refl go) Dd.int⟩
  · cases e
    obtain ⟨v, rfl, a, vs, rfl, h1, h2⟩ := one_vu h
    exact .inl ⟨_, _, rfl, .inl ⟨vs, h1, h2.length.symm⟩, k _ g (Ext.refl go) Dd.int⟩
  · cases e
    obtain ⟨v, rfl, a, vs, rfl, h1, h2⟩ := one_vu h
    exact .inl ⟨_, _, rfl, .inr ⟨vs, .inl (.inl (go.sub _ _ h1)), h2.length.symm⟩, k _ g (Ext.refl go) Dd.int⟩
  · cases e
    obtain ⟨v, rfl, a, kvs, rfl, h1, h2⟩ := one_vu h
    refine .inr ⟨_, _, rfl, h1, k _ g (Ext.refl go) ?_⟩
    rw [wrk_len h2]
    exact Dd.int
  · cases e
    obtain ⟨v, rfl, q⟩ := one_vu h
    cases q.1 with
    | tpw h1 h2 => exact .inl ⟨_, _, rfl, .inr ⟨_, h1 _, h2.length.symm⟩, k _ g (Ext.refl go) Dd.int⟩
  · cases e
abbrev c_len : CaV X (.builtin "len") hLen := c_len0

/-! ### numbers -/
def hAbs : CaH
  | [.at (.int i)] => some (iR (if i < 0 then -i else i))
  | _ => none
theorem c_abs : CaV X (.builtin "abs") hAbs := by
  refine ⟨_, call_abs, fun g vs us res Q go h e k => ?_⟩
  unfold hAbs at e
  split at e
  · cases e
    obtain ⟨v, rfl, q⟩ := one_vu h
    cases q.int
    exact ⟨_, rfl, k _ g (Ext.refl go) Dd.int⟩
  · cases e
def hInt : CaH
  | [.at (.int i)] => some (iR i)
  | [.at (.bl b)] => some (iR (if b then 1 else 0))
  | _ => none
theorem c_int : CaV X (.type "int") hInt := by
  refine ⟨_, call_int1, fun g vs us res Q go h e k => ?_⟩
  unfold hInt at e
  split at e
  · cases e
    obtain ⟨v, rfl, q⟩ := one_vu h
    cases q.int
    exact .inl ⟨_, rfl, k _ g (Ext.refl go) Dd.int⟩
  · cases e
    obtain ⟨v, rfl, q⟩ := one_vu h
    cases q.bl
    exact .inr ⟨_, rfl, k _ g (Ext.refl go) Dd.int⟩
  · cases e
def hStr : CaH
  | [.at (.int i)] => if i.natAbs.log2 < 1920 then some (.val (.d (.str (toString i)))) else none
  | _ => none
def hDivmod : CaH
  | [.at (.int i), .at (.int j)] => if cDiv i j = true then some (.val (.d (.tup [.int (i / j), .int (i % j)]))) else none
  | _ => none
theorem c_divmod : CaV X (.builtin "divmod") hDivmod := by
  refine ⟨_, call_divmod, fun g vs us res Q go h e k => ?_⟩
  unfold hDivmod at e
  split at e
  · split at e
    · rename_i hz
      cases e
      obtain ⟨v, v', rfl, q, q'⟩ := two_vu h
      cases q.int
      cases q'.int
      unfold cDiv at hz
      simp only [Bool.and_eq_true, decide_eq_true_eq] at hz
      exact ⟨_, _, rfl, hz, new_tup go (.cons .int (.cons .int .nil)) k⟩
    · cases e
  · cases e
def hMax2 : CaH
  | [.at (.int i), .at (.int j)] => some (iR (if j > i then j else i))
  | _ => none
theorem c_max2 (hc : X.calm = true) : CaV X (.builtin "max") hMax2 := by
  refine ⟨_, call_max2 hc, fun g vs us res Q go h e k => ?_⟩
  unfold hMax2 at e
  split at e
  · cases e
    obtain ⟨v, v', rfl, q, q'⟩ := two_vu h
    cases q.int
    cases q'.int
    exact ⟨_, _, rfl, k _ g (Ext.refl go) Dd.int⟩
  · cases e
def hMin2 : CaH
  | [.at (.int i), .at (.int j)] => some (iR (if j < i then j else i))
  | _ => none
theorem c_min2 (hc : X.calm = true) : CaV X (.builtin "min") hMin2 := by
  refine ⟨_, call_min2 hc, fun g vs us res Q go h e k => ?_⟩
  unfold hMin2 at e
  split at e
  · cases e
    obtain ⟨v, v', rfl, q, q'⟩ := two_vu h
    cases q.int
    cases q'.int
    exact ⟨_, _, rfl, k _ g (Ext.refl go) Dd.int⟩
  · cases e

/-! ### sequences -/
def hList : CaH
  | [.lst ws] => some (.new (.lst ws))
  | [.lsw ws] => some (.new (.lst ws))
  | [.tup ws] => some (.new (.lst ws))
  | _ => none
theorem c_list : CaV X (.type "list") hList := by
  refine ⟨_, call_list_of, fun g vs us res Q go h e k => ?_⟩
  unfold hList at e
  split at e
  · cases e
    obtain ⟨v, rfl, a, vs, rfl, h1, h2⟩ := one_vu h
    exact ⟨a, vs, rfl, .inl (.inl (.inl h1)), new_lst go h2 k⟩
  · cases e
    obtain ⟨v, rfl, a, vs, rfl, h1, h2⟩ := one_vu h
    exact ⟨a, vs, rfl, .inl h1, new_lst go h2 k⟩
  · cases e
    obtain ⟨v, rfl, a, vs, rfl, h1, h2⟩ := one_vu h
    exact ⟨a, vs, rfl, .inr (.inl (.inl (go.sub _ _ h1))), new_lst go h2 k⟩
  · cases e
def hTuple : CaH
  | [.lst ws] => (dats ws).map fun ds => .val (.d (.tup ds))
  | [.lsw ws] => (dats ws).map fun ds => .val (.d (.tup ds))
  | [.tup ws] => (dats ws).map fun ds => .val (.d (.tup ds))
  | _ => none
theorem c_tuple : CaV X (.type "tuple") hTuple := by
  refine ⟨_, call_tuple_of, fun g vs us res Q go h e k => ?_⟩
  unfold hTuple at e
  split at e
  · obtain ⟨ds, e1, e⟩ := Option.map_eq_some_iff.mp e
    cases e
    obtain ⟨v, rfl, a, vs, rfl, h1, h2⟩ := one_vu h
    exact ⟨a, vs, rfl, .inl ⟨.inl (.inl h1), new_tup go (dats_ok h2 e1).1 k⟩⟩
  · obtain ⟨ds, e1, e⟩ := Option.map_eq_some_iff.mp e
    cases e
    obtain ⟨v, rfl, a, vs, rfl, h1, h2⟩ := one_vu h
    exact ⟨a, vs, rfl, .inl ⟨h1, new_tup go (dats_ok h2 e1).1 k⟩⟩
  · obtain ⟨ds, e1, e⟩ := Option.map_eq_some_iff.mp e
    cases e
    obtain ⟨v, rfl, a, vs, rfl, h1, h2⟩ := one_vu h
    exact ⟨a, vs, rfl, .inr ⟨.inl (.inl (go.sub _ _ h1)), k _ g (Ext.refl go) (Dd.tup h1 (dats_ok h2 e1).1)⟩⟩
  · cases e
def intsW : List W → Option (List Int)
  | [] => some []
  | .d (.int i) :: r => (intsW r).map fun y => i :: y
  | _ :: _ => none
theorem ints_ok {Φ : Hp} {ι : List Addr} : ∀ {vs : List V} {ws : List W} {ns : List Int}, WrL K Φ ι vs ws → intsW ws = some ns → vs = ns.map V.int
  | _, [], _, .nil, e => by cases e; rfl
  | _, .d (.int i) :: r, _, .cons a b, e => by
    unfold intsW at e
    obtain ⟨ns', e1, e⟩ := Option.map_eq_some_iff.mp e
    cases e
    cases a
    rw [ints_ok b e1]; rfl
theorem dd_ints {h : Hp} (ns : List Int) : DdL K h (ns.map V.int) (ns.map D.int) := by
  induction ns with
  | nil => exact .nil
  | cons d r ih => exact .cons .int ih
def bls : List W → Option (List Bool)
  | [] => some []
  | .d (.bl i) :: r => (bls r).map fun y => i :: y
  | _ :: _ => none
theorem bls_ok {Φ : Hp} {ι : List Addr} : ∀ {vs : List V} {ws : List W} {ns : List Bool}, WrL K Φ ι vs ws → bls ws = some ns → vs = ns.map V.bl
  | _, [], _, .nil, e => by cases e; rfl
  | _, .d (.bl i) :: r, _, .cons a b, e => by
    unfold bls at e
    obtain ⟨ns', e1, e⟩ := Option.map_eq_some_iff.mp e
    cases e
    cases a
    rw [bls_ok b e1]; rfl
def Vu.lw : Vu → Option (List W)
  | .lst ws => some ws
  | .lsw ws => some ws
  | _ => none
theorem Vu.lw_ok {u : Vu} {ws : List W} (h : VuOk K g v u) (e : u.lw = some ws) : ∃ a vs, v = .ref a ∧ SqL K g.H a vs ∧ WrL K g.Φ g.ι vs ws := by
  unfold Vu.lw at e
  split at e
  · cases e; obtain ⟨a, vs, h1, h2, h3⟩ := h; exact ⟨a, vs, h1, .inl (.inl h2), h3⟩
  · cases e; obtain ⟨a, vs, h1, h2, h3⟩ := h; exact ⟨a, vs, h1, h2, h3⟩
  · cases e
def hSum : CaH
  | [u] => u.lw.bind fun ws => (intsW ws).map fun ns => iR ns.sum
  | _ => none
def hAll : CaH
  | [u] => u.lw.bind fun ws => (bls ws).map fun ns => bR (ns.all id)
  | _ => none
theorem c_all (hc : X.calm = true) : CaV X (.builtin "all") hAll := by
  refine ⟨_, cr_all hc, fun g vs us res Q go h e k => ?_⟩
  unfold hAll at e
  split at e
  · obtain ⟨ws, e1, e⟩ := Option.bind_eq_some_iff.mp e
    obtain ⟨ns, e2, e⟩ := Option.map_eq_some_iff.mp e
    cases e
    obtain ⟨v, rfl, q⟩ := one_vu h
    obtain ⟨a, vs, rfl, h1, h2⟩ := Vu.lw_ok q e1
    cases bls_ok h2 e2
    exact ⟨a, ns, rfl, h1, k _ g (Ext.refl go) Dd.bl⟩
  · cases e
def hAny : CaH
  | [u] => u.lw.bind fun ws => (bls ws).map fun ns => bR (ns.any id)
  | _ => none
theorem c_any (hc : X.calm = true) : CaV X (.builtin "any") hAny := by
  refine ⟨_, cr_any hc, fun g vs us res Q go h e k => ?_⟩
  unfold hAny at e
  split at e
  · obtain ⟨ws, e1, e⟩ := Option.bind_eq_some_iff.mp e
    obtain ⟨ns, e2, e⟩ := Option.map_eq_some_iff.mp e
    cases e
    obtain ⟨v, rfl, q⟩ := one_vu h
    obtain ⟨a, vs, rfl, h1, h2⟩ := Vu.lw_ok q e1
    cases bls_ok h2 e2
    exact ⟨a, ns, rfl, h1, k _ g (Ext.refl go) Dd.bl⟩
  · cases e
/-- the greatest of a list that isn't empty -/
def maxI : List Int → Int
  | [] => 0
  | x :: r => r.foldl (fun m y => if y > m then y else m) x
def minI : List Int → Int
  | [] => 0
  | x :: r => r.foldl (fun m y => if y < m then y else m) x
theorem maxI_aux : ∀ (r : List Int) (x : Int), (∀ y ∈ r, y ≤ r.foldl (fun m y => if y > m then y else m) x) ∧ x ≤ r.foldl (fun m y => if y > m then y else m) x ∧ (r.foldl (fun m y => if y > m then y else m) x = x ∨ r.foldl (fun m y => if y > m then y else m) x ∈ r)
  | [], x => ⟨fun y h => (by simp at h), Int.le_refl x, .inl rfl⟩
  | z :: r, x => by
    obtain ⟨h1, h2, h3⟩ := maxI_aux r (if z > x then z else x)
    rw [List.foldl_cons]
    have h4 : z ≤ (if z > x then z else x) ∧ x ≤ (if z > x then z else x) := by split <;> omega
    refine ⟨fun y hy => ?_, Int.le_trans h4.2 h2, ?_⟩
    · rcases List.mem_cons.mp hy with rfl | hy
      · exact Int.le_trans h4.1 h2
      · exact h1 y hy
    · rcases h3 with h3 | h3
      · rw [h3]
        split
        · exact .inr List.mem_cons_self
        · exact .inl rfl
      · exact .inr (List.mem_cons_of_mem _ h3)
theorem minI_aux : ∀ (r : List Int) (x : Int), (∀ y ∈ r, r.foldl (fun m y => if y < m then y else m) x ≤ y) ∧ r.foldl (fun m y => if y < m then y else m) x ≤ x ∧ (r.foldl (fun m y => if y < m then y else m) x = x ∨ r.foldl (fun m y => if y < m then y else m) x ∈ r)
  | [], x => ⟨fun y h => (by simp at h), Int.le_refl x, .inl rfl⟩
  | z :: r, x => by
    obtain ⟨h1, h2, h3⟩ := minI_aux r (if z < x then z else x)
    rw [List.foldl_cons]
    have h4 : (if z < x then z else x) ≤ z ∧ (if z < x then z else x) ≤ x := by split <;> omega
    refine ⟨fun y hy => ?_, Int.le_trans h2 h4.2, ?_⟩
    · rcases List.mem_cons.mp hy with rfl | hy
      · exact Int.le_trans h2 h4.1
      · exact h1 y hy
    · rcases h3 with h3 | h3
      · rw [h3]
        split
        · exact .inr List.mem_cons_self
        · exact .inl rfl
      · exact .inr (List.mem_cons_of_mem _ h3)
theorem maxI_ok {ns : List Int} (h : 0 < ns.length) : maxI ns ∈ ns ∧ ∀ y ∈ ns, y ≤ maxI ns := by
  cases ns with
  | nil => simp at h
  | cons x r =>
    obtain ⟨h1, h2, h3⟩ := maxI_aux r x
    refine ⟨?_, fun y hy => ?_⟩
    · rcases h3 with h3 | h3
      · show r.foldl _ x ∈ _; rw [h3]; exact List.mem_cons_self
      · exact List.mem_cons_of_mem _ h3
    · rcases List.mem_cons.mp hy with rfl | hy
      · exact h2
      · exact h1 y hy
theorem minI_ok {ns : List Int} (h : 0 < ns.length) : minI ns ∈ ns ∧ ∀ y ∈ ns, minI ns ≤ y := by
  cases ns with
  | nil => simp at h
  | cons x r =>
    obtain ⟨h1, h2, h3⟩ := minI_aux r x
    refine ⟨?_, fun y hy => ?_⟩
    · rcases h3 with h3 | h3
      · show r.foldl _ x ∈ _; rw [h3]; exact List.mem_cons_self
      · exact List.mem_cons_of_mem _ h3
    · rcases List.mem_cons.mp hy with rfl | hy
      · exact h2
      · exact h1 y hy
def hMaxL : CaH
  | [u] => u.lw.bind fun ws => (intsW ws).bind fun ns => if 0 < ns.length then some (iR (maxI ns)) else none
  | _ => none
def hMinL : CaH
  | [u] => u.lw.bind fun ws => (intsW ws).bind fun ns => if 0 < ns.length then some (iR (minI ns)) else none
  | _ => none
theorem c_maxL (hc : X.calm = true) : CaV X (.builtin "max") hMaxL := by
  refine ⟨_, cr_max hc, fun g vs us res Q go h e k => ?_⟩
  unfold hMaxL at e
  split at e
  · obtain ⟨ws, e1, e⟩ := Option.bind_eq_some_iff.mp e
    obtain ⟨ns, e2, e⟩ := Option.bind_eq_some_iff.mp e
    split at e
    · rename_i hz
      cases e
      obtain ⟨v, rfl, q⟩ := one_vu h
      obtain ⟨a, vs, rfl, h1, h2⟩ := Vu.lw_ok q e1
      cases ints_ok h2 e2
      refine ⟨a, ns, rfl, h1, hz, fun m hm hle => ?_⟩
      obtain ⟨m1, m2⟩ := maxI_ok hz
      have : m = maxI ns := Int.le_antisymm (m2 m hm) (hle _ m1)
      rw [this]
      exact k _ g (Ext.refl go) Dd.int
    · cases e
  · cases e
theorem c_minL (hc : X.calm = true) : CaV X (.builtin "min") hMinL := by
  refine ⟨_, cr_min hc, fun g vs us res Q go h e k => ?_⟩
  unfold hMinL at e
  split at e
  · obtain ⟨ws, e1, e⟩ := Option.bind_eq_some_iff.mp e
    obtain ⟨ns, e2, e⟩ := Option.bind_eq_some_iff.mp e
    split at e
    · rename_i hz
      cases e
      obtain ⟨v, rfl, q⟩ := one_vu h
      obtain ⟨a, vs, rfl, h1, h2⟩ := Vu.lw_ok q e1
      cases ints_ok h2 e2
      refine ⟨a, ns, rfl, h1, hz, fun m hm hle => ?_⟩
      obtain ⟨m1, m2⟩ := minI_ok hz
      have : m = minI ns := Int.le_antisymm (hle _ m1) (m2 m hm)
      rw [this]
      exact k _ g (Ext.refl go) Dd.int
    · cases e
  · cases e
/-- intsW in order -/
def sortI (ns : List Int) : List Int := ns.mergeSort fun a b => decide (a ≤ b)
/-! ### isinstance -/
def tyN : Vu → Option String
  | .at .non => some "NoneType"
  | .at (.bl _) => some "bool"
  | .at (.int _) => some "int"
  | .at (.str _) => some "str"
  | .lst _ => some "list"
  | .tup _ => some "tuple"
  | .dct _ => some "dict"
  | _ => none
theorem tyN_ok {u : Vu} {t : String} (go : GOk g) (h : VuOk K g v u) (e : tyN u = some t) : TyX K g.H v (.type t) := by
  unfold tyN at e
  split at e <;> cases e
  · rw [h.non]; exact .base .non
  · rw [h.bl]; exact .base (.bl _)
  · rw [h.int]; exact .base (.int _)
  · rw [h.str]; exact .base (.str _)
  · obtain ⟨a, vs, rfl, h1, h2⟩ := h; exact .base (.lst h1)
  · obtain ⟨a, vs, rfl, h1, h2⟩ := h; exact .base (.tup (go.sub _ _ h1))
  · obtain ⟨a, vs, rfl, h1, h2⟩ := h; exact .base (.dK h1)
/-- which of the kinds met here stand under a class -/
def subTy (t c : String) : Option Bool :=
  if c ∈ ["int", "bool", "str", "list", "tuple"] then (if t ∈ ["NoneType", "bool", "int", "str", "list", "tuple", "dict"] then some (t == c || (t == "bool" && c == "int")) else none) else none
theorem subTy_ok {t c : String} {b : Bool} (h : subTy t c = some b) : PySem.W.kitOne K (.type t) (.type c) = some b := by
  unfold subTy at h
  split at h
  · rename_i hc
    split at h
    · rename_i ht
      have all : ∀ c ∈ ["int", "bool", "str", "list", "tuple"], ∀ t ∈ ["NoneType", "bool", "int", "str", "list", "tuple", "dict"], kitB t c = some (t == c || (t == "bool" && c == "int")) := by decide +kernel
      cases h
      exact kit_ty (all c hc t ht)
    · cases h
  · cases h
def anyTy (t : String) : List D → Option Bool
  | [] => some false
  | .ty c :: r => (subTy t c).bind fun b => (anyTy t r).map fun b' => b || b'
  | _ :: _ => none
def hIsi : CaH
  | [u, .at (.ty c)] => (tyN u).bind fun t => (subTy t c).map bR
  | _ => none
def hIsiT : CaH
  | [u, .tup ws] => (tyN u).bind fun t => (dats ws).bind fun ds => (anyTy t ds).map bR
  | _ => none
theorem c_isi : CaV X (.builtin "isinstance") hIsi := by
  refine ⟨_, call_isi, fun g vs us res Q go h e k => ?_⟩
  unfold hIsi at e
  split at e
  · obtain ⟨t, e1, e⟩ := Option.bind_eq_some_iff.mp e
    obtain ⟨b, e2, e⟩ := Option.map_eq_some_iff.mp e
    cases e
    obtain ⟨v, v', rfl, q, q'⟩ := two_vu h
    cases q'.ty
    exact ⟨v, _, _, _, b, rfl, .ty _, tyN_ok go q e1, subTy_ok e2, k _ g (Ext.refl go) Dd.bl⟩
  · cases e
theorem anyTy_ok {t : String} {Φ : Hp} : ∀ {cs : List V} {ds : List D} {b : Bool}, DdL K Φ cs ds → anyTy t ds = some b → ∃ us, Paired ClsV cs us ∧ PySem.W.kitAny K (.type t) us = some b
  | _, [], _, .nil, e => by cases e; exact ⟨[], .nil, rfl⟩
  | _, d :: ds, _, .cons a r, e => by
    cases d with
    | ty c =>
      unfold anyTy at e
      obtain ⟨b1, e1, e⟩ := Option.bind_eq_some_iff.mp e
      obtain ⟨b2, e2, e⟩ := Option.map_eq_some_iff.mp e
      cases e
      cases a
      obtain ⟨us, h1, h2⟩ := anyTy_ok r e2
      exact ⟨_ :: us, .cons (.ty c) h1, kitAny_cons (subTy_ok e1) (fun z => by rw [z, h2]; rfl) (fun z => by rw [z]; rfl)⟩
    | _ => cases e
theorem c_isiT : CaV X (.builtin "isinstance") hIsiT := by
  refine ⟨_, call_isiT, fun g vs us res Q go h e k => ?_⟩
  unfold hIsiT at e
  split at e
  · obtain ⟨t, e1, e⟩ := Option.bind_eq_some_iff.mp e
    obtain ⟨ds, e2, e⟩ := Option.bind_eq_some_iff.mp e
    obtain ⟨b, e3, e⟩ := Option.map_eq_some_iff.mp e
    cases e
    obtain ⟨v, v', rfl, q, a, ws, rfl, h1, h2⟩ := two_vu h
    obtain ⟨us, h3, h4⟩ := anyTy_ok (dats_ok h2 e2).1 e3
    exact ⟨v, a, ws, _, us, b, rfl, go.sub _ _ h1, h3, tyN_ok go q e1, h4, k _ g (Ext.refl go) Dd.bl⟩
  · cases e
abbrev hIs1 : CaH := orCa hIsi hIsiT
theorem c_is1 : CaV X (.builtin "isinstance") hIs1 := c_isi.or c_isiT
abbrev hMax : CaH := orCa hMax2 hMaxL
abbrev hMin : CaH := orCa hMin2 hMinL
theorem c_max (hc : X.calm = true) : CaV X (.builtin "max") hMax := (c_max2 hc).or (c_maxL hc)
theorem c_min (hc : X.calm = true) : CaV X (.builtin "min") hMin := (c_min2 hc).or (c_minL hc)

/-! ### list(range(..)) -/
def eLr1 (fa : EF) : EF := fun s => (fa s).bind fun p => p.1.int?.bind fun j => if 0 ≤ j ∧ j ≤ 16777216 then some (.new (.lst ((rng 0 j.toNat).map fun i => .d (.int i))), p.2) else none
def eLr2 (fa fb : EF) : EF := seq2 fa fb fun ra rb s => ra.int?.bind fun i => rb.int?.bind fun j => if -(2 ^ 62) ≤ i ∧ i < 2 ^ 62 ∧ -(2 ^ 62) ≤ j ∧ j < 2 ^ 62 ∧ (j - i).toNat ≤ 2 ^ 24 then some (.new (.lst ((rng i (j - i).toNat).map fun i => .d (.int i))), s) else none
end
end NV

namespace NV
open PySem PySem.Spec PyProof.Rows L2
section
variable {X : Cx} {a b c e o : Expr} {es : List Expr} {fa fb fc f fo : EF} {ff : AF} {pos : Pos} {K : PySem.W.Frag} {g g1 : G} {v : V} {σ : L2.St} {s s1 : S} {st st1 : Sto}

/-! ### methods that change a list -/
abbrev LmH := List W → List W → Option (W × List W)
def LmV (X : Cx) (id : String) (h : LmH) : Prop := ∃ r, MtR X id r ∧ ∀ (g : G) (l : Addr) (vs args : List V) (ws wargs : List W) (w' : W) (ws' : List W) (Q : VK), GOk g → g.H l = some (.lst vs) → WrL X.K g.Φ g.ι vs ws → WrL X.K g.Φ g.ι args wargs → h ws wargs = some (w', ws') →
  (∀ v' vs', Wr X.K g.Φ g.ι v' w' → WrL X.K g.Φ g.ι vs' ws' → Q v' (upd g.H l (.lst vs'))) → r (.ref l) args g.H Q
def lAppend : LmH
  | ws, [w] => if ws.length < sizeLine then some (.d .non, ws ++ [w]) else none
  | _, _ => none
theorem l_append : LmV X "list.append" lAppend := by
  refine ⟨_, mt_append, fun g l vs args ws wargs w' ws' Q go h1 h2 h3 e k => ?_⟩
  unfold lAppend at e
  split at e
  · split at e
    · rename_i hz
      cases e
      cases h3 with
      | cons q1 q2 =>
        cases q2
        exact ⟨l, vs, _, rfl, rfl, h1, by rw [WrL.length h2]; exact hz, k _ _ Dd.non (WrL.append h2 (.cons q1 .nil))⟩
    · cases e
  · cases e
def lExtend : LmH
  | ws, [.d (.lst ds)] => if ws.length + ds.length ≤ sizeLine then some (.d .non, ws ++ ds.map .d) else none
  | _, _ => none
theorem WrL.reverse {Φ : Hp} {ι : List Addr} : ∀ {vs : List V} {ws : List W}, WrL K Φ ι vs ws → WrL K Φ ι vs.reverse ws.reverse
  | _, _, .nil => .nil
  | _, _, .cons a b => by
    rw [List.reverse_cons, List.reverse_cons]
    exact WrL.append (WrL.reverse b) (.cons a .nil)
def lReverse : LmH
  | ws, [] => some (.d .non, ws.reverse)
  | _, _ => none
theorem WrL.dropLast {Φ : Hp} {ι : List Addr} {vs : List V} {ws : List W} (h : WrL K Φ ι vs ws) : WrL K Φ ι vs.dropLast ws.dropLast := by
  rw [List.dropLast_eq_take, List.dropLast_eq_take, WrL.length h]
  exact WrL.take _ h
def eLm (h : LmH) (fo : EF) (ff : AF) : EF := fun s => (fo s).bind fun p => match p.1 with
  | .val (.obj n) => (match p.2.st[n]? with
    | some (some (.lst _)) => (ff p.2).bind fun q => (match q.2.st[n]? with
      | some (some (.lst ws)) => (h ws q.1).map fun r => (.val r.1, { q.2 with st := q.2.st.set n (some (.lst r.2)) })
      | _ => none)
    | _ => none)
  | _ => none
theorem lm_ok {id : String} {h : LmH} (hm : LmV X id h) : ∃ r, MtR X id r ∧ ∀ σ H Q, upE X.K (eLm h fo ff) σ H Q → upE X.K fo σ H fun x H1 => tyV X.K "list" x H1 ∧ upA X.K ff σ H1 fun xs H2 => r x xs H2 Q := by
  obtain ⟨r, hr, ho⟩ := hm
  refine ⟨r, hr, fun σ H Q ⟨g, s, r', s', hg, R, hf, k⟩ => ?_⟩
  obtain ⟨⟨ro, s1⟩, e1, hf⟩ := Option.bind_eq_some_iff.mp hf
  dsimp only at hf
  split at hf
  · rename_i n
    split at hf
    · rename_i ws0 hn0
      obtain ⟨⟨wargs, s2⟩, e2, hf⟩ := Option.bind_eq_some_iff.mp hf
      dsimp only at hf
      split at hf
      · rename_i ws hn
        obtain ⟨⟨w', ws'⟩, e3, hf⟩ := Option.map_eq_some_iff.mp hf
        cases hf
        subst hg
        refine ⟨g, s, _, s1, rfl, R, e1, fun x g1 p1 R1 q1 => ?_⟩
        obtain ⟨ad, had, rfl⟩ := q1
        obtain ⟨vs0, h0, _⟩ := R1.st.at_ _ _ ad hn0 had
        refine ⟨.inl ⟨rfl, vs0, .inl (.inl h0)⟩, g1, s1, wargs, s2, rfl, R1, e2, fun xs g2 p2 R2 q2 => ?_⟩
        have had2 : g2.ι[n]? = some ad := by
          obtain ⟨m, em⟩ := p2.io
          rw [em]; exact pre_get had
        obtain ⟨vs, h1, h2⟩ := R2.st.at_ _ _ ad hn had2
        refine ho g2 ad vs xs ws wargs w' ws' Q R2.st.ok h1 h2 q2 e3 fun v' vs' q3 q4 => ?_
        obtain ⟨w1, w2⟩ := write (ob := .lst vs') (nd' := .lst ws') R2 hn had2 ⟨_, upd_same, q4⟩
        exact k v' _ ((p1.trans R.st R1.st p2).trans R.st R2.st w1) w2 q3
      · cases hf
    · cases hf
  · cases hf
variable {name : Str} {apos cpos : Pos} {id : String} {h : LmH}
theorem v_lm (slot : Slot "list" name id) (hty : typeOf (.builtin id) = pure (.type "method_descriptor")) (hm : LmV X id h) (ho : VE X o fo) (ha : VA X (e :: es) ff)
    (hbase : attributeBase o name X.env (eval o X.env) = eval o X.env := by rfl)
    (hfew : ((backTo cpos (starEach (e :: es) X.env)).all (fun x => !x.1) && (backToKw cpos (keywordEach [] X.env)).all (fun x => x.1.isSome)
      && decide ((e :: es).length + ([] : List Keyword).length + (if ([] : List Keyword).isEmpty then 0 else 1) < 30)) = true := by rfl)
    (hline : (apos.endLine == cpos.line) = true := by rfl) (hs : starEach (e :: es) X.env = (false, eval e X.env) :: starEach es X.env := by rfl) (hplain : (backTo cpos (starEach es X.env)).any (·.1) = false := by rfl) :
    VE X (.Call (.Attribute o name apos) (e :: es) [] cpos) (eLm h fo ff) := by
  obtain ⟨r, hr, q⟩ := lm_ok (fo := fo) (ff := ff) hm
  exact ⟨(pe_bm PySem.F.plainAttrs_list slot hty hr ho.pe ha.pa hbase hfew hline hs hplain).imp q⟩
end
end NV

namespace NV
open PySem PySem.Spec PyProof.Rows L2
section
variable {X : Cx} {a b c e o : Expr} {es : List Expr} {fa fb fc f fo : EF} {ff : AF} {pos : Pos} {K : PySem.W.Frag} {g g1 : G} {v : V} {σ : L2.St} {s s1 : S} {st st1 : Sto}

/-! ### a op1 b op2 c -/
def eChain (h h' : OpH) (fa fb fc : EF) : EF := fun s => (fa s).bind fun p => (fb p.2).bind fun q => (p.1.view q.2.st).bind fun u => (q.1.view q.2.st).bind fun w => (h u w).bind fun r => r.tru.bind fun t =>
  if t = true then (fc q.2).bind fun z => (q.1.view z.2.st).bind fun w' => (z.1.view z.2.st).bind fun y => (h' w' y).map fun r' => (r', z.2) else some (.val (.d (.bl false)), q.2)
theorem chain_ok {h h' : OpH} {op op' : CmpOp} (ho : OpV X (compareOp op) h) (ho' : OpV X (compareOp op') h') (ha : VE X a fa) (hb : VE X b fb) (hc : VE X c fc) : ∃ r r', OpR X (compareOp op) r ∧ OpR X (compareOp op') r' ∧
    ∀ σ H Q, upE X.K (eChain h h' fa fb fc) σ H Q → tChain r r' (upE X.K fa) (upE X.K fb) (upE X.K fc) σ H Q := by
  obtain ⟨r, o, k1⟩ := ho
  obtain ⟨r', o', k2⟩ := ho'
  refine ⟨r, r', o, o', fun σ H Q ⟨g, s, x, s', hg, R, hf, k⟩ => ?_⟩
  unfold eChain at hf
  obtain ⟨⟨ra, s1⟩, e1, hf⟩ := Option.bind_eq_some_iff.mp hf
  obtain ⟨⟨rb, s2⟩, e2, hf⟩ := Option.bind_eq_some_iff.mp hf
  obtain ⟨u, e3, hf⟩ := Option.bind_eq_some_iff.mp hf
  obtain ⟨w, e4, hf⟩ := Option.bind_eq_some_iff.mp hf
  obtain ⟨r1, e5, hf⟩ := Option.bind_eq_some_iff.mp hf
  obtain ⟨t, e6, hf⟩ := Option.bind_eq_some_iff.mp hf
  have er := tru_eq e6
  subst er
  subst hg
  refine ⟨g, s, ra, s1, rfl, R, e1, fun vx g1 p1 R1 q1 => ⟨g1, s1, rb, s2, rfl, R1, e2, fun vy g2 p2 R2 q2 => ?_⟩⟩
  have p12 := p1.trans R.st R1.st p2
  refine k1 g2 vx vy u w _ _ R2.st.ok (view_ok R2.st (q1.step R1.st p2) e3) (view_ok R2.st q2 e4) e5 fun vz g3 x3 rr => ?_
  cases rr
  refine ⟨t, rfl, ?_⟩
  have R3 := x3.rel R2
  have p13 := p12.trans R.st R2.st x3.step
  cases t with
  | false =>
    cases hf
    exact k _ g3 p13 R3 Dd.bl
  | true =>
    have hf : ((fc s2).bind fun z => (rb.view z.2.st).bind fun w' => (z.1.view z.2.st).bind fun y => (h' w' y).map fun r' => (r', z.2)) = some (x, s') := hf
    obtain ⟨⟨rc, s4⟩, e7, hf⟩ := Option.bind_eq_some_iff.mp hf
    obtain ⟨w', e8, hf⟩ := Option.bind_eq_some_iff.mp hf
    obtain ⟨y, e9, hf⟩ := Option.bind_eq_some_iff.mp hf
    obtain ⟨r2, e10, hf⟩ := Option.map_eq_some_iff.mp hf
    cases hf
    refine ⟨g3, s2, rc, _, rfl, R3, e7, fun vc g4 p4 R4 q4 => ?_⟩
    have q2' := ((q2.step R2.st x3.step).step R3.st p4)
    refine k2 g4 vy vc w' y _ Q R4.st.ok (view_ok R4.st q2' e8) (view_ok R4.st q4 e9) e10 fun v5 g5 x5 rr5 => ?_
    have p14 := p13.trans R.st R3.st p4
    exact k v5 g5 (p14.trans R.st R4.st x5.step) (x5.rel R4) (rr5.back R.st p14)
theorem vt_chain {h h' : OpH} {op op' : CmpOp} (ho : OpV X (compareOp op) h) (ho' : OpV X (compareOp op') h') (ha : VE X a fa) (hb : VE X b fb) (hc : VE X c fc) (hm : lastMarks [op, op'] [b, c] = false := by with_unfolding_all rfl) :
    VT X (.Compare a [op, op'] [b, c] pos) (tE (eChain h h' fa fb fc)) := by
  obtain ⟨r, r', o, o', q⟩ := chain_ok ho ho' ha hb hc
  exact ⟨(pt_chain o o' ha.pe hb.pe hc.pe hm).imp fun σ H Q z => q σ H _ (tE_ok z)⟩

/-! ### arguments: what was made just now gets a number -/
def aConsO (fa : EF) (ff : AF) : AF := fun s => (fa s).bind fun p => (ff { p.2 with st := (p.1.wo p.2.st).2 }).map fun q => ((p.1.wo p.2.st).1 :: q.1, q.2)
theorem va_consO (ha : VE X a fa) (hb : VA X es ff) (hs : starEach (a :: es) X.env = (false, eval a X.env) :: starEach es X.env := by rfl) : VA X (a :: es) (aConsO fa ff) := ⟨(pa_cons ha.pe hb.pa hs).imp fun σ H Q ⟨g, s, r, s', hg, R, hf, k⟩ => by
  obtain ⟨⟨ra, s1⟩, h1, hf⟩ := Option.bind_eq_some_iff.mp hf
  obtain ⟨⟨rs, s2⟩, h2, hf⟩ := Option.map_eq_some_iff.mp hf
  cases hf
  subst hg
  refine ⟨g, s, ra, s1, rfl, R, h1, fun v g1 p1 R1 q1 => ?_⟩
  obtain ⟨g1', e1, p1', R1', q1'⟩ := toWo R.st p1 R1 q1
  refine ⟨g1', _, rs, _, e1, R1', h2, fun vs g2 p2 R2 q2 => ?_⟩
  exact k (v :: vs) g2 (p1'.trans R.st R1'.st p2) R2 (.cons (q1'.mono p2.phi p2.io) q2)⟩
theorem aConsO_len (h : ∀ s ws s', ff s = some (ws, s') → ws.length = es.length) : ∀ s ws s', aConsO fa ff s = some (ws, s') → ws.length = (e :: es).length := fun s ws s' q => by
  obtain ⟨⟨ra, s1⟩, e1, q⟩ := Option.bind_eq_some_iff.mp q
  obtain ⟨⟨rs, s2⟩, e3, q⟩ := Option.map_eq_some_iff.mp q
  cases q
  have := h _ _ _ e3
  simp [this]
/-- name = [..] on one line; the list gets a number -/
theorem v_asgLcO {i : Nat} {y : Str} {py : Pos} {elt : Expr} {ifs : List Expr} {scope : Scope} {own : List (Str × Nat)} {spos : Pos} {tt : TF} {fe : EF} {tg iter : Expr} {fi : IF} {t : GF} (hc : X.calm = true) (hN : X.N.Nodup) (hy : X.N[i]? = some y) (hyl : X.env.scope.names.lookup y = some .local)
    (hsw : swapsWith (.ListComp elt [⟨tg, iter, ifs, 0⟩] scope pos) (some (.Name y py)) spos.line X.env = pure true) (hi : VI X tg iter fi) (ok : BlkOk X.N X.env.scope scope own)
    (hg : ∀ (s : Shared) (H : Hp) (C : Addr) (cl : List (Str × Addr)) (fp : List Addr), VGo (X.blk s H scope (compEnvC scope cl C X.env) fp) (own.map (·.2)) tg t) (ht : ∀ (s : Shared) (H : Hp) (C : Addr) (cl : List (Str × Addr)) (fp : List Addr), VTs (X.blk s H scope (compEnvC scope cl C X.env) fp) ifs tt)
    (he : ∀ (s : Shared) (H : Hp) (C : Addr) (cl : List (Str × Addr)) (fp : List Addr), VE (X.blk s H scope (compEnvC scope cl C X.env) fp) elt fe) (hs : ∀ x, foldedSetIterable iter X.env x = pure x := by intro _; rfl) :
    VS X (.Assign [.Name y py] (.ListComp elt [⟨tg, iter, ifs, 0⟩] scope pos) spos) (sAsgO (eLc fi t tt fe (own.map (·.2))) (gN i)) :=
  ⟨(ps_setLc hc hN hy hyl hsw hi.pi ok (fun s H C cl fp => (hg s H C cl fp).pg) (fun s H C cl fp => (ht s H C cl fp).pts) (fun s H C cl fp => (he s H C cl fp).pe) hs).imp fun D σ H q => by
    obtain ⟨g, s, o, hg, R, hf, k⟩ := q
    obtain ⟨⟨ra, s1⟩, e1, hf⟩ := Option.bind_eq_some_iff.mp hf
    obtain ⟨s2, e3, hf⟩ := Option.map_eq_some_iff.mp hf
    cases hf
    cases e3
    subst hg
    refine lc_ok cvF_ok ⟨g, s, ra, s1, rfl, R, e1, fun v g1 p1 R1 q1 => ?_⟩
    obtain ⟨g1', e4, p1', R1', q1'⟩ := toWo R.st p1 R1 q1
    show D.nx (σ.set i (some v)) g1.H
    rw [← e4]
    exact k _ g1' p1' ⟨R1'.st, R1'.sl.set q1'⟩⟩

/-! ### defs by name -/
/-- the def x of the text: its promise, what a call of it asks -/
def Okf (P : Program) (w : World) (K : PySem.W.Frag) (mg : Str → Option Value) (x : Str) (k : Nat) (ps : List Str) (sp : Sp) : Prop :=
  ∃ fd, (∀ base, FnOk P w K mg base CX0 k (He.ga K x) fd ps sp) ∧ PySem.W.keepIn K (.ref (He.ga K x)) = true ∧ Binds K fd ps [] ∧ mg x = some (.ref (He.ga K x)) ∧ ∀ (s : Shared) (us : List Value), us.length = ps.length → BindsTo s fd ⟨us, []⟩ (ps.zip us)
theorem ok_mk {P : Program} {w : World} {K : PySem.W.Frag} {mg : Str → Option Value} {x : Str} {params : Arguments} {body : List Stmt} {scope : Scope} {N ps : List Str} {k : Nat} {h : SF}
    (hF : ∃ fd, FunD K x x params body scope [] [] (He.ga K x) fd) (hm : mg x = some (.ref (He.ga K x))) (Sc : FnScope N ps scope)
    (hb : ∀ (kV doc pm : Value) (an : Option Addr) (cdv ct : Value) (us : List Value), us.length = ps.length → bindArgs (PySem.W.fnOf x x params body scope .none kV doc pm an cdv ct) ⟨us, []⟩ = pure (ps.zip us))
    (hd : ∀ (base : Heap) (cdv : Value) (A : Around) (outer : List Env) (s : Shared) (H : Hp) (E : XK), Room k (A.deeper (envOfC x scope s.heap.objs.size (He.ga K x) cdv)) → VSs (cxOf CX0 P w K mg base N x scope (He.ga K x) cdv A outer s H E).nox body h) :
    Okf P w K mg x (k + 1) ps (spF K ps.length (runF N.length h)) := by
  obtain ⟨fd, F⟩ := hF
  exact ⟨fd, fun base => fn_ok F Sc (hd base), F.kp, F.bindsN hb, hm, F.bindsA hb⟩
variable {P : Pos} {k n : Nat} {ps : List Str} {x : Str} {F : FF}
theorem v_cP (G : Okf X.prog X.w X.K X.mg x k ps (spF X.K n F)) (hr : Room k X.A) (hg : Gl X x) (ha : VA X (e :: es) ff) (hl : ∀ s ws s', ff s = some (ws, s') → ws.length = (e :: es).length) (hn : (e :: es).length = n) (hdb : (x == ("__debug__" : Str)) = false := by decide)
    (he : starEach (e :: es) X.env = (false, eval e X.env) :: starEach es X.env := by rfl) (hpl : (backTo pos (starEach es X.env)).any (·.1) = false := by rfl) : VE X (.Call (.Name x P) (e :: es) [] pos) (eCallP F ff) := by
  obtain ⟨fd, G, kp, hb, hm, _⟩ := G
  exact v_callP (G _) hr hg hm kp hb ha hl hn hdb he hpl
theorem v_cB (G : Okf X.prog X.w X.K X.mg x k ps (spF X.K n F)) (hr : Room k X.A) (hg : Gl X x) (ha : VA X (e :: es) ff) (hl : ∀ s ws s', ff s = some (ws, s') → ws.length = (e :: es).length) (hn : (e :: es).length = n) (hdb : (x == ("__debug__" : Str)) = false := by decide)
    (he : starEach (e :: es) X.env = (false, eval e X.env) :: starEach es X.env := by rfl) (hpl : (backTo pos (starEach es X.env)).any (·.1) = false := by rfl) : VE X (.Call (.Name x P) (e :: es) [] pos) (eCallB F ff) := by
  obtain ⟨fd, G, kp, hb, hm, _⟩ := G
  exact v_callB' (G _) hr hg hm kp hb ha hl hn hdb he hpl
theorem v_cG (G : Okf X.prog X.w X.K X.mg x k ps (spF X.K n F)) (hr : Room k X.A) (hg : Gl X x) (ha : VA X (e :: es) ff) (hl : ∀ s ws s', ff s = some (ws, s') → ws.length = (e :: es).length) (hn : (e :: es).length = n) (hdb : (x == ("__debug__" : Str)) = false := by decide)
    (he : starEach (e :: es) X.env = (false, eval e X.env) :: starEach es X.env := by rfl) (hpl : (backTo pos (starEach es X.env)).any (·.1) = false := by rfl) : VE X (.Call (.Name x P) (e :: es) [] pos) (eCallG F ff) := by
  obtain ⟨fd, G, kp, hb, hm, _⟩ := G
  exact v_callG (G _) hr hg hm kp hb ha hl hn hdb he hpl
/-- short words -/
theorem vn (i : Nat) {x : Str} (hN : X.N[i]? = some x := by rfl) (hv : Vis X.env.scope x := by first | exact Or.inl rfl | exact Or.inr (Or.inl rfl) | exact Or.inr (Or.inr rfl)) (hd : (x == ("__debug__" : Str)) = false := by decide)
    (hcd : (x == ("__classdict__" : Str)) = false := by decide) : VE X (.Name x pos) (eVar i) := v_var hN hv hd hcd
end
end NV

namespace NV
open PySem PySem.Spec PyProof.Rows L2
theorem bt_len : bootBuiltins "len" = some (.builtin "len") := by decide +kernel
theorem bt_abs : bootBuiltins "abs" = some (.builtin "abs") := by decide +kernel
theorem bt_divmod : bootBuiltins "divmod" = some (.builtin "divmod") := by decide +kernel
theorem bt_max : bootBuiltins "max" = some (.builtin "max") := by decide +kernel
theorem bt_min : bootBuiltins "min" = some (.builtin "min") := by decide +kernel
theorem bt_all : bootBuiltins "all" = some (.builtin "all") := by decide +kernel
theorem bt_any : bootBuiltins "any" = some (.builtin "any") := by decide +kernel
theorem bt_isinstance : bootBuiltins "isinstance" = some (.builtin "isinstance") := by decide +kernel
theorem bt_int : bootBuiltins "int" = some (.type "int") := by decide +kernel
theorem bt_str : bootBuiltins "str" = some (.type "str") := by decide +kernel
theorem bt_bool : bootBuiltins "bool" = some (.type "bool") := by decide +kernel
theorem bt_list : bootBuiltins "list" = some (.type "list") := by decide +kernel
theorem bt_tuple : bootBuiltins "tuple" = some (.type "tuple") := by decide +kernel
section
variable {X : Cx} {a b c e o : Expr} {es : List Expr} {fa fb fc f fo : EF} {ff : AF} {pos : Pos} {K : PySem.W.Frag} {g g1 : G} {v : V} {σ : L2.St} {s s1 : S} {st st1 : Sto}
/-! ### -a -/
def eNeg (fa : EF) : EF := fun s => (fa s).bind fun p => p.1.int?.map fun i => (.val (.d (.int (-i))), p.2)
theorem v_neg (ha : VE X a fa) : VE X (.UnaryOp .USub a pos) (eNeg fa) := ⟨(pe_un un_neg ha.pe).imp fun σ H Q ⟨g, s, r, s', hg, R, hf, k⟩ => by
  obtain ⟨⟨ra, s1⟩, e1, hf⟩ := Option.bind_eq_some_iff.mp hf
  obtain ⟨i, e2, hf⟩ := Option.map_eq_some_iff.mp hf
  cases hf
  cases int?_eq e2
  exact ⟨g, s, _, _, hg, R, e1, fun v g1 p1 R1 q1 => by
    cases q1
    exact ⟨i, rfl, k _ g1 p1 R1 Dd.int⟩⟩⟩
/-! ### a, b, c = x, y, z -/
def sPar3 (i j l : Nat) (ff : AF) : SF := fun s => (ff s).bind fun p => match p.1 with
  | [u, v, w] => some (.nx { p.2 with sl := ((p.2.sl.set i (some u)).set j (some v)).set l (some w) })
  | _ => none
end
/-- a def that is never called -/
theorem ok_zero {P : Program} {w : World} {K : PySem.W.Frag} {mg : Str → Option Value} {x : Str} {params : Arguments} {body : List Stmt} {scope : Scope} {ps : List Str} {k n : Nat}
    (hF : ∃ fd, FunD K x x params body scope [] [] (He.ga K x) fd) (hm : mg x = some (.ref (He.ga K x)))
    (hb : ∀ (kV doc pm : Value) (an : Option Addr) (cdv ct : Value) (us : List Value), us.length = ps.length → bindArgs (PySem.W.fnOf x x params body scope .none kV doc pm an cdv ct) ⟨us, []⟩ = pure (ps.zip us)) :
    Okf P w K mg x k ps (spF K n fun _ _ => none) := by
  obtain ⟨fd, F⟩ := hF
  have no : ∀ {vs : List V} {H : Hp} {Q : VK} {E : XK}, spF K n (fun _ _ => none) vs H Q E → False := fun ⟨g, ws, st, r, st', _, _, _, _, hf, _⟩ => nomatch hf
  exact ⟨fd, fun base => ⟨fun vs H Q E h => (no h).elim, fun A outer s H args us vs Q E _ _ _ _ h => (no h).elim⟩, F.kp, F.bindsN hb, hm, F.bindsA hb⟩
/-- the law is asked: its def's promise from its function of data -/
theorem law_sp {K : PySem.W.Frag} {F : FF} {H : Hp} {a : Addr} {ns : List Int} {E : XK} (hS : SqL K H a (ns.map V.int)) (h : ∃ st', F [.d (.lsw (ns.map .int))] [] = some (.val (.d (.bl true)), st')) : spF K 1 F [.ref a] H (fun v _ => v = .bl true) E := by
  obtain ⟨st', h⟩ := h
  refine ⟨⟨H, [], H⟩, [.d (.lsw (ns.map .int))], [], _, st', rfl, ⟨rfl, fun n nd a h _ => by simp at h, List.nodup_nil, fun n x a h _ => by simp at h, fun _ _ h => h, fun a h => by simp at h⟩, .cons (Dd.lsw hS (dd_ints ns)) .nil, rfl, h, fun v g' _ _ q => ?_⟩
  cases q
  rfl
/-- what the law's end asks -/
theorem law_end {P : Program} {w : World} {K : PySem.W.Frag} {mg : Str → Option Value} {h : Heap} {k : Nat} {F : FF} (KX : K.In h) (G : Okf P w K mg "law" k ["_law_script"] (spF K 1 F)) (q : ∀ ns : List Int, ns.length ≤ 63 → ∃ st', F [.d (.lsw (ns.map .int))] [] = some (.val (.d (.bl true)), st')) :
    ∃ (K' : PySem.W.Frag) (fd : FuncData) (sp : Sp), K'.In h ∧ (∀ (s : Shared) (u : Value), BindsTo s fd ⟨[u], []⟩ [("_law_script", u)]) ∧
        (∀ (H : Hp) (a : Addr) (ns : List Int), ns.length ≤ 63 → Only H → SqL K' H a (ns.map V.int) → sp [.ref a] H (fun v _ => v = .bl true) fun _ _ _ => False) ∧
        ∀ base : Heap, K'.In base → base.Ns mainGlobals mg → FnOk P w K' mg base CX0 k (He.ga K "law") fd ["_law_script"] sp := by
  obtain ⟨fd, h1, _, _, _, hb⟩ := G
  exact ⟨K, fd, spF K 1 F, KX, fun s v => hb s [v] rfl, fun H a ns hl _ hS => law_sp hS (q ns hl), fun base _ _ => h1 base⟩
end NV

namespace NV
open PySem PySem.Spec PyProof.Rows L2
/-! ### what a function of data tells, as a wish: continuation style, for simp from outside in -/
def Ev {α : Type} (o : Option α) (Q : α → Prop) : Prop := ∃ a, o = some a ∧ Q a
/-- with a state -/
def Es {α : Type} (o : Option (α × S)) (Q : α → S → Prop) : Prop := ∃ a s, o = some (a, s) ∧ Q a s
def Eo (o : Option O) (Qn : S → Prop) (Qr : R → S → Prop) (Qb Qc : S → Prop) : Prop := ∃ x, o = some x ∧ match x with
  | .nx s => Qn s
  | .rt r s => Qr r s
  | .bk s => Qb s
  | .ct s => Qc s
def GetK {α : Type} (l : List α) (i : Nat) (Q : α → Prop) : Prop := ∃ a, l[i]? = some a ∧ Q a
def SetK {α : Type} (l : List α) (i : Nat) (a : α) (Q : List α → Prop) : Prop := Q (l.set i a)
def AppK {α : Type} (l m : List α) (Q : List α → Prop) : Prop := Q (l ++ m)
def LenK {α : Type} (l : List α) (Q : Nat → Prop) : Prop := Q l.length
def ViewK (r : R) (st : Sto) (Q : Vu → Prop) : Prop := Ev (r.view st) Q
def RwK (r : R) (Q : W → Prop) : Prop := Ev r.w Q
def RwoK (r : R) (st : Sto) (Q : W → Sto → Prop) : Prop := Q (r.wo st).1 (r.wo st).2
def SoK {α : Type} (o : Option α) (Q : α → Prop) : Prop := ∃ a, o = some a ∧ Q a
def IteK (b : Bool) (P Q : Prop) : Prop := if b = true then P else Q
section
variable {α β : Type} {o : Option α} {Q : α → Prop}
theorem es_ev {o : Option (α × S)} {Q : α → S → Prop} : Es o Q ↔ Ev o fun p => Q p.1 p.2 := ⟨fun ⟨a, s, h, q⟩ => ⟨(a, s), h, q⟩, fun ⟨(a, s), h, q⟩ => ⟨a, s, h, q⟩⟩
theorem ev_some' {a : α} : Ev (some a) Q ↔ Q a := ⟨fun ⟨_, h, q⟩ => by cases h; exact q, fun q => ⟨_, rfl, q⟩⟩
theorem ev_none' : Ev (none : Option α) Q ↔ False := ⟨(fun ⟨_, h, _⟩ => nomatch h), False.elim⟩
theorem ev_bind' {f : α → Option β} {Q : β → Prop} : Ev (o.bind f) Q ↔ Ev o fun a => Ev (f a) Q := by
  cases o <;> simp [Ev]
theorem ev_map' {f : α → β} {Q : β → Prop} : Ev (o.map f) Q ↔ Ev o fun a => Q (f a) := by
  cases o <;> simp [Ev]
theorem ev_ite' {c : Prop} [Decidable c] {x y : Option α} : Ev (if c then x else y) Q ↔ if c then Ev x Q else Ev y Q := by split <;> rfl
@[simp ↓] theorem ev_some {a : α} : Ev (some a) Q ↔ Q a := ev_some'
@[simp ↓] theorem ev_none : Ev (none : Option α) Q ↔ False := ev_none'
@[simp ↓] theorem ev_bind {f : α → Option β} {Q : β → Prop} : Ev (o.bind f) Q ↔ Ev o fun a => Ev (f a) Q := ev_bind'
@[simp ↓] theorem ev_map {f : α → β} {Q : β → Prop} : Ev (o.map f) Q ↔ Ev o fun a => Q (f a) := ev_map'
theorem Ev.imp {Q' : α → Prop} (h : Ev o Q) (w : ∀ a, Q a → Q' a) : Ev o Q' := let ⟨a, e, q⟩ := h; ⟨a, e, w a q⟩
theorem Ev.of {a : α} (h : o = some a) (q : Q a) : Ev o Q := ⟨a, h, q⟩
theorem Es.imp {o : Option (α × S)} {Q Q' : α → S → Prop} (h : Es o Q) (w : ∀ a s, Q a s → Q' a s) : Es o Q' := let ⟨a, s, e, q⟩ := h; ⟨a, s, e, w a s q⟩
theorem Eo.imp {o : Option O} {n n' : S → Prop} {r r' : R → S → Prop} {b b' c c' : S → Prop} (h : Eo o n r b c) (w : ∀ s, n s → n' s) (w2 : ∀ x s, r x s → r' x s) (w3 : ∀ s, b s → b' s) (w4 : ∀ s, c s → c' s) : Eo o n' r' b' c' := by
  obtain ⟨x, h1, h2⟩ := h
  refine ⟨x, h1, ?_⟩
  cases x with
  | nx s => exact w _ h2
  | rt r s => exact w2 _ _ h2
  | bk s => exact w3 _ h2
  | ct s => exact w4 _ h2
@[simp ↓] theorem get_0 {a : α} {l : List α} : GetK (a :: l) 0 Q ↔ Q a := by simp [GetK]
@[simp ↓] theorem get_s {a : α} {l : List α} {n : Nat} : GetK (a :: l) (n + 1) Q ↔ GetK l n Q := by simp [GetK]
@[simp ↓] theorem get_n {n : Nat} : GetK ([] : List α) n Q ↔ False := by simp [GetK]
@[simp ↓] theorem set_0 {a b : α} {l : List α} {Q : List α → Prop} : SetK (a :: l) 0 b Q ↔ Q (b :: l) := Iff.rfl
@[simp ↓] theorem set_s {a b : α} {l : List α} {n : Nat} {Q : List α → Prop} : SetK (a :: l) (n + 1) b Q ↔ SetK l n b fun l' => Q (a :: l') := Iff.rfl
@[simp ↓] theorem set_n {b : α} {n : Nat} {Q : List α → Prop} : SetK [] n b Q ↔ Q [] := Iff.rfl
@[simp ↓] theorem app_c {a : α} {l m : List α} {Q : List α → Prop} : AppK (a :: l) m Q ↔ AppK l m fun l' => Q (a :: l') := Iff.rfl
@[simp ↓] theorem app_n {m : List α} {Q : List α → Prop} : AppK [] m Q ↔ Q m := Iff.rfl
@[simp ↓] theorem len_n {Q : Nat → Prop} : LenK ([] : List α) Q ↔ Q 0 := Iff.rfl
@[simp ↓] theorem len_1 {a : α} {Q : Nat → Prop} : LenK [a] Q ↔ Q 1 := Iff.rfl
@[simp ↓] theorem len_2 {a b : α} {Q : Nat → Prop} : LenK [a, b] Q ↔ Q 2 := Iff.rfl
@[simp ↓] theorem len_3 {a b c : α} {Q : Nat → Prop} : LenK [a, b, c] Q ↔ Q 3 := Iff.rfl
@[simp ↓] theorem len_4 {a0 a1 a2 a3 : α} {Q : Nat → Prop} : LenK [a0, a1, a2, a3] Q ↔ Q 4 := Iff.rfl
@[simp ↓] theorem len_5 {a0 a1 a2 a3 a4 : α} {Q : Nat → Prop} : LenK [a0, a1, a2, a3, a4] Q ↔ Q 5 := Iff.rfl
@[simp ↓] theorem len_6 {a0 a1 a2 a3 a4 a5 : α} {Q : Nat → Prop} : LenK [a0, a1, a2, a3, a4, a5] Q ↔ Q 6 := Iff.rfl
@[simp ↓] theorem len_7 {a0 a1 a2 a3 a4 a5 a6 : α} {Q : Nat → Prop} : LenK [a0, a1, a2, a3, a4, a5, a6] Q ↔ Q 7 := Iff.rfl
@[simp ↓] theorem len_8 {a0 a1 a2 a3 a4 a5 a6 a7 : α} {Q : Nat → Prop} : LenK [a0, a1, a2, a3, a4, a5, a6, a7] Q ↔ Q 8 := Iff.rfl
@[simp ↓] theorem len_9 {a0 a1 a2 a3 a4 a5 a6 a7 a8 : α} {Q : Nat → Prop} : LenK [a0, a1, a2, a3, a4, a5, a6, a7, a8] Q ↔ Q 9 := Iff.rfl
@[simp ↓] theorem len_10 {a0 a1 a2 a3 a4 a5 a6 a7 a8 a9 : α} {Q : Nat → Prop} : LenK [a0, a1, a2, a3, a4, a5, a6, a7, a8, a9] Q ↔ Q 10 := Iff.rfl
@[simp ↓] theorem len_11 {a0 a1 a2 a3 a4 a5 a6 a7 a8 a9 a10 : α} {Q : Nat → Prop} : LenK [a0, a1, a2, a3, a4, a5, a6, a7, a8, a9, a10] Q ↔ Q 11 := Iff.rfl
@[simp ↓] theorem len_12 {a0 a1 a2 a3 a4 a5 a6 a7 a8 a9 a10 a11 : α} {Q : Nat → Prop} : LenK [a0, a1, a2, a3, a4, a5, a6, a7, a8, a9, a10, a11] Q ↔ Q 12 := Iff.rfl
@[simp ↓] theorem len_13 {a0 a1 a2 a3 a4 a5 a6 a7 a8 a9 a10 a11 a12 : α} {Q : Nat → Prop} : LenK [a0, a1, a2, a3, a4, a5, a6, a7, a8, a9, a10, a11, a12] Q ↔ Q 13 := Iff.rfl
@[simp ↓] theorem len_14 {a0 a1 a2 a3 a4 a5 a6 a7 a8 a9 a10 a11 a12 a13 : α} {Q : Nat → Prop} : LenK [a0, a1, a2, a3, a4, a5, a6, a7, a8, a9, a10, a11, a12, a13] Q ↔ Q 14 := Iff.rfl
@[simp ↓] theorem len_15 {a0 a1 a2 a3 a4 a5 a6 a7 a8 a9 a10 a11 a12 a13 a14 : α} {Q : Nat → Prop} : LenK [a0, a1, a2, a3, a4, a5, a6, a7, a8, a9, a10, a11, a12, a13, a14] Q ↔ Q 15 := Iff.rfl
@[simp ↓] theorem len_16 {a0 a1 a2 a3 a4 a5 a6 a7 a8 a9 a10 a11 a12 a13 a14 a15 : α} {Q : Nat → Prop} : LenK [a0, a1, a2, a3, a4, a5, a6, a7, a8, a9, a10, a11, a12, a13, a14, a15] Q ↔ Q 16 := Iff.rfl
@[simp ↓] theorem so_some {a : α} : SoK (some a) Q ↔ Q a := by simp [SoK]
@[simp ↓] theorem so_none : SoK (none : Option α) Q ↔ False := by simp [SoK]
@[simp ↓] theorem ite_t {P Q : Prop} : IteK true P Q ↔ P := by simp [IteK]
@[simp ↓] theorem ite_f {P Q : Prop} : IteK false P Q ↔ Q := by simp [IteK]
@[simp ↓] theorem ite_n {b : Bool} {P Q : Prop} : IteK (!b) P Q ↔ IteK b Q P := by cases b <;> simp [IteK]
@[simp ↓] theorem ite_d {c : Prop} [Decidable c] {P Q : Prop} : IteK (decide c) P Q ↔ if c then P else Q := by simp [IteK]
end
section
variable {s : S} {sl : List (Option W)} {st : Sto} {fa fb fc : EF} {ff : AF} {ta tb : TF} {Q : R → S → Prop} {T : Bool → S → Prop} {A : List W → S → Prop}
@[simp ↓] theorem es_eC {d : D} : Es (eC d s) Q ↔ Q (.val (.d d)) s := by simp [es_ev, eC]
@[simp ↓] theorem es_eVar {i : Nat} : Es (eVar i ⟨sl, st⟩) Q ↔ GetK sl i fun o => SoK o fun w => Q (.val w) ⟨sl, st⟩ := by
  have e : eVar i ⟨sl, st⟩ = match sl[i]? with
    | some (some w) => some (.val w, ⟨sl, st⟩)
    | _ => none := by unfold eVar; rfl
  rw [e, es_ev]
  unfold GetK SoK
  cases h : sl[i]? with
  | none => simp
  | some o => cases o <;> simp
@[simp ↓] theorem es_eOp {h : OpH} : Es (eOp h fa fb s) Q ↔ Es (fa s) fun ra s1 => Es (fb s1) fun rb s2 => ViewK ra s2.st fun u => ViewK rb s2.st fun w => Ev (h u w) fun r => Q r s2 := by
  simp [eOp, seq2, es_ev, ViewK]
@[simp ↓] theorem es_tE : Es (tE fa s) T ↔ Es (fa s) fun r s1 => SoK r.tru fun b => T b s1 := by simp [tE, es_ev]; rfl
@[simp ↓] theorem es_tAnd : Es (tAndF ta tb s) T ↔ Es (ta s) fun b s1 => IteK b (Es (tb s1) T) (T false s1) := by simp [tAndF, es_ev, IteK, ev_ite']
@[simp ↓] theorem es_tOr : Es (tOrF ta tb s) T ↔ Es (ta s) fun b s1 => IteK b (T true s1) (Es (tb s1) T) := by simp [tOrF, es_ev, IteK, ev_ite']
@[simp ↓] theorem es_tNot : Es (tNotF ta s) T ↔ Es (ta s) fun b s1 => T (!b) s1 := by simp [tNotF, es_ev]
@[simp ↓] theorem es_tYes : Es (tYes' s) T ↔ T true s := by simp [tYes', es_ev]
@[simp ↓] theorem es_eAnd : Es (eAnd fa fb s) Q ↔ Es (fa s) fun r s1 => SoK r.tru fun b => IteK b (Es (fb s1) Q) (Q (bR false) s1) := by simp [eAnd, es_ev, IteK, ev_ite']; rfl
@[simp ↓] theorem es_eOr : Es (eOr fa fb s) Q ↔ Es (fa s) fun r s1 => SoK r.tru fun b => IteK b (Q (bR true) s1) (Es (fb s1) Q) := by simp [eOr, es_ev, IteK, ev_ite']; rfl
@[simp ↓] theorem es_eNot : Es (eNot fa s) Q ↔ Es (fa s) fun r s1 => SoK r.tru fun b => Q (bR (!b)) s1 := by simp [eNot, es_ev]; rfl
@[simp ↓] theorem es_eIf : Es (eIf ta fa fb s) Q ↔ Es (ta s) fun b s1 => IteK b (Es (fa s1) Q) (Es (fb s1) Q) := by simp [eIf, es_ev, IteK, ev_ite']
@[simp ↓] theorem es_aNil : Es (aNil s) A ↔ A [] s := by simp [es_ev, aNil]
@[simp ↓] theorem es_aCons : Es (aCons fa ff s) A ↔ Es (fa s) fun r s1 => RwK r fun w => Es (ff s1) fun ws s2 => A (w :: ws) s2 := by simp [aCons, es_ev, RwK]
@[simp ↓] theorem es_aConsO : Es (aConsO fa ff s) A ↔ Es (fa s) fun r s1 => RwoK r s1.st fun w st' => Es (ff ⟨s1.sl, st'⟩) fun ws s2 => A (w :: ws) s2 := by simp [aConsO, es_ev, RwoK]
@[simp ↓] theorem es_eTup : Es (eTup ff s) Q ↔ Es (ff s) fun ws s1 => Ev (frzWs ws s1.st) fun q => LenK q.1 fun n => n ≤ sizeLine ∧ Q (.val (.d (.tup q.1))) ⟨s1.sl, q.2⟩ := by
  simp [eTup, es_ev, LenK, ev_ite']
@[simp ↓] theorem es_eLst : Es (eLst ff s) Q ↔ Es (ff s) fun ws s1 => LenK ws fun n => n ≤ sizeLine ∧ Q (.new (.lst ws)) s1 := by
  simp [eLst, es_ev, LenK, ev_ite']
@[simp ↓] theorem es_eDnew : Es (eDnew s) Q ↔ Q (.new (.dct [])) s := by simp [es_ev, eDnew]
@[simp ↓] theorem es_eNeg : Es (eNeg fa s) Q ↔ Es (fa s) fun r s1 => SoK r.int? fun i => Q (iR (-i)) s1 := by simp [eNeg, es_ev]; rfl
@[simp ↓] theorem es_oNone {B : Option Int → S → Prop} : Es (oNone s) B ↔ B none s := by simp [es_ev, oNone]
@[simp ↓] theorem es_oSome {B : Option Int → S → Prop} : Es (oSome fa s) B ↔ Es (fa s) fun r s1 => SoK r.int? fun i => B (some i) s1 := by simp [oSome, es_ev]; rfl
@[simp ↓] theorem es_eSl {h : SlH} {fl fh : OF} : Es (eSl h fa fl fh s) Q ↔ Es (fa s) fun r s1 => Es (fl s1) fun l s2 => Es (fh s2) fun m s3 => ViewK r s3.st fun u => Ev (h u l m) fun x => Q x s3 := by simp [eSl, es_ev, ViewK]
def ViewsK (ws : List W) (st : Sto) (Q : List Vu → Prop) : Prop := Ev (views st ws) Q
@[simp ↓] theorem views_nil {Q : List Vu → Prop} : ViewsK [] st Q ↔ Q [] := by simp [ViewsK, views]
@[simp ↓] theorem views_cons {w : W} {ws : List W} {Q : List Vu → Prop} : ViewsK (w :: ws) st Q ↔ ViewK (.val w) st fun u => ViewsK ws st fun us => Q (u :: us) := by simp [ViewsK, views, ViewK]
@[simp ↓] theorem es_eCa {h : CaH} : Es (eCa h ff s) Q ↔ Es (ff s) fun ws s1 => ViewsK ws s1.st fun us => Ev (h us) fun r => Q r s1 := by simp [eCa, es_ev, ViewsK]
def DatsK (ws : List W) (Q : List D → Prop) : Prop := Ev (dats ws) Q
@[simp ↓] theorem datsk_nil {Q : List D → Prop} : DatsK [] Q ↔ Q [] := by simp [DatsK, dats]
@[simp ↓] theorem datsk_cons {d : D} {ws : List W} {Q : List D → Prop} : DatsK (.d d :: ws) Q ↔ DatsK ws fun ds => Q (d :: ds) := by simp [DatsK, dats]
@[simp ↓] theorem datsk_map {l : List D} {Q : List D → Prop} : DatsK (l.map .d) Q ↔ Q l := by simp [DatsK, dats_map]
@[simp ↓] theorem es_eCallP {F : FF} : Es (eCallP F ff s) Q ↔ Es (ff s) fun ws s1 => DatsK ws fun ds => Ev (callP F ds) fun r => Q r s1 := by simp [eCallP, es_ev, DatsK]
def LendK (st : Sto) (ws : List W) (Q : List D → Prop) : Prop := Ev (lend st ws) Q
@[simp ↓] theorem lend_n {B : List D → Prop} : LendK st [] B ↔ B [] := by simp [LendK, lend]
@[simp ↓] theorem lend_d {d : D} {ws : List W} {B : List D → Prop} : LendK st (.d d :: ws) B ↔ LendK st ws fun ds => B (d :: ds) := by simp [LendK, lend]
def NdatK (nd : Nd) (Q : D → Prop) : Prop := Ev nd.dat Q
@[simp ↓] theorem ndat_l {ws : List W} {B : D → Prop} : NdatK (.lst ws) B ↔ DatsK ws fun ds => B (.lst ds) := by simp [NdatK, Nd.dat, DatsK]
@[simp ↓] theorem ndat_d {ws : List (Key × W)} {B : D → Prop} : NdatK (.dct ws) B ↔ Ev (datk ws) fun ds => B (.dct ds) := by simp [NdatK, Nd.dat]
@[simp ↓] theorem lend_o {n : Nat} {ws : List W} {B : List D → Prop} : LendK st (.obj n :: ws) B ↔ GetK st n fun o => SoK o fun nd => NdatK nd fun d => LendK st ws fun ds => B (d :: ds) := by
  unfold LendK GetK SoK NdatK
  have e : lend st (.obj n :: ws) = match st[n]? with
    | some (some nd) => nd.dat.bind fun d => (lend st ws).map fun y => d :: y
    | _ => none := rfl
  rw [e]
  cases h : st[n]? with
  | none => simp
  | some o =>
    cases o with
    | none => simp
    | some nd => simp
@[simp ↓] theorem es_eCallL {F : FF} : Es (eCallL F ff s) Q ↔ Es (ff s) fun ws s1 => LendK s1.st ws fun ds => Ev (callP F ds) fun r => r.lendOk = true ∧ Q r s1 := by
  simp only [eCallL, es_ev, ev_bind', LendK]
  constructor <;> intro h <;> refine h.imp fun p h => h.imp fun q h => h.imp fun r h => ?_
  · rw [ev_ite'] at h
    split at h
    · rename_i hc; obtain ⟨_, e, z⟩ := h; cases e; exact ⟨hc, z⟩
    · exact (ev_none'.mp h).elim
  · rw [if_pos h.1]; exact ev_some'.mpr h.2
@[simp] theorem lok_i {i : Int} : (R.val (.d (.int i))).lendOk = true := rfl
@[simp] theorem lok_b {i : Bool} : (R.val (.d (.bl i))).lendOk = true := rfl
@[simp] theorem lok_s {i : Str} : (R.val (.d (.str i))).lendOk = true := rfl
@[simp] theorem lok_n : (R.val (.d .non)).lendOk = true := rfl
@[simp ↓] theorem es_eCallG {F : FF} : Es (eCallG F ff s) Q ↔ Es (ff s) fun ws s1 => Ev (F ws s1.st) fun q => Q q.1 ⟨s1.sl, q.2⟩ := by simp [eCallG, es_ev]
@[simp ↓] theorem es_eChain {h h' : OpH} : Es (eChain h h' fa fb fc s) Q ↔ Es (fa s) fun p s1 => Es (fb s1) fun q s2 => ViewK p s2.st fun u => ViewK q s2.st fun w => Ev (h u w) fun r => SoK r.tru fun t =>
    IteK t (Es (fc s2) fun z s3 => ViewK q s3.st fun w' => ViewK z s3.st fun x => Ev (h' w' x) fun r' => Q r' s3) (Q (bR false) s2) := by
  simp [eChain, es_ev, IteK, ViewK, ev_ite']; rfl
/-- a call with one mutable thing -/
@[simp ↓] theorem es_eCallB {F : FF} : Es (eCallB F ff s) Q ↔ Es (ff s) fun ws s1 => Ev (argB ws) fun q => GetK s1.st q.1 fun o => SoK o fun nd => nd.dat.isSome = true ∧ Ev (callB F q.2 nd) fun r => SetK s1.st q.1 (some r.2) fun st' => Q r.1 ⟨s1.sl, st'⟩ := by
  simp only [eCallB, es_ev, ev_bind']
  constructor <;> intro h <;> refine h.imp fun p h => h.imp fun q h => ?_
  · split at h
    · rename_i nd hn
      rw [ev_ite'] at h
      split at h
      · rename_i hd
        exact ⟨_, hn, _, rfl, hd, ev_map'.mp h⟩
      · exact (ev_none'.mp h).elim
    · exact (ev_none'.mp h).elim
  · obtain ⟨o, hn, nd, rfl, hd, h⟩ := h
    rw [hn]
    dsimp only
    rw [if_pos hd]
    exact ev_map'.mpr h
@[simp ↓] theorem arg_d {d : D} {ws : List W} {Q : Nat × List W → Prop} : Ev (argB (.d d :: ws)) Q ↔ Ev (argB ws) fun q => Q (q.1, .d d :: q.2) := by simp [argB]
@[simp ↓] theorem arg_o {n : Nat} {ws : List W} {Q : Nat × List W → Prop} : Ev (argB (.obj n :: ws)) Q ↔ DatsK ws fun _ => Q (n, .obj 0 :: ws) := by simp [argB, DatsK]
theorem ev_callB {F : FF} {ws : List W} {nd : Nd} {Q : R × Nd → Prop} : Ev (callB F ws nd) Q ↔ Ev (F ws [some nd]) fun p => Ev (p.1.pure 1 p.2) fun r => GetK p.2 0 fun o => SoK o fun nd' => nd'.dat.isSome = true ∧ Q (r, nd') := by
  unfold callB
  simp only [ev_bind']
  constructor <;> intro h <;> refine h.imp fun p h => h.imp fun r h => ?_
  · split at h
    · rename_i nd' hn
      rw [ev_ite'] at h
      split at h
      · rename_i hd
        exact ⟨_, hn, _, rfl, hd, ev_some'.mp h⟩
      · exact (ev_none'.mp h).elim
    · exact (ev_none'.mp h).elim
  · obtain ⟨o, hn, nd, rfl, hd, h⟩ := h
    rw [hn]
    dsimp only
    rw [if_pos hd]
    exact ev_some'.mpr h
def ArgsK (ds : List D) (Q : List W → Prop) : Prop := Q (ds.map .d)
@[simp ↓] theorem args_c {d : D} {ds : List D} {Q : List W → Prop} : ArgsK (d :: ds) Q ↔ ArgsK ds fun l => Q (.d d :: l) := Iff.rfl
@[simp ↓] theorem args_n {Q : List W → Prop} : ArgsK [] Q ↔ Q [] := Iff.rfl
theorem ev_callP {F : FF} {ds : List D} {Q : R → Prop} : Ev (callP F ds) Q ↔ ArgsK ds fun ws => Ev (F ws []) fun p => Ev (p.1.pure 0 p.2) Q := by simp [callP, ArgsK]
def PadK (n : Nat) (ws : List W) (Q : List (Option W) → Prop) : Prop := Q (ws.map some ++ List.replicate (n - ws.length) none)
@[simp ↓] theorem pad_c {n : Nat} {w : W} {ws : List W} {Q : List (Option W) → Prop} : PadK (n + 1) (w :: ws) Q ↔ PadK n ws fun l => Q (some w :: l) := by simp [PadK]
@[simp ↓] theorem pad_n {n : Nat} {Q : List (Option W) → Prop} : PadK (n + 1) [] Q ↔ PadK n [] fun l => Q (none :: l) := by simp [PadK, List.replicate_succ]
@[simp ↓] theorem pad_0 {Q : List (Option W) → Prop} : PadK 0 [] Q ↔ Q [] := by simp [PadK]
@[simp ↓] theorem ev_runF {n : Nat} {h : SF} {ws : List W} {Q : R × Sto → Prop} : Ev (runF n h ws st) Q ↔ PadK n ws fun sl => Eo (h ⟨sl, st⟩) (fun s => Q (.val (.d .non), s.st)) (fun r s => Q (r, s.st)) (fun _ => False) (fun _ => False) := by
  unfold runF Eo PadK
  rw [ev_bind']
  unfold Ev
  constructor <;> intro ⟨o, h1, h2⟩ <;> refine ⟨o, h1, ?_⟩ <;> cases o <;> simpa using h2
/-! statements -/
variable {n : S → Prop} {r : R → S → Prop} {b c : S → Prop}
@[simp ↓] theorem eo_sNext : Eo (sNext s) n r b c ↔ n s := by simp [Eo, sNext]
@[simp ↓] theorem eo_sBreak : Eo (sBreak s) n r b c ↔ b s := by simp [Eo, sBreak]
@[simp ↓] theorem eo_sCont : Eo (sCont s) n r b c ↔ c s := by simp [Eo, sCont]
theorem eo_bind {α : Type} {o : Option α} {f : α → Option O} : Eo (o.bind f) n r b c ↔ Ev o fun a => Eo (f a) n r b c := by
  cases o <;> simp [Eo, Ev]
@[simp ↓] theorem eo_sSeq {h1 h2 : SF} : Eo (sSeq h1 h2 s) n r b c ↔ Eo (h1 s) (fun s' => Eo (h2 s') n r b c) r b c := by
  unfold sSeq
  rw [eo_bind]
  unfold Ev
  conv => rhs; unfold Eo
  constructor <;> intro ⟨o, h1, h2⟩ <;> refine ⟨o, h1, ?_⟩ <;> cases o <;> first | exact h2 | (obtain ⟨_, h3, h4⟩ := h2; cases h3; exact h4) | exact ⟨_, rfl, h2⟩
theorem es_of {α : Type} {f : Option (α × S)} {g : α → S → O} : Eo (f.map fun p => g p.1 p.2) n r b c ↔ Es f fun a s => Eo (some (g a s)) n r b c := by
  cases f with
  | none => simp [Eo, es_ev]
  | some p => simp [Eo, es_ev]
@[simp ↓] theorem eo_sExpr : Eo (sExpr fa s) n r b c ↔ Es (fa s) fun _ s1 => n s1 := by unfold sExpr; exact (es_of (g := fun _ s => .nx s)).trans (by simp [Eo])
@[simp ↓] theorem eo_sRet : Eo (sRet fa s) n r b c ↔ Es (fa s) fun x s1 => r x s1 := by unfold sRet; exact (es_of (g := fun x s => .rt x s)).trans (by simp [Eo])
@[simp ↓] theorem eo_sRetN : Eo (sRetN s) n r b c ↔ r (.val (.d .non)) s := by simp [Eo, sRetN]
@[simp ↓] theorem eo_sIf {h1 h2 : SF} : Eo (sIf ta h1 h2 s) n r b c ↔ Es (ta s) fun x s1 => IteK x (Eo (h1 s1) n r b c) (Eo (h2 s1) n r b c) := by
  unfold sIf; rw [eo_bind, es_ev]
  unfold IteK
  constructor <;> intro h <;> refine h.imp fun p h => ?_ <;> split at h <;> simp_all
@[simp ↓] theorem eo_sAsg {t : GF} : Eo (sAsg fa t s) n r b c ↔ Es (fa s) fun x s1 => RwK x fun w => Ev (t (.one w) s1) n := by
  unfold sAsg; rw [eo_bind, es_ev]
  simp only [eo_bind, RwK]
  constructor <;> intro h <;> refine h.imp fun p h => h.imp fun w h => ?_
  · obtain ⟨x, h1, h2⟩ := h
    obtain ⟨s', h3, rfl⟩ := Option.map_eq_some_iff.mp h1
    exact ⟨s', h3, h2⟩
  · obtain ⟨s', h3, h4⟩ := h
    exact ⟨_, by rw [h3]; rfl, h4⟩
@[simp ↓] theorem eo_sAsgO {t : GF} : Eo (sAsgO fa t s) n r b c ↔ Es (fa s) fun x s1 => RwoK x s1.st fun w st' => Ev (t (.one w) ⟨s1.sl, st'⟩) n := by
  unfold sAsgO; rw [eo_bind, es_ev]
  simp only [RwoK]
  constructor <;> intro h <;> refine h.imp fun p h => ?_
  · obtain ⟨x, h1, h2⟩ := h
    obtain ⟨s', h3, rfl⟩ := Option.map_eq_some_iff.mp h1
    exact ⟨s', h3, h2⟩
  · obtain ⟨s', h3, h4⟩ := h
    exact ⟨_, by rw [h3]; rfl, h4⟩
variable {w : W} {G : S → Prop}
@[simp ↓] theorem ev_gN {i : Nat} : Ev (gN i (.one w) ⟨sl, st⟩) G ↔ SetK sl i (some w) fun sl' => G ⟨sl', st⟩ := ev_some'
@[simp ↓] theorem ev_gNil : Ev (gNil' [] s) G ↔ G s := ev_some'
@[simp ↓] theorem ev_gCons {t : GF} {u : GsF} {ws : List W} : Ev (gCons' t u (w :: ws) s) G ↔ Ev (t (.one w) s) fun s' => Ev (u ws s') G := by simp [gCons']
@[simp ↓] theorem ev_gT {k : Nat} {u : GsF} {ws : List W} : Ev (gT k u (.tup ws) s) G ↔ LenK ws fun m => m = k ∧ Ev (u ws s) G := by simp [gT, Y.items, ev_ite', LenK]
@[simp ↓] theorem ev_gT1 {k : Nat} {u : GsF} {ds : List D} : Ev (gT k u (.one (.d (.tup ds))) s) G ↔ LenK ds fun m => m = k ∧ Ev (u (ds.map .d) s) G := by simp [gT, Y.items, ev_ite', LenK]
def ObjK (x : R) (Q : Nat → Prop) : Prop := ∃ k, x = .val (.obj k) ∧ Q k
@[simp ↓] theorem objk {k : Nat} {Q : Nat → Prop} : ObjK (.val (.obj k)) Q ↔ Q k := by simp [ObjK]
@[simp ↓] theorem ev_gSb : Ev (gSb fa fb (.one w) s) G ↔ Es (fa s) fun p s1 => Es (fb s1) fun q s2 => ObjK p fun k => GetK s2.st k fun o => SoK o fun nd => ViewK q s2.st fun u => Ev (nd.put u w) fun nd' => SetK s2.st k (some nd') fun st' => G ⟨s2.sl, st'⟩ := by
  simp only [gSb, ev_bind', es_ev]
  constructor <;> intro h <;> refine h.imp fun p h => h.imp fun q h => ?_
  · split at h
    · split at h
      · rename_i h1 _ nd h2
        exact ⟨_, h1, _, h2, _, rfl, by simpa [ViewK, SetK] using h⟩
      · simp at h
    · simp at h
  · obtain ⟨k, h1, o, h2, nd, rfl, h3⟩ := h
    simp only [h1, h2]
    simpa [ViewK, SetK] using h3
/-! loops -/
@[simp ↓] theorem eo_sFor {fi : IF} {t : GF} {h : SF} : Eo (sFor fi t h s) n r b c ↔ Es (fi s) fun it s1 => Eo (forL t h it.gd it.ys s1) n r b c := by simp [sFor, eo_bind, es_ev]
theorem eo_gchk {gd : List (Nat × Nd)} {o : Option O} : Eo (gchk gd st o) n r b c ↔ gok gd st ∧ Eo o n r b c := by
  by_cases h : gok gd st
  · rw [gchk_of h]; exact ⟨fun q => ⟨h, q⟩, fun q => q.2⟩
  · unfold gchk; rw [if_neg h]; exact ⟨(fun ⟨_, e, _⟩ => nomatch e), fun q => (h q.1).elim⟩
theorem ev_gchk {α : Type} {gd : List (Nat × Nd)} {o : Option α} {Q : α → Prop} : Ev (gchk gd st o) Q ↔ gok gd st ∧ Ev o Q := by
  by_cases h : gok gd st
  · rw [gchk_of h]; exact ⟨fun q => ⟨h, q⟩, fun q => q.2⟩
  · unfold gchk; rw [if_neg h]; exact ⟨(fun ⟨_, e, _⟩ => nomatch e), fun q => (h q.1).elim⟩
@[simp] theorem gok_n : gok [] st := gok_nil
theorem eo_forL_nil {t : GF} {h : SF} {gd : List (Nat × Nd)} : Eo (forL t h gd [] s) n r b c ↔ gok gd s.st ∧ n s := by unfold forL; rw [eo_gchk]; simp [Eo]
theorem eo_forL_cons {t : GF} {h : SF} {gd : List (Nat × Nd)} {y : Y} {ys : List Y} : Eo (forL t h gd (y :: ys) s) n r b c ↔ gok gd s.st ∧ Ev (t y s) fun s1 => Eo (h s1) (fun s2 => Eo (forL t h gd ys s2) n r b c) r n (fun s2 => Eo (forL t h gd ys s2) n r b c) := by
  have e : forL t h gd (y :: ys) s = gchk gd s.st ((t y s).bind fun s1 => (h s1).bind fun o => match o with
    | .nx s2 => forL t h gd ys s2
    | .ct s2 => forL t h gd ys s2
    | .bk s2 => some (.nx s2)
    | .rt r s2 => some (.rt r s2)) := rfl
  rw [e, eo_gchk, eo_bind]
  generalize forL t h gd ys = f
  refine and_congr_right fun _ => ⟨fun h => h.imp fun s1 h => ?_, fun h => h.imp fun s1 h => ?_⟩
  · obtain ⟨o, h1, h2⟩ := eo_bind.mp h
    refine ⟨o, h1, ?_⟩
    cases o <;> first | exact h2 | (obtain ⟨_, h3, h4⟩ := h2; cases h3; exact h4)
  · obtain ⟨o, h1, h2⟩ := h
    refine eo_bind.mpr ⟨o, h1, ?_⟩
    cases o <;> first | exact h2 | exact ⟨_, rfl, h2⟩
/-- a loop by an invariant; i: how many turns were taken -/
theorem forL_inv {t : GF} {h : SF} {gd : List (Nat × Nd)} (I : Nat → S → Prop) (ys : List Y) (i : Nat) (s : S) (h0 : I i s) (hs : ∀ j y s, i ≤ j → ys[j - i]? = some y → I j s → Ev (t y s) fun s1 => Eo (h s1) (I (j + 1)) r n (I (j + 1))) (hn : ∀ s, I (i + ys.length) s → n s)
    (hg : ∀ j s, I j s → gok gd s.st := by intros; exact gok_nil) : Eo (forL t h gd ys s) n r b c := by
  induction ys generalizing i s with
  | nil => exact eo_forL_nil.mpr ⟨hg _ _ h0, hn s h0⟩
  | cons y ys ih =>
    refine eo_forL_cons.mpr ⟨hg _ _ h0, (hs i y s (Nat.le_refl _) (by simp) h0).imp fun s1 h1 => ?_⟩
    have go : ∀ s2, I (i + 1) s2 → Eo (forL t h gd ys s2) n r b c := fun s2 h2 => ih (i + 1) s2 h2 (fun j y s hj hy hI => hs j y s (by omega) (by
      have : j - i = (j - (i + 1)) + 1 := by omega
      rw [this]; exact hy) hI) (fun s hI => hn s (by
        have : i + (y :: ys).length = i + 1 + ys.length := by simp; omega
        rw [this]; exact hI))
    exact h1.imp go (fun _ _ h => h) (fun _ h => h) go
end
section
variable {st : Sto} {i j : Int} {d : D} {Q : Vu → Prop} {P : R → Prop}
@[simp ↓] theorem view_int : ViewK (.val (.d (.int i))) st Q ↔ Q (.at (.int i)) := ev_some'
@[simp ↓] theorem view_bl {b : Bool} : ViewK (.val (.d (.bl b))) st Q ↔ Q (.at (.bl b)) := ev_some'
@[simp ↓] theorem view_str {b : Str} : ViewK (.val (.d (.str b))) st Q ↔ Q (.at (.str b)) := ev_some'
@[simp ↓] theorem view_non : ViewK (.val (.d .non)) st Q ↔ Q (.at .non) := ev_some'
@[simp ↓] theorem view_ty {n : String} : ViewK (.val (.d (.ty n))) st Q ↔ Q (.at (.ty n)) := ev_some'
@[simp ↓] theorem view_lst {l : List D} : ViewK (.val (.d (.lst l))) st Q ↔ Q (.lst (l.map .d)) := ev_some'
@[simp ↓] theorem view_lsw {l : List D} : ViewK (.val (.d (.lsw l))) st Q ↔ Q (.lsw (l.map .d)) := ev_some'
@[simp ↓] theorem view_tup {l : List D} : ViewK (.val (.d (.tup l))) st Q ↔ Q (.tup (l.map .d)) := ev_some'
@[simp ↓] theorem view_dct {l : List (Key × D)} : ViewK (.val (.d (.dct l))) st Q ↔ Q (.dct (l.map fun p => (p.1, .d p.2))) := ev_some'
@[simp ↓] theorem view_newl {l : List W} : ViewK (.new (.lst l)) st Q ↔ Q (.lst l) := ev_some'
@[simp ↓] theorem view_newd {l : List (Key × W)} : ViewK (.new (.dct l)) st Q ↔ Q (.dct l) := ev_some'
def NdvK (nd : Nd) (n : Nat) (Q : Vu → Prop) : Prop := Q (nd.view n)
@[simp ↓] theorem view_obj {n : Nat} : ViewK (.val (.obj n)) st Q ↔ GetK st n fun o => SoK o fun nd => NdvK nd n Q := by
  unfold ViewK R.view GetK SoK NdvK
  simp only
  cases h : st[n]? with
  | none => simp
  | some o => cases o <;> simp
@[simp ↓] theorem ndv_lst {n : Nat} {ws : List W} : NdvK (.lst ws) n Q ↔ Q (.lst ws) := Iff.rfl
@[simp ↓] theorem ndv_dct {n : Nat} {ws : List (Key × W)} : NdvK (.dct ws) n Q ↔ Q (.dct ws) := Iff.rfl
@[simp ↓] theorem ndv_ins {n : Nat} {c : Str} {ws : List (Str × W)} : NdvK (.ins c ws) n Q ↔ Q (.ref n) := Iff.rfl
variable {V : W → Prop} {U : W → Sto → Prop}
@[simp ↓] theorem rw_val {w : W} : RwK (.val w) V ↔ V w := ev_some'
@[simp ↓] theorem rw_newl {ws : List W} : RwK (.new (.lst ws)) V ↔ DatsK ws fun ds => V (.d (.lst ds)) := by simp [RwK, R.w, Nd.dat, DatsK]
@[simp ↓] theorem rw_newd {ws : List (Key × W)} : RwK (.new (.dct ws)) V ↔ Ev (datk ws) fun ds => V (.d (.dct ds)) := by simp [RwK, R.w, Nd.dat]
@[simp ↓] theorem rwo_val {w : W} : RwoK (.val w) st U ↔ U w st := Iff.rfl
@[simp ↓] theorem rwo_new {nd : Nd} : RwoK (.new nd) st U ↔ LenK st fun k => AppK st [some nd] fun st' => U (.obj k) st' := Iff.rfl
@[simp ↓] theorem tru_b {b : Bool} {B : Bool → Prop} : SoK (R.tru (.val (.d (.bl b)))) B ↔ B b := by simp [SoK, R.tru]
@[simp ↓] theorem int_i {B : Int → Prop} : SoK (R.int? (.val (.d (.int i)))) B ↔ B i := by simp [SoK, R.int?]
@[simp ↓] theorem hAdd_i : Ev (hAdd' (.at (.int i)) (.at (.int j))) P ↔ P (iR (i + j)) := ev_some'
@[simp ↓] theorem hSub_i : Ev (hSub (.at (.int i)) (.at (.int j))) P ↔ P (iR (i - j)) := ev_some'
@[simp ↓] theorem hMul_i : Ev (hMul (.at (.int i)) (.at (.int j))) P ↔ cMul i j = true ∧ P (iR (i * j)) := by
  by_cases h : cMul i j = true
  · simp [hMul, orH, hMulI, hII, h]
  · simp [hMul, orH, hMulI, hII, h, hRepL]
@[simp ↓] theorem hDiv_i : Ev (hDiv (.at (.int i)) (.at (.int j))) P ↔ (0 < j ∧ j < 1073741824) ∧ P (iR (i / j)) := by
  by_cases h : 0 < j ∧ j < 1073741824 <;> simp [hDiv, hII, cDiv, h]
@[simp ↓] theorem hMod_i : Ev (hMod (.at (.int i)) (.at (.int j))) P ↔ 0 < j ∧ P (iR (i % j)) := by
  by_cases h : 0 < j <;> simp [hMod, hII, cMod, h]
@[simp ↓] theorem hPow_i : Ev (hPow (.at (.int i)) (.at (.int j))) P ↔ cPow i j = true ∧ P (iR (i ^ j.toNat)) := by
  by_cases h : cPow i j = true <;> simp [hPow, hII, h]
@[simp ↓] theorem hLt_i : Ev (hLt (.at (.int i)) (.at (.int j))) P ↔ P (bR (decide (i < j))) := ev_some'
@[simp ↓] theorem hLe_i : Ev (hLe (.at (.int i)) (.at (.int j))) P ↔ P (bR (decide (i ≤ j))) := ev_some'
@[simp ↓] theorem hGt_i : Ev (hGt (.at (.int i)) (.at (.int j))) P ↔ P (bR (decide (j < i))) := ev_some'
@[simp ↓] theorem hGe_i : Ev (hGe (.at (.int i)) (.at (.int j))) P ↔ P (bR (decide (j ≤ i))) := ev_some'
@[simp ↓] theorem hEq_i : Ev (hEq (.at (.int i)) (.at (.int j))) P ↔ P (bR (decide (i = j))) := ev_some'
@[simp ↓] theorem hNe_i : Ev (hNe (.at (.int i)) (.at (.int j))) P ↔ P (bR (!decide (i = j))) := ev_some'
@[simp ↓] theorem hEq_b {a b : Bool} : Ev (hEq (.at (.bl a)) (.at (.bl b))) P ↔ P (bR (a == b)) := ev_some'
@[simp ↓] theorem hNe_b {a b : Bool} : Ev (hNe (.at (.bl a)) (.at (.bl b))) P ↔ P (bR (!(a == b))) := ev_some'
@[simp ↓] theorem hEq_s {a b : Str} : Ev (hEq (.at (.str a)) (.at (.str b))) P ↔ P (bR (decide (a = b))) := ev_some'
@[simp ↓] theorem hNe_s {a b : Str} : Ev (hNe (.at (.str a)) (.at (.str b))) P ↔ P (bR (!decide (a = b))) := ev_some'
@[simp ↓] theorem hIs_n : Ev (hIs (.at .non) (.at .non)) P ↔ P (bR true) := by simp [hIs, isNon]
/-- a place of a list -/
def AtK (ws : List W) (i : Int) (V : W → Prop) : Prop := Ev (L2.atI ws i) V
@[simp ↓] theorem hIx_l {ws : List W} : Ev (hIx (.lst ws) (.at (.int i))) P ↔ AtK ws i fun w => P (.val w) := by
  unfold AtK
  cases h : L2.atI ws i <;> simp [hIx, orH, hIxL, h, hIxT, hIxS, hIxD, Vu.dic, Vu.key, D.key, Vu.dat]
@[simp ↓] theorem hIx_w {ws : List W} : Ev (hIx (.lsw ws) (.at (.int i))) P ↔ AtK ws i fun w => P (.val w) := by
  unfold AtK
  cases h : L2.atI ws i <;> simp [hIx, orH, hIxL, h, hIxT, hIxS, hIxD, Vu.dic, Vu.key, D.key, Vu.dat]
@[simp ↓] theorem hIx_t {ws : List W} : Ev (hIx (.tup ws) (.at (.int i))) P ↔ AtK ws i fun w => P (.val w) := by
  unfold AtK
  cases h : L2.atI ws i <;> simp [hIx, orH, hIxL, h, hIxT, hIxS, hIxD, Vu.dic, Vu.key, D.key, Vu.dat]
theorem ixN_nn {n : Nat} {i : Int} (h : 0 ≤ i) : L2.ixN n i = if i < n then some i.toNat else none := by
  unfold L2.ixN
  rw [if_pos h]
theorem atI_nn {α : Type} {l : List α} {i : Int} (h : 0 ≤ i) : L2.atI l i = l[i.toNat]? := by
  unfold L2.atI
  rw [ixN_nn h]
  split
  · rfl
  · exact (List.getElem?_eq_none (by omega)).symm
@[simp ↓] theorem at_0 {a : W} {l : List W} : AtK (a :: l) 0 V ↔ V a := by unfold AtK; rw [atI_nn (by decide)]; exact ev_some'
@[simp ↓] theorem at_1 {a b : W} {l : List W} : AtK (a :: b :: l) 1 V ↔ V b := by unfold AtK; rw [atI_nn (by decide)]; exact ev_some'
@[simp ↓] theorem at_2 {a b c : W} {l : List W} : AtK (a :: b :: c :: l) 2 V ↔ V c := by unfold AtK; rw [atI_nn (by decide)]; exact ev_some'
@[simp ↓] theorem at_3 {a b c d : W} {l : List W} : AtK (a :: b :: c :: d :: l) 3 V ↔ V d := by unfold AtK; rw [atI_nn (by decide)]; exact ev_some'
@[simp ↓] theorem at_4 {a b c d e : W} {l : List W} : AtK (a :: b :: c :: d :: e :: l) 4 V ↔ V e := by unfold AtK; rw [atI_nn (by decide)]; exact ev_some'
@[simp ↓] theorem ca_abs : Ev (hAbs [.at (.int i)]) P ↔ P (iR (i.natAbs : Int)) := by
  have : (if i < 0 then -i else i) = (i.natAbs : Int) := by split <;> omega
  rw [← this]; exact ev_some'
@[simp ↓] theorem ca_int_i : Ev (hInt [.at (.int i)]) P ↔ P (iR i) := ev_some'
@[simp ↓] theorem ca_int_b {b : Bool} : Ev (hInt [.at (.bl b)]) P ↔ P (iR (if b = true then 1 else 0)) := by cases b <;> exact ev_some'
@[simp ↓] theorem ca_max : Ev (hMax [.at (.int i), .at (.int j)]) P ↔ P (iR (max i j)) := by
  have : (if j > i then j else i) = max i j := by omega
  rw [← this]; exact ev_some'
@[simp ↓] theorem ca_min : Ev (hMin [.at (.int i), .at (.int j)]) P ↔ P (iR (min i j)) := by
  have : (if j < i then j else i) = min i j := by omega
  rw [← this]; exact ev_some'
@[simp ↓] theorem ca_len_l {ws : List W} : Ev (hLen [.lst ws]) P ↔ P (iR ws.length) := ev_some'
@[simp ↓] theorem ca_len_w {ws : List W} : Ev (hLen [.lsw ws]) P ↔ P (iR ws.length) := ev_some'
@[simp ↓] theorem ca_len_t {ws : List W} : Ev (hLen [.tup ws]) P ↔ P (iR ws.length) := ev_some'
@[simp ↓] theorem ca_divmod : Ev (hDivmod [.at (.int i), .at (.int j)]) P ↔ (0 < j ∧ j < 1073741824) ∧ P (.val (.d (.tup [.int (i / j), .int (i % j)]))) := by
  by_cases h : 0 < j ∧ j < 1073741824 <;> simp [hDivmod, cDiv, h]
def PutK (ws : List W) (i : Int) (w : W) (N : List W → Prop) : Prop := Ev (L2.ixN ws.length i) fun j => N (ws.set j w)
@[simp ↓] theorem put_l {ws : List W} {w : W} {N : Nd → Prop} : Ev ((Nd.lst ws).put (.at (.int i)) w) N ↔ PutK ws i w fun ws' => N (.lst ws') := ev_map'
theorem putk {ws : List W} {w : W} {N : List W → Prop} {n : Nat} (h : n < ws.length) : PutK ws n w N ↔ N (ws.set n w) := by
  unfold PutK; rw [ixN_nn (by omega), if_pos (by omega)]; exact ev_some'
@[simp ↓] theorem put_0 {a b : W} {l : List W} {N : List W → Prop} : PutK (a :: l) 0 b N ↔ N (b :: l) := putk (n := 0) (by simp)
@[simp ↓] theorem put_1 {a a' b : W} {l : List W} {N : List W → Prop} : PutK (a :: a' :: l) 1 b N ↔ N (a :: b :: l) := putk (n := 1) (by simp)
@[simp ↓] theorem put_2 {a a' a2 b : W} {l : List W} {N : List W → Prop} : PutK (a :: a' :: a2 :: l) 2 b N ↔ N (a :: a' :: b :: l) := putk (n := 2) (by simp)
@[simp ↓] theorem pure_d {n : Nat} : Ev ((R.val (.d d)).pure n st) P ↔ P (.val (.d d)) := ev_some'
@[simp ↓] theorem pure_n {n : Nat} {nd : Nd} : Ev ((R.new nd).pure n st) P ↔ nd.dat.isSome = true ∧ P (.new nd) := by
  by_cases h : nd.dat.isSome = true <;> simp [R.pure, h]
@[simp ↓] theorem pure_o {n k : Nat} : Ev ((R.val (.obj k)).pure n st) P ↔ n ≤ k ∧ GetK st k fun o => SoK o fun nd => nd.dat.isSome = true ∧ P (.new nd) := by
  unfold R.pure GetK SoK
  simp only
  by_cases hk : n ≤ k
  · rw [if_pos hk]
    simp only [hk, true_and]
    cases h : st[k]? with
    | none => simp
    | some o =>
      cases o with
      | none => simp
      | some nd => by_cases hd : nd.dat.isSome = true <;> simp [hd]
  · simp [hk]
@[simp] theorem isd_l {l : List D} : (Nd.lst (l.map .d)).dat.isSome = true := by simp [Nd.dat, dats_map]
@[simp] theorem isd_n : (Nd.lst []).dat.isSome = true := rfl
@[simp] theorem isd_c {d : D} {l : List W} : (Nd.lst (.d d :: l)).dat.isSome = (Nd.lst l).dat.isSome := by simp [Nd.dat, dats]
end
section
variable {s : S} {sl : List (Option W)} {st : Sto} {fa fb fc fo : EF} {ff : AF} {ta tb : TF} {Q : R → S → Prop} {T : Bool → S → Prop} {A : List W → S → Prop} {P : R → Prop} {Y' : Itm → S → Prop} {ws : List W} {lo hi : Option Int} {i j : Int}
@[simp ↓] theorem hSl_l : Ev (hSl (.lst ws) lo hi) P ↔ P (.new (.lst (cut ws lo hi))) := ev_some'
@[simp ↓] theorem hSl_w : Ev (hSl (.lsw ws) lo hi) P ↔ P (.new (.lst (cut ws lo hi))) := ev_some'
@[simp ↓] theorem hSl_t : Ev (hSl (.tup ws) lo hi) P ↔ DatsK ws fun ds => P (.val (.d (.tup (cut ds lo hi)))) := by
  unfold DatsK
  cases h : dats ws <;> simp [hSl, orSl, hSlL, hSlT, hSlS, h]
@[simp ↓] theorem hSl_s {z : Str} : Ev (hSl (.at (.str z)) lo hi) P ↔ z.length ≤ sizeLine ∧ P (.val (.d (.str (cutS z lo hi)))) := by
  by_cases h : z.length ≤ sizeLine <;> simp [hSl, orSl, hSlL, hSlT, hSlS, h]
@[simp ↓] theorem ca_list_l : Ev (hList [.lst ws]) P ↔ P (.new (.lst ws)) := ev_some'
@[simp ↓] theorem ca_list_w : Ev (hList [.lsw ws]) P ↔ P (.new (.lst ws)) := ev_some'
@[simp ↓] theorem ca_list_t : Ev (hList [.tup ws]) P ↔ P (.new (.lst ws)) := ev_some'
@[simp ↓] theorem ca_tup_l : Ev (hTuple [.lst ws]) P ↔ DatsK ws fun ds => P (.val (.d (.tup ds))) := ev_map'
@[simp ↓] theorem ca_tup_w : Ev (hTuple [.lsw ws]) P ↔ DatsK ws fun ds => P (.val (.d (.tup ds))) := ev_map'
@[simp ↓] theorem ca_tup_t : Ev (hTuple [.tup ws]) P ↔ DatsK ws fun ds => P (.val (.d (.tup ds))) := ev_map'
@[simp ↓] theorem dats_mapf {α : Type} {f : α → D} {l : List α} {B : List D → Prop} : DatsK (l.map (W.d ∘ f)) B ↔ B (l.map f) := by
  have : l.map (W.d ∘ f) = (l.map f).map .d := by simp
  rw [this]; exact datsk_map
@[simp ↓] theorem dats_mapl {α : Type} {f : α → D} {l : List α} {B : List D → Prop} : DatsK (l.map fun x => W.d (f x)) B ↔ B (l.map f) := dats_mapf (f := f)
@[simp ↓] theorem dats_app {l m : List W} {B : List D → Prop} : DatsK (l ++ m) B ↔ DatsK l fun a => DatsK m fun b => B (a ++ b) := by
  unfold DatsK
  induction l generalizing B with
  | nil => simp [dats]
  | cons x r ih =>
    cases x with
    | d x =>
      show Ev ((dats (r ++ m)).map _) B ↔ Ev ((dats r).map _) _
      rw [ev_map', ev_map', ih]; rfl
    | obj n =>
      show Ev (none : Option (List D)) B ↔ Ev (none : Option (List D)) _
      rw [ev_none', ev_none']
    | tp n =>
      show Ev (none : Option (List D)) B ↔ Ev (none : Option (List D)) _
      rw [ev_none', ev_none']
@[simp] theorem cut_map {α β : Type} {f : α → β} {l : List α} : cut (l.map f) lo hi = (cut l lo hi).map f := by simp [cut, List.map_take, List.map_drop]
def LstK (nd : Nd) (Q : List W → Prop) : Prop := ∃ ws, nd = .lst ws ∧ Q ws
@[simp ↓] theorem lstk {B : List W → Prop} : LstK (.lst ws) B ↔ B ws := by simp [LstK]
/-! iterators -/
theorem ev_pair {α β : Type} {Q : α → β → Prop} {a : α} {b : β} : Ev (some (a, b)) (fun p => Q p.1 p.2) ↔ Q a b := ev_some'
def OneK (ws : List W) (Q : W → Prop) : Prop := ∃ w, ws = [w] ∧ Q w
@[simp ↓] theorem onek {w : W} {B : W → Prop} : OneK [w] B ↔ B w := by simp [OneK]
def SeqK (r : R) (st : Sto) (Q : List W → List (Nat × Nd) → Prop) : Prop := Ev (seqR r st) fun q => Q q.1 q.2
variable {Z : List W → List (Nat × Nd) → Prop}
@[simp ↓] theorem seqk_l {l : List D} : SeqK (.val (.d (.lst l))) st Z ↔ Z (l.map .d) [] := ev_some'
@[simp ↓] theorem seqk_w {l : List D} : SeqK (.val (.d (.lsw l))) st Z ↔ Z (l.map .d) [] := ev_some'
@[simp ↓] theorem seqk_n : SeqK (.new (.lst ws)) st Z ↔ Z ws [] := ev_some'
@[simp ↓] theorem seqk_o {n : Nat} : SeqK (.val (.obj n)) st Z ↔ GetK st n fun o => SoK o fun nd => LstK nd fun ws => Z ws [(n, .lst ws)] := by
  unfold SeqK GetK SoK LstK
  have e : seqR (.val (.obj n)) st = match st[n]? with
    | some (some (.lst ws)) => some (ws, [(n, .lst ws)])
    | _ => none := rfl
  rw [e]
  cases h : st[n]? with
  | none => simp
  | some o =>
    cases o with
    | none => simp
    | some nd => cases nd <;> simp
@[simp ↓] theorem es_iEn : Es (iEn ff s) Y' ↔ Es (ff s) fun ws s1 => OneK ws fun w => SeqK (.val w) s1.st fun xs gd => Y' ⟨yEnum xs, gd⟩ s1 := by
  simp only [iEn, es_ev, ev_bind']
  constructor <;> intro h <;> refine h.imp fun p h => ?_
  · split at h
    · rename_i w hw; exact ⟨w, hw, ev_map'.mp h⟩
    · exact (ev_none'.mp h).elim
  · obtain ⟨w, hw, h⟩ := h
    rw [hw]; exact ev_map'.mpr h
def TwoK (ws : List W) (Q : W → W → Prop) : Prop := ∃ w w', ws = [w, w'] ∧ Q w w'
@[simp ↓] theorem twok {w w' : W} {B : W → W → Prop} : TwoK [w, w'] B ↔ B w w' := ⟨(fun ⟨_, _, h, q⟩ => by cases h; exact q), fun q => ⟨_, _, rfl, q⟩⟩
def ZipK (st : Sto) (w w' : W) (Q : List W → List W → List (Nat × Nd) → Prop) : Prop := Ev (zipR st w w') fun q => Q q.1 q.2.1 q.2.2
variable {Zp : List W → List W → List (Nat × Nd) → Prop}
@[simp ↓] theorem zip_tt {a b : List D} : ZipK st (.d (.tup a)) (.d (.tup b)) Zp ↔ Zp (a.map .d) (b.map .d) [] := ev_some'
theorem zip_x {w w' : W} (h : w.tupd = none) : ZipK st w w' Zp ↔ SeqK (.val w) st fun xs gd => SeqK (.val w') st fun ys gd' => Zp xs ys (gd ++ gd') := by
  unfold ZipK zipR SeqK
  rw [h]
  simp
@[simp ↓] theorem zip_l {a : List D} {w' : W} : ZipK st (.d (.lst a)) w' Zp ↔ SeqK (.val (.d (.lst a))) st fun xs gd => SeqK (.val w') st fun ys gd' => Zp xs ys (gd ++ gd') := zip_x rfl
@[simp ↓] theorem zip_w {a : List D} {w' : W} : ZipK st (.d (.lsw a)) w' Zp ↔ SeqK (.val (.d (.lsw a))) st fun xs gd => SeqK (.val w') st fun ys gd' => Zp xs ys (gd ++ gd') := zip_x rfl
@[simp ↓] theorem zip_o {n : Nat} {w' : W} : ZipK st (.obj n) w' Zp ↔ SeqK (.val (.obj n)) st fun xs gd => SeqK (.val w') st fun ys gd' => Zp xs ys (gd ++ gd') := zip_x rfl
@[simp ↓] theorem es_iZp : Es (iZp ff s) Y' ↔ Es (ff s) fun ws s1 => TwoK ws fun w w' => ZipK s1.st w w' fun xs ys gd => Y' ⟨yZip xs ys, gd⟩ s1 := by
  simp only [iZp, es_ev, ev_bind']
  constructor <;> intro h <;> refine h.imp fun p h => ?_
  · split at h
    · rename_i w w' hw; exact ⟨w, w', hw, ev_map'.mp h⟩
    · exact (ev_none'.mp h).elim
  · obtain ⟨w, w', hw, h⟩ := h
    rw [hw]; exact ev_map'.mpr h
def IntK (w : W) (Q : Int → Prop) : Prop := ∃ i, w = .d (.int i) ∧ Q i
@[simp ↓] theorem intk {B : Int → Prop} : IntK (.d (.int i)) B ↔ B i := by simp [IntK]
@[simp ↓] theorem es_iR1 : Es (iR1 ff s) Y' ↔ Es (ff s) fun ws s1 => OneK ws fun w => IntK w fun j => small j = true ∧ Y' ⟨yInts (rng 0 j.toNat), []⟩ s1 := by
  simp only [iR1, es_ev, ev_bind']
  constructor <;> intro h <;> refine h.imp fun p h => ?_
  · split at h
    · rename_i j hw
      rw [ev_ite'] at h
      split at h
      · exact ⟨_, hw, j, rfl, by assumption, (ev_pair (Q := Y')).mp h⟩
      · exact (ev_none'.mp h).elim
    · exact (ev_none'.mp h).elim
  · obtain ⟨w, hw, j, rfl, h1, h⟩ := h
    rw [hw]; dsimp only; rw [if_pos h1]; exact ev_some'.mpr h
@[simp ↓] theorem es_iR2 : Es (iR2 ff s) Y' ↔ Es (ff s) fun ws s1 => TwoK ws fun w w' => IntK w fun i => IntK w' fun j => (small i = true ∧ small j = true) ∧ Y' ⟨yInts (rng i (j - i).toNat), []⟩ s1 := by
  simp only [iR2, es_ev, ev_bind']
  constructor <;> intro h <;> refine h.imp fun p h => ?_
  · split at h
    · rename_i i j hw
      rw [ev_ite'] at h
      split at h
      · exact ⟨_, _, hw, i, rfl, j, rfl, by assumption, (ev_pair (Q := Y')).mp h⟩
      · exact (ev_none'.mp h).elim
    · exact (ev_none'.mp h).elim
  · obtain ⟨w, w', hw, i, rfl, j, rfl, h1, h⟩ := h
    rw [hw]; dsimp only; rw [if_pos h1]; exact ev_some'.mpr h
def WalkK (r : R) (st : Sto) (Q : Itm → Prop) : Prop := Ev (match r.tupd with
  | some ds => some ⟨ds.map fun d => .one (.d d), []⟩
  | none => (seqR r st).map fun q => (⟨q.1.map .one, q.2⟩ : Itm)) Q
variable {Wk : Itm → Prop}
@[simp ↓] theorem walk_t {l : List D} : WalkK (.val (.d (.tup l))) st Wk ↔ Wk ⟨l.map fun d => .one (.d d), []⟩ := ev_some'
theorem walk_x {r : R} (h : r.tupd = none) : WalkK r st Wk ↔ SeqK r st fun ws gd => Wk ⟨ws.map .one, gd⟩ := by
  unfold WalkK SeqK
  rw [h]
  exact ev_map'
@[simp ↓] theorem walk_l {l : List D} : WalkK (.val (.d (.lst l))) st Wk ↔ Wk ⟨(l.map .d).map .one, []⟩ := (walk_x rfl).trans seqk_l
@[simp ↓] theorem walk_w {l : List D} : WalkK (.val (.d (.lsw l))) st Wk ↔ Wk ⟨(l.map .d).map .one, []⟩ := (walk_x rfl).trans seqk_w
@[simp ↓] theorem walk_n : WalkK (.new (.lst ws)) st Wk ↔ Wk ⟨ws.map .one, []⟩ := (walk_x rfl).trans seqk_n
@[simp ↓] theorem walk_o {n : Nat} : WalkK (.val (.obj n)) st Wk ↔ GetK st n fun o => SoK o fun nd => LstK nd fun ws => Wk ⟨ws.map .one, [(n, .lst ws)]⟩ := (walk_x rfl).trans seqk_o
@[simp ↓] theorem es_iSq : Es (iSq fa s) Y' ↔ Es (fa s) fun r s1 => WalkK r s1.st fun it => Y' it s1 := by
  simp only [iSq, es_ev, ev_bind', WalkK]
  constructor <;> intro h <;> refine h.imp fun p h => ?_
  · cases e : p.1.tupd with
    | none => rw [e] at h; exact ev_map'.mpr (ev_map'.mp h)
    | some ds => rw [e] at h; obtain ⟨_, e1, h⟩ := h; cases e1; exact ev_some'.mpr h
  · cases e : p.1.tupd with
    | none => rw [e] at h; exact ev_map'.mpr (ev_map'.mp h)
    | some ds => rw [e] at h; obtain ⟨_, e1, h⟩ := h; cases e1; exact ⟨_, rfl, h⟩
/-! comprehensions -/
def WipeK (sl : List (Option W)) (own : List Nat) (Q : List (Option W) → Prop) : Prop := Q (wipeW sl own)
@[simp ↓] theorem wipe_n {B : List (Option W) → Prop} : WipeK sl [] B ↔ B sl := Iff.rfl
@[simp ↓] theorem wipe_c {v : Nat} {vs : List Nat} {B : List (Option W) → Prop} : WipeK sl (v :: vs) B ↔ WipeK sl vs fun l => SetK l v none B := Iff.rfl
/-- one turn: nothing of the store is changed; o: what is put to the list -/
def LcS (cv : Cv) (t : GF) (tt : TF) (fe : EF) (own : List Nat) (sl : List (Option W)) (st : Sto) (y : Y) (Z : Option W → Sto → Prop) : Prop :=
  WipeK sl own fun l => Ev (t y ⟨l, st⟩) fun s1 => Es (tt s1) fun b s2 => IteK b (Es (fe s2) fun r s3 => Ev (cv r s3.st) fun z => Z (some z.1) z.2) (Z none s2.st)
theorem lcL_inv {cv : Cv} {t : GF} {tt : TF} {fe : EF} {own : List Nat} {gd : List (Nat × Nd)} {B : List W × Sto → Prop} (I : Nat → List W → Sto → Prop) (ys : List Y) (i : Nat) (acc : List W) (st : Sto) (h0 : I i acc st) (hl : acc.length + ys.length ≤ sizeLine)
    (hs : ∀ j y acc st, i ≤ j → ys[j - i]? = some y → I j acc st → LcS cv t tt fe own sl st y fun o st' => I (j + 1) (acc ++ o.toList) st') (hn : ∀ acc st, I (i + ys.length) acc st → B (acc, st))
    (hg : ∀ j acc st, I j acc st → gok gd st := by intros; exact gok_nil) : Ev (lcL cv t tt fe own sl gd ys acc st) B := by
  induction ys generalizing i acc st with
  | nil => unfold lcL; exact ev_gchk.mpr ⟨hg _ _ _ h0, ev_some'.mpr (hn acc st h0)⟩
  | cons y ys ih =>
    have h00 := hs i y acc st (Nat.le_refl _) (by simp) h0
    unfold lcL
    refine ev_gchk.mpr ⟨hg _ _ _ h0, ?_⟩
    rw [ev_bind']
    have hs' : ∀ j y acc st, i + 1 ≤ j → ys[j - (i + 1)]? = some y → I j acc st → LcS cv t tt fe own sl st y fun o st' => I (j + 1) (acc ++ o.toList) st' := fun j y acc st hj hy hI => hs j y acc st (by omega) (by
      have : j - i = (j - (i + 1)) + 1 := by omega
      rw [this]; exact hy) hI
    have hn' : ∀ acc st, I (i + 1 + ys.length) acc st → B (acc, st) := fun acc st hI => hn acc st (by
      have : i + (y :: ys).length = i + 1 + ys.length := by simp; omega
      rw [this]; exact hI)
    simp only [List.length_cons] at hl
    refine h00.imp fun s1 h1 => ?_
    rw [ev_bind']
    refine (es_ev.mp h1).imp fun p h2 => ?_
    unfold IteK at h2
    rw [ev_ite']
    split at h2
    · rename_i hb
      rw [if_pos hb, ev_bind']
      refine (es_ev.mp h2).imp fun q h3 => ?_
      rw [ev_bind']
      refine h3.imp fun z h4 => ?_
      rw [if_pos (by omega)]
      exact ih (i + 1) _ _ h4 (by simp; omega) hs' hn'
    · rename_i hb
      rw [if_neg hb]
      exact ih (i + 1) _ _ (by simpa using h2) (by omega) hs' hn'
/-- turns that change nothing of the store -/
theorem lc_map {cv : Cv} {t : GF} {tt : TF} {fe : EF} {own : List Nat} {gd : List (Nat × Nd)} {B : List W × Sto → Prop} (f : Y → Option W) {ys : List Y} (hl : ys.length ≤ sizeLine)
    (hs : ∀ y ∈ ys, LcS cv t tt fe own sl st y fun o st' => o = f y ∧ st' = st) (q : B (ys.filterMap f, st)) (hg : gok gd st := by exact gok_nil) : Ev (lcL cv t tt fe own sl gd ys [] st) B := by
  refine lcL_inv (fun j acc st' => acc = (ys.take j).filterMap f ∧ st' = st) ys 0 [] st ⟨by simp, rfl⟩ (by simpa using hl) (fun j y acc st' _ hy hI => ?_) (fun acc st' hI => ?_) (fun j acc st' hI => by rw [hI.2]; exact hg)
  · obtain ⟨rfl, rfl⟩ := hI
    have hy' : ys[j]? = some y := by simpa using hy
    have := hs y (List.mem_of_getElem? hy')
    unfold LcS WipeK at this ⊢
    refine this.imp fun s1 h1 => h1.imp fun b s2 h2 => ?_
    have e : (List.take (j + 1) ys).filterMap f = (List.take j ys).filterMap f ++ (f y).toList := by
      rw [List.take_add_one, hy', List.filterMap_append]
      cases h : f y <;> simp [h]
    unfold IteK at h2 ⊢
    split at h2
    · rename_i hb
      rw [if_pos hb]
      exact h2.imp fun r s3 h3 => h3.imp fun z h4 => ⟨by rw [e, ← h4.1], h4.2⟩
    · rename_i hb
      rw [if_neg hb]
      exact ⟨by rw [e, ← h2.1], h2.2⟩
  · obtain ⟨rfl, rfl⟩ := hI
    rw [Nat.zero_add, List.take_length]; exact q
@[simp ↓] theorem es_eLcC {cv : Cv} {fi : IF} {t : GF} {tt : TF} {fe : EF} {own : List Nat} : Es (eLcC cv fi t tt fe own s) Q ↔ Es (fi s) fun it s1 => Ev (lcL cv t tt fe own s1.sl it.gd it.ys [] s1.st) fun q => Q (.new (.lst q.1)) ⟨s1.sl, q.2⟩ := by simp [eLcC, es_ev]
@[simp ↓] theorem cvF_k {r : R} {B : W × Sto → Prop} : Ev (cvF r st) B ↔ RwK r fun w => B (w, st) := by simp [cvF, RwK]
@[simp ↓] theorem cvO_k {r : R} {B : W × Sto → Prop} : Ev (cvO r st) B ↔ RwoK r st fun w st' => B (w, st') := by simp [cvO, RwoK]
/-! methods of lists -/
@[simp ↓] theorem es_eLm {h : LmH} : Es (eLm h fo ff s) Q ↔ Es (fo s) fun p s1 => ObjK p fun n => GetK s1.st n fun o => SoK o fun nd => LstK nd fun _ => Es (ff s1) fun q s2 => GetK s2.st n fun o => SoK o fun nd => LstK nd fun ws => Ev (h ws q) fun r => SetK s2.st n (some (.lst r.2)) fun st' => Q (.val r.1) ⟨s2.sl, st'⟩ := by
  simp only [eLm, es_ev, ev_bind']
  constructor <;> intro h <;> refine h.imp fun p h => ?_
  · split at h
    · split at h
      · rename_i n hp _ ws0 h0
        refine ⟨n, hp, _, h0, _, rfl, _, rfl, (ev_bind'.mp h).imp fun q h => ?_⟩
        split at h
        · rename_i _ ws h1
          exact ⟨_, h1, _, rfl, _, rfl, ev_map'.mp h⟩
        · exact (ev_none'.mp h).elim
      · exact (ev_none'.mp h).elim
    · exact (ev_none'.mp h).elim
  · obtain ⟨n, hp, _, h0, _, rfl, _, rfl, h⟩ := h
    rw [hp]; dsimp only; rw [h0]; dsimp only
    refine ev_bind'.mpr (h.imp fun q h => ?_)
    obtain ⟨_, h1, _, rfl, _, rfl, h⟩ := h
    rw [h1]; exact ev_map'.mpr h
@[simp ↓] theorem lm_append {w : W} {B : W × List W → Prop} : Ev (lAppend ws [w]) B ↔ ws.length < sizeLine ∧ B (.d .non, ws ++ [w]) := by
  by_cases h : ws.length < sizeLine <;> simp [lAppend, h]
/-! isinstance -/
def TyK (u : Vu) (Q : String → Prop) : Prop := Ev (tyN u) Q
variable {U : String → Prop} {B : Bool → Prop}
@[simp ↓] theorem ty_int : TyK (.at (.int i)) U ↔ U "int" := ev_some'
@[simp ↓] theorem ty_bl {b : Bool} : TyK (.at (.bl b)) U ↔ U "bool" := ev_some'
@[simp ↓] theorem ty_str {z : Str} : TyK (.at (.str z)) U ↔ U "str" := ev_some'
@[simp ↓] theorem ty_non : TyK (.at .non) U ↔ U "NoneType" := ev_some'
@[simp ↓] theorem ty_lst : TyK (.lst ws) U ↔ U "list" := ev_some'
@[simp ↓] theorem ty_tup : TyK (.tup ws) U ↔ U "tuple" := ev_some'
@[simp ↓] theorem ty_dct {kws : List (Key × W)} : TyK (.dct kws) U ↔ U "dict" := ev_some'
@[simp ↓] theorem is1_t {u : Vu} {c : String} : Ev (hIs1 [u, .at (.ty c)]) P ↔ TyK u fun t => Ev (subTy t c) fun b => P (bR b) := by
  unfold TyK
  cases h : tyN u with
  | none => simp [hIs1, orCa, hIsi, hIsiT, h]
  | some t => cases h2 : subTy t c <;> simp [hIs1, orCa, hIsi, hIsiT, h, h2]
@[simp ↓] theorem is1_u {u : Vu} : Ev (hIs1 [u, .tup ws]) P ↔ TyK u fun t => DatsK ws fun ds => Ev (anyTy t ds) fun b => P (bR b) := by
  unfold TyK DatsK
  cases h : tyN u with
  | none => simp [hIs1, orCa, hIsi, hIsiT, h]
  | some t => simp [hIs1, orCa, hIsi, hIsiT, h]
@[simp ↓] theorem any_n {t : String} : Ev (anyTy t []) B ↔ B false := ev_some'
@[simp ↓] theorem any_c {t c : String} {r : List D} : Ev (anyTy t (.ty c :: r)) B ↔ Ev (subTy t c) fun b => Ev (anyTy t r) fun b' => B (b || b') := by simp [anyTy]
@[simp ↓] theorem sub_NoneType_int {B : Bool → Prop} : Ev (subTy "NoneType" "int") B ↔ B false := by rw [show subTy "NoneType" "int" = some false from by decide +kernel]; exact ev_some'
@[simp ↓] theorem sub_NoneType_bool {B : Bool → Prop} : Ev (subTy "NoneType" "bool") B ↔ B false := by rw [show subTy "NoneType" "bool" = some false from by decide +kernel]; exact ev_some'
@[simp ↓] theorem sub_NoneType_str {B : Bool → Prop} : Ev (subTy "NoneType" "str") B ↔ B false := by rw [show subTy "NoneType" "str" = some false from by decide +kernel]; exact ev_some'
@[simp ↓] theorem sub_NoneType_list {B : Bool → Prop} : Ev (subTy "NoneType" "list") B ↔ B false := by rw [show subTy "NoneType" "list" = some false from by decide +kernel]; exact ev_some'
@[simp ↓] theorem sub_NoneType_tuple {B : Bool → Prop} : Ev (subTy "NoneType" "tuple") B ↔ B false := by rw [show subTy "NoneType" "tuple" = some false from by decide +kernel]; exact ev_some'
@[simp ↓] theorem sub_bool_int {B : Bool → Prop} : Ev (subTy "bool" "int") B ↔ B true := by rw [show subTy "bool" "int" = some true from by decide +kernel]; exact ev_some'
@[simp ↓] theorem sub_bool_bool {B : Bool → Prop} : Ev (subTy "bool" "bool") B ↔ B true := by rw [show subTy "bool" "bool" = some true from by decide +kernel]; exact ev_some'
@[simp ↓] theorem sub_bool_str {B : Bool → Prop} : Ev (subTy "bool" "str") B ↔ B false := by rw [show subTy "bool" "str" = some false from by decide +kernel]; exact ev_some'
@[simp ↓] theorem sub_bool_list {B : Bool → Prop} : Ev (subTy "bool" "list") B ↔ B false := by rw [show subTy "bool" "list" = some false from by decide +kernel]; exact ev_some'
@[simp ↓] theorem sub_bool_tuple {B : Bool → Prop} : Ev (subTy "bool" "tuple") B ↔ B false := by rw [show subTy "bool" "tuple" = some false from by decide +kernel]; exact ev_some'
@[simp ↓] theorem sub_int_int {B : Bool → Prop} : Ev (subTy "int" "int") B ↔ B true := by rw [show subTy "int" "int" = some true from by decide +kernel]; exact ev_some'
@[simp ↓] theorem sub_int_bool {B : Bool → Prop} : Ev (subTy "int" "bool") B ↔ B false := by rw [show subTy "int" "bool" = some false from by decide +kernel]; exact ev_some'
@[simp ↓] theorem sub_int_str {B : Bool → Prop} : Ev (subTy "int" "str") B ↔ B false := by rw [show subTy "int" "str" = some false from by decide +kernel]; exact ev_some'
@[simp ↓] theorem sub_int_list {B : Bool → Prop} : Ev (subTy "int" "list") B ↔ B false := by rw [show subTy "int" "list" = some false from by decide +kernel]; exact ev_some'
@[simp ↓] theorem sub_int_tuple {B : Bool → Prop} : Ev (subTy "int" "tuple") B ↔ B false := by rw [show subTy "int" "tuple" = some false from by decide +kernel]; exact ev_some'
@[simp ↓] theorem sub_str_int {B : Bool → Prop} : Ev (subTy "str" "int") B ↔ B false := by rw [show subTy "str" "int" = some false from by decide +kernel]; exact ev_some'
@[simp ↓] theorem sub_str_bool {B : Bool → Prop} : Ev (subTy "str" "bool") B ↔ B false := by rw [show subTy "str" "bool" = some false from by decide +kernel]; exact ev_some'
@[simp ↓] theorem sub_str_str {B : Bool → Prop} : Ev (subTy "str" "str") B ↔ B true := by rw [show subTy "str" "str" = some true from by decide +kernel]; exact ev_some'
@[simp ↓] theorem sub_str_list {B : Bool → Prop} : Ev (subTy "str" "list") B ↔ B false := by rw [show subTy "str" "list" = some false from by decide +kernel]; exact ev_some'
@[simp ↓] theorem sub_str_tuple {B : Bool → Prop} : Ev (subTy "str" "tuple") B ↔ B false := by rw [show subTy "str" "tuple" = some false from by decide +kernel]; exact ev_some'
@[simp ↓] theorem sub_list_int {B : Bool → Prop} : Ev (subTy "list" "int") B ↔ B false := by rw [show subTy "list" "int" = some false from by decide +kernel]; exact ev_some'
@[simp ↓] theorem sub_list_bool {B : Bool → Prop} : Ev (subTy "list" "bool") B ↔ B false := by rw [show subTy "list" "bool" = some false from by decide +kernel]; exact ev_some'
@[simp ↓] theorem sub_list_str {B : Bool → Prop} : Ev (subTy "list" "str") B ↔ B false := by rw [show subTy "list" "str" = some false from by decide +kernel]; exact ev_some'
@[simp ↓] theorem sub_list_list {B : Bool → Prop} : Ev (subTy "list" "list") B ↔ B true := by rw [show subTy "list" "list" = some true from by decide +kernel]; exact ev_some'
@[simp ↓] theorem sub_list_tuple {B : Bool → Prop} : Ev (subTy "list" "tuple") B ↔ B false := by rw [show subTy "list" "tuple" = some false from by decide +kernel]; exact ev_some'
@[simp ↓] theorem sub_tuple_int {B : Bool → Prop} : Ev (subTy "tuple" "int") B ↔ B false := by rw [show subTy "tuple" "int" = some false from by decide +kernel]; exact ev_some'
@[simp ↓] theorem sub_tuple_bool {B : Bool → Prop} : Ev (subTy "tuple" "bool") B ↔ B false := by rw [show subTy "tuple" "bool" = some false from by decide +kernel]; exact ev_some'
@[simp ↓] theorem sub_tuple_str {B : Bool → Prop} : Ev (subTy "tuple" "str") B ↔ B false := by rw [show subTy "tuple" "str" = some false from by decide +kernel]; exact ev_some'
@[simp ↓] theorem sub_tuple_list {B : Bool → Prop} : Ev (subTy "tuple" "list") B ↔ B false := by rw [show subTy "tuple" "list" = some false from by decide +kernel]; exact ev_some'
@[simp ↓] theorem sub_tuple_tuple {B : Bool → Prop} : Ev (subTy "tuple" "tuple") B ↔ B true := by rw [show subTy "tuple" "tuple" = some true from by decide +kernel]; exact ev_some'
@[simp ↓] theorem sub_dict_int {B : Bool → Prop} : Ev (subTy "dict" "int") B ↔ B false := by rw [show subTy "dict" "int" = some false from by decide +kernel]; exact ev_some'
@[simp ↓] theorem sub_dict_bool {B : Bool → Prop} : Ev (subTy "dict" "bool") B ↔ B false := by rw [show subTy "dict" "bool" = some false from by decide +kernel]; exact ev_some'
@[simp ↓] theorem sub_dict_str {B : Bool → Prop} : Ev (subTy "dict" "str") B ↔ B false := by rw [show subTy "dict" "str" = some false from by decide +kernel]; exact ev_some'
@[simp ↓] theorem sub_dict_list {B : Bool → Prop} : Ev (subTy "dict" "list") B ↔ B false := by rw [show subTy "dict" "list" = some false from by decide +kernel]; exact ev_some'
@[simp ↓] theorem sub_dict_tuple {B : Bool → Prop} : Ev (subTy "dict" "tuple") B ↔ B false := by rw [show subTy "dict" "tuple" = some false from by decide +kernel]; exact ev_some'
/-! freezing of arguments -/
@[simp ↓] theorem frz_n {B : List D × Sto → Prop} : Ev (frzWs [] st) B ↔ B ([], st) := by simp [frzWs]
@[simp ↓] theorem frz_d {d : D} {B : List D × Sto → Prop} : Ev (frzWs (.d d :: ws) st) B ↔ Ev (frzWs ws st) fun q => B (d :: q.1, q.2) := by simp [frzWs, frzW]
@[simp] theorem ints_flat {ns : List Int} : (ns.map (W.d ∘ D.int)).all W.flat = true := by simp [W.flat]
@[simp] theorem ints_in {ns : List Int} : inW (.d (.int i)) (ns.map (W.d ∘ D.int)) = decide (i ∈ ns) := by
  rw [Bool.eq_iff_iff]
  simp [inW, eqW]
@[simp ↓] theorem in_l : Ev (hIn (.at (.int i)) (.lst ws)) P ↔ ws.all W.flat = true ∧ P (bR (inW (.d (.int i)) ws)) := by
  have e : hIn (.at (.int i)) (.lst ws) = if ws.all W.flat = true then some (bR (inW (.d (.int i)) ws)) else none := by
    show (match (if ws.all W.flat = true then some (bR (inW (.d (.int i)) ws)) else none) with
      | some r => some r
      | none => none) = _
    split <;> simp_all
  rw [e, ev_ite']
  by_cases h : ws.all W.flat = true
  · rw [if_pos h, ev_some']; exact ⟨fun q => ⟨h, q⟩, fun q => q.2⟩
  · rw [if_neg h, ev_none']; exact ⟨False.elim, fun q => h q.1⟩
@[simp ↓] theorem nin_l : Ev (hNotIn (.at (.int i)) (.lst ws)) P ↔ ws.all W.flat = true ∧ P (bR (!inW (.d (.int i)) ws)) := by
  have e : hNotIn (.at (.int i)) (.lst ws) = if ws.all W.flat = true then some (bR (!inW (.d (.int i)) ws)) else none := by
    show (match (if ws.all W.flat = true then some (bR (!inW (.d (.int i)) ws)) else none) with
      | some r => some r
      | none => none) = _
    split <;> simp_all
  rw [e, ev_ite']
  by_cases h : ws.all W.flat = true
  · rw [if_pos h, ev_some']; exact ⟨fun q => ⟨h, q⟩, fun q => q.2⟩
  · rw [if_neg h, ev_none']; exact ⟨False.elim, fun q => h q.1⟩
/-! lists of ranges -/
@[simp ↓] theorem es_eLr2 : Es (eLr2 fa fb s) Q ↔ Es (fa s) fun r s1 => Es (fb s1) fun r2 s2 => SoK r.int? fun i => SoK r2.int? fun j => (-4611686018427387904 ≤ i ∧ i < 4611686018427387904 ∧ -4611686018427387904 ≤ j ∧ j < 4611686018427387904 ∧ (j - i).toNat ≤ 16777216) ∧ Q (.new (.lst ((rng i (j - i).toNat).map (W.d ∘ D.int)))) s2 := by
  simp only [eLr2, seq2, es_ev, ev_bind', SoK]
  constructor <;> intro h <;> refine h.imp fun p h => h.imp fun q h => ?_
  · obtain ⟨i, h1, j, h2, h⟩ := h
    rw [ev_ite'] at h
    split at h
    · rename_i hc
      exact ⟨i, h1, j, h2, by simpa using hc, (ev_pair (Q := Q)).mp h⟩
    · exact (ev_none'.mp h).elim
  · obtain ⟨i, h1, j, h2, hc, h⟩ := h
    refine ⟨i, h1, j, h2, ?_⟩
    dsimp only
    rw [if_pos (by simpa using hc)]
    exact ev_some'.mpr h
@[simp] theorem isd_m {α : Type} {f : α → D} {l : List α} : (Nd.lst (l.map (W.d ∘ f))).dat.isSome = true := by
  have : l.map (W.d ∘ f) = (l.map f).map .d := by simp
  rw [this]; exact isd_l
theorem yInts_get {lo : Int} {n i : Nat} {y : Y} (h : (yInts (rng lo n))[i]? = some y) : i < n ∧ y = .one (.d (.int (lo + i))) := by
  unfold yInts rng at h
  rw [List.getElem?_map, List.getElem?_map] at h
  obtain ⟨z, hz, rfl⟩ := Option.map_eq_some_iff.mp h
  obtain ⟨j, hj, rfl⟩ := Option.map_eq_some_iff.mp hz
  obtain ⟨h1, h2⟩ := List.getElem?_eq_some_iff.mp hj
  simp at h1 h2
  subst h2
  exact ⟨h1, rfl⟩
@[simp] theorem yInts_len {lo : Int} {n : Nat} : (yInts (rng lo n)).length = n := by simp [yInts, rng]
@[simp] theorem rng_len {lo : Int} {n : Nat} : (rng lo n).length = n := by simp [rng]
theorem lc_g {α : Type} {cv : Cv} {t : GF} {tt : TF} {fe : EF} {own : List Nat} {gd : List (Nat × Nd)} {B : List W × Sto → Prop} {ys : List Y} (g : α → D) (f : Y → α) (hl : ys.length ≤ sizeLine)
    (hs : ∀ y ∈ ys, LcS cv t tt fe own sl st y fun o st' => o = some (.d (g (f y))) ∧ st' = st) (q : ∀ l, l = ys.map f → B (l.map (W.d ∘ g), st)) (hg : gok gd st := by exact gok_nil) : Ev (lcL cv t tt fe own sl gd ys [] st) B := by
  refine lc_map (fun y => some (.d (g (f y)))) hl hs ?_ hg
  have : ys.filterMap (fun y => some (W.d (g (f y)))) = (ys.map f).map (W.d ∘ g) := by
    rw [List.map_map, ← List.filterMap_eq_map]; rfl
  rw [this]; exact q _ rfl
@[simp] theorem sizeLine_is : sizeLine = 16777216 := sizeLine_eq
def BlsK (ws : List W) (Q : List Bool → Prop) : Prop := Ev (bls ws) Q
@[simp ↓] theorem blsk {l : List Bool} {C : List Bool → Prop} : BlsK (l.map (W.d ∘ D.bl)) C ↔ C l := by
  have : bls (l.map (W.d ∘ D.bl)) = some l := by
    induction l with
    | nil => rfl
    | cons b r ih => simp [bls, ih]
  unfold BlsK; rw [this]; exact ev_some'
@[simp ↓] theorem ca_all : Ev (hAll [.lst ws]) P ↔ BlsK ws fun bs => P (bR (bs.all id)) := by simp [hAll, Vu.lw, BlsK]
@[simp ↓] theorem ca_any : Ev (hAny [.lst ws]) P ↔ BlsK ws fun bs => P (bR (bs.any id)) := by simp [hAny, Vu.lw, BlsK]
@[simp ↓] theorem is_in : Ev (hIs (.at (.int i)) (.at .non)) P ↔ P (bR false) := ev_some'
@[simp ↓] theorem is_bn {b : Bool} : Ev (hIs (.at (.bl b)) (.at .non)) P ↔ P (bR false) := ev_some'
@[simp ↓] theorem is_sn {z : Str} : Ev (hIs (.at (.str z)) (.at .non)) P ↔ P (bR false) := ev_some'
@[simp ↓] theorem is_ln : Ev (hIs (.lst ws) (.at .non)) P ↔ P (bR false) := ev_some'
@[simp ↓] theorem is_tn : Ev (hIs (.tup ws) (.at .non)) P ↔ P (bR false) := ev_some'
@[simp ↓] theorem isn_nn : Ev (hIsNot (.at .non) (.at .non)) P ↔ P (bR false) := ev_some'
@[simp ↓] theorem isn_in : Ev (hIsNot (.at (.int i)) (.at .non)) P ↔ P (bR true) := ev_some'
@[simp ↓] theorem isn_bn {b : Bool} : Ev (hIsNot (.at (.bl b)) (.at .non)) P ↔ P (bR true) := ev_some'
@[simp ↓] theorem isn_sn {z : Str} : Ev (hIsNot (.at (.str z)) (.at .non)) P ↔ P (bR true) := ev_some'
@[simp ↓] theorem isn_ln : Ev (hIsNot (.lst ws) (.at .non)) P ↔ P (bR true) := ev_some'
@[simp ↓] theorem isn_tn : Ev (hIsNot (.tup ws) (.at .non)) P ↔ P (bR true) := ev_some'
@[simp ↓] theorem eq_nn : Ev (hEq (.at .non) (.at .non)) P ↔ P (bR true) := ev_some'
@[simp ↓] theorem ne_nn : Ev (hNe (.at .non) (.at .non)) P ↔ P (bR false) := ev_some'
@[simp ↓] theorem eq_ni : Ev (hEq (.at .non) (.at (.int i))) P ↔ P (bR false) := ev_some'
@[simp ↓] theorem eq_in : Ev (hEq (.at (.int i)) (.at .non)) P ↔ P (bR false) := ev_some'
@[simp ↓] theorem ne_ni : Ev (hNe (.at .non) (.at (.int i))) P ↔ P (bR true) := ev_some'
@[simp ↓] theorem ne_in : Ev (hNe (.at (.int i)) (.at .non)) P ↔ P (bR true) := ev_some'
/-- over a list, some left out -/
theorem lc_f {α β : Type} {cv : Cv} {t : GF} {tt : TF} {fe : EF} {own : List Nat} {gd : List (Nat × Nd)} {B : List W × Sto → Prop} {e : β → Y} {xs : List β} (g : α → D) (f : β → α) (p : β → Bool) (hl : xs.length ≤ 16777216)
    (hs : ∀ x ∈ xs, LcS cv t tt fe own sl st (e x) fun o st' => o = (if p x = true then some (.d (g (f x))) else none) ∧ st' = st) (q : ∀ l, l = (xs.filter p).map f → B (l.map (W.d ∘ g), st)) (hg : gok gd st := by exact gok_nil) : Ev (lcL cv t tt fe own sl gd (xs.map e) [] st) B := by
  refine lcL_inv (fun j acc st' => acc = (((xs.take j).filter p).map f).map (W.d ∘ g) ∧ st' = st) (xs.map e) 0 [] st ⟨by simp, rfl⟩ (by rw [sizeLine_eq]; simpa using hl) (fun j y acc st' _ hy hI => ?_) (fun acc st' hI => ?_) (fun j acc st' hI => by rw [hI.2]; exact hg)
  · obtain ⟨rfl, rfl⟩ := hI
    rw [Nat.sub_zero, List.getElem?_map] at hy
    obtain ⟨x, hx, rfl⟩ := Option.map_eq_some_iff.mp hy
    have := hs x (List.mem_of_getElem? hx)
    unfold LcS WipeK at this ⊢
    refine this.imp fun s1 h1 => h1.imp fun b s2 h2 => ?_
    have e1 : ∀ o : Option W, o = (if p x = true then some (.d (g (f x))) else none) → (((List.take j xs).filter p).map f).map (W.d ∘ g) ++ o.toList = (((List.take (j + 1) xs).filter p).map f).map (W.d ∘ g) := by
      rintro o rfl
      rw [List.take_add_one, hx]
      cases hp : p x <;> simp [hp]
    unfold IteK at h2 ⊢
    split at h2
    · rename_i hb
      rw [if_pos hb]
      exact h2.imp fun r s3 h3 => h3.imp fun z h4 => ⟨e1 _ h4.1, h4.2⟩
    · rename_i hb
      rw [if_neg hb]
      exact ⟨e1 _ h2.1, h2.2⟩
  · obtain ⟨rfl, rfl⟩ := hI
    rw [Nat.zero_add, List.length_map, List.take_length]; exact q _ rfl
theorem lc_m {α β : Type} {cv : Cv} {t : GF} {tt : TF} {fe : EF} {own : List Nat} {gd : List (Nat × Nd)} {B : List W × Sto → Prop} {e : β → Y} {xs : List β} (g : α → D) (f : β → α) (hl : xs.length ≤ 16777216)
    (hs : ∀ x ∈ xs, LcS cv t tt fe own sl st (e x) fun o st' => o = some (.d (g (f x))) ∧ st' = st) (q : ∀ l, l = xs.map f → B (l.map (W.d ∘ g), st)) (hg : gok gd st := by exact gok_nil) : Ev (lcL cv t tt fe own sl gd (xs.map e) [] st) B :=
  lc_f g f (fun _ => true) hl (fun x hx => by simpa using hs x hx) (fun l h => q l (by rw [h, List.filter_eq_self.mpr (fun _ _ => rfl)])) hg
theorem mem_rng {lo i : Int} {n : Nat} : i ∈ rng lo n ↔ lo ≤ i ∧ i < lo + n := by
  unfold rng
  simp only [List.mem_map, List.mem_range]
  constructor
  · rintro ⟨a, h, rfl⟩; omega
  · intro h; exact ⟨(i - lo).toNat, by omega, by omega⟩
end
end NV

namespace NV
open PySem PySem.Spec PyProof.Rows L2
/-! ### what is looked at behind the module's run: facts, defs, tables, one Bool more -/
abbrev AlV : Type := He.AlT × Bool
structure SaysV (fa : List He.Fa) (fn : List He.DefD) (ts : List He.Tab) (ex : PySem.W.Frag → Bool) (w : World) (K : PySem.W.Frag) : Prop where
  t : He.SaysT fa fn ts w K
  ex : ex K = true
/-! ### names of the module that hold data -/
def Gcon (K : PySem.W.Frag) (mg : Str → Option Value) (x : Str) (d : D) : Prop := ∃ (u : Value) (v : V), mg x = some u ∧ RelV v u ∧ ∀ Φ, Dd K Φ v d
section
variable {X : Cx} {K : PySem.W.Frag} {mg : Str → Option Value} {h : Heap} {x : Str} {pos : Pos}
theorem v_gc {d : D} (hg : Gl X x) (c : Gcon X.K X.mg x d) (hd : (x == ("__debug__" : Str)) = false := by decide) : VE X (.Name x pos) (eC d) := by
  obtain ⟨u, v, hm, r, dd⟩ := c
  exact ⟨(pe_glob hg hm r hd).imp fun σ H Q ⟨g, s, r', s', hg', R, hf, k⟩ => by
    cases hf
    subst hg'
    exact k v g Step.refl R (dd g.Φ)⟩
theorem gc_int (X : K.In h) (G : h.Ns mainGlobals mg) {i : Int} (c : (He.Fa.int x i).ok K = true) : Gcon K mg x (.int i) := by
  obtain ⟨t, e⟩ := He.int_ok X G c
  exact ⟨_, .int i, e, ⟨_, rfl⟩, fun _ => .int⟩
theorem gc_str (X : K.In h) (G : h.Ns mainGlobals mg) {z : Str} (c : (He.Fa.str x z).ok K = true) : Gcon K mg x (.str z) := by
  obtain ⟨t, e⟩ := He.str_ok X G c
  exact ⟨_, .str z, e, ⟨_, rfl⟩, fun _ => .str⟩
/-- flat data of the module's tables -/
def dvD : He.Dv → Option D
  | .non => some .non
  | .bl b => some (.bl b)
  | .int i => some (.int i)
  | .str z => some (.str z)
  | _ => none
def dvDs : List He.Dv → Option (List D)
  | [] => some []
  | v :: r => (dvD v).bind fun d => (dvDs r).map fun l => d :: l
theorem dvD_ok {Φ : Hp} {v : He.Dv} {d : D} (h : dvD v = some d) : Dd K Φ (v.v K) d := by
  cases v <;> cases h <;> constructor
theorem dvDs_ok {Φ : Hp} : ∀ {vs : List He.Dv} {ds : List D}, dvDs vs = some ds → DdL K Φ (vs.map (He.Dv.v K)) ds
  | [], _, h => by cases h; exact .nil
  | v :: r, _, h => by
    unfold dvDs at h
    obtain ⟨d, h1, h⟩ := Option.bind_eq_some_iff.mp h
    obtain ⟨l, h2, rfl⟩ := Option.map_eq_some_iff.mp h
    exact .cons (dvD_ok h1) (dvDs_ok h2)
theorem gc_lst (X : K.In h) (G : h.Ns mainGlobals mg) {vs : List He.Dv} {ds : List D} (c : (He.Fa.glo x).ok K = true) (l : He.lstB K x vs = true) (e : dvDs vs = some ds) : Gcon K mg x (.lsw ds) :=
  ⟨_, .ref (He.ga K x), He.glo_ok X G c, rfl, fun Φ => .lsw (He.lstB_ok l Φ) (dvDs_ok e)⟩
end
end NV

namespace NV
open PySem PySem.Spec PyProof.Rows L2
section
variable {X : Cx} {a b c e o value : Expr} {es : List Expr} {fa fb fc f fo fv : EF} {ff : AF} {pos pos' : Pos} {K : PySem.W.Frag} {g g1 : G} {v : V} {σ : L2.St} {s s1 : S} {st st1 : Sto}
/-! ### own objects -/
theorem lateObj' {g0 : G} {st0 : Sto} {nd : Nd} {a : Addr} (o0 : StOk K g0 st0) (p : Step g0 st0 g s.st) (o : Rel K g σ s) (h2 : NdAt K g a nd) (h3 : g.Φ a = none) (h4 : a ∉ g.ι) (h5 : g0.H a = none) :
    ∃ g', g'.H = g.H ∧ Step g0 st0 g' (s.st ++ [some nd]) ∧ Rel K g' σ { s with st := s.st ++ [some nd] } ∧ Wr K g'.Φ g'.ι (.ref a) (.obj s.st.length) := by
  have io : ∃ more, (g.ι ++ [a]) = g.ι ++ more := ⟨[a], rfl⟩
  have hl := o.st.len
  refine ⟨⟨g.Φ, g.ι ++ [a], g.H⟩, rfl, ⟨p.phi, ?_, p.fr, fun a' h => ?_, p.there, fun n hn h x => ?_⟩, ⟨⟨by simp [hl], fun n nd' a' e1 e2 => ?_, ?_, fun n x a' e1 e2 => ?_, o.st.sub, fun a' h => ?_⟩, ⟨o.sl.1, fun i w h => ?_⟩⟩, a, ?_, rfl⟩
  · obtain ⟨m, e⟩ := p.io
    exact ⟨m ++ [a], by show g.ι ++ [a] = _; rw [e, List.append_assoc]⟩
  · rcases h with h | h
    · exact p.dm a' (.inl h)
    · have h : a' ∈ g.ι ++ [a] := h
      rcases List.mem_append.mp h with h | h
      · exact p.dm a' (.inr h)
      · have : a' = a := by simpa using h
        rw [this]; exact .inr (.inr h5)
  · by_cases hn2 : n < s.st.length
    · rw [List.getElem?_append_left hn2]; exact p.dead n hn h x
    · obtain ⟨m, e⟩ := p.io
      have l1 : g0.ι.length ≤ g.ι.length := by rw [e, List.length_append]; omega
      rw [hl, o0.len] at l1
      omega
  · by_cases hn2 : n < s.st.length
    · rw [List.getElem?_append_left hn2] at e1
      have e2 : (g.ι ++ [a])[n]? = some a' := e2
      rw [List.getElem?_append_left (by omega)] at e2
      exact NdAt.stay (g := g) (g1 := ⟨g.Φ, g.ι ++ [a], g.H⟩) (fun _ _ h => h) io (fun _ h => h) (o.st.at_ n nd' a' e1 e2)
    · have e2 : (g.ι ++ [a])[n]? = some a' := e2
      rw [List.getElem?_append_right (by omega)] at e1 e2
      have : n = s.st.length := by
        have := (List.getElem?_eq_some_iff.mp e1).1
        simp at this; omega
      subst this
      rw [hl] at e2
      simp at e1 e2
      subst e1 e2
      exact NdAt.stay (g := g) (g1 := ⟨g.Φ, g.ι ++ [a], g.H⟩) (fun _ _ h => h) io (fun _ h => h) h2
  · show (g.ι ++ [a]).Nodup
    rw [List.nodup_append]
    refine ⟨o.st.nd, by simp, fun x hx y hy e => h4 ?_⟩
    have ey : y = a := by simpa using hy
    rw [← ey, ← e]; exact hx
  · by_cases hn2 : n < s.st.length
    · rw [List.getElem?_append_left hn2] at e1
      have e2 : (g.ι ++ [a])[n]? = some a' := e2
      rw [List.getElem?_append_left (by omega)] at e2
      exact o.st.live n x a' e1 e2
    · have e2 : (g.ι ++ [a])[n]? = some a' := e2
      rw [List.getElem?_append_right (by omega)] at e1 e2
      have : n = s.st.length := by
        have := (List.getElem?_eq_some_iff.mp e1).1
        simp at this; omega
      subst this
      rw [hl] at e2
      simp at e2
      subst e2
      exact h3
  · have h : a' ∈ g.ι ++ [a] := h
    rcases List.mem_append.mp h with h | h
    · exact o.st.dom a' h
    · have : a' = a := by simpa using h
      rw [this]; exact h2.some
  · obtain ⟨v', q1, q2⟩ := o.sl.2 i w h
    exact ⟨v', q1, q2.mono (fun _ _ h => h) io⟩
  · show (g.ι ++ [a])[s.st.length]? = some a
    rw [← hl]; simp

theorem WrK.look {Φ : Hp} {ι : List Addr} {f : Str} : ∀ {kvs : List (Str × V)} {kws : List (Str × W)} {w : W}, WrK K Φ ι kvs kws → kws.lookup f = some w → ∃ v, kvs.lookup f = some v ∧ Wr K Φ ι v w
  | _, _, _, .nil, h => by cases h
  | (k1, v1) :: _, (k2, w2) :: _, w, .cons ⟨e, q⟩ t, h => by
    dsimp only at e q
    subst e
    rw [List.lookup_cons] at h ⊢
    cases hk : f == k1 with
    | true => rw [hk] at h; cases h; exact ⟨v1, rfl, q⟩
    | false => rw [hk] at h; exact WrK.look t h
/-- e.f of an object of the class c -/
def eFld (c f : Str) (fa : EF) : EF := fun s => (fa s).bind fun p => match p.1 with
  | .val (.obj n) => (match p.2.st[n]? with
    | some (some (.ins c' fs)) => if c' = c then (fs.lookup f).map fun w => (.val w, p.2) else none
    | _ => none)
  | _ => none
theorem v_fld {cn f : Str} (hc : Cls X.K (He.ga X.K cn)) (hn : NoAttr X.K (He.ga X.K cn) f) (ha : VE X e fa) (hb : attributeBase e f X.env (eval e X.env) = eval e X.env := by rfl) : VE X (.Attribute e f pos) (eFld cn f fa) := ⟨(pe_fld ha.pe hb).imp fun σ H Q ⟨g, s, r, s', hg, R, hf, k⟩ => by
  obtain ⟨⟨ra, s1⟩, e1, hf⟩ := Option.bind_eq_some_iff.mp hf
  dsimp only at hf
  split at hf
  · rename_i n
    split at hf
    · rename_i c' fs hn'
      split at hf
      · rename_i hcc
        obtain ⟨w, e2, hf2⟩ := Option.map_eq_some_iff.mp hf
        cases hf2
        subst hg
        refine ⟨g, s, _, _, rfl, R, e1, fun v g1 p1 R1 q1 => ?_⟩
        subst hcc
        obtain ⟨ad, had, rfl⟩ := q1
        obtain ⟨dx, fvs, h1, h2⟩ := R1.st.at_ n _ ad hn' had
        obtain ⟨v, h3, h4⟩ := WrK.look h2 e2
        exact ⟨ad, _, dx, fvs, v, rfl, h1, hc, hn, h3, k v g1 p1 R1 h4⟩
      · cases hf
    · cases hf
  · cases hf⟩
/-- the field put -/
def putFW (f : Str) (w : W) : List (Str × W) → List (Str × W)
  | [] => [(f, w)]
  | (g, x) :: r => if g = f then (g, w) :: r else (g, x) :: putFW f w r
theorem WrK.putW {Φ : Hp} {ι : List Addr} {f : Str} {v : V} {w : W} (q : Wr K Φ ι v w) : ∀ {kvs : List (Str × V)} {kws : List (Str × W)}, WrK K Φ ι kvs kws → WrK K Φ ι (putF f v kvs) (putFW f w kws)
  | _, _, .nil => .cons ⟨rfl, q⟩ .nil
  | (k1, v1) :: _, (k2, w2) :: _, .cons ⟨e, q'⟩ t => by
    dsimp only at e q'
    subst e
    unfold putF putFW
    by_cases hk : k1 = f
    · rw [if_pos hk, if_pos hk]; exact .cons ⟨rfl, q⟩ t
    · rw [if_neg hk, if_neg hk]; exact .cons ⟨rfl, q'⟩ (WrK.putW q t)
theorem WrK.len {Φ : Hp} {ι : List Addr} : ∀ {kvs : List (Str × V)} {kws : List (Str × W)}, WrK K Φ ι kvs kws → kvs.length = kws.length
  | _, _, .nil => rfl
  | _, _, .cons _ t => congrArg (· + 1) (WrK.len t)
/-- a field of the thing n put -/
def fldPut (c f : Str) (n : Nat) (w : W) (s : S) : Option S := match s.st[n]? with
  | some (some (.ins c' fs)) => if c' = c ∧ fs.length < 1000 then some { s with st := s.st.set n (some (.ins c' (putFW f w fs))) } else none
  | _ => none
theorem fldPut_ok {c f : Str} {n : Nat} {w : W} {s s' : S} {v : V} {ad : Addr} (R : Rel K g σ s) (h : fldPut c f n w s = some s') (ha : g.ι[n]? = some ad) (q : Wr K g.Φ g.ι v w) :
    ∃ dx fvs, g.H ad = some (.ins (He.ga K c) dx fvs) ∧ fvs.length < 1000 ∧ Step g s.st ⟨g.Φ, g.ι, upd g.H ad (.ins (He.ga K c) dx (putF f v fvs))⟩ s'.st ∧ Rel K ⟨g.Φ, g.ι, upd g.H ad (.ins (He.ga K c) dx (putF f v fvs))⟩ σ s' := by
  unfold fldPut at h
  split at h
  · rename_i c' fs hn
    split at h
    · rename_i hcc
      obtain ⟨rfl, hl⟩ := hcc
      cases h
      obtain ⟨dx, fvs, h1, h2⟩ := R.st.at_ n _ ad hn ha
      obtain ⟨x, R'⟩ := write (ob := .ins (He.ga K c') dx (putF f v fvs)) (nd' := .ins c' (putFW f w fs)) R hn ha ⟨dx, putF f v fvs, upd_same, WrK.putW q h2⟩
      exact ⟨dx, fvs, h1, by rw [WrK.len h2]; exact hl, x, R'⟩
    · cases h
  · cases h
/-- o.f = value -/
def sFld (c f : Str) (fv fo : EF) : SF := fun s => (fv s).bind fun p => (fo { p.2 with st := (p.1.wo p.2.st).2 }).bind fun q => match q.1 with
  | .val (.obj n) => (fldPut c f n (p.1.wo p.2.st).1 q.2).map .nx
  | _ => none
theorem v_sfld {cn f : Str} (hc : Cls X.K (He.ga X.K cn)) (hn : NoAttr X.K (He.ga X.K cn) f) (hv : VE X value fv) (ho : VE X o fo) (hs : swapsWith value (some (.Attribute o f pos')) pos.line X.env = pure false := by rfl) : VS X (.Assign [.Attribute o f pos'] value pos) (sFld cn f fv fo) := ⟨(ps_fld ho.pe hv.pe hs).imp fun D σ H ⟨g, s, out, hg, R, hf, k⟩ => by
  obtain ⟨⟨rv, s1⟩, e1, hf⟩ := Option.bind_eq_some_iff.mp hf
  obtain ⟨⟨ro, s2⟩, e2, hf⟩ := Option.bind_eq_some_iff.mp hf
  dsimp only at hf e2
  split at hf
  · rename_i n
    obtain ⟨s3, e3, hf⟩ := Option.map_eq_some_iff.mp hf
    cases hf
    subst hg
    refine ⟨g, s, _, _, rfl, R, e1, fun v g1 p1 R1 q1 => ?_⟩
    obtain ⟨g2, e4, p2, R2, q2⟩ := toWo R.st p1 R1 q1
    refine ⟨g2, _, _, _, e4, R2, e2, fun w g3 p3 R3 q3 => ?_⟩
    obtain ⟨ad, had, rfl⟩ := q3
    obtain ⟨dx, fvs, h1, h2, h3, h4⟩ := fldPut_ok R3 e3 had (Wr.mono p3.phi p3.io q2)
    exact ⟨ad, _, dx, fvs, rfl, h1, hc, hn, h2, k σ ⟨g3.Φ, g3.ι, _⟩ ((p2.trans R.st R2.st p3).trans R.st R3.st h3) h4⟩
  · cases hf⟩
/-- o.f += value, ints -/
def sFldA (c f : Str) (op : Int → Int → Int) (fo fv : EF) : SF := fun s => (fo s).bind fun p => match p.1 with
  | .val (.obj n) => (match p.2.st[n]? with
    | some (some (.ins c' fs)) => if c' = c then (fs.lookup f).bind fun w => (fv p.2).bind fun q => match w, q.1 with
      | .d (.int i), .val (.d (.int j)) => (fldPut c f n (.d (.int (op i j))) q.2).map .nx
      | _, _ => none
      else none
    | _ => none)
  | _ => none
/-- C(..) -/
def eMake (c : Str) (F : FF) (ff : AF) : EF := fun s => (ff s).bind fun p => (F (.obj p.2.st.length :: p.1) (p.2.st ++ [some (.ins c [])])).bind fun q => match q.1 with
  | .val (.d .non) => some (.val (.obj p.2.st.length), { p.2 with st := q.2 })
  | _ => none
theorem make_ok {c : Str} {F : FF} {n : Nat} {σ : L2.St} {H : Hp} {Q : VK} (hn : es.length + 1 = n) (ha : VA X es ff) (hl : ∀ s ws s', ff s = some (ws, s') → ws.length = es.length) (h : upE X.K (eMake c F ff) σ H Q) :
    tMake (He.ga X.K c) (spF X.K n F) [] E0 (upA X.K ff) σ H Q := by
  obtain ⟨g, s, r, s', hg, R, hf, k⟩ := h
  obtain ⟨⟨ws, s1⟩, e1, hf⟩ := Option.bind_eq_some_iff.mp hf
  obtain ⟨⟨r', st'⟩, e2, hf⟩ := Option.bind_eq_some_iff.mp hf
  dsimp only at hf e2
  split at hf
  · cases hf
    subst hg
    refine ⟨g, s, ws, s1, rfl, R, e1, fun vs g1 p1 R1 q1 x dx hx hdx hne => ?_⟩
    have x1 := Ext.new (g := g1) R1.st.ok (ob := .own x) hdx
    have hx2 : upd g1.H dx (.own x) x = none := by rw [upd_ne (Ne.symm hne)]; exact hx
    have x2 := Ext.new (g := ⟨g1.Φ, g1.ι, upd g1.H dx (.own x)⟩) (x1.sto R1.st).ok (ob := .ins (He.ga X.K c) dx []) hx2
    have x12 := x1.trans x2
    have R2 := x12.rel R1
    have hnΦ : g1.Φ x = none := R1.st.ok.free hx
    have hnι : x ∉ g1.ι := R1.st.ok.nmem hx
    obtain ⟨g3, e3, p3, R3, q3⟩ := lateObj' (a := x) (nd := .ins c []) R1.st x12.step R2 ⟨dx, [], upd_same, .nil⟩ hnΦ hnι hx
    refine ⟨g3, .obj s1.st.length :: ws, _, _, _, e3, R3.st, ?_, ?_, e2, fun v g4 p4 o4 q4 => ?_⟩
    · rw [List.append_nil]
      exact .cons q3 (WrL.mono p3.phi p3.io q1)
    · simp [hl _ _ _ e1, hn]
    · cases q4
      refine ⟨rfl, ?_⟩
      have p14 := p3.trans R1.st R3.st p4
      obtain ⟨ad, had, hr⟩ := q3
      have hr : x = ad := by injection hr
      subst hr
      obtain ⟨more, em⟩ := p4.io
      exact k (.ref x) g4 (p1.trans R.st R1.st p14) ⟨o4, R1.sl.step p14⟩ ⟨x, by rw [em]; exact pre_get had, rfl⟩
  · cases hf
/-- o.m(..): the object, then the arguments, then the def on the whole store -/
def eMeth (c m : Str) (F : FF) (fo : EF) (ff : AF) : EF := fun s => (fo s).bind fun p => match p.1 with
  | .val (.obj n) => (match p.2.st[n]? with
    | some (some (.ins c' fs)) => if c' = c ∧ fs.lookup m = none then (ff p.2).bind fun q => (F (.obj n :: q.1) q.2.st).map fun z => (z.1, { q.2 with st := z.2 }) else none
    | _ => none)
  | _ => none
theorem WrK.look0 {Φ : Hp} {ι : List Addr} {f : Str} : ∀ {kvs : List (Str × V)} {kws : List (Str × W)}, WrK K Φ ι kvs kws → kws.lookup f = none → kvs.lookup f = none
  | _, _, .nil, h => rfl
  | (k1, v1) :: _, (k2, w2) :: _, .cons ⟨e, q⟩ t, h => by
    dsimp only at e q
    subst e
    rw [List.lookup_cons] at h ⊢
    cases hk : f == k1 with
    | true => rw [hk] at h; cases h
    | false => rw [hk] at h; exact WrK.look0 t h
theorem meth_ok {c m : Str} {F : FF} {n : Nat} {σ : L2.St} {H : Hp} {Q : VK} (hn : es.length + 1 = n) (ha : VA X es ff) (hl : ∀ s ws s', ff s = some (ws, s') → ws.length = es.length) (h : upE X.K (eMeth c m F fo ff) σ H Q) :
    tMeth (He.ga X.K c) m (spF X.K n F) [] E0 (upE X.K fo) (upA X.K ff) σ H Q := by
  obtain ⟨g, s, r, s', hg, R, hf, k⟩ := h
  obtain ⟨⟨ro, s1⟩, e1, hf⟩ := Option.bind_eq_some_iff.mp hf
  dsimp only at hf
  split at hf
  · rename_i n'
    split at hf
    · rename_i c' fs hn'
      split at hf
      · rename_i hcc
        obtain ⟨⟨ws, s2⟩, e2, hf2⟩ := Option.bind_eq_some_iff.mp hf
        obtain ⟨⟨r', st'⟩, e3, hf3⟩ := Option.map_eq_some_iff.mp hf2
        cases hf3
        subst hg
        refine ⟨g, s, _, _, rfl, R, e1, fun v g1 p1 R1 q1 => ?_⟩
        obtain ⟨ad, had, rfl⟩ := q1
        obtain ⟨dx, fvs, h1, h2⟩ := R1.st.at_ n' _ ad hn' had
        refine ⟨ad, dx, fvs, rfl, by rw [← hcc.1]; exact h1, WrK.look0 h2 hcc.2, g1, s1, ws, s2, rfl, R1, e2, fun vs g2 p2 R2 q2 => ?_⟩
        have had2 : g2.ι[n']? = some ad := by
          obtain ⟨more, em⟩ := p2.io
          rw [em]; exact pre_get had
        refine ⟨g2, .obj n' :: ws, s2.st, _, _, rfl, R2.st, ?_, by simp [hl _ _ _ e2, hn], e3, fun v g3 p3 o3 q3 => ?_⟩
        · rw [List.append_nil]; exact .cons ⟨ad, had2, rfl⟩ q2
        · have p12 := p1.trans R.st R1.st p2
          exact k v g3 (p12.trans R.st R2.st p3) ⟨o3, R2.sl.step p3⟩ (q3.back R.st p12)
      · cases hf
    · cases hf
  · cases hf
theorem v_meth {c m : Str} {F : FF} {n k : Nat} {fad : Addr} {fd : FuncData} {ps : List Str} {apos : Pos} {pl : Sem Bool} (cl : Cls X.K (He.ga X.K c)) (hm : Meth X.K (He.ga X.K c) m fad) (G : FnOk X.prog X.w X.K X.mg X.base CX0 k fad fd ps (spF X.K n F)) (hr : Room k X.A) (hb : Binds X.K fd ps [])
    (ho : VE X o fo) (ha : VA X (e :: es) ff) (hl : ∀ s ws s', ff s = some (ws, s') → ws.length = (e :: es).length) (hn : (e :: es).length + 1 = n)
    (hst : starEach (e :: es) X.env = (false, eval e X.env) :: starEach es X.env := by rfl) (hpl : (backTo pos (starEach es X.env)).any (·.1) = false := by rfl)
    (ht : eval (.Call (.Attribute o m apos) (e :: es) [] pos) X.env = (do
      let ov ← eval o X.env
      standAt apos.atName
      let (f, first) ← holding [ov] (getMethod ov m pl)
      callWith pos f first (backTo pos (starEach (e :: es) X.env)) (backToKw pos (keywordEach [] X.env))) := by rfl) :
    VE X (.Call (.Attribute o m apos) (e :: es) [] pos) (eMeth c m F fo ff) := ⟨(pe_meth (pl := pl) ho.pe cl hm G hr hb .nil pass0 ha.pa hst hpl ht).imp fun σ H Q q => meth_ok hn ha hl q⟩
/-- a statement that is never reached -/
def sNever : SF := fun _ => none
theorem v_never {sm : Stmt} : VS X sm sNever := ⟨ps_never.imp fun D σ H ⟨g, s, o, hg, R, hf, k⟩ => nomatch hf⟩
end
/-! ### methods by name -/
def Okm (P : Program) (w : World) (K : PySem.W.Frag) (mg : Str → Option Value) (c m : Str) (k : Nat) (ps : List Str) (sp : Sp) : Prop :=
  ∃ fd, (∀ base, FnOk P w K mg base CX0 k (He.ma K (He.ga K c) m) fd ps sp) ∧ Binds K fd ps []
theorem okm_mk {P : Program} {w : World} {K : PySem.W.Frag} {mg : Str → Option Value} {c m qual : Str} {params : Arguments} {body : List Stmt} {scope : Scope} {N ps : List Str} {k : Nat} {h : SF}
    (hF : ∃ fd, FunD K m qual params body scope [] [] (He.ma K (He.ga K c) m) fd) (Sc : FnScope N ps scope)
    (hb : ∀ (kV doc pm : Value) (an : Option Addr) (cdv ct : Value) (us : List Value), us.length = ps.length → bindArgs (PySem.W.fnOf m qual params body scope .none kV doc pm an cdv ct) ⟨us, []⟩ = pure (ps.zip us))
    (hd : ∀ (base : Heap) (cdv : Value) (A : Around) (outer : List Env) (s : Shared) (H : Hp) (E : XK), Room k (A.deeper (envOfC qual scope s.heap.objs.size (He.ma K (He.ga K c) m) cdv)) → VSs (cxOf CX0 P w K mg base N qual scope (He.ma K (He.ga K c) m) cdv A outer s H E).nox body h) :
    Okm P w K mg c m (k + 1) ps (spF K ps.length (runF N.length h)) := by
  obtain ⟨fd, F⟩ := hF
  exact ⟨fd, fun base => fn_ok F Sc (hd base), F.bindsN hb⟩
section
variable {X : Cx} {o e : Expr} {es : List Expr} {fo : EF} {ff : AF} {pos apos : Pos} {c m : Str} {k n : Nat} {ps : List Str} {F : FF}
theorem v_cM {pl : Sem Bool} (cl : Cls X.K (He.ga X.K c)) (hm : Meth X.K (He.ga X.K c) m (He.ma X.K (He.ga X.K c) m)) (G : Okm X.prog X.w X.K X.mg c m k ps (spF X.K n F)) (hr : Room k X.A) (ho : VE X o fo) (ha : VA X (e :: es) ff) (hl : ∀ s ws s', ff s = some (ws, s') → ws.length = (e :: es).length) (hn : (e :: es).length + 1 = n)
    (hst : starEach (e :: es) X.env = (false, eval e X.env) :: starEach es X.env := by rfl) (hpl : (backTo pos (starEach es X.env)).any (·.1) = false := by rfl)
    (ht : eval (.Call (.Attribute o m apos) (e :: es) [] pos) X.env = (do
      let ov ← eval o X.env
      standAt apos.atName
      let (f, first) ← holding [ov] (getMethod ov m pl)
      callWith pos f first (backTo pos (starEach (e :: es) X.env)) (backToKw pos (keywordEach [] X.env))) := by rfl) : VE X (.Call (.Attribute o m apos) (e :: es) [] pos) (eMeth c m F fo ff) := by
  obtain ⟨fd, G, b⟩ := G
  exact v_meth (pl := pl) cl hm (G _) hr b ho ha hl hn hst hpl ht
end
end NV

namespace NV
open PySem PySem.Spec PyProof.Rows L2
section
variable {X : Cx} {a b c e o value : Expr} {es : List Expr} {fa fb fc f fo fv fk fx : EF} {ff : AF} {pos pos' apos cpos : Pos} {K : PySem.W.Frag} {g g1 : G} {v : V} {σ : L2.St} {s s1 : S} {st st1 : Sto}
/-! ### methods of dicts -/
/-- d.pop(k), k is there -/
def eDPop (fo fk : EF) : EF := fun s => (fo s).bind fun p => match p.1 with
  | .val (.obj n) => (match p.2.st[n]? with
    | some (some (.dct _)) => (fk p.2).bind fun q => (match q.2.st[n]? with
      | some (some (.dct kws)) => (q.1.view q.2.st).bind fun u => u.key.bind fun k => (look kws k).map fun w => (.val w, { q.2 with st := q.2.st.set n (some (.dct (dropW kws k))) })
      | _ => none)
    | _ => none)
  | _ => none
/-- d.get(k, x) -/
def eDGet2 (fo fk fx : EF) : EF := fun s => (fo s).bind fun p => (p.1.view p.2.st).bind fun ud0 => ud0.dic.bind fun _ => (fk p.2).bind fun q => (fx q.2).bind fun z => (p.1.view z.2.st).bind fun ud => ud.dic.bind fun kws => (q.1.view z.2.st).bind fun u => u.key.map fun k => match look kws k with
  | some w => (.val w, z.2)
  | none => (z.1, z.2)
end
end NV

namespace NV
open PySem PySem.Spec PyProof.Rows L2
/-! ### a dict walked: locked meanwhile -/
section
variable {K : PySem.W.Frag} {h h' : Hp}
/-- what a derivation of data uses is no locked dict -/
abbrev Nolk (h h' : Hp) : Prop := ∀ a o, (∀ od kvs, o = .frz od (.dK kvs) → False) → h a = some o → h' a = some o
theorem nf_lst {vs : List V} : ∀ (od : Obj) (kvs : List (Key × V)), HO.lst vs = .frz od (.dK kvs) → False := fun _ _ q => by cases q
theorem nf_flst {vs : List V} {o : Obj} : ∀ (od : Obj) (kvs : List (Key × V)), HO.frz o (.lst vs) = .frz od (.dK kvs) → False := fun _ _ q => by cases q
theorem nf_tup {vs : List V} : ∀ (od : Obj) (kvs : List (Key × V)), HO.tup vs = .frz od (.dK kvs) → False := fun _ _ q => by cases q
theorem nf_exk {cls : Value} {a : Addr} : ∀ (od : Obj) (kvs : List (Key × V)), ExK cls a = .frz od (.dK kvs) → False := fun _ _ q => by unfold ExK at q; cases q
theorem nf_dk {vs : List (Key × V)} : ∀ (od : Obj) (kvs : List (Key × V)), HO.dK vs = .frz od (.dK kvs) → False := fun _ _ q => by cases q
mutual
theorem Dd.lk {v : V} {d : D} (e : ∀ a o, (∀ od kvs, o = .frz od (.dK kvs) → False) → h a = some o → h' a = some o) : Dd K h v d → Dd K h' v d
  | .non => .non
  | .bl => .bl
  | .int => .int
  | .str => .str
  | .ty => .ty
  | .exc s => .exc (e _ _ nf_exk s)
  | .lst s l => .lst (e _ _ nf_lst s) (DdL.lk e l)
  | .lsw s l => .lsw (by
      rcases s with (s | ⟨o, s⟩) | s
      · exact .inl (.inl (e _ _ nf_lst s))
      · exact .inl (.inr ⟨o, e _ _ nf_flst s⟩)
      · exact .inr s) (DdL.lk e l)
  | .tup s l => .tup (e _ _ nf_tup s) (DdL.lk e l)
  | .dct s l => .dct (e _ _ nf_dk s) (DdK.lk e l)
  | .tpw s l => .tpw s (DdL.lk e l)
theorem DdL.lk {vs : List V} {ds : List D} (e : ∀ a o, (∀ od kvs, o = .frz od (.dK kvs) → False) → h a = some o → h' a = some o) : DdL K h vs ds → DdL K h' vs ds
  | .nil => .nil
  | .cons a b => .cons (Dd.lk e a) (DdL.lk e b)
theorem DdK.lk {vs : List (Key × V)} {ds : List (Key × D)} (e : ∀ a o, (∀ od kvs, o = .frz od (.dK kvs) → False) → h a = some o → h' a = some o) : DdK K h vs ds → DdK K h' vs ds
  | .nil => .nil
  | .cons a b => .cons (Dd.lk e a) (DdK.lk e b)
end
theorem Wr.lk {ι : List Addr} {v : V} {w : W} (e : Nolk h h') (q : Wr K h ι v w) : Wr K h' ι v w := by
  cases w with
  | d x => exact Dd.lk e q
  | obj n => exact q
  | tp es =>
    obtain ⟨a, vs, h1, h2, h3⟩ := q
    refine ⟨a, vs, h1, e _ _ nf_tup h2, Paired.mapP h3 fun _ w q => ?_⟩
    cases w with
    | inl x => exact Dd.lk e q
    | inr n => exact q
theorem WrL.lk {ι : List Addr} (e : Nolk h h') : ∀ {vs : List V} {ws : List W}, WrL K h ι vs ws → WrL K h' ι vs ws
  | _, _, .nil => .nil
  | _, _, .cons a b => .cons (Wr.lk e a) (WrL.lk e b)
theorem WrK.lk {ι : List Addr} {κ : Type} (e : Nolk h h') : ∀ {vs : List (κ × V)} {ws : List (κ × W)}, WrK K h ι vs ws → WrK K h' ι vs ws
  | _, _, .nil => .nil
  | _, _, .cons a b => .cons ⟨a.1, Wr.lk e a.2⟩ (WrK.lk e b)
theorem TbAt.lk {g g1 : G} {a : Addr} {x q : Str} (e : Nolk g.Φ g1.Φ) (hh : ∀ o, g.H a = some o → g1.H a = some o) (t : TbAt K g a x q) : TbAt K g1 a x q := by
  obtain ⟨h0, ps, h1, h2, h3⟩ := t
  refine ⟨h0, ps, hh _ h1, h2, fun pos cv hc => ?_⟩
  obtain ⟨c, h4, h5⟩ := h3 pos cv hc
  exact ⟨c, h4, e _ _ (fun od kvs z => by unfold LamX.CodeO at z; cases z) h5⟩
end
def keyW : Key → W
  | .inl i => .d (.int i)
  | .inr z => .d (.str z)
section
variable {X : Cx} {fd f : EF} {K : PySem.W.Frag} {g g1 : G} {v : V} {σ : L2.St} {s s1 : S} {st st1 : Sto} {t : GF} {tg iter : Expr} {pos : Pos}
theorem WrK.length {Φ : Hp} {ι : List Addr} {κ : Type} : ∀ {kvs : List (κ × V)} {kws : List (κ × W)}, WrK K Φ ι kvs kws → kvs.length = kws.length
  | _, _, .nil => rfl
  | _, _, .cons _ t => congrArg (· + 1) (WrK.length t)
theorem WrK.key {Φ : Hp} {ι : List Addr} {κ : Type} {k : κ} {v : V} {q : κ × W} : ∀ {kvs : List (κ × V)} {kws : List (κ × W)} {i : Nat}, WrK K Φ ι kvs kws → kvs[i]? = some (k, v) → kws[i]? = some q → k = q.1
  | _, _, _, .nil, h, _ => by simp at h
  | _, _, 0, .cons a _, h, h' => by simp at h h'; subst h h'; exact a.1
  | _, _, i + 1, .cons _ t, h, h' => WrK.key (i := i) t (by simpa using h) (by simpa using h')
/-- the keys of the thing n -/
def iKey (n : Nat) (kws : List (Key × W)) (fd : EF) : IF := fun s => (fd s).bind fun p => match p.1 with
  | .val (.obj m) => if m = n then some (⟨kws.map fun q => .one (keyW q.1), []⟩, p.2) else none
  | _ => none
noncomputable def eLcK (cv : Cv) (fd : EF) (t : GF) (tt : TF) (fe : EF) (own : List Nat) : EF := fun s => (fd s).bind fun p => match p.1 with
  | .val (.obj n) => (match s.st[n]? with
    | some (some (.dct kws)) => (eLcC cv (iKey n kws fd) t tt fe own { s with st := s.st.set n none }).map fun q => (q.1, { q.2 with st := q.2.st.set n (some (.dct kws)) })
    | _ => none)
  | _ => none
variable {sms : List Stmt}
end
end NV

namespace NV
open PySem PySem.Spec PyProof.Rows L2
/-! ### slices with a step: lists; a tuple turned about -/
def stepIx (lo hi : Option Int) (st : Int) (n : Nat) : List Nat := sliceRange (sliceBounds lo hi (some st) n).1 (sliceBounds lo hi (some st) n).2.1 (sliceBounds lo hi (some st) n).2.2
def cutSt {α : Type} (xs : List α) (lo hi : Option Int) (st : Int) : List α := (stepIx lo hi st xs.length).filterMap (xs[·]?)
section
variable {prog : Program} {w : World} {A : Around} {E : Value → Shared → Prop} {s : Shared}
end
section
variable {X : Cx} {e e3 : Expr} {te : TE} {lo hi : Option Expr} {tl th ts : TO} {pos p2 : Pos}
end
section
variable {X : Cx} {a e3 : Expr} {fa : EF} {lo hi : Option Expr} {fl fh fs : OF} {pos p2 : Pos} {K : PySem.W.Frag}
abbrev StH := Vu → Option Int → Option Int → Option Int → Option R
def hSt : StH
  | .lst ws, l, u, some st => if st ≠ 0 then some (.new (.lst (cutSt ws l u st))) else none
  | .lsw ws, l, u, some st => if st ≠ 0 then some (.new (.lst (cutSt ws l u st))) else none
  | .tup ws, none, none, some (-1) => (dats ws).map fun ds => .val (.d (.tup ds.reverse))
  | _, _, _, _ => none
def eSt (fa : EF) (fl fh fs : OF) : EF := fun s => (fa s).bind fun p => (fl p.2).bind fun l => (fh l.2).bind fun r => (fs r.2).bind fun t => (p.1.view t.2.st).bind fun u => (hSt u l.1 r.1 t.1).map fun x => (x, t.2)
theorem DdL.reverse {h : Hp} {vs : List V} {ds : List D} (q : DdL K h vs ds) : DdL K h vs.reverse ds.reverse := by
  have h1 : WrL K h [] vs (ds.map .d) := q.wr
  have h2 := WrL.reverse h1
  rw [← List.map_reverse] at h2
  exact (dats_ok h2 (dats_map _)).1
end
end NV

namespace NV
open PySem PySem.Spec PyProof.Rows L2 SrtO
/-! ### sorting by keys: the list law -/
section
variable {α β : Type}
abbrev Kx (α : Type) := (Int × Int) × α
abbrev ltK {α : Type} (p q : Kx α) : Bool := lexB p.1 q.1
theorem ltK_swo : Swo (ltK (α := α)) := by
  refine ⟨fun x y h => ?_, fun x y z h1 h2 => ?_⟩
  · have a := lexB_iff.mp h
    refine lexB_no.mpr ?_
    omega
  · have a := lexB_no.mp h1
    have b := lexB_no.mp h2
    refine lexB_no.mpr ?_
    omega
abbrev leK {α : Type} (p q : Kx α) : Bool := !ltK q p
theorem leK_trans (a b c : Kx α) (h1 : leK a b = true) (h2 : leK b c = true) : leK a c = true := by
  simp only [leK, Bool.not_eq_true'] at h1 h2 ⊢
  exact ltK_swo.tr a b c h1 h2
theorem leK_total (a b : Kx α) : (leK a b || leK b a) = true := by
  simp only [leK]
  cases h : ltK b a with
  | false => rfl
  | true => rw [ltK_swo.asym _ _ h]; rfl
def sortK (l : List (Kx α)) : List (Kx α) := l.mergeSort leK
theorem sortK_srtd (l : List (Kx α)) : Srtd ltK (sortK l) := by
  have := List.pairwise_mergeSort (le := leK) leK_trans leK_total l
  exact this.imp fun h => by simpa [leK] using h
end
end NV

namespace NV
open PySem PySem.Spec PyProof.Rows L2 SrtO Srt
/-! ### sorted(xs, key=o.m): the machine -/
section
variable {X : Cx} {pins : List (Addr × Obj)} {σ : L2.St} {H : Hp} {s : Shared}
end
end NV

namespace NV
open PySem PySem.Spec PyProof.Rows L2
section
variable {X : Cx} {a b c e o value : Expr} {es : List Expr} {fa fb fc f fo fl : EF} {ff : AF} {pos : Pos} {K : PySem.W.Frag} {g g0 g1 : G} {v : V} {σ : L2.St} {s s1 : S} {st st0 st1 : Sto}
/-! ### things set aside -/
theorem StOk.aside {p : Addr} {ob : HO} (o : StOk K g st) (h1 : g.Φ p = none) (h2 : p ∉ g.ι) : StOk K ⟨g.Φ, g.ι, upd g.H p ob⟩ st := by
  refine ⟨o.len, fun n nd a e1 e2 => ?_, o.nd, o.live, fun a x e => ?_, fun a e => ?_⟩
  · have ne : a ≠ p := fun z => h2 (z ▸ List.mem_of_getElem? e2)
    exact NdAt.stay (g := g) (g1 := ⟨g.Φ, g.ι, upd g.H p ob⟩) (fun _ _ h => h) ⟨[], by simp⟩ (fun o e => by show upd g.H p _ a = _; rw [upd_ne ne]; exact e) (o.at_ n nd a e1 e2)
  · show upd g.H p _ a = _
    have e : g.Φ a = some x := e
    have ne : a ≠ p := fun z => by rw [z, h1] at e; cases e
    rw [upd_ne ne]; exact o.sub a x e
  · show upd g.H p _ a ≠ none
    have ne : a ≠ p := fun z => h2 (z ▸ e)
    rw [upd_ne ne]; exact o.dom a e
theorem Step.aside {p : Addr} {ob : HO} (q : Step g0 st0 g st) (h : g0.H p = none) : Step g0 st0 ⟨g.Φ, g.ι, upd g.H p ob⟩ st := by
  refine ⟨q.phi, q.io, fun a o e nl => ?_, q.dm, fun a e => ?_, q.dead⟩
  · show upd g.H p _ a = _
    have ne : a ≠ p := fun z => by rw [z, h] at e; cases e
    rw [upd_ne ne]; exact q.fr a o e nl
  · show upd g.H p _ a ≠ none
    by_cases z : a = p
    · rw [z, upd_same]; exact fun z => nomatch z
    · rw [upd_ne z]; exact q.there a e
/-- a tracked thing that is neither frozen nor numbered stays aside -/
theorem Step.out {p : Addr} {ob : HO} (q : Step g st g1 st1) (h1 : g.Φ p = none) (h2 : p ∉ g.ι) (h3 : g.H p = some ob) : g1.H p = some ob ∧ g1.Φ p = none ∧ p ∉ g1.ι := by
  have no : ¬ (g1.Φ p ≠ none ∨ p ∈ g1.ι) := fun z => by
    rcases q.dm p z with z | z | z
    · exact z h1
    · exact h2 z
    · rw [z] at h3; cases h3
  refine ⟨q.fr p _ h3 fun ⟨n, y, hy, ha⟩ => h2 (List.mem_of_getElem? ha), ?_, fun z => no (.inr z)⟩
  cases e : g1.Φ p with
  | none => rfl
  | some _ => exact (no (.inl (by rw [e]; exact fun z => nomatch z))).elim
/-! ### sorted(xs, key=o.m), keys pairs of ints -/
def pairOf : R → Option (Int × Int)
  | .val (.d (.tup [.int i, .int j])) => some (i, j)
  | _ => none
def keysF (F : FF) (n : Nat) : List W → Sto → Option (List (Int × Int) × Sto)
  | [], st => some ([], st)
  | w :: ws, st => (F [.obj n, w] st).bind fun p => (pairOf p.1).bind fun k => (keysF F n ws p.2).map fun q => (k :: q.1, q.2)
def eSortM (c m : Str) (F : FF) (fl fo : EF) : EF := fun s => (fl s).bind fun p => (fo p.2).bind fun q => match q.1 with
  | .val (.obj n) => (match q.2.st[n]? with
    | some (some (.ins c' fs)) => if c' = c ∧ fs.lookup m = none then (p.1.view q.2.st).bind fun u => u.lw.bind fun ws => (keysF F n ws q.2.st).map fun z => (.new (.lst ((sortK (z.1.zip ws)).map (·.2))), { q.2 with st := z.2 }) else none
    | _ => none)
  | _ => none
end
end NV

namespace NV
open PySem PySem.Spec PyProof.Rows L2
section
variable {X : Cx} {a b c e o value : Expr} {es : List Expr} {fa fb fc f fo fl : EF} {ff : AF} {pos : Pos} {K : PySem.W.Frag} {g g0 g1 : G} {v : V} {σ : L2.St} {s s1 : S} {st st0 st1 : Sto}
/-! ### x += e, x -= e, ints -/
def sAugI (i : Nat) (op : Int → Int → Int) (fe : EF) : SF := fun s => match s.sl[i]? with
  | some (some (.d (.int a))) => (fe s).bind fun p => p.1.int?.map fun b => .nx { p.2 with sl := p.2.sl.set i (some (.d (.int (op a b)))) }
  | _ => none
/-! ### {k: v, ..} -/
def pairsF : List (EF × EF × Cv) → S → Option (List (Key × W) × S)
  | [], s => some ([], s)
  | (fk, fv, cv) :: r, s => (fk s).bind fun p => (fv p.2).bind fun q => (p.1.view q.2.st).bind fun u => u.key.bind fun k => (cv q.1 q.2.st).bind fun z => (pairsF r { q.2 with st := z.2 }).map fun t => ((k, z.1) :: t.1, t.2)
def upPs (K : PySem.W.Frag) (f : S → Option (List (Key × W) × S)) (σ : L2.St) (H : Hp) (Q : List (V × V) → Hp → Prop) : Prop := ∃ g s r s', g.H = H ∧ Rel K g σ s ∧ f s = some (r, s') ∧
  ∀ kvs g', Step g s.st g' s'.st → Rel K g' σ s' → WrK K g'.Φ g'.ι kvs r → Q (kvs.map fun kv => (kV kv.1, kv.2)) g'.H
structure VPs (X : Cx) (pos : Pos) (keys : List (Option Expr)) (values : List Expr) (fs : List (EF × EF × Cv)) : Prop where
  ps : ∃ trs, PPs X pos keys values trs ∧ ∀ σ H Q, upPs X.K (pairsF fs) σ H Q → tPairs trs σ H Q
def mergeW (kws more : List (Key × W)) : List (Key × W) := more.foldl (fun acc kv => putW acc kv.1 kv.2) kws
def eDisp (fs : List (EF × EF × Cv)) : EF := fun s => (pairsF fs s).bind fun p => if p.1.length ≤ 15 then some (.new (.dct (mergeW [] p.1)), p.2) else none
/-! ### len(set(xs)), ints -/
def dd (ns : List Int) : List Int := ns.foldl step_dedup []
def eLenSet (fa : EF) : EF := fun s => (fa s).bind fun p => (p.1.view p.2.st).bind fun u => u.lw.bind fun ws => (intsW ws).bind fun ns => if ns.length ≤ 4000 then some (.val (.d (.int ((dd ns).length : Nat))), p.2) else none
end
end NV

namespace NV
open PySem PySem.Spec PyProof.Rows L2
/-! ### evaluation of objects, dicts -/
def FldK (nd : Nd) (c f : Str) (B : W → Prop) : Prop := ∃ fs w, nd = .ins c fs ∧ fs.lookup f = some w ∧ B w
def PutFK (nd : Nd) (c f : Str) (w : W) (B : Nd → Prop) : Prop := ∃ fs, nd = .ins c fs ∧ fs.length < 1000 ∧ B (.ins c (putFW f w fs))
def MethK (nd : Nd) (c m : Str) : Prop := ∃ fs, nd = .ins c fs ∧ fs.lookup m = none
def DctK (nd : Nd) (B : List (Key × W) → Prop) : Prop := ∃ kws, nd = .dct kws ∧ B kws
def NonK (r : R) (B : Prop) : Prop := r = .val (.d .non) ∧ B
def KeyK (u : Vu) (B : Key → Prop) : Prop := Ev u.key B
def DicK (u : Vu) (B : List (Key × W) → Prop) : Prop := Ev u.dic B
def LookK (kws : List (Key × W)) (k : Key) (B : W → Prop) : Prop := Ev (look kws k) B
section
variable {s : S} {sl : List (Option W)} {st : Sto} {fa fb fc fo fv fd fk fx : EF} {ff : AF} {ta tb : TF} {Q : R → S → Prop} {T : Bool → S → Prop} {A : List W → S → Prop} {P : R → Prop} {n : S → Prop} {r : R → S → Prop} {b c : S → Prop} {C f m : Str} {i j : Int} {z : Str} {kws : List (Key × W)} {fs : List (Str × W)} {B : List (Key × W) → Prop}
@[simp ↓] theorem dctk : DctK (.dct kws) B ↔ B kws := by simp [DctK]
@[simp ↓] theorem nonk {G : Prop} : NonK (.val (.d .non)) G ↔ G := by simp [NonK]
@[simp ↓] theorem keyk_i {G : Key → Prop} : KeyK (.at (.int i)) G ↔ G (.inl i) := ev_some'
@[simp ↓] theorem keyk_s {G : Key → Prop} : KeyK (.at (.str z)) G ↔ G (.inr z) := ev_some'
@[simp ↓] theorem dick : DicK (.dct kws) B ↔ B kws := ev_some'
@[simp ↓] theorem es_eFld : Es (eFld C f fa s) Q ↔ Es (fa s) fun p s1 => ObjK p fun n => GetK s1.st n fun o => SoK o fun nd => FldK nd C f fun w => Q (.val w) s1 := by
  simp only [eFld, es_ev, ev_bind']
  constructor <;> intro h0 <;> refine h0.imp fun p h => ?_
  · split at h
    · rename_i n hp
      split at h
      · rename_i c' fs hn
        rw [ev_ite'] at h
        split at h
        · rename_i hc
          subst hc
          obtain ⟨w, e, q⟩ := ev_map'.mp h
          exact ⟨n, hp, _, hn, _, rfl, fs, w, rfl, e, q⟩
        · exact (ev_none'.mp h).elim
      · exact (ev_none'.mp h).elim
    · exact (ev_none'.mp h).elim
  · obtain ⟨n, hp, o, hn, nd, rfl, fs, w, rfl, e, q⟩ := h
    rw [hp]; dsimp only; rw [hn]; dsimp only
    rw [if_pos rfl, e]
    exact ev_some'.mpr q
@[simp ↓] theorem eo_sFld : Eo (sFld C f fv fo s) n r b c ↔ Es (fv s) fun x s1 => RwoK x s1.st fun w st' => Es (fo ⟨s1.sl, st'⟩) fun q s2 => ObjK q fun k => GetK s2.st k fun o => SoK o fun nd => PutFK nd C f w fun nd' => SetK s2.st k (some nd') fun st2 => n ⟨s2.sl, st2⟩ := by
  unfold sFld
  rw [eo_bind, es_ev]
  unfold RwoK
  constructor <;> intro h0 <;> refine h0.imp fun p h => ?_
  · dsimp only
    rw [es_ev]
    refine (eo_bind.mp h).imp fun q h => ?_
    split at h
    · rename_i k hq
      obtain ⟨x, h1, h2⟩ := h
      obtain ⟨s3, h3, rfl⟩ := Option.map_eq_some_iff.mp h1
      unfold fldPut at h3
      split at h3
      · rename_i c' fs hn
        split at h3
        · rename_i hc
          obtain ⟨rfl, hl⟩ := hc
          cases h3
          exact ⟨k, hq, _, hn, _, rfl, fs, rfl, hl, h2⟩
        · cases h3
      · cases h3
    · obtain ⟨_, h1, _⟩ := h; cases h1
  · dsimp only at h
    rw [es_ev] at h
    refine eo_bind.mpr (h.imp fun q h => ?_)
    obtain ⟨k, hq, o, hn, nd, rfl, fs, rfl, hl, h2⟩ := h
    rw [hq]; dsimp only
    refine ⟨.nx { q.2 with st := q.2.st.set k (some (.ins C (putFW f (p.1.wo p.2.st).1 fs))) }, ?_, h2⟩
    unfold fldPut
    rw [hn]; dsimp only
    rw [if_pos ⟨rfl, hl⟩]; rfl
@[simp ↓] theorem eo_sFldA {op : Int → Int → Int} : Eo (sFldA C f op fo fv s) n r b c ↔ Es (fo s) fun p s1 => ObjK p fun k => GetK s1.st k fun o => SoK o fun nd => FldK nd C f fun w => Es (fv s1) fun q s2 => IntK w fun i => SoK q.int? fun j => GetK s2.st k fun o => SoK o fun nd => PutFK nd C f (.d (.int (op i j))) fun nd' => SetK s2.st k (some nd') fun st2 => n ⟨s2.sl, st2⟩ := by
  unfold sFldA
  rw [eo_bind, es_ev]
  constructor <;> intro h0 <;> refine h0.imp fun p h => ?_
  · split at h
    · rename_i k hp
      split at h
      · rename_i c' fs hn
        split at h
        · rename_i hc
          subst hc
          obtain ⟨w, e1, h⟩ := eo_bind.mp h
          refine ⟨k, hp, _, hn, _, rfl, fs, w, rfl, e1, ?_⟩
          dsimp only
          rw [es_ev]
          refine (eo_bind.mp h).imp fun q h => ?_
          split at h
          · rename_i i j hj _
            obtain ⟨x, h1, h2⟩ := h
            obtain ⟨s3, h3, rfl⟩ := Option.map_eq_some_iff.mp h1
            unfold fldPut at h3
            split at h3
            · rename_i c2 fs2 hn2
              split at h3
              · rename_i hc2
                obtain ⟨rfl, hl⟩ := hc2
                cases h3
                exact ⟨i, rfl, j, by rw [hj]; rfl, _, hn2, _, rfl, fs2, rfl, hl, h2⟩
              · cases h3
            · cases h3
          · obtain ⟨_, h1, _⟩ := h; cases h1
        · obtain ⟨_, h1, _⟩ := h; cases h1
      · obtain ⟨_, h1, _⟩ := h; cases h1
    · obtain ⟨_, h1, _⟩ := h; cases h1
  · obtain ⟨k, hp, o, hn, nd, rfl, fs, w, rfl, e1, h⟩ := h
    rw [hp]; dsimp only; rw [hn]; dsimp only
    rw [if_pos rfl]
    refine eo_bind.mpr ⟨w, e1, ?_⟩
    rw [es_ev] at h
    refine eo_bind.mpr (h.imp fun q h => ?_)
    obtain ⟨i, rfl, j, hj, o2, hn2, nd2, rfl, fs2, rfl, hl, h2⟩ := h
    rw [int?_eq hj]; dsimp only
    refine ⟨.nx { q.2 with st := q.2.st.set k (some (.ins C (putFW f (.d (.int (op i j))) fs2))) }, ?_, h2⟩
    unfold fldPut
    rw [hn2]; dsimp only
    rw [if_pos ⟨rfl, hl⟩]; rfl
@[simp ↓] theorem es_eMake {F : FF} : Es (eMake C F ff s) Q ↔ Es (ff s) fun ws s1 => LenK s1.st fun k => AppK s1.st [some (.ins C [])] fun st' => Ev (F (.obj k :: ws) st') fun p => NonK p.1 (Q (.val (.obj k)) ⟨s1.sl, p.2⟩) := by
  simp only [eMake, es_ev, ev_bind', LenK, AppK]
  constructor <;> intro h0 <;> refine h0.imp fun p h => h.imp fun q h => ?_
  · split at h
    · rename_i hq; exact ⟨hq, (ev_pair (Q := Q)).mp h⟩
    · exact (ev_none'.mp h).elim
  · obtain ⟨hq, h⟩ := h
    rw [hq]; exact (ev_pair (Q := Q)).mpr h
@[simp ↓] theorem es_eMeth {F : FF} : Es (eMeth C m F fo ff s) Q ↔ Es (fo s) fun p s1 => ObjK p fun k => GetK s1.st k fun o => SoK o fun nd => MethK nd C m ∧ Es (ff s1) fun ws s2 => Ev (F (.obj k :: ws) s2.st) fun z => Q z.1 ⟨s2.sl, z.2⟩ := by
  simp only [eMeth, es_ev, ev_bind']
  constructor <;> intro h0 <;> refine h0.imp fun p h => ?_
  · split at h
    · rename_i k hp
      split at h
      · rename_i c' fs hn
        rw [ev_ite'] at h
        split at h
        · rename_i hc
          obtain ⟨rfl, hm⟩ := hc
          refine ⟨k, hp, _, hn, _, rfl, ⟨fs, rfl, hm⟩, (ev_bind'.mp h).imp fun q h => ?_⟩
          exact ev_map'.mp h
        · exact (ev_none'.mp h).elim
      · exact (ev_none'.mp h).elim
    · exact (ev_none'.mp h).elim
  · obtain ⟨k, hp, o, hn, nd, rfl, ⟨fs, rfl, hm⟩, h⟩ := h
    rw [hp]; dsimp only; rw [hn]; dsimp only
    rw [if_pos ⟨rfl, hm⟩]
    exact ev_bind'.mpr (h.imp fun q h => ev_map'.mpr h)
@[simp ↓] theorem es_eDPop : Es (eDPop fo fk s) Q ↔ Es (fo s) fun p s1 => ObjK p fun k => GetK s1.st k fun o => SoK o fun nd => DctK nd fun _ => Es (fk s1) fun q s2 => GetK s2.st k fun o => SoK o fun nd => DctK nd fun kws => ViewK q s2.st fun u => KeyK u fun ky => LookK kws ky fun w => SetK s2.st k (some (.dct (dropW kws ky))) fun st2 => Q (.val w) ⟨s2.sl, st2⟩ := by
  simp only [eDPop, es_ev, ev_bind']
  constructor <;> intro h0 <;> refine h0.imp fun p h => ?_
  · split at h
    · rename_i k hp
      split at h
      · rename_i kws0 hn0
        refine ⟨k, hp, _, hn0, _, rfl, kws0, rfl, (ev_bind'.mp h).imp fun q h => ?_⟩
        split at h
        · rename_i kws hn
          refine ⟨_, hn, _, rfl, kws, rfl, (ev_bind'.mp h).imp fun u h => (ev_bind'.mp h).imp fun ky h => ?_⟩
          have h := ev_map'.mp h
          exact h
        · exact (ev_none'.mp h).elim
      · exact (ev_none'.mp h).elim
    · exact (ev_none'.mp h).elim
  · obtain ⟨k, hp, o, hn0, nd, rfl, kws0, rfl, h⟩ := h
    rw [hp]; dsimp only; rw [hn0]; dsimp only
    refine ev_bind'.mpr (h.imp fun q h => ?_)
    obtain ⟨o, hn, nd, rfl, kws, rfl, h⟩ := h
    rw [hn]; dsimp only
    exact ev_bind'.mpr (h.imp fun u h => ev_bind'.mpr (h.imp fun ky h => ev_map'.mpr h))
/-- the value at a key, or another one -/
def LookD (kws : List (Key × W)) (k : Key) (x : R) (B : R → Prop) : Prop := B (match look kws k with
  | some w => .val w
  | none => x)
@[simp ↓] theorem es_eDGet2 : Es (eDGet2 fo fk fx s) Q ↔ Es (fo s) fun p s1 => ViewK p s1.st fun ud0 => DicK ud0 fun _ => Es (fk s1) fun q s2 => Es (fx s2) fun x s3 => ViewK p s3.st fun ud => DicK ud fun kws => ViewK q s3.st fun u => KeyK u fun ky => LookD kws ky x fun w => Q w s3 := by
  simp only [eDGet2, es_ev, ev_bind', ev_map', ViewK, DicK, KeyK, LookD]
  constructor <;> intro h0 <;> refine h0.imp fun p h => h.imp fun ud0 h => h.imp fun _ h => h.imp fun q h => h.imp fun x h => h.imp fun ud h => h.imp fun kws h => h.imp fun u h => h.imp fun ky h => ?_ <;>
    cases e : look kws ky <;> rw [e] at h <;> exact h
@[simp ↓] theorem es_eLcK {cv : Cv} {t : GF} {tt : TF} {fe : EF} {own : List Nat} : Es (eLcK cv fd t tt fe own s) Q ↔ Es (fd s) fun p _ => ObjK p fun k => GetK s.st k fun o => SoK o fun nd => DctK nd fun kws => SetK s.st k none fun st0 => Es (fd ⟨s.sl, st0⟩) fun p2 s2 => ObjK p2 fun k2 => k2 = k ∧
    Ev (lcL cv t tt fe own s2.sl [] (kws.map fun q => .one (keyW q.1)) [] s2.st) fun a => SetK a.2 k (some (.dct kws)) fun st1 => Q (.new (.lst a.1)) ⟨s2.sl, st1⟩ := by
  simp only [eLcK, es_ev, ev_bind']
  constructor <;> intro h0 <;> refine h0.imp fun p h => ?_
  · split at h
    · rename_i k hp
      split at h
      · rename_i kws hn
        refine ⟨k, hp, _, hn, _, rfl, kws, rfl, ?_⟩
        have h := ev_map'.mp h
        unfold eLcC iKey at h
        have h := ev_bind'.mp (ev_bind'.mp h)
        unfold SetK
        refine h.imp fun p2 h => ?_
        split at h
        · rename_i k2 hp2
          rw [ev_ite'] at h
          split at h
          · rename_i e
            obtain ⟨_, e1, h⟩ := h
            cases e1
            have h := ev_map'.mp h
            exact ⟨k2, hp2, e, h⟩
          · exact (ev_none'.mp h).elim
        · exact (ev_none'.mp h).elim
      · exact (ev_none'.mp h).elim
    · exact (ev_none'.mp h).elim
  · obtain ⟨k, hp, o, hn, nd, rfl, kws, rfl, h⟩ := h
    rw [hp]; dsimp only; rw [hn]; dsimp only
    refine ev_map'.mpr ?_
    unfold eLcC iKey
    refine ev_bind'.mpr (ev_bind'.mpr (h.imp fun p2 h => ?_))
    obtain ⟨k2, hp2, rfl, h⟩ := h
    rw [hp2]; dsimp only
    rw [if_pos rfl]
    exact ev_some'.mpr (ev_map'.mpr h)
def IntSlK (o : Option W) (B : Int → Prop) : Prop := ∃ i, o = some (.d (.int i)) ∧ B i
@[simp ↓] theorem intslk {B : Int → Prop} : IntSlK (some (.d (.int i))) B ↔ B i := by simp [IntSlK]
@[simp ↓] theorem eo_sAugI {k : Nat} {op : Int → Int → Int} : Eo (sAugI k op fa ⟨sl, st⟩) n r b c ↔ GetK sl k fun o => IntSlK o fun i => Es (fa ⟨sl, st⟩) fun q s1 => SoK q.int? fun j => SetK s1.sl k (some (.d (.int (op i j)))) fun sl' => n ⟨sl', s1.st⟩ := by
  have e : sAugI k op fa ⟨sl, st⟩ = match sl[k]? with
    | some (some (.d (.int a))) => (fa ⟨sl, st⟩).bind fun p => p.1.int?.map fun b => .nx { p.2 with sl := p.2.sl.set k (some (.d (.int (op a b)))) }
    | _ => none := rfl
  rw [e]
  constructor
  · intro h
    split at h
    · rename_i a hs
      refine ⟨_, hs, a, rfl, ?_⟩
      dsimp only
      rw [es_ev]
      refine (eo_bind.mp h).imp fun q h => ?_
      obtain ⟨x, h1, h2⟩ := h
      obtain ⟨j, h3, rfl⟩ := Option.map_eq_some_iff.mp h1
      exact ⟨j, h3, h2⟩
    · obtain ⟨_, h1, _⟩ := h; cases h1
  · rintro ⟨o, hs, a, rfl, h⟩
    rw [hs]; dsimp only at h ⊢
    rw [es_ev] at h
    refine eo_bind.mpr (h.imp fun q h => ?_)
    obtain ⟨j, h3, h2⟩ := h
    exact ⟨_, by rw [h3]; rfl, h2⟩
def PsK (fs : List (EF × EF × Cv)) (s : S) (G : List (Key × W) → S → Prop) : Prop := Es (pairsF fs s) G
@[simp ↓] theorem psk_n {G : List (Key × W) → S → Prop} : PsK [] s G ↔ G [] s := by simp [PsK, pairsF, es_ev]
@[simp ↓] theorem psk_c {cv : Cv} {fs : List (EF × EF × Cv)} {G : List (Key × W) → S → Prop} : PsK ((fk, fv, cv) :: fs) s G ↔ Es (fk s) fun p s1 => Es (fv s1) fun q s2 => ViewK p s2.st fun u => KeyK u fun k => Ev (cv q s2.st) fun z => PsK fs ⟨s2.sl, z.2⟩ fun t s3 => G ((k, z.1) :: t) s3 := by
  simp only [PsK, pairsF, es_ev, ev_bind', ev_map', ViewK, KeyK]
@[simp ↓] theorem es_eDisp {fs : List (EF × EF × Cv)} : Es (eDisp fs s) Q ↔ PsK fs s fun l s1 => l.length ≤ 15 ∧ Q (.new (.dct (mergeW [] l))) s1 := by
  simp only [eDisp, PsK, es_ev, ev_bind', ev_ite', ev_none', ev_some']
  constructor <;> intro h0 <;> refine h0.imp fun p h => ?_
  · split at h
    · rename_i hl; exact ⟨hl, h⟩
    · exact h.elim
  · rw [if_pos h.1]; exact h.2
def LwK (u : Vu) (B : List W → Prop) : Prop := Ev u.lw B
@[simp ↓] theorem lwk_l {ws : List W} {B : List W → Prop} : LwK (.lst ws) B ↔ B ws := ev_some'
@[simp ↓] theorem lwk_w {ws : List W} {B : List W → Prop} : LwK (.lsw ws) B ↔ B ws := ev_some'
def IntsK (ws : List W) (B : List Int → Prop) : Prop := Ev (intsW ws) B
theorem intsW_map (ns : List Int) : intsW (ns.map (W.d ∘ D.int)) = some ns := by
  induction ns with
  | nil => rfl
  | cons a l ih => simp [intsW, ih]
@[simp ↓] theorem intsk {ns : List Int} {B : List Int → Prop} : IntsK (ns.map (W.d ∘ D.int)) B ↔ B ns := by
  unfold IntsK; rw [intsW_map]; exact ev_some'
@[simp ↓] theorem intsk_n {B : List Int → Prop} : IntsK [] B ↔ B [] := ev_some'
@[simp ↓] theorem es_eLenSet : Es (eLenSet fa s) Q ↔ Es (fa s) fun p s1 => ViewK p s1.st fun u => LwK u fun ws => IntsK ws fun ns => ns.length ≤ 4000 ∧ Q (iR ((dd ns).length : Nat)) s1 := by
  simp only [eLenSet, es_ev, ev_bind', ViewK, LwK, IntsK, ev_ite', ev_none', ev_some']
  constructor <;> intro h0 <;> refine h0.imp fun p h => h.imp fun u h => h.imp fun ws h => h.imp fun ns h => ?_
  · split at h
    · rename_i hl; exact ⟨hl, h⟩
    · exact h.elim
  · rw [if_pos h.1]; exact h.2
@[simp ↓] theorem es_eSortM {F : FF} : Es (eSortM C m F fa fo s) Q ↔ Es (fa s) fun p s1 => Es (fo s1) fun q s2 => ObjK q fun k => GetK s2.st k fun o => SoK o fun nd => MethK nd C m ∧ ViewK p s2.st fun u => LwK u fun ws => Ev (keysF F k ws s2.st) fun z => Q (.new (.lst ((sortK (z.1.zip ws)).map (·.2)))) ⟨s2.sl, z.2⟩ := by
  simp only [eSortM, es_ev, ev_bind']
  constructor <;> intro h0 <;> refine h0.imp fun p h1 => h1.imp fun q h => ?_
  · split at h
    · rename_i k hp
      split at h
      · rename_i c' fs hn
        rw [ev_ite'] at h
        split at h
        · rename_i hc
          obtain ⟨rfl, hm⟩ := hc
          exact ⟨k, hp, _, hn, _, rfl, ⟨fs, rfl, hm⟩, (ev_bind'.mp h).imp fun u h => (ev_bind'.mp h).imp fun ws h => ev_map'.mp h⟩
        · exact (ev_none'.mp h).elim
      · exact (ev_none'.mp h).elim
    · exact (ev_none'.mp h).elim
  · obtain ⟨k, hp, o, hn, nd, rfl, ⟨fs, rfl, hm⟩, h⟩ := h
    rw [hp]; dsimp only; rw [hn]; dsimp only
    rw [if_pos ⟨rfl, hm⟩]
    exact ev_bind'.mpr (h.imp fun u h => ev_bind'.mpr (h.imp fun ws h => ev_map'.mpr h))
def StK (u : Vu) (l r o : Option Int) (B : R → Prop) : Prop := Ev (hSt u l r o) B
@[simp ↓] theorem es_eSt {fl fh ft : OF} : Es (eSt fa fl fh ft s) Q ↔ Es (fa s) fun p s1 => Es (fl s1) fun l s2 => Es (fh s2) fun r s3 => Es (ft s3) fun t s4 => ViewK p s4.st fun u => StK u l r t fun x => Q x s4 := by
  simp only [eSt, es_ev, ev_bind', ev_map', ViewK, StK]
@[simp ↓] theorem stk_l {ws : List W} {l r : Option Int} {B : R → Prop} : StK (.lst ws) l r (some i) B ↔ i ≠ 0 ∧ B (.new (.lst (cutSt ws l r i))) := by
  simp only [StK, hSt, ev_ite', ev_none', ev_some']
  constructor
  · intro h
    split at h
    · rename_i h0; exact ⟨h0, h⟩
    · exact h.elim
  · intro h
    rw [if_pos h.1]; exact h.2
@[simp ↓] theorem stk_rev {l : List D} {B : R → Prop} : StK (.tup (l.map .d)) none none (some (-1)) B ↔ B (.val (.d (.tup l.reverse))) := by
  simp [StK, hSt, dats_map]
/-! tuples added, keys of dicts -/
@[simp ↓] theorem in_d {u : Vu} : Ev (hIn u (.dct kws)) P ↔ KeyK u fun k => P (bR (look kws k).isSome) := by
  have e : hIn u (.dct kws) = (u.key.map fun k => bR (look kws k).isSome) := by
    show (match hInS false u (.dct kws) with | some r => some r | none => hInD false u (.dct kws)) = _
    have : hInS false u (.dct kws) = none := by
      unfold hInS
      cases u.fl <;> rfl
    rw [this]
    unfold hInD
    cases u.key <;> rfl
  rw [e]; exact ev_map'
@[simp ↓] theorem nin_d {u : Vu} : Ev (hNotIn u (.dct kws)) P ↔ KeyK u fun k => P (bR (!(look kws k).isSome)) := by
  have e : hNotIn u (.dct kws) = (u.key.map fun k => bR (!(look kws k).isSome)) := by
    show (match hInS true u (.dct kws) with | some r => some r | none => hInD true u (.dct kws)) = _
    have : hInS true u (.dct kws) = none := by
      unfold hInS
      cases u.fl <;> rfl
    rw [this]
    unfold hInD
    cases u.key <;> rfl
  rw [e]; exact ev_map'
@[simp ↓] theorem ix_d {u : Vu} : Ev (hIx (.dct kws) u) P ↔ KeyK u fun k => LookK kws k fun w => P (.val w) := by
  have e : hIx (.dct kws) u = (u.key.bind fun k => (look kws k).map .val) := by
    cases u <;> rfl
  rw [e]
  simp only [ev_bind', ev_map', KeyK, LookK]
@[simp ↓] theorem put_d {u : Vu} {w : W} {N : Nd → Prop} : Ev ((Nd.dct kws).put u w) N ↔ KeyK u fun k => kws.length < 16777216 ∧ N (.dct (putW kws k w)) := by
  simp only [Nd.put, ev_bind', ev_ite', ev_none', ev_some', KeyK, sizeLine_eq]
  constructor <;> intro h <;> refine h.imp fun k h => ?_
  · split at h
    · rename_i hl; exact ⟨hl, h⟩
    · exact h.elim
  · rw [if_pos h.1]; exact h.2
end
end NV

namespace NV
open PySem PySem.Spec PyProof.Rows L2
section
variable {P : R → Prop} {z : Str} {ws : List W}
theorem hInS_seq {b : Bool} {u v : Vu} {w : W} (hu : u.fl = some w) (hv : v.seq = some ws) : hInS b u v = if ws.all W.flat = true then some (bR (if b then !inW w ws else inW w ws)) else none := by
  unfold hInS
  rw [hu, hv]
  rfl
@[simp ↓] theorem in_sw : Ev (hIn (.at (.str z)) (.lsw ws)) P ↔ ws.all W.flat = true ∧ P (bR (inW (.d (.str z)) ws)) := by
  have e : hIn (.at (.str z)) (.lsw ws) = if ws.all W.flat = true then some (bR (inW (.d (.str z)) ws)) else none := by
    show (match hInS false (.at (.str z)) (.lsw ws) with
      | some r => some r
      | none => none) = _
    rw [hInS_seq (w := .d (.str z)) rfl rfl]
    split <;> simp_all
  rw [e, ev_ite']
  by_cases h : ws.all W.flat = true
  · rw [if_pos h, ev_some']; exact ⟨fun q => ⟨h, q⟩, fun q => q.2⟩
  · rw [if_neg h, ev_none']; exact ⟨False.elim, fun q => h q.1⟩
@[simp ↓] theorem in_st : Ev (hIn (.at (.str z)) (.tup ws)) P ↔ ws.all W.flat = true ∧ P (bR (inW (.d (.str z)) ws)) := by
  have e : hIn (.at (.str z)) (.tup ws) = if ws.all W.flat = true then some (bR (inW (.d (.str z)) ws)) else none := by
    show (match hInS false (.at (.str z)) (.tup ws) with
      | some r => some r
      | none => none) = _
    rw [hInS_seq (w := .d (.str z)) rfl rfl]
    split <;> simp_all
  rw [e, ev_ite']
  by_cases h : ws.all W.flat = true
  · rw [if_pos h, ev_some']; exact ⟨fun q => ⟨h, q⟩, fun q => q.2⟩
  · rw [if_neg h, ev_none']; exact ⟨False.elim, fun q => h q.1⟩
@[simp ↓] theorem in_sl : Ev (hIn (.at (.str z)) (.lst ws)) P ↔ ws.all W.flat = true ∧ P (bR (inW (.d (.str z)) ws)) := by
  have e : hIn (.at (.str z)) (.lst ws) = if ws.all W.flat = true then some (bR (inW (.d (.str z)) ws)) else none := by
    show (match hInS false (.at (.str z)) (.lst ws) with
      | some r => some r
      | none => none) = _
    rw [hInS_seq (w := .d (.str z)) rfl rfl]
    split <;> simp_all
  rw [e, ev_ite']
  by_cases h : ws.all W.flat = true
  · rw [if_pos h, ev_some']; exact ⟨fun q => ⟨h, q⟩, fun q => q.2⟩
  · rw [if_neg h, ev_none']; exact ⟨False.elim, fun q => h q.1⟩

variable {i j : Int} {y : Str} {xs : List W}
@[simp ↓] theorem len_17 {α : Type} {a0 a1 a2 a3 a4 a5 a6 a7 a8 a9 a10 a11 a12 a13 a14 a15 a16 : α} {Q : Nat → Prop} : LenK [a0, a1, a2, a3, a4, a5, a6, a7, a8, a9, a10, a11, a12, a13, a14, a15, a16] Q ↔ Q 17 := Iff.rfl
@[simp ↓] theorem len_18 {α : Type} {a0 a1 a2 a3 a4 a5 a6 a7 a8 a9 a10 a11 a12 a13 a14 a15 a16 a17 : α} {Q : Nat → Prop} : LenK [a0, a1, a2, a3, a4, a5, a6, a7, a8, a9, a10, a11, a12, a13, a14, a15, a16, a17] Q ↔ Q 18 := Iff.rfl
@[simp ↓] theorem len_19 {α : Type} {a0 a1 a2 a3 a4 a5 a6 a7 a8 a9 a10 a11 a12 a13 a14 a15 a16 a17 a18 : α} {Q : Nat → Prop} : LenK [a0, a1, a2, a3, a4, a5, a6, a7, a8, a9, a10, a11, a12, a13, a14, a15, a16, a17, a18] Q ↔ Q 19 := Iff.rfl
@[simp ↓] theorem len_20 {α : Type} {a0 a1 a2 a3 a4 a5 a6 a7 a8 a9 a10 a11 a12 a13 a14 a15 a16 a17 a18 a19 : α} {Q : Nat → Prop} : LenK [a0, a1, a2, a3, a4, a5, a6, a7, a8, a9, a10, a11, a12, a13, a14, a15, a16, a17, a18, a19] Q ↔ Q 20 := Iff.rfl
@[simp ↓] theorem len_21 {α : Type} {a0 a1 a2 a3 a4 a5 a6 a7 a8 a9 a10 a11 a12 a13 a14 a15 a16 a17 a18 a19 a20 : α} {Q : Nat → Prop} : LenK [a0, a1, a2, a3, a4, a5, a6, a7, a8, a9, a10, a11, a12, a13, a14, a15, a16, a17, a18, a19, a20] Q ↔ Q 21 := Iff.rfl
@[simp ↓] theorem len_22 {α : Type} {a0 a1 a2 a3 a4 a5 a6 a7 a8 a9 a10 a11 a12 a13 a14 a15 a16 a17 a18 a19 a20 a21 : α} {Q : Nat → Prop} : LenK [a0, a1, a2, a3, a4, a5, a6, a7, a8, a9, a10, a11, a12, a13, a14, a15, a16, a17, a18, a19, a20, a21] Q ↔ Q 22 := Iff.rfl
@[simp ↓] theorem len_23 {α : Type} {a0 a1 a2 a3 a4 a5 a6 a7 a8 a9 a10 a11 a12 a13 a14 a15 a16 a17 a18 a19 a20 a21 a22 : α} {Q : Nat → Prop} : LenK [a0, a1, a2, a3, a4, a5, a6, a7, a8, a9, a10, a11, a12, a13, a14, a15, a16, a17, a18, a19, a20, a21, a22] Q ↔ Q 23 := Iff.rfl
@[simp ↓] theorem len_24 {α : Type} {a0 a1 a2 a3 a4 a5 a6 a7 a8 a9 a10 a11 a12 a13 a14 a15 a16 a17 a18 a19 a20 a21 a22 a23 : α} {Q : Nat → Prop} : LenK [a0, a1, a2, a3, a4, a5, a6, a7, a8, a9, a10, a11, a12, a13, a14, a15, a16, a17, a18, a19, a20, a21, a22, a23] Q ↔ Q 24 := Iff.rfl
@[simp ↓] theorem len_25 {α : Type} {a0 a1 a2 a3 a4 a5 a6 a7 a8 a9 a10 a11 a12 a13 a14 a15 a16 a17 a18 a19 a20 a21 a22 a23 a24 : α} {Q : Nat → Prop} : LenK [a0, a1, a2, a3, a4, a5, a6, a7, a8, a9, a10, a11, a12, a13, a14, a15, a16, a17, a18, a19, a20, a21, a22, a23, a24] Q ↔ Q 25 := Iff.rfl
@[simp ↓] theorem len_26 {α : Type} {a0 a1 a2 a3 a4 a5 a6 a7 a8 a9 a10 a11 a12 a13 a14 a15 a16 a17 a18 a19 a20 a21 a22 a23 a24 a25 : α} {Q : Nat → Prop} : LenK [a0, a1, a2, a3, a4, a5, a6, a7, a8, a9, a10, a11, a12, a13, a14, a15, a16, a17, a18, a19, a20, a21, a22, a23, a24, a25] Q ↔ Q 26 := Iff.rfl
@[simp ↓] theorem len_27 {α : Type} {a0 a1 a2 a3 a4 a5 a6 a7 a8 a9 a10 a11 a12 a13 a14 a15 a16 a17 a18 a19 a20 a21 a22 a23 a24 a25 a26 : α} {Q : Nat → Prop} : LenK [a0, a1, a2, a3, a4, a5, a6, a7, a8, a9, a10, a11, a12, a13, a14, a15, a16, a17, a18, a19, a20, a21, a22, a23, a24, a25, a26] Q ↔ Q 27 := Iff.rfl
@[simp ↓] theorem len_28 {α : Type} {a0 a1 a2 a3 a4 a5 a6 a7 a8 a9 a10 a11 a12 a13 a14 a15 a16 a17 a18 a19 a20 a21 a22 a23 a24 a25 a26 a27 : α} {Q : Nat → Prop} : LenK [a0, a1, a2, a3, a4, a5, a6, a7, a8, a9, a10, a11, a12, a13, a14, a15, a16, a17, a18, a19, a20, a21, a22, a23, a24, a25, a26, a27] Q ↔ Q 28 := Iff.rfl
@[simp ↓] theorem len_29 {α : Type} {a0 a1 a2 a3 a4 a5 a6 a7 a8 a9 a10 a11 a12 a13 a14 a15 a16 a17 a18 a19 a20 a21 a22 a23 a24 a25 a26 a27 a28 : α} {Q : Nat → Prop} : LenK [a0, a1, a2, a3, a4, a5, a6, a7, a8, a9, a10, a11, a12, a13, a14, a15, a16, a17, a18, a19, a20, a21, a22, a23, a24, a25, a26, a27, a28] Q ↔ Q 29 := Iff.rfl
@[simp ↓] theorem len_30 {α : Type} {a0 a1 a2 a3 a4 a5 a6 a7 a8 a9 a10 a11 a12 a13 a14 a15 a16 a17 a18 a19 a20 a21 a22 a23 a24 a25 a26 a27 a28 a29 : α} {Q : Nat → Prop} : LenK [a0, a1, a2, a3, a4, a5, a6, a7, a8, a9, a10, a11, a12, a13, a14, a15, a16, a17, a18, a19, a20, a21, a22, a23, a24, a25, a26, a27, a28, a29] Q ↔ Q 30 := Iff.rfl
@[simp ↓] theorem len_31 {α : Type} {a0 a1 a2 a3 a4 a5 a6 a7 a8 a9 a10 a11 a12 a13 a14 a15 a16 a17 a18 a19 a20 a21 a22 a23 a24 a25 a26 a27 a28 a29 a30 : α} {Q : Nat → Prop} : LenK [a0, a1, a2, a3, a4, a5, a6, a7, a8, a9, a10, a11, a12, a13, a14, a15, a16, a17, a18, a19, a20, a21, a22, a23, a24, a25, a26, a27, a28, a29, a30] Q ↔ Q 31 := Iff.rfl
@[simp ↓] theorem len_32 {α : Type} {a0 a1 a2 a3 a4 a5 a6 a7 a8 a9 a10 a11 a12 a13 a14 a15 a16 a17 a18 a19 a20 a21 a22 a23 a24 a25 a26 a27 a28 a29 a30 a31 : α} {Q : Nat → Prop} : LenK [a0, a1, a2, a3, a4, a5, a6, a7, a8, a9, a10, a11, a12, a13, a14, a15, a16, a17, a18, a19, a20, a21, a22, a23, a24, a25, a26, a27, a28, a29, a30, a31] Q ↔ Q 32 := Iff.rfl
def CpK (z : Str) (i : Int) (B : Nat → Prop) : Prop := Ev (L2.atI z.cps.toList i) B
@[simp ↓] theorem ix_s : Ev (hIx (.at (.str z)) (.at (.int i))) P ↔ z.length ≤ 16777216 ∧ CpK z i fun c => P (.val (.d (.str ⟨#[c]⟩))) := by
  have e : hIx (.at (.str z)) (.at (.int i)) = hIxS (.at (.str z)) (.at (.int i)) := by
    show (match hIxL (.at (.str z)) (.at (.int i)) with
      | some r => some r
      | none => match hIxT (.at (.str z)) (.at (.int i)) with
        | some r => some r
        | none => match hIxS (.at (.str z)) (.at (.int i)) with
          | some r => some r
          | none => hIxD (.at (.str z)) (.at (.int i))) = _
    have h : hIxD (.at (.str z)) (.at (.int i)) = none := rfl
    rw [h]
    show (match hIxS (.at (.str z)) (.at (.int i)) with
          | some r => some r
          | none => none) = _
    cases hIxS (.at (.str z)) (.at (.int i)) <;> rfl
  rw [e]
  show Ev (if z.length ≤ sizeLine then _ else _) P ↔ _
  rw [ev_ite', sizeLine_eq]
  by_cases h : z.length ≤ 16777216
  · rw [if_pos h, ev_map']; exact ⟨fun q => ⟨h, q⟩, fun q => q.2⟩
  · rw [if_neg h, ev_none']; exact ⟨False.elim, fun q => h q.1⟩
@[simp ↓] theorem add_s : Ev (hAdd' (.at (.str z)) (.at (.str y))) P ↔ z.length + y.length ≤ 16777216 ∧ P (.val (.d (.str (z ++ y)))) := by
  have e : hAdd' (.at (.str z)) (.at (.str y)) = if z.length + y.length ≤ sizeLine then some (.val (.d (.str (z ++ y)))) else none := by
    show (match (match (if z.length + y.length ≤ sizeLine then some (R.val (.d (.str (z ++ y)))) else none) with
      | some r => some r
      | none => none) with
      | some r => some r
      | none => none) = _
    by_cases h : z.length + y.length ≤ sizeLine
    · rw [if_pos h]
    · rw [if_neg h]
  rw [e, ev_ite', sizeLine_eq]
  by_cases h : z.length + y.length ≤ 16777216
  · rw [if_pos h, ev_some']; exact ⟨fun q => ⟨h, q⟩, fun q => q.2⟩
  · rw [if_neg h, ev_none']; exact ⟨False.elim, fun q => h q.1⟩
@[simp ↓] theorem add_l : Ev (hAdd' (.lst ws) (.lst xs)) P ↔ ws.length + xs.length ≤ 16777216 ∧ P (.new (.lst (ws ++ xs))) := by
  have e : hAdd' (.lst ws) (.lst xs) = if ws.length + xs.length ≤ sizeLine then some (.new (.lst (ws ++ xs))) else none := by
    show (match (if ws.length + xs.length ≤ sizeLine then some (R.new (.lst (ws ++ xs))) else none) with
      | some r => some r
      | none => none) = _
    split <;> simp_all
  rw [e, ev_ite', sizeLine_eq]
  by_cases h : ws.length + xs.length ≤ 16777216
  · rw [if_pos h, ev_some']; exact ⟨fun q => ⟨h, q⟩, fun q => q.2⟩
  · rw [if_neg h, ev_none']; exact ⟨False.elim, fun q => h q.1⟩
@[simp ↓] theorem add_t : Ev (hAdd' (.tup ws) (.tup xs)) P ↔ DatsK ws fun p => DatsK xs fun q => p.length + q.length ≤ 16777216 ∧ P (.val (.d (.tup (p ++ q)))) := by
  have e : hAdd' (.tup ws) (.tup xs) = (dats ws).bind fun p => (dats xs).bind fun q => if p.length + q.length ≤ sizeLine then some (.val (.d (.tup (p ++ q)))) else none := by
    show (match (none : Option R) with
      | some r => some r
      | none => hAddT (.tup ws) (.tup xs)) = _
    rfl
  rw [e]
  simp only [ev_bind', ev_ite', ev_none', ev_some', DatsK, sizeLine_eq]
  constructor <;> intro h0 <;> refine h0.imp fun p h => h.imp fun q h => ?_
  · split at h
    · rename_i hl; exact ⟨hl, h⟩
    · exact h.elim
  · rw [if_pos h.1]; exact h.2
@[simp ↓] theorem ca_str : Ev (hStr [.at (.int i)]) P ↔ i.natAbs.log2 < 1920 ∧ P (.val (.d (.str (toString i)))) := by
  show Ev (if i.natAbs.log2 < 1920 then _ else _) P ↔ _
  rw [ev_ite']
  by_cases h : i.natAbs.log2 < 1920
  · rw [if_pos h, ev_some']; exact ⟨fun q => ⟨h, q⟩, fun q => q.2⟩
  · rw [if_neg h, ev_none']; exact ⟨False.elim, fun q => h q.1⟩
end
section
variable {s : S} {ff : AF} {n : S → Prop} {r : R → S → Prop} {b c : S → Prop} {P : R → Prop} {z : Str}
@[simp ↓] theorem ca_len_s : Ev (hLen [.at (.str z)]) P ↔ z.length ≤ 16777216 ∧ P (iR z.length) := by
  show Ev (if z.length ≤ sizeLine then _ else _) P ↔ _
  rw [ev_ite', sizeLine_eq]
  by_cases h : z.length ≤ 16777216
  · rw [if_pos h, ev_some']; exact ⟨fun q => ⟨h, q⟩, fun q => q.2⟩
  · rw [if_neg h, ev_none']; exact ⟨False.elim, fun q => h q.1⟩
def Two3K (ws : List W) (B : W → W → W → Prop) : Prop := ∃ u v w, ws = [u, v, w] ∧ B u v w
@[simp ↓] theorem two3k {u v w : W} {B : W → W → W → Prop} : Two3K [u, v, w] B ↔ B u v w := ⟨(fun ⟨_, _, _, h, q⟩ => by cases h; exact q), fun q => ⟨_, _, _, rfl, q⟩⟩
@[simp ↓] theorem eo_sPar {i j : Nat} : Eo (sPar i j ff s) n r b c ↔ Es (ff s) fun ws s1 => TwoK ws fun u v => SetK s1.sl i (some u) fun sl1 => SetK sl1 j (some v) fun sl2 => n ⟨sl2, s1.st⟩ := by
  unfold sPar
  rw [eo_bind, es_ev]
  constructor <;> intro h0 <;> refine h0.imp fun p h => ?_
  · split at h
    · rename_i u v e
      obtain ⟨x, h1, h2⟩ := h
      cases h1
      exact ⟨u, v, e, h2⟩
    · obtain ⟨_, h1, _⟩ := h; cases h1
  · obtain ⟨u, v, e, h⟩ := h
    rw [e]
    exact ⟨_, rfl, h⟩
@[simp ↓] theorem eo_sPar3 {i j k : Nat} : Eo (sPar3 i j k ff s) n r b c ↔ Es (ff s) fun ws s1 => Two3K ws fun u v w => SetK s1.sl i (some u) fun sl1 => SetK sl1 j (some v) fun sl2 => SetK sl2 k (some w) fun sl3 => n ⟨sl3, s1.st⟩ := by
  unfold sPar3
  rw [eo_bind, es_ev]
  constructor <;> intro h0 <;> refine h0.imp fun p h => ?_
  · split at h
    · rename_i u v w e
      obtain ⟨x, h1, h2⟩ := h
      cases h1
      exact ⟨u, v, w, e, h2⟩
    · obtain ⟨_, h1, _⟩ := h; cases h1
  · obtain ⟨u, v, w, e, h⟩ := h
    rw [e]
    exact ⟨_, rfl, h⟩
end
end NV

namespace NV
open PySem PySem.Spec PyProof.Rows L2
section
variable {X : Cx} {K : PySem.W.Frag} {g : G} {P : R → Prop} {ws : List W} {k : Int}
/-! ### t * n -/
theorem DdL.flat {h : Hp} {vs : List V} {ds : List D} (q : DdL K h vs ds) : ∀ n : Nat, DdL K h (List.replicate n vs).flatten (List.replicate n ds).flatten
  | 0 => .nil
  | n + 1 => by
    rw [List.replicate_succ, List.replicate_succ, List.flatten_cons, List.flatten_cons]
    exact q.append (DdL.flat q n)
def hRepT : OpH
  | .tup ws, .at (.int k) => (dats ws).bind fun ds => if ds ≠ [] ∧ 2 ≤ k ∧ k ≤ 1000 ∧ ds.length ≤ 1000 then some (.val (.d (.tup (List.replicate k.toNat ds).flatten))) else none
  | _, _ => none
@[simp ↓] theorem rep_t : Ev (hRepT (.tup ws) (.at (.int k))) P ↔ DatsK ws fun ds => (ds ≠ [] ∧ 2 ≤ k ∧ k ≤ 1000 ∧ ds.length ≤ 1000) ∧ P (.val (.d (.tup (List.replicate k.toNat ds).flatten))) := by
  simp only [hRepT, ev_bind', ev_ite', ev_none', ev_some', DatsK]
  constructor <;> intro h0 <;> refine h0.imp fun p h => ?_
  · split at h
    · rename_i hl; exact ⟨hl, h⟩
    · exact h.elim
  · rw [if_pos h.1]; exact h.2
end
end NV

namespace NV
open PySem PySem.Spec PyProof.Rows L2
section
variable {α : Type} {l m : List α} {x y z : α} {Q : α → Prop} {B : List α → Prop} {P : R → Prop} {ws : List W}
@[simp ↓] theorem getk_app : GetK (l ++ [x]) l.length Q ↔ Q x := by simp [GetK]
@[simp ↓] theorem setk_app : SetK (l ++ [x]) l.length y B ↔ B (l ++ [y]) := by simp [SetK]
@[simp ↓] theorem getk_app2 : GetK (l ++ [x, y]) l.length Q ↔ Q x := by simp [GetK]
@[simp ↓] theorem getk_app2' : GetK (l ++ [x, y]) (l.length + 1) Q ↔ Q y := by
  unfold GetK
  rw [List.getElem?_append_right (by omega)]
  simp
@[simp ↓] theorem setk_app2 : SetK (l ++ [x, y]) l.length z B ↔ B (l ++ [z, y]) := by simp [SetK]
@[simp ↓] theorem setk_app2' : SetK (l ++ [x, y]) (l.length + 1) z B ↔ B (l ++ [x, z]) := by
  unfold SetK
  rw [List.set_append_right _ _ (by omega)]
  simp
@[simp ↓] theorem appk_app : AppK (l ++ [x]) [y] B ↔ B (l ++ [x, y]) := by simp [AppK]
@[simp ↓] theorem lenk_app {N : Nat → Prop} : LenK (l ++ [x]) N ↔ N (l.length + 1) := by simp [LenK]
theorem appk_v : AppK l m B ↔ B (l ++ m) := Iff.rfl
theorem lenk_v {N : Nat → Prop} : LenK l N ↔ N l.length := Iff.rfl
@[simp ↓] theorem ca_sum : Ev (hSum [.lst ws]) P ↔ IntsK ws fun ns => P (iR ns.sum) := by
  unfold hSum Vu.lw IntsK
  simp [ev_map']
end
end NV


namespace NV
open PySem PySem.Spec PyProof.Rows L2
/-! ### data that is the same -/
def Cm : Nat → D → Prop
  | 0, _ => False
  | _ + 1, .non => True
  | _ + 1, .bl _ => True
  | _ + 1, .int _ => True
  | _ + 1, .str s => PyData.strOk s = true
  | n + 1, .lst l => ∀ x ∈ l, Cm n x
  | n + 1, .lsw l => ∀ x ∈ l, Cm n x
  | n + 1, .tup l => ∀ x ∈ l, Cm n x
  | _ + 1, _ => False
theorem cm_pys {n : Nat} {l : List D} (h : ∀ x ∈ l, ∃ p, D.py x = some p ∧ p.canLay0 = true ∧ p.depth ≤ n ∧ PyData.eqv p p = true) : ∃ ps, D.pys l = some ps ∧ PyData.canLayAll0 ps = true ∧ PyData.depthAll ps ≤ n ∧ PyData.eqvAll ps ps = true := by
  induction l with
  | nil => exact ⟨[], by simp [D.pys], by simp [PyData.canLayAll0], by simp [PyData.depthAll], by simp [PyData.eqvAll]⟩
  | cons d l ih =>
    obtain ⟨p, h1, h2, h3, h4⟩ := h d (by simp)
    obtain ⟨ps, k1, k2, k3, k4⟩ := ih fun x hx => h x (by simp [hx])
    refine ⟨p :: ps, by simp [D.pys, h1, k1], by simp [PyData.canLayAll0, h2, k2], ?_, by simp [PyData.eqvAll, h4, k4]⟩
    simp only [PyData.depthAll]
    omega
theorem cm_py : ∀ {n : Nat} {d : D}, Cm n d → ∃ p, D.py d = some p ∧ p.canLay0 = true ∧ p.depth ≤ n ∧ PyData.eqv p p = true
  | 0, _, h => h.elim
  | n + 1, d, h => by
    cases d with
    | non => exact ⟨.none, by simp [D.py], by simp [PyData.canLay0], by simp [PyData.depth], by simp [PyData.eqv]⟩
    | bl b => exact ⟨.bool b, by simp [D.py], by simp [PyData.canLay0], by simp [PyData.depth], by simp [PyData.eqv]⟩
    | int i => exact ⟨.int i, by simp [D.py], by simp [PyData.canLay0], by simp [PyData.depth], by simp [PyData.eqv]⟩
    | str s => exact ⟨.str s, by simp [D.py], by simp only [PyData.canLay0]; exact h, by simp [PyData.depth], by simp [PyData.eqv]⟩
    | lst l =>
      obtain ⟨ps, h1, h2, h3, h4⟩ := cm_pys (n := n) fun x hx => cm_py (h x hx)
      exact ⟨.list ps, by simp [D.py, h1], by simpa [PyData.canLay0] using h2, by simp [PyData.depth]; omega, by simpa [PyData.eqv] using h4⟩
    | lsw l =>
      obtain ⟨ps, h1, h2, h3, h4⟩ := cm_pys (n := n) fun x hx => cm_py (h x hx)
      exact ⟨.list ps, by simp [D.py, h1], by simpa [PyData.canLay0] using h2, by simp [PyData.depth]; omega, by simpa [PyData.eqv] using h4⟩
    | tup l =>
      obtain ⟨ps, h1, h2, h3, h4⟩ := cm_pys (n := n) fun x hx => cm_py (h x hx)
      exact ⟨.tuple ps, by simp [D.py, h1], by simpa [PyData.canLay0] using h2, by simp [PyData.depth]; omega, by simpa [PyData.eqv] using h4⟩
    | _ => exact h.elim
theorem eqP_same {u : Vu} {d : D} {n : Nat} (hu : u.dat = some d) (h : Cm n d) (hn : n ≤ 64) : hEqP u u = some (bR true) ∧ hNeP u u = some (bR false) := by
  obtain ⟨p, h1, h2, h3, h4⟩ := cm_py h
  have hs : SeqAt.shaped p = true := by
    unfold SeqAt.shaped
    rw [h2, decide_eq_true (by omega)]; rfl
  unfold hEqP hNeP
  rw [hu]
  simp [h1, hs, h4]
theorem ev_is {α : Type} {o : Option α} {a : α} {P : α → Prop} (h : o = some a) : Ev o P ↔ P a := by rw [h]; exact ev_some'
theorem or_some {h h' : OpH} {u w : Vu} {r : R} (h1 : h u w = none) (h2 : h' u w = some r) : orH h h' u w = some r := by
  unfold orH; rw [h1]; exact h2
theorem same_of {α : Type} (g : α → D) (hg : ∀ x, Cm 60 (g x)) (l : List α) : hEq (.lst (l.map (W.d ∘ g))) (.lst (l.map (W.d ∘ g))) = some (bR true) ∧ hNe (.lst (l.map (W.d ∘ g))) (.lst (l.map (W.d ∘ g))) = some (bR false) := by
  have e : l.map (W.d ∘ g) = (l.map g).map W.d := by rw [List.map_map]
  have h := eqP_same (u := .lst ((l.map g).map W.d)) (d := .lst (l.map g)) (n := 61) (by show (dats ((l.map g).map W.d)).map D.lst = _; rw [dats_map]; rfl) (fun x hx => by obtain ⟨y, _, rfl⟩ := List.mem_map.mp hx; exact hg y) (by decide)
  rw [e]
  exact ⟨or_some rfl h.1, or_some rfl h.2⟩
@[simp ↓] theorem eq_ints_same {l : List Int} {P : R → Prop} : Ev (hEq (.lst (l.map (W.d ∘ D.int))) (.lst (l.map (W.d ∘ D.int)))) P ↔ P (bR true) := ev_is (same_of D.int (fun _ => trivial) l).1
@[simp ↓] theorem ne_ints_same {l : List Int} {P : R → Prop} : Ev (hNe (.lst (l.map (W.d ∘ D.int))) (.lst (l.map (W.d ∘ D.int)))) P ↔ P (bR false) := ev_is (same_of D.int (fun _ => trivial) l).2
@[simp ↓] theorem eq_bls_same {l : List Bool} {P : R → Prop} : Ev (hEq (.lst (l.map (W.d ∘ D.bl))) (.lst (l.map (W.d ∘ D.bl)))) P ↔ P (bR true) := ev_is (same_of D.bl (fun _ => trivial) l).1
@[simp ↓] theorem ne_bls_same {l : List Bool} {P : R → Prop} : Ev (hNe (.lst (l.map (W.d ∘ D.bl))) (.lst (l.map (W.d ∘ D.bl)))) P ↔ P (bR false) := ev_is (same_of D.bl (fun _ => trivial) l).2
@[simp ↓] theorem ext_l {ws : List W} {ds : List D} {Q : W × List W → Prop} : Ev (lExtend ws [.d (.lst ds)]) Q ↔ ws.length + ds.length ≤ 16777216 ∧ Q (.d .non, ws ++ ds.map .d) := by
  simp only [lExtend, ev_ite', ev_some', ev_none', sizeLine_eq]
  constructor
  · intro h
    split at h
    · exact ⟨by assumption, h⟩
    · exact h.elim
  · rintro ⟨h1, h2⟩
    rw [if_pos h1]; exact h2
@[simp ↓] theorem ca_len_d {kws : List (Key × W)} {P : R → Prop} : Ev (hLen [.dct kws]) P ↔ P (iR kws.length) := ev_some'
@[simp ↓] theorem lm_rev {ws : List W} {B : W × List W → Prop} : Ev (lReverse ws []) B ↔ B (.d .non, ws.reverse) := ev_some'
@[simp ↓] theorem eq_ints_nil {l : List Int} {P : R → Prop} : Ev (hEq (.lst (l.map (W.d ∘ D.int))) (.lst [])) P ↔ P (bR (decide (l = []))) := by
  refine ev_is ?_
  have e : l.map (W.d ∘ D.int) = (l.map D.int).map W.d := by rw [List.map_map]
  obtain ⟨p, h1, h2, h3, h4⟩ := cm_py (n := 3) (d := .lst (l.map D.int)) (fun x hx => by obtain ⟨y, _, rfl⟩ := List.mem_map.mp hx; trivial)
  have hs : SeqAt.shaped p = true := by
    unfold SeqAt.shaped
    rw [h2, decide_eq_true (by omega)]; rfl
  obtain ⟨ps, h5, rfl⟩ : ∃ ps, D.pys (l.map D.int) = some ps ∧ p = .list ps := by
    simp only [D.py] at h1
    obtain ⟨ps, h6, h7⟩ := Option.map_eq_some_iff.mp h1
    exact ⟨ps, h6, h7.symm⟩
  refine or_some (by rw [e]; rfl) ?_
  unfold hEqP
  have hu : (Vu.lst (l.map (W.d ∘ D.int))).dat = some (.lst (l.map D.int)) := by
    rw [e]
    show (dats ((l.map D.int).map W.d)).map D.lst = _
    rw [dats_map]; rfl
  have hz : (Vu.lst []).dat = some (.lst []) := rfl
  rw [hu, hz]
  simp only [Option.bind_some]
  rw [h1]
  have h0 : D.py (.lst []) = some (.list []) := by simp [D.py, D.pys]
  rw [h0]
  have hs0 : SeqAt.shaped (.list []) = true := by decide
  simp only [Option.bind_some]
  rw [if_pos ⟨hs, hs0⟩]
  congr 2
  cases l with
  | nil =>
    simp [D.pys] at h5
    subst h5
    simp [PyData.eqv, PyData.eqvAll]
  | cons a l =>
    simp [D.pys, D.py] at h5
    obtain ⟨y, _, rfl⟩ := h5
    simp [PyData.eqv, PyData.eqvAll]
end NV

namespace NV
open PySem PySem.Spec PyProof.Rows L2
/-! ### min of a list of tuples of ints -/
def ltL : List Int → List Int → Bool
  | x :: xs, y :: ys => if x = y then ltL xs ys else decide (x < y)
  | _, _ => false
section
variable {X : Cx} {g g1 : G} {K : PySem.W.Frag}
end
section
variable {X : Cx}
end
end NV

namespace NV
open PySem PySem.Spec PyProof.Rows L2
/-! ### range(i, j, -1) -/
section
variable {X : Cx} {a b c : Expr} {tg : Expr} {pos : Pos} {ff : AF}
end
section
variable {ff : AF} {s : S} {Y' : Itm → S → Prop}
@[simp ↓] theorem es_iR3 : Es (iR3 ff s) Y' ↔ Es (ff s) fun ws s1 => Two3K ws fun w w' w'' => IntK w fun i => IntK w' fun j => IntK w'' fun c => (c = -1 ∧ small i = true ∧ small j = true ∧ -(2 ^ 60) ≤ i ∧ i < 2 ^ 60 ∧ -(2 ^ 60) ≤ j ∧ j < 2 ^ 60) ∧ Y' ⟨yInts (rngC i (-1) (i - j).toNat), []⟩ s1 := by
  simp only [iR3, es_ev, ev_bind']
  constructor <;> intro h <;> refine h.imp fun p h => ?_
  · split at h
    · rename_i i j hw
      rw [ev_ite'] at h
      split at h
      · rename_i hz
        exact ⟨_, _, _, hw, i, rfl, j, rfl, -1, rfl, ⟨rfl, hz⟩, (ev_pair (Q := Y')).mp h⟩
      · exact (ev_none'.mp h).elim
    · exact (ev_none'.mp h).elim
  · obtain ⟨w, w', w'', hw, i, rfl, j, rfl, c, rfl, ⟨rfl, h1⟩, h⟩ := h
    rw [hw]
    show Ev (if small i = true ∧ small j = true ∧ -(2 ^ 60) ≤ i ∧ i < 2 ^ 60 ∧ -(2 ^ 60) ≤ j ∧ j < 2 ^ 60 then some (_, p.2) else none) _
    rw [if_pos h1]; exact ev_some'.mpr h
end
end NV

namespace NV
open PySem PySem.Spec PyProof.Rows L2
/-! ### enumerate of a tuple -/
end NV

namespace NV
open PySem PySem.Spec PyProof.Rows L2
section
variable {K : PySem.W.Frag} {g : G} {st : Sto} {X : Cx} {a : Expr} {pos : Pos} {ff : AF}
def iEnT (ff : AF) : IF := fun s => (ff s).bind fun p => match p.1 with
  | [w] => w.tupd.map fun ds => (⟨yEnum (ds.map .d), []⟩, p.2)
  | _ => none
end
section
variable {ff : AF} {s : S} {Y' : Itm → S → Prop}
def TupdK (w : W) (B : List D → Prop) : Prop := Ev w.tupd B
@[simp ↓] theorem tupdk {ds : List D} {B : List D → Prop} : TupdK (.d (.tup ds)) B ↔ B ds := ev_some'
@[simp ↓] theorem es_iEnT : Es (iEnT ff s) Y' ↔ Es (ff s) fun ws s1 => OneK ws fun w => TupdK w fun ds => Y' ⟨yEnum (ds.map .d), []⟩ s1 := by
  simp only [iEnT, es_ev, ev_bind']
  constructor <;> intro h <;> refine h.imp fun p h => ?_
  · split at h
    · rename_i w hw
      exact ⟨_, hw, ev_map'.mp h⟩
    · exact (ev_none'.mp h).elim
  · obtain ⟨w, hw, h⟩ := h
    rw [hw]
    exact ev_map'.mpr h
@[simp ↓] theorem rep_l {ws : List W} {k : Int} {P : R → Prop} : Ev (hMul (.lst ws) (.at (.int k))) P ↔ (0 ≤ k ∧ k ≤ 100000 ∧ ws.length * k.toNat ≤ 16777216) ∧ P (.new (.lst (List.replicate k.toNat ws).flatten)) := by
  have e : hMul (.lst ws) (.at (.int k)) = if 0 ≤ k ∧ k ≤ 100000 ∧ ws.length * k.toNat ≤ sizeLine then some (.new (.lst (List.replicate k.toNat ws).flatten)) else none := by
    unfold hMul orH
    have h1 : hMulI (.lst ws) (.at (.int k)) = none := rfl
    rw [h1]
    rfl
  rw [e, ev_ite', sizeLine_eq]
  by_cases h : 0 ≤ k ∧ k ≤ 100000 ∧ ws.length * k.toNat ≤ 16777216
  · rw [if_pos h, ev_some']; exact ⟨fun q => ⟨h, q⟩, fun q => q.2⟩
  · rw [if_neg h, ev_none']; exact ⟨False.elim, fun q => h q.1⟩
variable {fa : EF} {Q : R → S → Prop}
@[simp ↓] theorem es_eLr1 : Es (eLr1 fa s) Q ↔ Es (fa s) fun r s1 => SoK r.int? fun j => (0 ≤ j ∧ j ≤ 16777216) ∧ Q (.new (.lst ((rng 0 j.toNat).map (W.d ∘ D.int)))) s1 := by
  simp only [eLr1, es_ev, ev_bind', SoK]
  constructor <;> intro h <;> refine h.imp fun p h => ?_
  · obtain ⟨i, h1, h⟩ := h
    rw [ev_ite'] at h
    split at h
    · rename_i hc
      exact ⟨i, h1, hc, (ev_pair (Q := Q)).mp h⟩
    · exact (ev_none'.mp h).elim
  · obtain ⟨i, h1, hc, h⟩ := h
    refine ⟨i, h1, ?_⟩
    dsimp only
    rw [if_pos hc]
    exact ev_some'.mpr h
end
end NV

namespace NV
open PySem PySem.Spec PyProof.Rows L2
section
variable {X : Cx} {a b c e o value : Expr} {es : List Expr} {fa fb fc f fo fv fk fx : EF} {ff : AF} {pos pos' apos cpos : Pos} {K : PySem.W.Frag} {g g1 : G} {v : V} {σ : L2.St} {s s1 : S} {st st1 : Sto}
/-! ### d.pop(k, x), k there or not -/
def eDPop2 (fo fk fx : EF) : EF := fun s => (fo s).bind fun p => match p.1 with
  | .val (.obj n) => (match p.2.st[n]? with
    | some (some (.dct _)) => (fk p.2).bind fun q => (fx q.2).bind fun z => (match z.2.st[n]? with
      | some (some (.dct kws)) => (q.1.view z.2.st).bind fun u => u.key.map fun k => match look kws k with
        | some w => (.val w, { z.2 with st := z.2.st.set n (some (.dct (dropW kws k))) })
        | none => (z.1, z.2)
      | _ => none)
    | _ => none)
  | _ => none
/-! ### l.remove(i), ints, i is there -/
/-! ### try: body .. except ..: .. where the body raises nothing -/
variable {sms : List Stmt} {h1 : SF} {h₀ : ExceptHandler} {hs : List ExceptHandler}
/-! ### list(range(n)) -/
end
end NV

namespace NV
open PySem PySem.Spec PyProof.Rows L2
/-! ### sorted(d), a dict with int keys, any number of them -/
section
variable {X : Cx} {K : PySem.W.Frag}
end
/-! ### es of pop/2, remove -/
section
variable {s : S} {fo fk fx : EF} {Q : R → S → Prop} {ws : List W} {i : Int} {ns : List Int}
def DropK (kws : List (Key × W)) (k : Key) (n : Nat) (st : Sto) (x : R) (B : R → Sto → Prop) : Prop := match look kws k with
  | some w => SetK st n (some (.dct (dropW kws k))) fun st2 => B (.val w) st2
  | none => B x st
@[simp ↓] theorem es_eDPop2 : Es (eDPop2 fo fk fx s) Q ↔ Es (fo s) fun p s1 => ObjK p fun k => GetK s1.st k fun o => SoK o fun nd => DctK nd fun _ => Es (fk s1) fun q s2 => Es (fx s2) fun x s3 => GetK s3.st k fun o => SoK o fun nd => DctK nd fun kws => ViewK q s3.st fun u => KeyK u fun ky => DropK kws ky k s3.st x fun w st2 => Q w ⟨s3.sl, st2⟩ := by
  simp only [eDPop2, es_ev, ev_bind']
  constructor <;> intro h0 <;> refine h0.imp fun p h => ?_
  · split at h
    · rename_i k hp
      split at h
      · rename_i kws0 hn0
        refine ⟨k, hp, _, hn0, _, rfl, kws0, rfl, (ev_bind'.mp h).imp fun q h => (ev_bind'.mp h).imp fun z h => ?_⟩
        split at h
        · rename_i kws hn
          refine ⟨_, hn, _, rfl, kws, rfl, (ev_bind'.mp h).imp fun u h => (ev_map'.mp h).imp fun ky h => ?_⟩
          unfold DropK
          cases e : look kws ky <;> rw [e] at h <;> exact h
        · exact (ev_none'.mp h).elim
      · exact (ev_none'.mp h).elim
    · exact (ev_none'.mp h).elim
  · obtain ⟨k, hp, o, hn0, nd, rfl, kws0, rfl, h⟩ := h
    rw [hp]; dsimp only; rw [hn0]; dsimp only
    refine ev_bind'.mpr (h.imp fun q h => ev_bind'.mpr (h.imp fun z h => ?_))
    obtain ⟨o, hn, nd, rfl, kws, rfl, h⟩ := h
    rw [hn]; dsimp only
    refine ev_bind'.mpr (h.imp fun u h => ev_map'.mpr (h.imp fun ky h => ?_))
    unfold DropK at h
    cases e : look kws ky <;> rw [e] at h <;> exact h
/-! ### a thing is frozen into a tuple -/
end
end NV

namespace NV
open PySem PySem.Spec PyProof.Rows L2
section
variable {X : Cx} {a b c e : Expr} {es : List Expr} {fa fb fc f : EF} {ff : AF} {pos : Pos} {K : PySem.W.Frag} {g g1 : G} {v : V} {σ : L2.St} {s s1 : S} {st st1 : Sto}
/-! ### a def of data, lent things, lists of lent things too -/
def datL (f : W → Option D) : List W → Option (List D)
  | [] => some []
  | w :: r => (f w).bind fun d => (datL f r).map fun y => d :: y
def wDat (st : Sto) : Nat → W → Option D
  | _, .d x => some x
  | 0, .obj _ => none
  | 0, .tp _ => none
  | k + 1, .tp es => (datL (wDat st k) (es.map e1W)).map .tup
  | k + 1, .obj n => match st[n]? with
    | some (some (.lst ws)) => (datL (wDat st k) ws).map .lst
    | _ => none
theorem datL_ok {f : W → Option D} (o : StOk K g st) (hf : ∀ v w d, Wr K g.Φ g.ι v w → f w = some d → Dd K (lentΦ g st) v d) : ∀ {vs : List V} {ws : List W} {ds : List D}, WrL K g.Φ g.ι vs ws → datL f ws = some ds → DdL K (lentΦ g st) vs ds
  | _, _, _, .nil, h => by cases h; exact .nil
  | _, w :: _, _, .cons a b, h => by
    obtain ⟨d, h1, h⟩ := Option.bind_eq_some_iff.mp h
    obtain ⟨ds', h2, h3⟩ := Option.map_eq_some_iff.mp h
    cases h3
    exact .cons (hf _ _ _ a h1) (datL_ok o hf b h2)
theorem wDat_ok (o : StOk K g st) : ∀ (k : Nat) (v : V) (w : W) (d : D), Wr K g.Φ g.ι v w → wDat st k w = some d → Dd K (lentΦ g st) v d
  | k, v, .d x, d, a, h => by
    have h : some x = some d := by cases k <;> exact h
    cases h
    exact Dd.mono (lent_sub o) a
  | 0, v, .obj n, d, a, h => by cases h
  | 0, v, .tp n, d, a, h => by cases h
  | k + 1, v, .tp es, d, a, h => by
    obtain ⟨ds, h1, rfl⟩ := Option.map_eq_some_iff.mp h
    obtain ⟨ad, vs, rfl, h2, h3⟩ := a
    exact .tup (lent_sub o _ _ h2) (datL_ok o (wDat_ok o k) (wr1_l h3) h1)
  | k + 1, v, .obj n, d, a, h => by
    unfold wDat at h
    split at h
    · rename_i ws hn
      obtain ⟨ds, h1, rfl⟩ := Option.map_eq_some_iff.mp h
      obtain ⟨ad, had, rfl⟩ := a
      have hl : Liv g st ad := ⟨n, _, hn, had⟩
      obtain ⟨vs, h4, h5⟩ := o.at_ n _ ad hn had
      have e : lentΦ g st ad = g.H ad := by unfold lentΦ; rw [if_pos hl]
      exact .lst (by rw [e]; exact h4) (datL_ok o (wDat_ok o k) h5 h1)
    · cases h
def eCallD (F : FF) (ff : AF) : EF := fun s => (ff s).bind fun p => (datL (wDat p.2.st 6) p.1).bind fun ds => (callP F ds).bind fun r => if r.lendOk = true then some (r, p.2) else none
theorem sp_callD {F : FF} {n : Nat} {σ : L2.St} {H : Hp} {Q : VK} (hn : es.length = n) (ha : VA X es ff) (hl : ∀ s ws s', ff s = some (ws, s') → ws.length = es.length) (h : upE X.K (eCallD F ff) σ H Q) : upA X.K ff σ H fun vs H1 => spF X.K n F (vs ++ []) H1 Q E0 := by
  obtain ⟨g, s, r, s', hg, R, hf, k⟩ := h
  obtain ⟨⟨ws, s1⟩, e1, hf⟩ := Option.bind_eq_some_iff.mp hf
  obtain ⟨ds, e2, hf⟩ := Option.bind_eq_some_iff.mp hf
  obtain ⟨r', e3, hf⟩ := Option.bind_eq_some_iff.mp hf
  dsimp only at e2 hf
  split at hf
  · rename_i hok
    cases hf
    obtain ⟨⟨r0, st0⟩, e4, e5⟩ := Option.bind_eq_some_iff.mp e3
    subst hg
    refine ⟨g, s, ws, s', rfl, R, e1, fun vs g1 p1 R1 q1 => ?_⟩
    show spF X.K n F (vs ++ []) g1.H Q E0; rw [List.append_nil]
    have hd := datL_ok R1.st (wDat_ok R1.st 6) q1 e2
    have oc : StOk X.K ⟨lentΦ g1 s'.st, [], g1.H⟩ [] := ⟨rfl, fun n nd a h _ => by simp at h, List.nodup_nil, fun n x a h _ => by simp at h, lent_H R1.st, fun a h => by simp at h⟩
    refine ⟨⟨lentΦ g1 s'.st, [], g1.H⟩, ds.map .d, [], r0, st0, rfl, oc, hd.wr', ?_, e4, fun v g' p o' q => ?_⟩
    · rw [List.length_map, ← hd.length, WrL.length q1, hl _ _ _ e1]; exact hn
    have q' := callee oc (fun a h => by simp at h) oc p o' q e5
    have nl : ∀ a, ¬ Liv ⟨lentΦ g1 s'.st, [], g1.H⟩ [] a := fun a ⟨n, x, h, _⟩ => by simp at h
    have fr : ∀ a o, g1.H a = some o → g'.H a = some o := fun a o h => p.fr a o h (nl a)
    have dm : ∀ a, g'.Φ a ≠ none → lentΦ g1 s'.st a ≠ none ∨ g1.H a = none := fun a h => by
      rcases p.dm a (.inl h) with z | z | z
      · exact .inl z
      · simp at z
      · exact .inr z
    haveI := fun a => Classical.propDecidable (Liv g1 s'.st a)
    let Φ' : Hp := fun a => if Liv g1 s'.st a then g1.Φ a else g'.Φ a
    have hΦ : ∀ a, ¬ Liv g1 s'.st a → Φ' a = g'.Φ a := fun a h => by show (if _ then _ else _) = _; rw [if_neg h]
    have hΦ1 : ∀ a, Liv g1 s'.st a → Φ' a = g1.Φ a := fun a h => by show (if _ then _ else _) = _; rw [if_pos h]
    have x : Ext g1 ⟨Φ', g1.ι, g'.H⟩ := by
      refine ⟨fun a ob h => ?_, rfl, fr, fun a h => ?_, fun a ob h => ?_⟩
      · show Φ' a = some ob
        by_cases hv : Liv g1 s'.st a
        · rw [hΦ1 a hv]; exact h
        · rw [hΦ a hv]; exact p.phi a ob (lent_sub R1.st a ob h)
      · change Φ' a ≠ none at h
        by_cases hv : Liv g1 s'.st a
        · rw [hΦ1 a hv] at h; exact .inl h
        · rw [hΦ a hv] at h
          rcases dm a h with z | z
          · unfold lentΦ at z; rw [if_neg hv] at z; exact .inl z
          · exact .inr z
      · change Φ' a = some ob at h
        by_cases hv : Liv g1 s'.st a
        · rw [hΦ1 a hv] at h; exact fr a ob (R1.st.sub a ob h)
        · rw [hΦ a hv] at h; exact o'.sub a ob h
    have tups : ∀ a vs, g'.Φ a = some (.tup vs) → Φ' a = some (.tup vs) := fun a vs h => by
      by_cases hv : Liv g1 s'.st a
      · exfalso
        obtain ⟨m, nd, h1, h2⟩ := hv
        have hat := R1.st.at_ m nd a h1 h2
        have hH := o'.sub a _ h
        cases nd with
        | lst ws => obtain ⟨vs', h3, _⟩ := hat; rw [fr a _ h3] at hH; cases hH
        | dct ws => obtain ⟨vs', h3, _⟩ := hat; rw [fr a _ h3] at hH; cases hH
        | ins c fs => obtain ⟨dx, vs', h3, _⟩ := hat; rw [fr a _ h3] at hH; cases hH
        | tab x q => obtain ⟨_, ps, h3, _⟩ := hat; rw [fr a _ h3] at hH; cases hH
      · rw [hΦ a hv]; exact h
    refine k v ⟨Φ', g1.ι, g'.H⟩ (p1.trans R.st R1.st x.step) (x.rel R1) (RR.back (K := X.K) (g := g) (g1 := g1) R.st p1 ?_)
    unfold NV.R.lendOk at hok
    split at hok
    · exact Dd.tupo tups q' hok
    · rename_i ws'
      split at hok
      · rename_i ds' hds
        obtain ⟨a, rfl, ⟨vs', h1, h2⟩, h3, h4, h5, h6⟩ := q'
        have hd2 := (dats_ok h2 hds).1.tupo tups hok
        have ews := (dats_ok h2 hds).2
        refine ⟨a, rfl, ⟨vs', h1, ?_⟩, ?_, R1.st.ok.nmem h5, h5, h6⟩
        · rw [ews]; exact hd2.wr
        · show Φ' a = none
          by_cases hv : Liv g1 s'.st a
          · obtain ⟨m, nd, h7, h8⟩ := hv
            rw [hΦ1 a ⟨m, nd, h7, h8⟩]; exact R1.st.live m nd a h7 h8
          · rw [hΦ a hv]; exact h3
      · cases hok
    · cases hok
  · cases hf
variable {P : Pos} {k n : Nat} {ps : List Str} {x : Str} {F : FF}
theorem v_cD (G : Okf X.prog X.w X.K X.mg x k ps (spF X.K n F)) (hr : Room k X.A) (hg : Gl X x) (ha : VA X (e :: es) ff) (hl : ∀ s ws s', ff s = some (ws, s') → ws.length = (e :: es).length) (hn : (e :: es).length = n) (hdb : (x == ("__debug__" : Str)) = false := by decide)
    (he : starEach (e :: es) X.env = (false, eval e X.env) :: starEach es X.env := by rfl) (hpl : (backTo pos (starEach es X.env)).any (·.1) = false := by rfl) : VE X (.Call (.Name x P) (e :: es) [] pos) (eCallD F ff) := by
  obtain ⟨fd, G, kp, hb, hm, _⟩ := G
  exact ⟨(pe_call (G _) hr hg hm kp hb .nil pass0 ha.pa hdb he hpl).imp fun σ H Q q => sp_callD hn ha hl q⟩
end
section
variable {s : S} {st : Sto} {ff : AF} {Q : R → S → Prop} {B : List D → Prop} {k n : Nat} {ws us : List W} {d : D}
def LendD (st : Sto) (k : Nat) (ws : List W) (B : List D → Prop) : Prop := Ev (datL (wDat st k) ws) B
@[simp ↓] theorem lendD_n : LendD st k [] B ↔ B [] := by simp [LendD, datL]
@[simp ↓] theorem lendD_d : LendD st k (.d d :: ws) B ↔ LendD st k ws fun ds => B (d :: ds) := by
  have : wDat st k (.d d) = some d := by cases k <;> rfl
  simp [LendD, datL, this]
theorem lendD_map {l : List D} : LendD st k (l.map .d) B ↔ B l := by
  induction l generalizing B with
  | nil => simp
  | cons d l ih => rw [List.map_cons, lendD_d, ih]
@[simp ↓] theorem lendD_m {α : Type} {g : α → D} {l : List α} : LendD st k (l.map (W.d ∘ g)) B ↔ B (l.map g) := by
  have : l.map (W.d ∘ g) = (l.map g).map .d := by simp
  rw [this, lendD_map]
theorem lendD_o (h : st[n]? = some (some (.lst us))) (q : LendD st k us fun ds => LendD st (k + 1) ws fun es => B (.lst ds :: es)) : LendD st (k + 1) (.obj n :: ws) B := by
  unfold LendD at q ⊢
  obtain ⟨ds, h1, es, h2, q⟩ := q
  refine ⟨_, ?_, q⟩
  have : wDat st (k + 1) (.obj n) = some (.lst ds) := by
    unfold wDat
    rw [h]
    show (datL (wDat st k) us).map D.lst = _
    rw [h1]; rfl
  show (wDat st (k + 1) (.obj n)).bind _ = _
  rw [this]
  show (datL (wDat st (k + 1)) ws).map _ = _
  rw [h2]; rfl
@[simp ↓] theorem es_eCallD {F : FF} : Es (eCallD F ff s) Q ↔ Es (ff s) fun ws s1 => LendD s1.st 6 ws fun ds => Ev (callP F ds) fun r => r.lendOk = true ∧ Q r s1 := by
  simp only [eCallD, es_ev, ev_bind', LendD]
  constructor <;> intro h <;> refine h.imp fun p h => h.imp fun q h => h.imp fun r h => ?_
  · rw [ev_ite'] at h
    split at h
    · rename_i hc; obtain ⟨_, e, z⟩ := h; cases e; exact ⟨hc, z⟩
    · exact (ev_none'.mp h).elim
  · rw [if_pos h.1]; exact ev_some'.mpr h.2
end
end NV

namespace NV
open PySem PySem.Spec PyProof.Rows L2
/-! ### the hook over fewer objects: the module's names down to the methods' codes, nothing twice looked for -/
def refsM (o : Obj) : List Addr := match o.data with
  | .dict es _ => es.toList.flatMap fun e => He.refV e.val
  | .seq its _ => its.toList.flatMap He.refV
  | .func fd => He.refV fd.code ++ (He.refV fd.defaults ++ He.refV fd.kwdefaults)
  | .cls cd => [cd.ns]
  | _ => []
def downM (g : Addr → Option Obj) (as : List Addr) : List Addr := as.flatMap fun a => match g a with
  | some o => refsM o
  | none => []
def asM (g : Addr → Option Obj) : List Addr := PySem.mainGlobals :: (downM g [PySem.mainGlobals] ++ (downM g (downM g [PySem.mainGlobals]) ++ (downM g (downM g (downM g [PySem.mainGlobals])) ++ downM g (downM g (downM g (downM g [PySem.mainGlobals]))))))
def obsWG (fa : List He.Fa) (fn : List He.DefD) (ts : List He.Tab) (ex : PySem.W.Frag → Bool) (g : Addr → Option Obj) : AlV := (He.obsT fa fn ts (He.frG g (asM g)), ex (He.frG g (asM g)))
def hookW (fa : List He.Fa) (fn : List He.DefD) (ts : List He.Tab) (ex : PySem.W.Frag → Bool) : PySem.W.Hook where
  α := AlV
  obs := fun s => obsWG fa fn ts ex s.heap.get?
  val := fun w => (He.valT fn ts w, true)
  says := fun w h => ∃ K : PySem.W.Frag, K.In h ∧ SaysV fa fn ts ex w K
  of := fun _ _ e => ⟨_, He.frG_in, ⟨congrArg (fun z : AlV => z.1) e, congrArg (fun z : AlV => z.2) e⟩⟩
  keeps := fun _ _ _ ⟨K, hK, c⟩ k => ⟨K, PySem.W.Frag.In.keeps hK k, c⟩
theorem obsWG_eq {fa : List He.Fa} {fn : List He.DefD} {ts : List He.Tab} {ex : PySem.W.Frag → Bool} {g : Addr → Option Obj} {s : Shared} (h : ∀ a, g a = s.heap.get? a) : obsWG fa fn ts ex g = (hookW fa fn ts ex).obs s := by
  have e : g = s.heap.get? := funext h
  rw [e] <;> rfl
end NV

namespace L2
open PySem PySem.Spec PyProof.Rows
/-! ### targets = values, each of its own, the pair itself not kept (cells among the targets, or more than three) -/
end L2
namespace NV
open PySem PySem.Spec PyProof.Rows L2
section
variable {X : Cx} {es vs : List Expr} {pos : Pos} {ff : AF} {u : GsF}
def sParG (n : Nat) (ff : AF) (u : GsF) : SF := fun s => (ff s).bind fun p => if p.1.length = n then (u p.1 p.2).map .nx else none
variable {s : S} {n : S → Prop} {r : R → S → Prop} {b c : S → Prop}
theorem eo_mapnx {o : Option S} : Eo (o.map .nx) n r b c ↔ Ev o n := by
  cases o <;> simp [Eo, Ev]
@[simp ↓] theorem eo_sParG {m : Nat} : Eo (sParG m ff u s) n r b c ↔ Es (ff s) fun ws s1 => LenK ws fun k => k = m ∧ Ev (u ws s1) n := by
  unfold sParG
  rw [eo_bind, es_ev]
  constructor <;> intro h0 <;> refine h0.imp fun p h => ?_
  · split at h
    · rename_i e
      exact ⟨e, eo_mapnx.mp h⟩
    · obtain ⟨_, h1, _⟩ := h; cases h1
  · obtain ⟨e, h⟩ := h
    rw [if_pos e]
    exact eo_mapnx.mpr h
end
end NV

/-! set(list of ints) with its members' table, after the kit's rule for tuples; sorted(set(..)) -/
namespace L2
open PySem PySem.Spec PyProof.Rows
section
variable {P : Program} {w : World} {A : Around} {E : Value → Shared → Prop} {s : Shared}
end
section
variable {X : Cx} {a : Expr} {pos : Pos}
end
end L2
namespace NV
open PySem PySem.Spec PyProof.Rows L2
section
variable {X : Cx} {a : Expr} {pos : Pos} {fa : EF} {s : S} {Q : R → S → Prop}
def eSrtSet (fa : EF) : EF := fun s => (fa s).bind fun p => (p.1.view p.2.st).bind fun u => u.lw.bind fun ws => (intsW ws).bind fun ns => if ns.length ≤ 4000 ∧ (dd ns).length < 64 then some (.new (.lst ((sortI (dd ns)).map (W.d ∘ D.int))), p.2) else none
@[simp ↓] theorem es_eSrtSet : Es (eSrtSet fa s) Q ↔ Es (fa s) fun p s1 => ViewK p s1.st fun u => LwK u fun ws => IntsK ws fun ns => (ns.length ≤ 4000 ∧ (dd ns).length < 64) ∧ Q (.new (.lst ((sortI (dd ns)).map (W.d ∘ D.int)))) s1 := by
  simp only [eSrtSet, es_ev, ev_bind', ViewK, LwK, IntsK, ev_ite', ev_none', ev_some']
  constructor <;> intro h0 <;> refine h0.imp fun p h => h.imp fun u h => h.imp fun ws h => h.imp fun ns h => ?_
  · split at h
    · rename_i hl; exact ⟨hl, h⟩
    · exact h.elim
  · rw [if_pos h.1]; exact h.2
end
end NV

namespace NV
open PySem PySem.Spec PyProof.Rows L2
section
variable {X : Cx} {e o : Expr} {es : List Expr} {fa fo fk : EF} {ff : AF} {s : S} {Q : R → S → Prop} {apos cpos : Pos}
/-! ### xs.count(i), xs a list of ints that is data -/
def eCount (fo : EF) (ff : AF) : EF := fun s => (fo s).bind fun p => match p.1 with
  | .val (.d (.lst ds)) => (ff p.2).bind fun q => (match q.1 with
    | [.d (.int k)] => (intsW (ds.map .d)).map fun ns => (iR (ns.count k : Nat), q.2)
    | _ => none)
  | _ => none
@[simp ↓] theorem es_eCount : Es (eCount fo ff s) Q ↔ Es (fo s) fun p s1 => ∃ ds, p = .val (.d (.lst ds)) ∧ Es (ff s1) fun ws s2 => ∃ k : Int, ws = [.d (.int k)] ∧ IntsK (ds.map .d) fun ns => Q (iR (ns.count k : Nat)) s2 := by
  simp only [eCount, es_ev, ev_bind', IntsK]
  constructor <;> intro h0 <;> refine h0.imp fun p h => ?_
  · split at h
    · rename_i ds e
      refine ⟨ds, e, (ev_bind'.mp h).imp fun q h => ?_⟩
      split at h
      · rename_i k e2
        exact ⟨k, e2, ev_map'.mp h⟩
      · exact (ev_none'.mp h).elim
    · exact (ev_none'.mp h).elim
  · obtain ⟨ds, e, h⟩ := h
    rw [e]
    refine ev_bind'.mpr (h.imp fun q h => ?_)
    obtain ⟨k, e2, h⟩ := h
    rw [e2]
    exact ev_map'.mpr h
end
end NV

/-! sum(list of lists, []) : after the kit's walk of sum over ints, the total a list -/
namespace L2
open PySem PySem.Spec PyProof.Rows
section
variable {prog : Program} {w : World} {A : Around} {R : Result → Shared → Prop} {I : Addr} {fp wr : List Addr} {n : Nat} {P : Nat → Value → Prop} {St : Nat → Heap → Prop}
end
end L2
namespace L2
open PySem PySem.Spec PyProof.Rows
section
variable {X : Cx}
end
end L2
namespace NV
open PySem PySem.Spec PyProof.Rows L2
section
variable {X : Cx} {K : PySem.W.Frag} {g : G}
end
end NV

/-! zip of a list and a tuple : the walk of one turn for any two kinds of iterators, then list and tuple -/
namespace L2
open PySem PySem.Spec PyProof.Rows
/-- a kind of thing that zip walks: its iterator, itself, one step, the end -/
structure Zk where
  I : Heap → Addr → Addr → Nat → Prop
  L : Heap → Addr → Array Value → Prop
  iat : ∀ {h h' : Heap} {a l i}, I h a l i → (∀ o, h.get? a = some o → h'.get? a = some o) → I h' a l i
  lat : ∀ {h h' : Heap} {a xs}, L h a xs → (∀ o, h.get? a = some o → h'.get? a = some o) → L h' a xs
  lt : ∀ {h : Heap} {a l i}, I h a l i → a < h.objs.size
  item : ∀ {prog : Program} {w : World} {A : Around} {E : Value → Shared → Prop} {s : Shared} {it l : Addr} {i : Nat} {xs : Array Value} {x : Value} {Q : Value → Shared → Prop}, I s.heap it l i → L s.heap l xs → xs[i]? = some x →
    (∀ h', I h' it l (i + 1) → Heap.SameBut it s.heap h' → Q x { s with heap := h' }) → wpAny (model prog w) A (Builtin.SmallTypes.nextOf (.ref it)) Q E s
  fin : ∀ {prog : Program} {w : World} {A : Around} {E : Value → Shared → Prop} {s : Shared} {it l : Addr} {i : Nat} {xs : Array Value} {Q : Value → Shared → Prop}, A.handled = none → I s.heap it l i → L s.heap l xs → xs[i]? = none →
    (∀ h' e, Heap.ExtBut it s.heap h' → (∃ o, h'.get? e = some o ∧ o.cls = .type "StopIteration") → E (.ref e) { s with heap := h' }) → wpAny (model prog w) A (Builtin.SmallTypes.nextOf (.ref it)) Q E s
def Zk.list : Zk where
  I := Heap.IsListIter
  L := Heap.IsList
  iat := fun x e => x.at e
  lat := fun x e => x.at e
  lt := fun x => by obtain ⟨_, e, _⟩ := x; exact Heap.lt_size e
  item := wpAny_nextOf_list_item
  fin := wpAny_nextOf_list_end
def Zk.tup : Zk where
  I := Heap.IsTupleIter
  L := Heap.IsTuple
  iat := fun x e => x.at e
  lat := fun ⟨o, ho, r⟩ e => ⟨o, e _ ho, r⟩
  lt := fun x => by obtain ⟨_, e, _⟩ := x; exact Heap.lt_size e
  item := RZ.nextOf_tuple_item
  fin := RZ.nextOf_tuple_end
section
variable {prog : Program} {w : World} {A : Around} {E : Value → Shared → Prop} {s : Shared} {z TI TO i1 i2 l1 l2 : Addr} {k1 k2 : Nat} {xs ys : Array Value} {a b : Value} (S T : Zk)
theorem zk_item {x y : Value} {Q : Value → Shared → Prop} (D : ZipApart z TI TO i1 i2 l1 l2)
    (hz : IsZip s.heap z TI TO .none) (hTI : IsPair s.heap TI (.ref i1) (.ref i2)) (hTO : IsPair s.heap TO a b)
    (h1 : S.I s.heap i1 l1 k1) (h2 : T.I s.heap i2 l2 k2) (hl1 : S.L s.heap l1 xs) (hl2 : T.L s.heap l2 ys) (hx : xs[k1]? = some x) (hy : ys[k2]? = some y)
    (hQ : ∀ h', IsZip h' z TI TO (rawInt s.heap.objs.size) → IsPair h' TO x y → S.I h' i1 l1 (k1 + 1) → T.I h' i2 l2 (k2 + 1) → IsPair h' s.heap.objs.size x y →
      (∀ c o, c ≠ z → c ≠ TO → c ≠ i1 → c ≠ i2 → s.heap.get? c = some o → h'.get? c = some o) → Q (.ref s.heap.objs.size) { s with heap := h' }) :
    wpAny (model prog w) A (Builtin.«zip.__next__» ⟨[.ref z], []⟩) (fun fin s' => ∃ v, fin = .done (.ret v) ∧ Q v s') E s := by
  show wpAny _ _ (field (.ref z) 2 >>= _) _ _ _
  refine wpAny_bind (wpAny_field hz rfl (x := .bool false) rfl ?_)
  show wpAny _ _ (field (.ref z) 3 >>= _) _ _ _
  refine wpAny_bind (wpAny_field hz rfl (x := .ref TI) rfl (wpAny_bind (wpAny_seqItems hTI rfl ?_)))
  show wpAny _ _ (Builtin.SmallTypes.ownedTupleIsFree (.ref z) >>= _) _ _ _
  unfold Builtin.SmallTypes.ownedTupleIsFree
  refine wpAny_bind (wpAny_bind (wpAny_field hz rfl (x := .none) rfl (wpAny_pure ?_)))
  simp only [if_true]
  refine wpAny_bind (wpAny_rule (wpAny_bind (wpAny_field hz rfl (x := .ref TO) rfl (wpAny_bind (wpAny_setField_rec hz (by simp) fun hA zA sA => ?_)))))
  have zA' : IsZip hA z TI TO .ellipsis := zA
  have kA : ∀ c o, c ≠ z → s.heap.get? c = some o → hA.get? c = some o := fun c o q e => sA.extBut _ _ q e
  refine wpAny_bind ?_
  simp only [List.zipIdx_cons, List.zipIdx_nil, List.forIn_cons, List.forIn_nil]
  refine wpAny_bind (wpAny_bind (wpAny_onRaise ?_))
  show wpAny _ _ (Builtin.SmallTypes.nextOf (.ref i1) >>= _) _ _ _
  refine wpAny_bind (S.item (S.iat h1 fun o e => kA _ o D.i1z e) (S.lat hl1 fun o e => kA _ o D.l1z e) hx fun hB iB sB => wpAny_pure ?_)
  have kB : ∀ c o, c ≠ z → c ≠ i1 → s.heap.get? c = some o → hB.get? c = some o := fun c o q q1 e => sB.extBut _ _ q1 (kA c o q e)
  have pB : IsPair hB TO a b := kB _ _ D.TOz D.TOi1 hTO
  refine wpAny_bind (wpAny_seqItems pB rfl (wpAny_bind (wpAny_updateSeq_pair pB fun hC pC sC => ?_)))
  have pC' : IsPair hC TO x b := pC
  have kC : ∀ c o, c ≠ z → c ≠ i1 → c ≠ TO → s.heap.get? c = some o → hC.get? c = some o := fun c o q q1 q2 e => sC.extBut _ _ q2 (kB c o q q1 e)
  refine wpAny_bind (wpAny_letGo (wpAny_pure (wpAny_bind (wpAny_bind (wpAny_onRaise ?_)))))
  show wpAny _ _ (Builtin.SmallTypes.nextOf (.ref i2) >>= _) _ _ _
  refine wpAny_bind (T.item (T.iat h2 fun o e => kC _ o D.i2z D.i12.symm D.TOi2.symm e) (T.lat hl2 fun o e => kC _ o D.l2z D.l2i1 D.l2TO e) hy fun hD iD sD => wpAny_pure ?_)
  have kD : ∀ c o, c ≠ z → c ≠ i1 → c ≠ TO → c ≠ i2 → s.heap.get? c = some o → hD.get? c = some o := fun c o q q1 q2 q3 e => sD.extBut _ _ q3 (kC c o q q1 q2 e)
  have pD : IsPair hD TO x b := sD.extBut _ _ D.TOi2 pC'
  refine wpAny_bind (wpAny_seqItems pD rfl (wpAny_bind (wpAny_updateSeq_pair pD fun hE pE sE => ?_)))
  have pE' : IsPair hE TO x y := pE
  have kE : ∀ c o, c ≠ z → c ≠ i1 → c ≠ TO → c ≠ i2 → s.heap.get? c = some o → hE.get? c = some o := fun c o q q1 q2 q3 e => sE.extBut _ _ q2 (kD c o q q1 q2 q3 e)
  have nE : hE.objs.size = s.heap.objs.size := by rw [sE.1, sD.1, sC.1, sB.1, sA.1]
  have zE : IsZip hE z TI TO .ellipsis := sE.extBut _ _ D.TOz.symm (sD.extBut _ _ D.i2z.symm (sC.extBut _ _ D.TOz.symm (sB.extBut _ _ D.i1z.symm zA')))
  have iE1 : S.I hE i1 l1 (k1 + 1) := S.iat iB fun o e => sE.extBut _ _ D.TOi1.symm (sD.extBut _ _ D.i12 (sC.extBut _ _ D.TOi1.symm e))
  have iE2 : T.I hE i2 l2 (k2 + 1) := T.iat iD fun o e => sE.extBut _ _ D.TOi2.symm e
  have zlt : z < hE.objs.size := Heap.lt_size zE
  refine wpAny_bind (wpAny_letGo (wpAny_pure (wpAny_pure (wpAny_bind (wpAny_seqItems pE' rfl (wpAny_bind (wpAny_newTuple ?_)))))))
  show wpAny _ _ (Builtin.SmallTypes.ownedTupleHandOut (.ref z) (.ref hE.objs.size) >>= _) _ _ _
  unfold Builtin.SmallTypes.ownedTupleHandOut
  have zF : IsZip (hE.push { cls := .type "tuple", data := .seq #[x, y] }) z TI TO .ellipsis := Heap.get?_push_of_some _ zE
  refine wpAny_bind (wpAny_bind (wpAny_setField_rec zF (by simp) fun hG zG sG => ?_))
  have zG' : IsZip hG z TI TO (rawInt hE.objs.size) := zG
  refine wpAny_setField_rec zG' (by simp) fun hH zH sH => wpAny_pure ⟨_, rfl, ?_⟩
  have zH' : IsZip hH z TI TO (rawInt hE.objs.size) := zH
  have up : ∀ c o, c ≠ z → hE.get? c = some o → hH.get? c = some o := fun c o q e => sH.extBut _ _ q (sG.extBut _ _ q (Heap.get?_push_of_some _ e))
  have pH : IsPair hH hE.objs.size x y := sH.extBut _ _ (Nat.ne_of_gt zlt) (sG.extBut _ _ (Nat.ne_of_gt zlt) (Heap.get?_push_size _ rfl))
  rw [nE] at zH' pH
  show Q (.ref hE.objs.size) _
  rw [nE]
  exact hQ hH zH' (up _ _ D.TOz pE') (S.iat iE1 fun o e => up _ o D.i1z e) (T.iat iE2 fun o e => up _ o D.i2z e) pH fun c o q q2 q1 q3 e => up c o q (kE c o q q1 q2 q3 e)
theorem zk_fin {Q : Fin → Shared → Prop} (hh : A.handled = none) (D : ZipApart z TI TO i1 i2 l1 l2)
    (hz : IsZip s.heap z TI TO .none) (hTI : IsPair s.heap TI (.ref i1) (.ref i2)) (hTO : IsPair s.heap TO a b)
    (h1 : S.I s.heap i1 l1 k1) (h2 : T.I s.heap i2 l2 k2) (hl1 : S.L s.heap l1 xs) (hl2 : T.L s.heap l2 ys) (hend : xs[k1]? = none ∨ ys[k2]? = none)
    (hE : ∀ h' e, (∀ c o, c ≠ z → c ≠ TO → c ≠ i1 → c ≠ i2 → s.heap.get? c = some o → h'.get? c = some o) → (∃ o, h'.get? e = some o ∧ o.cls = .type "StopIteration") → E (.ref e) { s with heap := h' }) :
    wpAny (model prog w) A (Builtin.«zip.__next__» ⟨[.ref z], []⟩) Q E s := by
  show wpAny _ _ (field (.ref z) 2 >>= _) _ _ _
  refine wpAny_bind (wpAny_field hz rfl (x := .bool false) rfl ?_)
  show wpAny _ _ (field (.ref z) 3 >>= _) _ _ _
  refine wpAny_bind (wpAny_field hz rfl (x := .ref TI) rfl (wpAny_bind (wpAny_seqItems hTI rfl ?_)))
  show wpAny _ _ (Builtin.SmallTypes.ownedTupleIsFree (.ref z) >>= _) _ _ _
  unfold Builtin.SmallTypes.ownedTupleIsFree
  refine wpAny_bind (wpAny_bind (wpAny_field hz rfl (x := .none) rfl (wpAny_pure ?_)))
  simp only [if_true]
  refine wpAny_bind (wpAny_rule (wpAny_bind (wpAny_field hz rfl (x := .ref TO) rfl (wpAny_bind (wpAny_setField_rec hz (by simp) fun hA zA sA => ?_)))))
  have zA' : IsZip hA z TI TO .ellipsis := zA
  have kA : ∀ c o, c ≠ z → s.heap.get? c = some o → hA.get? c = some o := fun c o q e => sA.extBut _ _ q e
  have out : ∀ (h' : Heap) (e : Addr), (∀ c o, c ≠ z → c ≠ i1 → c ≠ TO → c ≠ i2 → s.heap.get? c = some o → h'.get? c = some o) → IsZip h' z TI TO .ellipsis → (∃ o, h'.get? e = some o ∧ o.cls = .type "StopIteration") →
      ∀ (h2' : Heap), Heap.SameBut z h' h2' → E (.ref e) { s with heap := h2' } := fun h' e kk zz he h2' ss => by
    obtain ⟨oe, hoe, hce⟩ := he
    have hez : e ≠ z := fun q => by subst q; rw [zz] at hoe; cases hoe; simp at hce
    exact hE h2' e (fun c o q q2 q1 q3 x => ss.extBut _ _ q (kk c o q q1 q2 q3 x)) ⟨oe, ss.extBut _ _ hez hoe, hce⟩
  refine wpAny_bind ?_
  simp only [List.zipIdx_cons, List.zipIdx_nil, List.forIn_cons, List.forIn_nil]
  refine wpAny_bind (wpAny_bind (wpAny_onRaise ?_))
  show wpAny _ _ (Builtin.SmallTypes.nextOf (.ref i1) >>= _) _ _ _
  have jA := S.iat h1 fun o e => kA _ o D.i1z e
  have lA := S.lat hl1 fun o e => kA _ o D.l1z e
  cases hx : xs[k1]? with
  | none =>
    refine wpAny_bind (S.fin hh jA lA hx fun hB e sB he => ?_)
    have zB : IsZip hB z TI TO .ellipsis := sB _ _ D.i1z.symm zA'
    exact wpAny_setField_rec zB (by simp) fun hC _ sC => out hB e (fun c o q q1 _ _ x => sB _ _ q1 (kA c o q x)) zB he hC sC
  | some x =>
    have hy : ys[k2]? = none := by rcases hend with h | h; rw [hx] at h; cases h; exact h
    refine wpAny_bind (S.item jA lA hx fun hB iB sB => wpAny_pure ?_)
    have kB : ∀ c o, c ≠ z → c ≠ i1 → s.heap.get? c = some o → hB.get? c = some o := fun c o q q1 e => sB.extBut _ _ q1 (kA c o q e)
    have pB : IsPair hB TO a b := kB _ _ D.TOz D.TOi1 hTO
    refine wpAny_bind (wpAny_seqItems pB rfl (wpAny_bind (wpAny_updateSeq_pair pB fun hC pC sC => ?_)))
    have kC : ∀ c o, c ≠ z → c ≠ i1 → c ≠ TO → s.heap.get? c = some o → hC.get? c = some o := fun c o q q1 q2 e => sC.extBut _ _ q2 (kB c o q q1 e)
    refine wpAny_bind (wpAny_letGo (wpAny_pure (wpAny_bind (wpAny_bind (wpAny_onRaise ?_)))))
    show wpAny _ _ (Builtin.SmallTypes.nextOf (.ref i2) >>= _) _ _ _
    refine wpAny_bind (T.fin hh (T.iat h2 fun o e => kC _ o D.i2z D.i12.symm D.TOi2.symm e) (T.lat hl2 fun o e => kC _ o D.l2z D.l2i1 D.l2TO e) hy fun hD e sD he => ?_)
    have zD : IsZip hD z TI TO .ellipsis := sD _ _ D.i2z.symm (sC.extBut _ _ D.TOz.symm (sB.extBut _ _ D.i1z.symm zA'))
    exact wpAny_setField_rec zD (by simp) fun hF _ sF => out hD e (fun c o q q1 q2 q3 x => sD _ _ q3 (kC c o q q1 q2 x)) zD he hF sF
theorem zk_next {x y : Value} {Q : Option Value → Shared → Prop} (D : ZipApart z TI TO i1 i2 l1 l2)
    (hz : IsZip s.heap z TI TO .none) (hTI : IsPair s.heap TI (.ref i1) (.ref i2)) (hTO : IsPair s.heap TO a b)
    (h1 : S.I s.heap i1 l1 k1) (h2 : T.I s.heap i2 l2 k2) (hl1 : S.L s.heap l1 xs) (hl2 : T.L s.heap l2 ys) (hx : xs[k1]? = some x) (hy : ys[k2]? = some y)
    (hQ : ∀ h', IsZip h' z TI TO (rawInt s.heap.objs.size) → IsPair h' TO x y → S.I h' i1 l1 (k1 + 1) → T.I h' i2 l2 (k2 + 1) → IsPair h' s.heap.objs.size x y →
      (∀ c o, c ≠ z → c ≠ TO → c ≠ i1 → c ≠ i2 → s.heap.get? c = some o → h'.get? c = some o) → Q (some (.ref s.heap.objs.size)) { s with heap := h' }) :
    wpAny (model prog w) A (pyNext (.ref z)) Q E s := by
  have hT : s.TypeIs (.ref z) "zip" := ⟨_, hz, rfl⟩
  unfold pyNext
  exact wpAny_bind (wpAny_attempt (wpAny_callSpecial?_slot (name := Str.ofString "__next__") hT PySem.F.slot_zip_next
    (wpAny_call_entry PySem.F.slot_zip_next hT PySem.F.entry_zip_next
      (zk_item S T D hz hTI hTO h1 h2 hl1 hl2 hx hy fun h' a1 a2 a3 a4 a5 a7 => wpAny_pure (hQ h' a1 a2 a3 a4 a5 a7)) (PySem.F.args_zip_next_1 _))))
theorem zk_stop {Q : Option Value → Shared → Prop} (hh : A.handled = none) (D : ZipApart z TI TO i1 i2 l1 l2)
    (hz : IsZip s.heap z TI TO .none) (hTI : IsPair s.heap TI (.ref i1) (.ref i2)) (hTO : IsPair s.heap TO a b)
    (h1 : S.I s.heap i1 l1 k1) (h2 : T.I s.heap i2 l2 k2) (hl1 : S.L s.heap l1 xs) (hl2 : T.L s.heap l2 ys) (hend : xs[k1]? = none ∨ ys[k2]? = none)
    (hQ : ∀ h', (∀ c o, c ≠ z → c ≠ TO → c ≠ i1 → c ≠ i2 → s.heap.get? c = some o → h'.get? c = some o) → Q none { s with heap := h' }) : wpAny (model prog w) A (pyNext (.ref z)) Q E s := by
  have hT : s.TypeIs (.ref z) "zip" := ⟨_, hz, rfl⟩
  unfold pyNext
  refine wpAny_bind (wpAny_attempt (wpAny_callSpecial?_slot (name := Str.ofString "__next__") hT PySem.F.slot_zip_next
    (wpAny_call_entry PySem.F.slot_zip_next hT PySem.F.entry_zip_next (zk_fin S T hh D hz hTI hTO h1 h2 hl1 hl2 hend fun h' e hk he => ?_) (PySem.F.args_zip_next_1 _))))
  obtain ⟨o, ho, hc⟩ := he
  exact wpAny_bind (wpAny_isInstance (T := "StopIteration") (b := true) ⟨o, ho, hc⟩ isSubtype_stop (wpAny_pure (hQ _ hk)))
end
end L2

/-! zip of a list and a tuple : the making, the turns, the iterable -/
namespace L2
open PySem PySem.Spec PyProof.Rows
abbrev zmA (h : Heap) (l1 : Addr) : Heap := h.push { cls := .type "list_iterator", data := .fields #[.ref l1, .int 0 0] }
abbrev zmB (h : Heap) (l1 l2 : Addr) : Heap := (zmA h l1).push { cls := .type "tuple_iterator", data := .fields #[.ref l2, .int 0 0] }
abbrev zmC (h : Heap) (l1 l2 : Addr) : Heap := (zmB h l1 l2).push { cls := .type "tuple", data := .seq #[.ref h.objs.size, .ref (zmA h l1).objs.size] }
abbrev zmD (h : Heap) (l1 l2 : Addr) : Heap := (zmC h l1 l2).push { cls := .type "tuple", data := .seq #[.none, .none] }
abbrev zmE (h : Heap) (l1 l2 : Addr) : Heap := (zmD h l1 l2).push { cls := .type "zip", data := .fields #[.none, .bool false, .bool false, .ref (zmB h l1 l2).objs.size, .ref (zmC h l1 l2).objs.size] }
theorem zm_new (l1 l2 : Addr) (xs ys : Array Value) :
    Meets (Builtin.«zip.__new__» ⟨[.type "zip", .ref l1, .ref l2], []⟩) (fun _ R s => s.heap.IsList l1 xs ∧ s.heap.IsTuple l2 ys ∧
      R (.ok (.ret (.ref (zmD s.heap l1 l2).objs.size))) { s with heap := zmE s.heap l1 l2 }) :=
  .of_wp fun prog w A R s h => by
    obtain ⟨hp, g, d, tk, os⟩ := s; obtain ⟨hl1, hl2, h⟩ := h
    have hsub := sub_zip
    have q1 : Heap.IsList (Shared.heap ⟨hp, g, d, tk, os⟩) l1 xs := hl1
    have q2 : Heap.IsTuple (Shared.heap ⟨hp.push { cls := .type "list_iterator", data := .fields #[.ref l1, .int 0 0] }, g, d, tk, os⟩) l2 ys := Heap.IsTuple.push hl2 _
    wp_walk using wpAny_pyIter_list q1, wpAny_pyIter_tuple q2
    exact ⟨_, rfl, h⟩
theorem zm_call {prog : Program} {w : World} {A : Around} {E : Value → Shared → Prop} {s : Shared} {l1 l2 : Addr} {xs ys : Array Value} {Q : Value → Shared → Prop} (hl1 : s.heap.IsList l1 xs) (hl2 : s.heap.IsTuple l2 ys)
    (h : ∀ h', IsZip h' (s.heap.objs.size + 4) (s.heap.objs.size + 2) (s.heap.objs.size + 3) .none → IsPair h' (s.heap.objs.size + 2) (.ref s.heap.objs.size) (.ref (s.heap.objs.size + 1)) →
      IsPair h' (s.heap.objs.size + 3) .none .none → h'.IsListIter s.heap.objs.size l1 0 → h'.IsTupleIter (s.heap.objs.size + 1) l2 0 →
      (∀ c o, s.heap.get? c = some o → h'.get? c = some o) → Q (.ref (s.heap.objs.size + 4)) { s with heap := h' }) :
    wpAny (model prog w) A (call (.type "zip") [.ref l1, .ref l2]) Q E s := by
  refine callType_new PySem.F.called_zip (by decide) (PySem.F.typeCall_zip_2 _ _) (PySem.F.newCall_zip_2 _ _) (fun obj => PySem.F.args_object_init_3 obj _ _) PySem.F.entry_zip_new
    (zm_new l1 l2 xs ys) ⟨hl1, hl2, ?_⟩
  have e1 : (zmA s.heap l1).objs.size = s.heap.objs.size + 1 := Heap.size_push ..
  have e2 : (zmB s.heap l1 l2).objs.size = s.heap.objs.size + 2 := by rw [Heap.size_push, e1]
  have e3 : (zmC s.heap l1 l2).objs.size = s.heap.objs.size + 3 := by rw [Heap.size_push, e2]
  have e4 : (zmD s.heap l1 l2).objs.size = s.heap.objs.size + 4 := by rw [Heap.size_push, e3]
  have gE : (zmE s.heap l1 l2).get? (zmD s.heap l1 l2).objs.size = some _ := Heap.get?_push_size _ rfl
  have gD : (zmE s.heap l1 l2).get? (zmC s.heap l1 l2).objs.size = some _ := Heap.get?_push_of_some _ (Heap.get?_push_size _ rfl)
  have gC : (zmE s.heap l1 l2).get? (zmB s.heap l1 l2).objs.size = some _ := Heap.get?_push_of_some _ (Heap.get?_push_of_some _ (Heap.get?_push_size _ rfl))
  have gB : (zmE s.heap l1 l2).get? (zmA s.heap l1).objs.size = some _ := Heap.get?_push_of_some _ (Heap.get?_push_of_some _ (Heap.get?_push_of_some _ (Heap.get?_push_size _ rfl)))
  have gA : (zmE s.heap l1 l2).get? s.heap.objs.size = some _ := Heap.get?_push_of_some _ (Heap.get?_push_of_some _ (Heap.get?_push_of_some _ (Heap.get?_push_of_some _ (Heap.get?_push_size _ rfl))))
  rw [e2, e3, e4] at gE
  rw [e1, e2] at gC
  rw [e3] at gD
  rw [e1] at gB
  show _ ∧ _
  rw [e4]
  exact ⟨⟨_, gE, rfl⟩, h _ gE gC gD ⟨_, gA, rfl, rfl⟩ ⟨_, gB, rfl, rfl⟩ fun c o x =>
    Heap.get?_push_of_some _ (Heap.get?_push_of_some _ (Heap.get?_push_of_some _ (Heap.get?_push_of_some _ (Heap.get?_push_of_some _ x))))⟩
/-- the list at a and the tuple at b at each turn, the items in new pairs -/
def Itzm (K : PySem.W.Frag) (a b : Addr) : It :=
  ⟨fun i H => ∃ (xs ys : List V) (x y : V), SqL K H a xs ∧ SqT K H b ys ∧ xs[i]? = some x ∧ ys[i]? = some y,
    fun i H v H' => ∃ T x y, v = .ref T ∧ H T = none ∧ H' = upd H T (.tup [x, y]) ∧ (∀ xs, SqL K H a xs → xs[i]? = some x) ∧ ∀ ys, SqT K H b ys → ys[i]? = some y,
    fun i H => ∃ xs ys : List V, SqL K H a xs ∧ SqT K H b ys ∧ (xs.length ≤ i ∨ ys.length ≤ i)⟩
theorem five {z TI TO i1 i2 c : Addr} (h : c ∈ [z, TI, TO, i1, i2]) : c = z ∨ c = TI ∨ c = TO ∨ c = i1 ∨ c = i2 := by simpa using h
theorem turn_zm {P : Program} {w : World} {K : PySem.W.Frag} {elts : List Expr} {kk : Nat} {tpos : Pos} {a b z TI TO i1 i2 : Addr} (D : ZipApart z TI TO i1 i2 a b) :
    Turn P w K (.Tuple elts kk tpos) (Itzm K a b) [z, TI, TO, i1, i2] z (fun i h => IsZip h z TI TO .none ∧ IsPair h TI (.ref i1) (.ref i2) ∧ (∃ x y, IsPair h TO x y) ∧ h.IsListIter i1 a i ∧ h.IsTupleIter i2 b i) where
  mem := by simp
  obj := fun i h st c hc => by
    obtain ⟨hz, hTI, ⟨x, y, hTO⟩, ⟨o1, e1, _, d1⟩, ⟨o2, e2, _, d2⟩⟩ := st
    rcases five hc with rfl | rfl | rfl | rfl | rfl
    · exact ⟨_, hz, fun v q => nomatch q⟩
    · exact ⟨_, hTI, fun v q => nomatch q⟩
    · exact ⟨_, hTO, fun v q => nomatch q⟩
    · exact ⟨o1, e1, fun v q => by rw [d1] at q; cases q⟩
    · exact ⟨o2, e2, fun v q => by rw [d2] at q; cases q⟩
  keep := fun i h h' st k => by
    obtain ⟨hz, hTI, ⟨x, y, hTO⟩, h1, h2⟩ := st
    exact ⟨k z (by simp) _ hz, k TI (by simp) _ hTI, ⟨x, y, k TO (by simp) _ hTO⟩, h1.at fun o q => k i1 (by simp) o q, h2.at fun o q => k i2 (by simp) o q⟩
  item := by
    intro X hP hw hK hc i pins s σ H E I hf st hg
    subst hP hw hK
    obtain ⟨hz, hTI, ⟨x0, y0, hTO⟩, h1, h2⟩ := st
    obtain ⟨xs, ys, x, y, hqx, hqy, hx, hy⟩ := hg
    obtain ⟨its, rv, p, _⟩ := I.list hqx
    obtain ⟨its2, rv2, p2, _⟩ := I.tuple hqy
    obtain ⟨u, hu, ru⟩ := rv.get hx
    obtain ⟨u2, hu2, ru2⟩ := rv2.get hy
    have hzl : z < s.heap.objs.size := Heap.lt_size hz
    refine zk_next Zk.list Zk.tup D hz hTI hTO h1 h2 p.isList p2 (x := u) (y := u2) (by simpa using hu) (by simpa using hu2) fun h' z' TO' h1' h2' hT hk => ?_
    refine ⟨_, rfl, wpAny_letOwnedTupleGo_zip (s := { s with heap := h' }) z' fun h'' z'' sb => ?_⟩
    have hT2 : h''.get? s.heap.objs.size = some { cls := .type "tuple", data := .seq #[u, u2] } := (sb.2 _ (Nat.ne_of_gt hzl)).trans hT
    have new : ObjOk X.prog X.w (upd H s.heap.objs.size (.tup [x, y])) h'' s.heap.objs.size (.tup [x, y]) :=
      ⟨by show 2 ≤ sizeLine; decide, [u, u2], .cons ru (.cons ru2 .nil), ⟨_, hT2, rfl, _, rfl⟩⟩
    have out : ∀ c o, c ∉ [z, TI, TO, i1, i2] → s.heap.get? c = some o → h''.get? c = some o := fun c o hb q => by
      simp only [List.mem_cons, List.not_mem_nil, or_false, not_or] at hb
      exact (sb.2 c hb.1).trans (hk c o hb.1 hb.2.2.1 hb.2.2.2.1 hb.2.2.2.2 q)
    have I1 : Inv X pins σ (upd H s.heap.objs.size (.tup [x, y])) { s with heap := h'' } := I.turnedNew (t' := s.toks) (ch := [z, TI, TO, i1, i2]) out hf (Nat.le_refl _) new
    refine ⟨.ref s.heap.objs.size, _, I1, rfl, ⟨_, x, y, rfl, I.hok.fresh (Nat.le_refl _), rfl, fun l hl => by rw [I.list_inj hl hqx]; exact hx, fun l hl => by rw [I.tuple_inj hl hqy]; exact hy⟩, ⟨z'', ?_, ⟨u, u2, ?_⟩, ?_, ?_⟩, fun c hcm => ?_⟩
    · exact (sb.2 _ D.TIz).trans (hk _ _ D.TIz D.TITO D.TIi1 D.TIi2 hTI)
    · exact (sb.2 _ D.TOz).trans TO'
    · exact Zk.list.iat h1' fun o q => (sb.2 _ D.i1z).trans q
    · exact Zk.tup.iat h2' fun o q => (sb.2 _ D.i2z).trans q
    · have hlt : c < s.heap.objs.size := by
        rcases five hcm with rfl | rfl | rfl | rfl | rfl
        · exact hzl
        · exact Heap.lt_size hTI
        · exact Heap.lt_size hTO
        · exact Zk.list.lt h1
        · exact Zk.tup.lt h2
      rw [upd_ne (Nat.ne_of_lt hlt)]
      exact (hf c hcm).1
  done := by
    intro X hP hw hK hc i pins s σ H E I hf st hg
    subst hP hw hK
    obtain ⟨hz, hTI, ⟨x0, y0, hTO⟩, h1, h2⟩ := st
    obtain ⟨xs, ys, hqx, hqy, hend⟩ := hg
    obtain ⟨its, rv, p, _⟩ := I.list hqx
    obtain ⟨its2, rv2, p2, _⟩ := I.tuple hqy
    have l1 := rv.length
    have l2 := rv2.length
    have he : its.toArray[i]? = none ∨ its2.toArray[i]? = none := by
      rcases hend with q | q
      · exact .inl (by simp; omega)
      · exact .inr (by simp; omega)
    refine zk_stop Zk.list Zk.tup (I.ok.hd hc) D hz hTI hTO h1 h2 p.isList p2 he fun h' hk => ⟨rfl, I.turnedL (t' := s.toks) (ch := [z, TI, TO, i1, i2]) (fun c o hb q => ?_) hf⟩
    simp only [List.mem_cons, List.not_mem_nil, or_false, not_or] at hb
    exact hk c o hb.1 hb.2.2.1 hb.2.2.2.1 hb.2.2.2.2 q
  self := fun A i s Q E st h => wpAny_pyIter_zip st.1 h
def iZmA (K : PySem.W.Frag) (ta : TA) : TI := fun σ H R => ta σ H fun vs H1 => ∃ a b xs ys, vs = [.ref a, .ref b] ∧ SqL K H1 a xs ∧ SqT K H1 b ys ∧ R (Itzm K a b) H1
theorem pi_zm {X : Cx} {e e2 : Expr} {ta : TA} {p pos tpos : Pos} {elts : List Expr} {kk : Nat} (hg : Gl X "zip") (hm : X.mg "zip" = none) (ha : PA X [e, e2] ta)
    (hs : starEach [e, e2] X.env = (false, eval e X.env) :: starEach [e2] X.env := by rfl) (hpl : (backTo pos (starEach [e2] X.env)).any (·.1) = false := by rfl) :
    PI X (.Tuple elts kk tpos) (.Call (.Name "zip" p) [e, e2] [] pos) (iZmA X.K ta) := by
  refine ⟨fun pins s σ H R I h => ?_⟩
  refine Call_ (ld_blt I hg hm PyProof.Rows.boot_zip (PyProof.Rows.callWith_type1 (thn (ha.run pos pins s σ H _ I h) fun us s1 ⟨vs, H1, I1, r1, q1⟩ => ?_) hs hpl))
  obtain ⟨a, b, xs, ys, rfl, hqx, hqy, q⟩ := q1
  cases r1 with
  | cons r rr =>
    cases rr with
    | cons r' rr =>
      cases rr
      cases r
      cases r'
      obtain ⟨n, hn⟩ : ∃ n, n = s1.heap.objs.size := ⟨_, rfl⟩
      have fr : ∀ c, c ∈ [n + 4, n + 2, n + 3, n, n + 1] → FpOk X pins H1 c := fun c hcm => by
        have hle : s1.heap.objs.size ≤ c := by
          rcases five hcm with rfl | rfl | rfl | rfl | rfl <;> omega
        exact I1.fpOk hle (I1.hok.fresh hle)
      subst hn
      obtain ⟨its, rv, p1, _⟩ := I1.list hqx
      obtain ⟨its2, rv2, p2, _⟩ := I1.tuple hqy
      obtain ⟨o2, ho2, _⟩ := id p2
      refine zm_call p1.isList (show s1.heap.IsTuple b its2.toArray from p2) fun h' hz hTI hTO h1 h2 hk => wpAny_pyIter_zip hz ?_
      have I2 : Inv X pins σ H1 { s1 with heap := h' } := I1.kept (t' := s1.toks) hk
      exact ⟨s1.heap.objs.size + 4, [s1.heap.objs.size + 4, s1.heap.objs.size + 2, s1.heap.objs.size + 3, s1.heap.objs.size, s1.heap.objs.size + 1], _, _, H1, rfl, I2, turn_zm (PySem.W.ktu_apart s1.heap.objs.size a b p1.lt (Heap.lt_size ho2)), ⟨hz, hTI, ⟨_, _, hTO⟩, h1, h2⟩, fr, q⟩
end L2
namespace NV
open PySem PySem.Spec PyProof.Rows L2
section
variable {X : Cx} {a b : Expr} {ff : AF} {s : S} {K : PySem.W.Frag} {g : G} {st : Sto}
def zimR (st : Sto) (w w' : W) : Option (List W × List W × List (Nat × Nd)) := (seqR (.val w) st).bind fun q => w'.tupd.map fun ds => (q.1, ds.map .d, q.2)
/-- zip(list, tuple) -/
def iZm (ff : AF) : IF := fun s => (ff s).bind fun p => match p.1 with
  | [w, w'] => (zimR p.2.st w w').map fun q => (⟨yZip q.1 q.2.1, q.2.2⟩, p.2)
  | _ => none
theorem it_zm {ad bd : Addr} {ws : List W} {gd : List (Nat × Nd)} {vs' : List V} {ds' : List D} (h1 : Lvs K g st ad ws gd) (h1' : SqT K g.Φ bd vs') (h2' : DdL K g.Φ vs' ds') : ItOk K (Itzm K ad bd) g st ⟨yZip ws (ds'.map .d), gd⟩ := fun g' st' l o' gk i => by
  have o := o'.ok
  obtain ⟨vs, sq, hw⟩ := h1 g' st' l o' gk
  have sq' : SqT K g'.H bd vs' := SqT.mono' o.sub (SqT.mono' l.phi h1')
  refine ⟨fun hi => ⟨vs, vs', sq, sq', by
    rw [WrL.length hw, h2'.length]
    simp [yZip] at hi
    omega⟩, fun y hy => ?_⟩
  obtain ⟨w, w', hw1, hw', rfl⟩ := yZip_get hy
  rw [List.getElem?_map] at hw'
  obtain ⟨d', hd', rfl⟩ := Option.map_eq_some_iff.mp hw'
  obtain ⟨v, hv, q⟩ := WrL.get hw hw1
  obtain ⟨v', hv', q'⟩ := h2'.get hd'
  refine ⟨⟨vs, vs', v, v', sq, sq', hv, hv'⟩, fun x H' z => ?_⟩
  obtain ⟨T, y, y', rfl, hT, rfl, z, z'⟩ := z
  have := z vs sq
  rw [hv] at this
  cases this
  have := z' vs' sq'
  rw [hv'] at this
  cases this
  exact ⟨_, Ext.frz o hT, ⟨T, _, rfl, .inl (.inl upd_same), .cons (Wr.mono (Ext.frz o hT).phi ⟨[], by simp⟩ q) (.cons (Dd.mono (Ext.frz o hT).phi (Dd.mono l.phi q')) .nil)⟩⟩
theorem vi_zm {p tpos pos : Pos} {elts : List Expr} {kk : Nat} (hg : Gl X "zip") (hm : X.mg "zip" = none) (ha : VA X [a, b] ff)
    (hs : starEach [a, b] X.env = (false, eval a X.env) :: starEach [b] X.env := by rfl) (hpl : (backTo pos (starEach [b] X.env)).any (·.1) = false := by rfl) :
    VI X (.Tuple elts kk tpos) (.Call (.Name "zip" p) [a, b] [] pos) (iZm ff) := ⟨(pi_zm hg hm ha.pa hs hpl).imp fun σ H Q ⟨g, s, its, s', hgg, R, hf, k⟩ => by
  obtain ⟨⟨ws, s1⟩, e1, hf⟩ := Option.bind_eq_some_iff.mp hf
  dsimp only at hf
  split at hf
  · obtain ⟨⟨xs, ys, gd⟩, e2, hf⟩ := Option.map_eq_some_iff.mp hf
    cases hf
    subst hgg
    refine ⟨g, s, _, _, rfl, R, e1, fun vs g1 p1 R1 q1 => ?_⟩
    cases q1 with
    | cons q1 q2 =>
      cases q2 with
      | cons q2 q3 =>
        cases q3
        obtain ⟨⟨ws1, gd1⟩, e3, e2⟩ := Option.bind_eq_some_iff.mp e2
        obtain ⟨ds1, e4, e2⟩ := Option.map_eq_some_iff.mp e2
        cases e2
        obtain ⟨gk1, ad, rfl, lv1⟩ := seqR_okW R1.st q1 e3
        obtain ⟨bd, ys, rfl, h1', h2'⟩ := W.tupd_ok q2 e4
        obtain ⟨xs, h1, _⟩ := lv1 _ _ Step.refl R1.st gk1
        exact ⟨ad, bd, xs, ys, rfl, h1, SqT.mono' R1.st.sub h1', k _ g1 p1 R1 (it_zm lv1 h1' h2')⟩
  · cases hf⟩
end
end NV
namespace NV
open PySem PySem.Spec PyProof.Rows L2
section
variable {st : Sto} {ff : AF} {s : S}
def ZimK (st : Sto) (w w' : W) (Q : List W → List W → List (Nat × Nd) → Prop) : Prop := Ev (zimR st w w') fun q => Q q.1 q.2.1 q.2.2
@[simp ↓] theorem zim_k {w : W} {b : List D} {Q : List W → List W → List (Nat × Nd) → Prop} : ZimK st w (.d (.tup b)) Q ↔ SeqK (.val w) st fun xs gd => Q xs (b.map .d) gd := by
  unfold ZimK zimR SeqK
  simp [W.tupd]
@[simp ↓] theorem es_iZm {Y' : Itm → S → Prop} : Es (iZm ff s) Y' ↔ Es (ff s) fun ws s1 => TwoK ws fun w w' => ZimK s1.st w w' fun xs ys gd => Y' ⟨yZip xs ys, gd⟩ s1 := by
  simp only [iZm, es_ev, ev_bind']
  constructor <;> intro h <;> refine h.imp fun p h => ?_
  · split at h
    · rename_i w w' hw; exact ⟨w, w', hw, ev_map'.mp h⟩
    · exact (ev_none'.mp h).elim
  · obtain ⟨w, w', hw, h⟩ := h
    rw [hw]; exact ev_map'.mpr h
end
end NV

namespace NV
open PySem PySem.Spec PyProof.Rows L2
/-! ### an exception that is caught and kept -/
section
variable {X : Cx} {pins : List (Addr × Obj)} {σ : L2.St} {H : Hp} {s : Shared}
end
section
variable {X : Cx} {x n : Str} {c : Value} {i j : Nat} {body suite : List Stmt} {b₀ : Stmt} {np pos pos' : Pos} {tb : WX → TS} {Wout : WX}
end
/-! ### isinstance of such -/
section
variable {X : Cx}
end
end NV

namespace NV
open PySem PySem.Spec PyProof.Rows L2
/-! ### what may raise -/
inductive EO where
  | ok (r : R) (s : S) | ex (c : Str) (s : S)
inductive OX where
  | o (x : O) | ex (c : Str) (s : S)
inductive FO where
  | ok (r : R) (st : Sto) | ex (c : Str) (st : Sto)
abbrev EFX := S → Option EO
abbrev SFX := S → Option OX
abbrev FFX := List W → Sto → Option FO
section
variable (K : PySem.W.Frag)
abbrev cE (c : Str) : Value := .ref (He.ga K c)
def exW (g : G) (st : Sto) (W : WX) (c : Str) (s' : S) : Prop := ∀ σ' g', Step g st g' s'.st → Rel K g' σ' s' → W (cE K c) none σ' g'.H
def outE (g : G) (st : Sto) (σ : L2.St) (W : WX) (Q : VK) : EO → Prop
  | .ok r s' => ∀ v g', Step g st g' s'.st → Rel K g' σ s' → RR K g.H g' v r → Q v g'.H
  | .ex c s' => exW K g st W c s'
def outX (g : G) (st : Sto) (D : Ends) (W : WX) : OX → Prop
  | .o x => OutK K g st D x
  | .ex c s' => exW K g st W c s'
def upEX (W : WX) (f : EFX) : TE := fun σ H Q => ∃ g s o, g.H = H ∧ Rel K g σ s ∧ f s = some o ∧ outE K g s.st σ W Q o
def upSX (W : WX) (f : SFX) : TS := fun D σ H => ∃ g s o, g.H = H ∧ Rel K g σ s ∧ f s = some o ∧ outX K g s.st D W o
end
structure VEX (X : Cx) (W : WX) (e : Expr) (f : EFX) : Prop where
  pe : PE X e (upEX X.K W f)
structure VSX (X : Cx) (W : WX) (st : Stmt) (f : SFX) : Prop where
  ps : PS X st (upSX X.K W f)
structure VSsX (X : Cx) (W : WX) (st : List Stmt) (f : SFX) : Prop where
  pss : PSs X st (upSX X.K W f)
section
variable {X : Cx} {W : WX} {a b c e o : Expr} {es : List Expr} {fa fb fo : EFX} {f : EF} {ff : AF} {pos apos : Pos} {K : PySem.W.Frag} {g g1 : G} {v : V} {σ : L2.St} {s s1 : S} {st st1 : Sto} {D : Ends} {sm : Stmt} {sms sms' : List Stmt} {h1 h2 : SFX} {h : SF} {tc : TF}
theorem exW.step {c : Str} {s' : S} (o0 : StOk K g st) (o1 : StOk K g1 st1) (p : Step g st g1 st1) (h : exW K g st W c s') : exW K g1 st1 W c s' := fun σ' g' q R => h σ' g' (p.trans o0 o1 q) R
theorem outX.step {x : OX} (o0 : StOk K g st) (o1 : StOk K g1 st1) (p : Step g st g1 st1) (h : outX K g st D W x) : outX K g1 st1 D W x := by
  cases x with
  | o x => exact OutK.step o0 o1 p h
  | ex c s' => exact exW.step o0 o1 p h
theorem outE.step {Q : VK} {x : EO} (o0 : StOk K g st) (o1 : StOk K g1 st1) (p : Step g st g1 st1) (h : outE K g st σ W Q x) : outE K g1 st1 σ W Q x := by
  cases x with
  | ok r s' => exact fun v g' q R z => h v g' (p.trans o0 o1 q) R (z.back o0 p)
  | ex c s' => exact exW.step o0 o1 p h
/-! ### lifting -/
def eX (f : EF) : EFX := fun s => (f s).map fun p => .ok p.1 p.2
def sX (f : SF) : SFX := fun s => (f s).map .o
/-! ### statements -/
def sSeqX (h1 h2 : SFX) : SFX := fun s => (h1 s).bind fun o => match o with
  | .o (.nx s') => h2 s'
  | o => some o
def sIfX (t : TF) (h1 h2 : SFX) : SFX := fun s => (t s).bind fun p => if p.1 = true then h1 p.2 else h2 p.2
def sBindX (fa : EFX) (k : R → S → Option OX) : SFX := fun s => (fa s).bind fun o => match o with
  | .ok r s' => k r s'
  | .ex c s' => some (.ex c s')
def sExprX (fa : EFX) : SFX := sBindX fa fun _ s => some (.o (.nx s))
def sRetX (fa : EFX) : SFX := sBindX fa fun r s => some (.o (.rt r s))
def sAsgX (fa : EFX) (t : GF) : SFX := sBindX fa fun r s => r.w.bind fun w => (t (.one w) s).map fun s' => .o (.nx s')
def sAsgOX (fa : EFX) (t : GF) : SFX := sBindX fa fun r s => (t (.one (r.wo s.st).1) { s with st := (r.wo s.st).2 }).map fun s' => .o (.nx s')
/-- what a class of own must say to be raised -/
structure ExR (K : PySem.W.Frag) (mg : Str → Option Value) (c : Str) : Prop where
  q : PySem.W.excIn K (He.ga K c) [.type "ValueError", .type "Exception", .type "BaseException", .type "object"] "ValueError.__new__" = true
  g : mg c = some (.ref (He.ga K c))
  k : PySem.W.keepIn K (.ref (He.ga K c)) = true
  b : PySem.W.subIn K (.ref (He.ga K c)) (.type "BaseException") = some true
  t : PySem.W.typeIn K (.ref (He.ga K c)) = some (.type "type")
def sRaise (c : Str) : SFX := fun s => some (.ex c s)
/-! ### expressions over what may raise -/
def bindX (fa : EFX) (k : R → S → Option EO) : EFX := fun s => (fa s).bind fun o => match o with
  | .ok r s' => k r s'
  | .ex c s' => some (.ex c s')
def eIfX (t : TF) (fa fb : EFX) : EFX := fun s => (t s).bind fun p => if p.1 = true then fa p.2 else fb p.2
/-- e.f -/
def eFldX (c f : Str) (fa : EFX) : EFX := bindX fa fun r s => match r with
  | .val (.obj n) => (match s.st[n]? with
    | some (some (.ins c' fs)) => if c' = c then (fs.lookup f).map fun w => .ok (.val w) s else none
    | _ => none)
  | _ => none
/-- a builtin of one such argument -/
def eCaX (h : CaH) (fa : EFX) : EFX := bindX fa fun r s => (r.view s.st).bind fun u => (h [u]).map fun r' => .ok r' s
/-! ### calls -/
def foE (s : S) : FO → EO
  | .ok r st' => .ok r { s with st := st' }
  | .ex c st' => .ex c { s with st := st' }
def eMethX (c m : Str) (F : FFX) (fo : EFX) (ff : AF) : EFX := bindX fo fun r s => match r with
  | .val (.obj n) => (match s.st[n]? with
    | some (some (.ins c' fs)) => if c' = c ∧ fs.lookup m = none then (ff s).bind fun q => (F (.obj n :: q.1) q.2.st).map (foE q.2) else none
    | _ => none)
  | _ => none
/-! ### a def that may raise -/
def runX (n : Nat) (h : SFX) : FFX := fun ws st => (h ⟨ws.map some ++ List.replicate (n - ws.length) none, st⟩).bind fun o => match o with
  | .o (.nx s) => some (.ok (.val (.d .non)) s.st)
  | .o (.rt r s) => some (.ok r s.st)
  | .ex c s => some (.ex c s.st)
  | _ => none
def eCallX (F : FFX) (ff : AF) : EFX := fun s => (ff s).bind fun p => (F p.1 p.2.st).map (foE p.2)
/-! ### try -/
/-- this program's classes of refusals: their one ancestor of own -/
def exSub (c C : Str) : Bool := c == C || C == "StairError"
def sTryK (cs : List Str) (C : Str) (i j : Nat) (hb : SFX) : SF := fun s => (hb s).bind fun o => match o with
  | .o x => some x
  | .ex c s' => if c ∈ cs ∧ exSub c C = true then some (.nx { s' with sl := ((s'.sl.set i (some (.d (.exc c)))).set j (some (.d (.exc c)))).set i none }) else none
/-! ### isinstance -/
structure ExI (K : PySem.W.Frag) (c : Str) : Prop where
  a : ExcC K (He.ga K c)
  v : PySem.W.kitOne K (.ref (He.ga K c)) (.type "ValueError") = some true
/-- of own classes -/
structure VCs (X : Cx) (es : List Expr) (Cs : List Str) : Prop where
  pa : PA X es (fun _ H Q => Q (Cs.map fun C => .ref (He.ga X.K C)) H)
def exOf (cs : List Str) : R → Option Str
  | .val (.d (.exc c)) => if c ∈ cs then some c else none
  | _ => none
/-- isinstance(e, C), e a kept exception of one of the classes cs -/
def eIsX (cs Cs : List Str) (fe : EF) : EF := fun s => (fe s).bind fun p => (exOf cs p.1).map fun c => (.val (.d (.bl (Cs.any (exSub c)))), p.2)
def eIsV (cs : List Str) (fe : EF) : EF := fun s => (fe s).bind fun p => (exOf cs p.1).map fun _ => (.val (.d (.bl true)), p.2)
variable {fe : EF} {cs Cs : List Str}
theorem exOf_eq {r : R} {c : Str} (h : exOf cs r = some c) : r = .val (.d (.exc c)) ∧ c ∈ cs := by
  unfold exOf at h
  split at h
  · split at h
    · rename_i hc; cases h; exact ⟨rfl, hc⟩
    · cases h
  · cases h
end
end NV

namespace NV
open PySem PySem.Spec PyProof.Rows L2
/-! ### what may raise: evaluation -/
/-- this program's refusals without an __init__ of own -/
def csA : List Str := ["There", "NotThere", "NoShelf", "NoStair"]
def Esx (o : Option EO) (Q : R → S → Prop) (Qx : Str → S → Prop) : Prop := ∃ x, o = some x ∧ match x with
  | .ok r s => Q r s
  | .ex c s => Qx c s
def Evx (o : Option FO) (Q : R → Sto → Prop) (Qx : Str → Sto → Prop) : Prop := ∃ x, o = some x ∧ match x with
  | .ok r s => Q r s
  | .ex c s => Qx c s
def Eox (o : Option OX) (Qn : S → Prop) (Qr : R → S → Prop) (Qb Qc : S → Prop) (Qx : Str → S → Prop) : Prop := ∃ x, o = some x ∧ match x with
  | .o (.nx s) => Qn s
  | .o (.rt r s) => Qr r s
  | .o (.bk s) => Qb s
  | .o (.ct s) => Qc s
  | .ex c s => Qx c s
def ExcK (cs : List Str) (x : R) (B : Str → Prop) : Prop := ∃ c, x = .val (.d (.exc c)) ∧ c ∈ cs ∧ B c
section
variable {s : S} {sl : List (Option W)} {st : Sto} {fe : EF} {fa fb fo : EFX} {f : EF} {ff : AF} {ta : TF} {Q : R → S → Prop} {Qx x : Str → S → Prop} {n : S → Prop} {r : R → S → Prop} {b c : S → Prop} {h1 h2 : SFX} {h : SF} {cs Cs : List Str} {C m : Str} {k : Str}
theorem Evx.imp {o : Option FO} {Q Q' : R → Sto → Prop} {X X' : Str → Sto → Prop} (h : Evx o Q X) (w : ∀ r s, Q r s → Q' r s) (w2 : ∀ c s, X c s → X' c s) : Evx o Q' X' := by
  obtain ⟨y, h1, h2⟩ := h
  refine ⟨y, h1, ?_⟩
  cases y with
  | ok r s => exact w _ _ h2
  | ex c s => exact w2 _ _ h2
@[simp ↓] theorem esx_eX : Esx (eX f s) Q Qx ↔ Es (f s) Q := by
  unfold Esx eX
  rw [es_ev]
  cases hf : f s with
  | none => simp [Ev]
  | some p => simp [Ev]
@[simp ↓] theorem eox_sX : Eox (sX h s) n r b c x ↔ Eo (h s) n r b c := by
  unfold Eox sX Eo
  cases hf : h s with
  | none => simp
  | some p => cases p <;> simp
@[simp ↓] theorem eox_seq : Eox (sSeqX h1 h2 s) n r b c x ↔ Eox (h1 s) (fun s' => Eox (h2 s') n r b c x) r b c x := by
  unfold sSeqX
  cases hf : h1 s with
  | none => simp [Eox]
  | some p =>
    cases p with
    | ex c' s' => simp [Eox]
    | o y => cases y <;> simp [Eox]
@[simp ↓] theorem eox_if : Eox (sIfX ta h1 h2 s) n r b c x ↔ Es (ta s) fun y s1 => IteK y (Eox (h1 s1) n r b c x) (Eox (h2 s1) n r b c x) := by
  unfold sIfX IteK
  rw [es_ev]
  cases hf : ta s with
  | none => simp [Eox, Ev]
  | some p => cases hp : p.1 <;> simp [Ev, hp]
theorem eox_bind {k : R → S → Option OX} : Eox (sBindX fa k s) n r b c x ↔ Esx (fa s) (fun y s1 => Eox (k y s1) n r b c x) x := by
  unfold sBindX Esx
  cases hf : fa s with
  | none => simp [Eox]
  | some p => cases p <;> simp [Eox]
@[simp ↓] theorem eox_expr : Eox (sExprX fa s) n r b c x ↔ Esx (fa s) (fun _ s1 => n s1) x := by
  unfold sExprX
  rw [eox_bind]
  simp [Eox]
@[simp ↓] theorem eox_ret : Eox (sRetX fa s) n r b c x ↔ Esx (fa s) (fun y s1 => r y s1) x := by
  unfold sRetX
  rw [eox_bind]
  simp [Eox]
@[simp ↓] theorem eox_asg {t : GF} : Eox (sAsgX fa t s) n r b c x ↔ Esx (fa s) (fun y s1 => RwK y fun w => Ev (t (.one w) s1) n) x := by
  unfold sAsgX
  rw [eox_bind]
  have e : ∀ (y : R) (s1 : S), Eox (y.w.bind fun w => (t (.one w) s1).map fun s' => .o (.nx s')) n r b c x ↔ RwK y fun w => Ev (t (.one w) s1) n := fun y s1 => by
    unfold RwK Ev
    cases hw : y.w with
    | none => simp [Eox]
    | some w =>
      cases ht : t (.one w) s1 with
      | none => simp [Eox, ht]
      | some s' => simp [Eox, ht]
  simp only [e]
@[simp ↓] theorem eox_asgO {t : GF} : Eox (sAsgOX fa t s) n r b c x ↔ Esx (fa s) (fun y s1 => RwoK y s1.st fun w st' => Ev (t (.one w) ⟨s1.sl, st'⟩) n) x := by
  unfold sAsgOX
  rw [eox_bind]
  have e : ∀ (y : R) (s1 : S), Eox ((t (.one (y.wo s1.st).1) { s1 with st := (y.wo s1.st).2 }).map fun s' => .o (.nx s')) n r b c x ↔ RwoK y s1.st fun w st' => Ev (t (.one w) ⟨s1.sl, st'⟩) n := fun y s1 => by
    unfold RwoK Ev
    cases ht : t (.one (y.wo s1.st).1) ⟨s1.sl, (y.wo s1.st).2⟩ with
    | none => simp [Eox, ht]
    | some s' => simp [Eox, ht]
  simp only [e]
@[simp ↓] theorem eox_raise : Eox (sRaise k s) n r b c x ↔ x k s := by simp [Eox, sRaise]
theorem esx_congr {o : Option EO} {Q Q' : R → S → Prop} (h : ∀ y s1, Q y s1 ↔ Q' y s1) : Esx o Q Qx ↔ Esx o Q' Qx := by
  have e : Q = Q' := by funext y s1; exact propext (h y s1)
  rw [e]
theorem esx_bind {k : R → S → Option EO} : Esx (bindX fa k s) Q Qx ↔ Esx (fa s) (fun y s1 => Esx (k y s1) Q Qx) Qx := by
  unfold bindX
  cases hf : fa s with
  | none => simp [Esx]
  | some p => cases p <;> simp [Esx]
@[simp ↓] theorem esx_if : Esx (eIfX ta fa fb s) Q Qx ↔ Es (ta s) fun y s1 => IteK y (Esx (fa s1) Q Qx) (Esx (fb s1) Q Qx) := by
  unfold eIfX IteK
  rw [es_ev]
  cases hf : ta s with
  | none => simp [Esx, Ev]
  | some p => cases hp : p.1 <;> simp [Ev, hp]
@[simp ↓] theorem esx_fld : Esx (eFldX C m fa s) Q Qx ↔ Esx (fa s) (fun p s1 => ObjK p fun n => GetK s1.st n fun o => SoK o fun nd => FldK nd C m fun w => Q (.val w) s1) Qx := by
  unfold eFldX
  refine esx_bind.trans (esx_congr fun p s1 => ?_)
  · constructor
    · rintro ⟨y, h, q⟩
      split at h
      · rename_i n
        split at h
        · rename_i c' fs hn
          split at h
          · rename_i hc
            subst hc
            obtain ⟨w, e, rfl⟩ := Option.map_eq_some_iff.mp h
            exact ⟨n, rfl, _, hn, _, rfl, fs, w, rfl, e, q⟩
          · cases h
        · cases h
      · cases h
    · rintro ⟨n, rfl, o, hn, nd, rfl, fs, w, rfl, e, q⟩
      dsimp only
      rw [hn]
      dsimp only
      rw [if_pos rfl, e]
      exact ⟨_, rfl, q⟩
@[simp ↓] theorem esx_ca {g : CaH} : Esx (eCaX g fa s) Q Qx ↔ Esx (fa s) (fun p s1 => ViewK p s1.st fun u => Ev (g [u]) fun r' => Q r' s1) Qx := by
  unfold eCaX
  rw [esx_bind]
  have e : ∀ (p : R) (s1 : S), Esx ((p.view s1.st).bind fun u => (g [u]).map fun r' => .ok r' s1) Q Qx ↔ ViewK p s1.st fun u => Ev (g [u]) fun r' => Q r' s1 := fun p s1 => by
    unfold ViewK Ev
    cases hv : p.view s1.st with
    | none => simp [Esx]
    | some u =>
      cases hg : g [u] with
      | none => simp [Esx, hg]
      | some r' => simp [Esx, hg]
  simp only [e]
theorem esx_fo {o : Option FO} : Esx (o.map (foE s)) Q Qx ↔ Evx o (fun r st' => Q r ⟨s.sl, st'⟩) (fun c st' => Qx c ⟨s.sl, st'⟩) := by
  cases o with
  | none => simp [Esx, Evx]
  | some y => cases y <;> simp [Esx, Evx, foE]
@[simp ↓] theorem esx_meth {F : FFX} : Esx (eMethX C m F fo ff s) Q Qx ↔ Esx (fo s) (fun p s1 => ObjK p fun k => GetK s1.st k fun o => SoK o fun nd => MethK nd C m ∧ Es (ff s1) fun ws s2 => Evx (F (.obj k :: ws) s2.st) (fun r st' => Q r ⟨s2.sl, st'⟩) (fun c st' => Qx c ⟨s2.sl, st'⟩)) Qx := by
  unfold eMethX
  refine esx_bind.trans (esx_congr fun p s1 => ?_)
  · constructor
    · intro h
      split at h
      · rename_i n
        split at h
        · rename_i c' fs hn
          split at h
          · rename_i hc
            obtain ⟨rfl, hm⟩ := hc
            refine ⟨n, rfl, _, hn, _, rfl, ⟨fs, rfl, hm⟩, ?_⟩
            rw [es_ev]
            cases hf : ff s1 with
            | none =>
              rw [hf] at h
              obtain ⟨_, h, _⟩ := h; cases h
            | some q =>
              rw [hf] at h
              exact ⟨q, rfl, esx_fo.mp h⟩
          · obtain ⟨_, h, _⟩ := h; cases h
        · obtain ⟨_, h, _⟩ := h; cases h
      · obtain ⟨_, h, _⟩ := h; cases h
    · rintro ⟨n, rfl, o, hn, nd, rfl, ⟨fs, rfl, hm⟩, h⟩
      dsimp only
      rw [hn]
      dsimp only
      rw [if_pos ⟨rfl, hm⟩]
      rw [es_ev] at h
      obtain ⟨q, e, h⟩ := h
      rw [e]
      exact esx_fo.mpr h
@[simp ↓] theorem esx_callX {F : FFX} : Esx (eCallX F ff s) Q Qx ↔ Es (ff s) fun ws s2 => Evx (F ws s2.st) (fun r st' => Q r ⟨s2.sl, st'⟩) (fun c st' => Qx c ⟨s2.sl, st'⟩) := by
  unfold eCallX
  rw [es_ev]
  cases hf : ff s with
  | none => simp [Esx, Ev]
  | some q => simp only [Ev, Option.bind_some, Option.some.injEq, exists_eq_left']; exact esx_fo
@[simp ↓] theorem evx_runX {k : Nat} {ws : List W} {B : R → Sto → Prop} {Bx : Str → Sto → Prop} : Evx (runX k h1 ws st) B Bx ↔ PadK k ws fun sl => Eox (h1 ⟨sl, st⟩) (fun s => B (.val (.d .non)) s.st) (fun r s => B r s.st) (fun _ => False) (fun _ => False) (fun c s => Bx c s.st) := by
  unfold runX PadK
  cases hf : h1 ⟨ws.map some ++ List.replicate (k - ws.length) none, st⟩ with
  | none => simp [Evx, Eox, hf]
  | some p =>
    cases p with
    | ex c' s' => simp [Evx, Eox, hf]
    | o y => cases y <;> simp [Evx, Eox, hf]
@[simp ↓] theorem eo_try {i j : Nat} : Eo (sTryK cs C i j h1 s) n r b c ↔ Eox (h1 s) n r b c (fun c' s' => (c' ∈ cs ∧ exSub c' C = true) ∧ SetK s'.sl i (some (.d (.exc c'))) fun l1 => SetK l1 j (some (.d (.exc c'))) fun l2 => SetK l2 i none fun l3 => n ⟨l3, s'.st⟩) := by
  unfold sTryK SetK
  cases hf : h1 s with
  | none => simp [Eo, Eox]
  | some p =>
    cases p with
    | ex c' s' =>
      by_cases hc : c' ∈ cs ∧ exSub c' C = true
      · simp [Eo, Eox, hc]
      · simp [Eo, Eox, hc]
    | o y => cases y <;> simp [Eo, Eox]
@[simp ↓] theorem exck {B : Str → Prop} : ExcK cs (.val (.d (.exc k))) B ↔ k ∈ cs ∧ B k := ⟨(fun ⟨c, h1, h2, h3⟩ => by cases h1; exact ⟨h2, h3⟩), fun h => ⟨k, rfl, h.1, h.2⟩⟩
theorem ev_exOf {y : R} {B : Str → Prop} : Ev (exOf cs y) B ↔ ExcK cs y B := by
  constructor
  · rintro ⟨c, h, q⟩
    obtain ⟨e, hc⟩ := exOf_eq h
    exact ⟨c, e, hc, q⟩
  · rintro ⟨c, rfl, hc, q⟩
    exact ⟨c, if_pos hc, q⟩
@[simp ↓] theorem es_isX : Es (eIsX cs Cs fe s) Q ↔ Es (fe s) fun y s1 => ExcK cs y fun c => Q (bR (Cs.any (exSub c))) s1 := by
  simp only [eIsX, es_ev, ev_bind', ev_map', ev_exOf]
@[simp ↓] theorem es_isV : Es (eIsV cs fe s) Q ↔ Es (fe s) fun y s1 => ExcK cs y fun c => Q (bR true) s1 := by
  simp only [eIsV, es_ev, ev_bind', ev_map', ev_exOf]
@[simp ↓] theorem view_exc {B : Vu → Prop} : ViewK (.val (.d (.exc k))) st B ↔ B (.at (.exc k)) := ev_some'
@[simp ↓] theorem hIs_exc {P : R → Prop} : Ev (hIs (.at (.exc k)) (.at .non)) P ↔ P (bR false) := by simp [hIs, isNon]
@[simp ↓] theorem hIsNot_exc {P : R → Prop} : Ev (hIsNot (.at (.exc k)) (.at .non)) P ↔ P (bR true) := by simp [hIsNot, isNon]
end
/-! ### the facts -/
end NV

namespace NV
open PySem PySem.Spec PyProof.Rows L2
/-! ### l.count(x), l.index(x), l a list of data, not changed -/
section
variable {X : Cx} {e o : Expr} {es : List Expr} {fa fo fk : EF} {ff : AF} {s : S} {st : Sto} {Q : R → S → Prop} {apos cpos : Pos} {K : PySem.W.Frag} {g : G} {v : V}
/-- the data of a list that is looked at, of an argument -/
def lpy (st : Sto) (r : R) : Option (List PyData) := (r.view st).bind fun u => match u with
  | .lst ws => (dats ws).bind D.pys
  | _ => none
def apy : List W → Option PyData
  | [.d x] => D.py x
  | _ => none
/-! evaluation -/
def LpyK (st : Sto) (r : R) (B : List PyData → Prop) : Prop := Ev (lpy st r) B
def ApyK (ws : List W) (B : PyData → Prop) : Prop := Ev (apy ws) B
end
end NV

namespace NV
open PySem PySem.Spec PyProof.Rows L2
/-! ### d.pop(k, x), k may be None -/
section
variable {X : Cx} {pins : List (Addr × Obj)} {σ : L2.St} {H : Hp} {s : Shared} {a : Addr} {kvs : List (Key × V)} {A : Around} {E : Value → Shared → Prop}
end
section
variable {X : Cx} {o e f : Expr} {apos cpos : Pos} {td ty tx : TE}
end
section
variable {X : Cx} {a b c e o value : Expr} {es : List Expr} {fa fb fc f fo fv fk fx : EF} {ff : AF} {pos pos' apos cpos : Pos} {K : PySem.W.Frag} {g g1 : G} {v : V} {σ : L2.St} {s s1 : S} {st st1 : Sto}
def eDPopN (fo fk fx : EF) : EF := fun s => (fo s).bind fun p => match p.1 with
  | .val (.obj n) => (match p.2.st[n]? with
    | some (some (.dct _)) => (fk p.2).bind fun q => (fx q.2).bind fun z => (match z.2.st[n]? with
      | some (some (.dct kws)) => (q.1.view z.2.st).bind fun u => match u with
        | .at .non => some (z.1, z.2)
        | u => u.key.map fun k => match look kws k with
          | some w => (.val w, { z.2 with st := z.2.st.set n (some (.dct (dropW kws k))) })
          | none => (z.1, z.2)
      | _ => none)
    | _ => none)
  | _ => none
def KeyN (u : Vu) (A : Prop) (B : Vu → Prop) : Prop := match u with
  | .at .non => A
  | u => B u
@[simp ↓] theorem keyN_non {A : Prop} {B : Vu → Prop} : KeyN (.at .non) A B ↔ A := Iff.rfl
@[simp ↓] theorem keyN_int {A : Prop} {B : Vu → Prop} {i : Int} : KeyN (.at (.int i)) A B ↔ B (.at (.int i)) := Iff.rfl
@[simp ↓] theorem keyN_str {A : Prop} {B : Vu → Prop} {i : Str} : KeyN (.at (.str i)) A B ↔ B (.at (.str i)) := Iff.rfl
end
section
variable {fo fk fx : EF} {s : S} {Q : R → S → Prop}
@[simp ↓] theorem es_eDPopN : Es (eDPopN fo fk fx s) Q ↔ Es (fo s) fun p s1 => ObjK p fun k => GetK s1.st k fun o => SoK o fun nd => DctK nd fun _ => Es (fk s1) fun q s2 => Es (fx s2) fun x s3 => GetK s3.st k fun o => SoK o fun nd => DctK nd fun kws => ViewK q s3.st fun u => KeyN u (Q x s3) fun u => KeyK u fun ky => DropK kws ky k s3.st x fun w st2 => Q w ⟨s3.sl, st2⟩ := by
  simp only [eDPopN, es_ev, ev_bind']
  constructor <;> intro h0 <;> refine h0.imp fun p h => ?_
  · split at h
    · rename_i k hp
      split at h
      · rename_i kws0 hn0
        refine ⟨k, hp, _, hn0, _, rfl, kws0, rfl, (ev_bind'.mp h).imp fun q h => (ev_bind'.mp h).imp fun z h => ?_⟩
        split at h
        · rename_i kws hn
          refine ⟨_, hn, _, rfl, kws, rfl, (ev_bind'.mp h).imp fun u h => ?_⟩
          unfold KeyN
          split at h
          · obtain ⟨a, ha, hq⟩ := h
            cases ha
            exact hq
          · refine (ev_map'.mp h).imp fun ky h => ?_
            unfold DropK
            cases e : look kws ky <;> rw [e] at h <;> exact h
        · exact (ev_none'.mp h).elim
      · exact (ev_none'.mp h).elim
    · exact (ev_none'.mp h).elim
  · obtain ⟨k, hp, o, hn0, nd, rfl, kws0, rfl, h⟩ := h
    rw [hp]; dsimp only; rw [hn0]; dsimp only
    refine ev_bind'.mpr (h.imp fun q h => ev_bind'.mpr (h.imp fun z h => ?_))
    obtain ⟨o, hn, nd, rfl, kws, rfl, h⟩ := h
    rw [hn]; dsimp only
    refine ev_bind'.mpr (h.imp fun u h => ?_)
    unfold KeyN at h
    split at h
    · exact ⟨_, rfl, h⟩
    · refine ev_map'.mpr (h.imp fun ky h => ?_)
      unfold DropK at h
      cases e : look kws ky <;> rw [e] at h <;> exact h
end
end NV

namespace NV
open PySem PySem.Spec PyProof.Rows L2
/-! ### t * n for n = 0, 1 (t no empty tuple) -/
section
variable {X : Cx} {K : PySem.W.Frag} {g : G} {P : R → Prop} {ws : List W} {k : Int}
def hRep1 : OpH
  | .tup ws, .at (.int k) => (dats ws).bind fun ds => if ds ≠ [] ∧ (k = 0 ∨ k = 1) then some (.val (.d (.tup (if k = 1 then ds else [])))) else none
  | _, _ => none
@[simp ↓] theorem rep_1 : Ev (hRep1 (.tup ws) (.at (.int k))) P ↔ DatsK ws fun ds => (ds ≠ [] ∧ (k = 0 ∨ k = 1)) ∧ P (.val (.d (.tup (if k = 1 then ds else [])))) := by
  simp only [hRep1, ev_bind', ev_ite', ev_none', ev_some', DatsK]
  constructor <;> intro h0 <;> refine h0.imp fun p h => ?_
  · split at h
    · rename_i hl; exact ⟨hl, h⟩
    · exact h.elim
  · rw [if_pos h.1]; exact h.2
end
end NV

namespace NV
open PySem PySem.Spec PyProof.Rows L2
/-! ### C(text) as a value, C an own refusal -/
section
variable {X : Cx} {K : PySem.W.Frag}
def eExc (c : Str) (f : EF) : EF := fun s => (f s).map fun p => (.val (.d (.exc c)), p.2)
end
section
variable {s : S} {f : EF} {Q : R → S → Prop} {c : Str}
@[simp ↓] theorem es_eExc : Es (eExc c f s) Q ↔ Es (f s) fun _ s1 => Q (.val (.d (.exc c))) s1 := by simp [eExc, es_ev]
end
end NV
namespace NV
open PySem PySem.Spec PyProof.Rows L2
section
variable {X : Cx} {P pos : Pos} {k : Nat} {ps : List Str} {x : Str} {F : FF}
end
end NV

namespace NV
open PySem PySem.Spec PyProof.Rows L2
/-! ### defs asked where nothing is being shown (str of lists looks at that) -/
structure Rg (k : Nat) (A : Around) : Prop extends L2.Room k A where
  gd : A.guards = some []
theorem Rg.mono {j k : Nat} {A : Around} (h : Rg k A) (l : j ≤ k) : Rg j A := ⟨h.toRoom.mono l, h.gd⟩
theorem Rg.deeper {k : Nat} {A : Around} (h : Rg (k + 1) A) (e : Env) : Rg k (A.deeper e) := ⟨h.toRoom.deeper e, h.gd⟩
structure FnG (Pr : Program) (wo : World) (K : PySem.W.Frag) (mg : Str → Option Value) (bs : Heap) (C : CXT) (n : Nat) (at_ : Addr) (fn : FuncData) (names : List Str) (pr : Sp) : Prop where
  size : ∀ us H Q E, pr us H Q E → us.length = names.length
  go : ∀ (A : Around) (up : List Env) (sh : Shared) (H : Hp) (ar : Args) (ys : List Value) (us : List V) (Q : VK) (E : XK), Rg n A → Env0 Pr wo K mg bs A up sh H → BindsTo sh fn ar (names.zip ys) → Vals us ys → pr us H Q E →
    codeAny (model Pr wo) A (.call (.ref at_) ar) (CR C up Pr wo H sh Q E) sh
section
variable {X : Cx} {C : CXT} {n : Nat} {at_ : Addr} {fn : FuncData} {names : List Str} {pr : Sp} {E : XK} {x : Str} {np cp : Pos} {a : Expr} {as : List Expr} {T : TA}
end
section
variable {X : Cx} {e : Expr} {es : List Expr} {ff : AF} {pos P : Pos} {k n : Nat} {ps : List Str} {x : Str} {F : FF}
end
end NV

namespace NV
open PySem PySem.Spec PyProof.Rows L2
/-! ### the law's end, where nothing is being shown -/
section
variable {Pr : Program} {wo : World} {K : PySem.W.Frag} {mg mb : Str → Option Value} {C : CXT} {n : Nat} {fa sc : Addr} {fn : FuncData} {x : Str} {pr : Sp} {s1 : Shared} {ys : List Value} {ns : List Int}
end
end NV

namespace NV
open PySem PySem.Spec PyProof.Rows L2
/-! ### str of lists and tuples of data -/
section
variable {X : Cx}
end
/-! ### evaluation -/
end NV

namespace NV
open PySem PySem.Spec PyProof.Rows L2
/-! ### a lambda of one parameter that looks a dict up: key=lambda p: (d[p], p) -/
structure LamP (sc scope : Scope) (d p : Str) : Prop where
  kind : scope.kind = .function
  co : scope.isCoroutine = false
  gen : scope.isGenerator = false
  noc : ∀ y ∈ scope.names, y.2 ≠ .cell
  own : ∀ y ∈ scope.names, y.2 = .local → y.1 = p
  free : ∀ y ∈ scope.names, y.2 = .free → sc.names.lookup y.1 = some .cell ∨ sc.names.lookup y.1 = some .free
  par : scope.names.lookup p = some .local
  dic : scope.names.lookup d = some .free
theorem LamP.has {X : Cx} {scope : Scope} {d p : Str} (L : LamP X.env.scope scope d p) (ok : X.Ok) : ∀ y ∈ scope.names, y.2 = .free → ∃ c, X.env.cells.lookup y.1 = some c := fun y hy e => by
  rcases L.free y hy e with k | k
  · exact ok.has _ (.inl k)
  · exact ok.has _ (.inr k)
section
variable {X : Cx} {pins : List (Addr × Obj)} {σ : L2.St} {H : Hp} {s : Shared}
/-- the greatest by (kf x, x), the first such -/
def bestK (kf : Int → Int) : List Int → Int
  | [] => 0
  | x :: xs => xs.foldl (fun a y => if ltL [kf a, a] [kf y, y] = true then y else a) x
end
end NV

namespace NV
open PySem PySem.Spec PyProof.Rows L2
/-! ### the lambda is made: its code object is new, or in the table -/
section
variable {X : Cx} {pins : List (Addr × Obj)} {σ : L2.St} {H : Hp} {s : Shared}
end
/-! ### what the top shows of a def's table -/
/-! ### max(xs, key=lambda p: (d[p], p)) -/
def intAt (kws : List (Key × W)) (k : Int) : Option Int := match look kws (.inl k) with
  | some (.d (.int m)) => some m
  | _ => none
/-- the table of x is the store's first thing; slot i holds the dict -/
def eMaxL (x q : Str) (i : Nat) (ff : EF) : EF := fun s => (ff s).bind fun p => (p.1.view p.2.st).bind fun u => u.lw.bind fun ws => (intsW ws).bind fun ns => match p.2.st[(0 : Nat)]? with
  | some (some (.tab x' q')) => (match p.2.sl[i]? with
    | some (some (.obj n)) => (match p.2.st[n]? with
      | some (some (.dct kws)) => if x' = x ∧ q' = q ∧ ns ≠ [] ∧ (ns.all fun k => (intAt kws k).isSome) = true then some (iR (bestK (fun k => (intAt kws k).getD 0) ns), p.2) else none
      | _ => none)
    | _ => none)
  | _ => none
section
variable {X : Cx} {e : Expr} {ff : EF}
end
end NV

namespace NV
open PySem PySem.Spec PyProof.Rows L2
/-! ### calls of defs that need the table: data, or one mutable thing and data; the table goes along -/
section
variable {K : PySem.W.Frag}
end
def isTab (x q : Str) : Option (Option Nd) → Bool
  | some (some (.tab x' q')) => decide (x' = x) && decide (q' = q)
  | _ => false
theorem isTab_eq {x q : Str} {o : Option (Option Nd)} (h : isTab x q o = true) : o = some (some (.tab x q)) := by
  unfold isTab at h
  split at h
  · obtain ⟨h1, h2⟩ := He.ba h
    rw [of_decide_eq_true h1, of_decide_eq_true h2]
  · cases h
def callPT (x q : Str) (F : FF) (ds : List D) : Option R := (F (ds.map .d) [some (.tab x q)]).bind fun p => if isTab x q p.2[(0 : Nat)]? = true then p.1.pure 1 p.2 else none
def eCallPT (x q : Str) (j : Nat) (F : FF) (ff : AF) : EF := fun s => (ff s).bind fun p => (dats p.1).bind fun ds => if isTab x q p.2.st[j]? = true then (callPT x q F ds).map fun r => (r, p.2) else none
def callBT (x q : Str) (F : FF) (ws : List W) (nd : Nd) : Option (R × Nd) := (F ws [some nd, some (.tab x q)]).bind fun p => if isTab x q p.2[(1 : Nat)]? = true then (p.1.pure 2 p.2).bind fun r => match p.2[(0 : Nat)]? with
  | some (some nd') => if nd'.dat.isSome = true then some (r, nd') else none
  | _ => none else none
def eCallBT (x q : Str) (j : Nat) (F : FF) (ff : AF) : EF := fun s => (ff s).bind fun p => (argB p.1).bind fun b => if isTab x q p.2.st[j]? = true then (match p.2.st[b.1]? with
  | some (some nd) => if nd.dat.isSome = true then (callBT x q F b.2 nd).map fun r => (r.1, { p.2 with st := p.2.st.set b.1 (some r.2) }) else none
  | _ => none) else none
section
variable {X : Cx} {es : List Expr} {ff : AF} {x q : Str} {j : Nat}
end
section
variable {X : Cx} {e : Expr} {es : List Expr} {ff : AF} {pos P : Pos} {k n j : Nat} {ps : List Str} {x xt qt : Str} {F : FF}
end
end NV

namespace NV
open PySem PySem.Spec PyProof.Rows L2
/-! ### a def that makes a lambda -/
/-! ### what is looked at behind the module's run: the tables besides -/
structure SaysY (fa : List He.Fa) (fn : List He.DefD) (ts : List He.Tab) (ex : PySem.W.Frag → Bool) (tf : List Str) (w : World) (h : Heap) (K : PySem.W.Frag) : Prop where
  v : SaysV fa fn ts ex w K
  tab : ∀ x ∈ tf, K.lookup (He.cT K (x, none)).2 = none ∧ h.get? (He.cT K (x, none)).2 = some { cls := .none, data := .fields #[] }
end NV

namespace NV
open PySem PySem.Spec PyProof.Rows L2
/-! ### the law's end, with one table of code objects at hand -/
section
variable {Pr : Program} {wo : World} {K : PySem.W.Frag} {mg mb : Str → Option Value} {C : CXT} {n : Nat} {fa sc cc tb : Addr} {fn : FuncData} {x : Str} {pr : Sp} {s1 : Shared} {ys : List Value} {ns : List Int}
end
end NV

namespace NV
open PySem PySem.Spec PyProof.Rows L2
/-! ### evaluation -/
section
variable {s : S} {ff : EF} {fa : AF} {x q : Str} {i j : Nat} {F : FF}
@[simp] theorem isTab_s : isTab x q (some (some (.tab x q))) = true := by simp [isTab]
@[simp ↓] theorem es_eCallPT {Q : R → S → Prop} : Es (eCallPT x q j F fa s) Q ↔ Es (fa s) fun ws s1 => DatsK ws fun ds => isTab x q s1.st[j]? = true ∧ Ev (callPT x q F ds) fun r => Q r s1 := by
  simp only [eCallPT, es_ev, ev_bind', DatsK]
  constructor <;> intro h <;> refine h.imp fun p h => h.imp fun ds h => ?_
  · rw [ev_ite'] at h
    split at h
    · rename_i hd
      exact ⟨hd, ev_map'.mp h⟩
    · exact (ev_none'.mp h).elim
  · obtain ⟨h1, h2⟩ := h
    rw [if_pos h1]
    exact ev_map'.mpr h2
@[simp ↓] theorem es_eCallBT {Q : R → S → Prop} : Es (eCallBT x q j F fa s) Q ↔ Es (fa s) fun ws s1 => Ev (argB ws) fun b => isTab x q s1.st[j]? = true ∧ GetK s1.st b.1 fun o => SoK o fun nd => nd.dat.isSome = true ∧ Ev (callBT x q F b.2 nd) fun r => SetK s1.st b.1 (some r.2) fun st' => Q r.1 ⟨s1.sl, st'⟩ := by
  simp only [eCallBT, es_ev, ev_bind']
  constructor <;> intro h <;> refine h.imp fun p h => h.imp fun b h => ?_
  · rw [ev_ite'] at h
    split at h
    · rename_i ht
      refine ⟨ht, ?_⟩
      split at h
      · rename_i nd hn
        rw [ev_ite'] at h
        split at h
        · rename_i hd
          exact ⟨_, hn, _, rfl, hd, ev_map'.mp h⟩
        · exact (ev_none'.mp h).elim
      · exact (ev_none'.mp h).elim
    · exact (ev_none'.mp h).elim
  · obtain ⟨h1, o, hn, nd, rfl, hd, h⟩ := h
    rw [if_pos h1, hn]
    dsimp only
    rw [if_pos hd]
    exact ev_map'.mpr h
def ObwK (w : W) (Q : Nat → Prop) : Prop := ∃ n, w = .obj n ∧ Q n
@[simp ↓] theorem obwk {n : Nat} {Q : Nat → Prop} : ObwK (.obj n) Q ↔ Q n := ⟨fun ⟨_, e, h⟩ => by cases e; exact h, fun h => ⟨_, rfl, h⟩⟩
@[simp ↓] theorem es_eMaxL {Q : R → S → Prop} : Es (eMaxL x q i ff s) Q ↔ Es (ff s) fun r s1 => ViewK r s1.st fun u => LwK u fun ws => Ev (intsW ws) fun ns => isTab x q s1.st[(0 : Nat)]? = true ∧ GetK s1.sl i fun o => SoK o fun w => ObwK w fun n => GetK s1.st n fun o' => SoK o' fun nd => DctK nd fun kws =>
    (ns ≠ [] ∧ (ns.all fun k => (intAt kws k).isSome) = true) ∧ Q (iR (bestK (fun k => (intAt kws k).getD 0) ns)) s1 := by
  simp only [eMaxL, es_ev, ev_bind']
  constructor <;> intro h0 <;> refine h0.imp fun p h1 => h1.imp fun u h2 => h2.imp fun ws h3 => h3.imp fun ns h => ?_
  · split at h
    · rename_i x' q' ht
      split at h
      · rename_i n hn
        split at h
        · rename_i kws hk
          rw [ev_ite'] at h
          split at h
          · rename_i hc
            obtain ⟨rfl, rfl, h5, h6⟩ := hc
            exact ⟨by rw [ht]; exact isTab_s, _, hn, _, rfl, n, rfl, _, hk, _, rfl, kws, rfl, ⟨h5, h6⟩, by obtain ⟨_, e, h⟩ := h; cases e; exact h⟩
          · exact (ev_none'.mp h).elim
        · exact (ev_none'.mp h).elim
      · exact (ev_none'.mp h).elim
    · exact (ev_none'.mp h).elim
  · obtain ⟨h4, o, h5, w, rfl, n, rfl, o', h6, nd, rfl, kws, rfl, ⟨h7, h8⟩, h9⟩ := h
    rw [isTab_eq h4, h5]
    dsimp only
    rw [h6]
    dsimp only
    rw [if_pos ⟨rfl, rfl, h7, h8⟩]
    exact ⟨_, rfl, h9⟩
end
end NV

namespace NV
open PySem PySem.Spec PyProof.Rows L2
/-! ### max of a list of tuples of ints -/
section
variable {X : Cx} {g g1 : G} {K : PySem.W.Frag}
end
section
variable {X : Cx}
end
end NV

namespace NV
open PySem PySem.Spec PyProof.Rows L2
/-! ### list(d), a dict with int keys -/
section
variable {X : Cx} {K : PySem.W.Frag}
end
end NV

namespace NV
open PySem PySem.Spec PyProof.Rows L2
/-! ### is True, is not False: of bools -/
def hIsB : OpH
  | .at (.bl a), .at (.bl b) => some (bR (decide (a = b)))
  | _, _ => none
def hNotB : OpH
  | .at (.bl a), .at (.bl b) => some (bR (!decide (a = b)))
  | _, _ => none
section
variable {X : Cx}
end
section
variable {P : R → Prop} {a b : Bool}
@[simp ↓] theorem is_bb : Ev (hIsB (.at (.bl a)) (.at (.bl b))) P ↔ P (bR (decide (a = b))) := ev_some'
@[simp ↓] theorem not_bb : Ev (hNotB (.at (.bl a)) (.at (.bl b))) P ↔ P (bR (!decide (a = b))) := ev_some'
end
end NV

namespace NV
open PySem PySem.Spec PyProof.Rows L2
/-! ### d.values(), d.items(): walked once; the dict is not looked at any more -/
def dctOf (p : R × S) : Option (List (Key × W) × S) := match p.1 with
  | .val (.obj n) => (match p.2.st[n]? with
    | some (some (.dct kws)) => some (kws, { p.2 with st := p.2.st.set n none })
    | _ => none)
  | .new (.dct kws) => some (kws, p.2)
  | _ => none
def iVal (fe : EF) : IF := fun s => (fe s).bind fun p => (dctOf p).map fun q => (⟨q.1.map fun z => .one z.2, []⟩, q.2)
def iItm (fe : EF) : IF := fun s => (fe s).bind fun p => (dctOf p).map fun q => (⟨q.1.map fun z => .tup [keyW z.1, z.2], []⟩, q.2)
section
variable {X : Cx} {K : PySem.W.Frag} {g g1 : G} {v : V} {σ : L2.St} {s s1 : S} {st : Sto} {tg e : Expr} {apos cpos : Pos} {fe : EF}
end
end NV

namespace NV
open PySem PySem.Spec PyProof.Rows L2
/-! ### d.setdefault(k, x), d.get(k) -/
section
variable {X : Cx} {o e f : Expr} {apos cpos : Pos} {td ty tx : TE}
end
section
variable {X : Cx} {a b c e o value : Expr} {es : List Expr} {fa fb fc f fo fv fk fx : EF} {ff : AF} {pos pos' apos cpos : Pos} {K : PySem.W.Frag} {g g1 : G} {v : V} {σ : L2.St} {s s1 : S} {st st1 : Sto}
def eSetd (fo fk fx : EF) : EF := fun s => (fo s).bind fun p => match p.1 with
  | .val (.obj n) => (match p.2.st[n]? with
    | some (some (.dct _)) => (fk p.2).bind fun q => (fx q.2).bind fun z => (match z.2.st[n]? with
      | some (some (.dct kws)) => (q.1.view z.2.st).bind fun u => u.key.bind fun k => match look kws k with
        | some w => if kws.length < sizeLine then some (.val w, z.2) else none
        | none => if kws.length < sizeLine then some (.val (z.1.wo z.2.st).1, { z.2 with st := (z.1.wo z.2.st).2.set n (some (.dct (putW kws k (z.1.wo z.2.st).1))) }) else none
      | _ => none)
    | _ => none)
  | _ => none
def eDGet1 (fo fk : EF) : EF := eDGet2 fo fk (eC .non)
end
end NV

namespace NV
open PySem PySem.Spec PyProof.Rows L2
/-! ### evaluation of values, items, setdefault, get -/
def DofK (r : R) (s : S) (Q : List (Key × W) → S → Prop) : Prop := Ev (dctOf (r, s)) fun q => Q q.1 q.2
def SetdK (kws : List (Key × W)) (k : Key) (n : Nat) (x : R) (s : S) (Q : R → S → Prop) : Prop := match look kws k with
  | some w => Q (.val w) s
  | none => RwoK x s.st fun w st' => SetK st' n (some (.dct (putW kws k w))) fun st2 => Q (.val w) ⟨s.sl, st2⟩
section
variable {s : S} {sl : List (Option W)} {st : Sto} {fe fo fk fx : EF} {kws : List (Key × W)} {n : Nat}
@[simp ↓] theorem dof_o {Q : List (Key × W) → S → Prop} : DofK (.val (.obj n)) s Q ↔ GetK s.st n fun o => SoK o fun nd => DctK nd fun kws => SetK s.st n none fun st' => Q kws ⟨s.sl, st'⟩ := by
  unfold DofK dctOf
  dsimp only
  constructor
  · intro h
    split at h
    · rename_i kws hn
      obtain ⟨_, e, h⟩ := h
      cases e
      exact ⟨_, hn, _, rfl, kws, rfl, h⟩
    · obtain ⟨_, e, _⟩ := h
      cases e
  · rintro ⟨o, hn, nd, rfl, kws, rfl, h⟩
    rw [hn]
    exact ⟨_, rfl, h⟩
@[simp ↓] theorem dof_n {Q : List (Key × W) → S → Prop} : DofK (.new (.dct kws)) s Q ↔ Q kws s := ⟨fun ⟨_, e, h⟩ => by cases e; exact h, fun h => ⟨_, rfl, h⟩⟩
@[simp ↓] theorem es_iVal {Y' : Itm → S → Prop} : Es (iVal fe s) Y' ↔ Es (fe s) fun r s1 => DofK r s1 fun kws s2 => Y' ⟨kws.map fun z => .one z.2, []⟩ s2 := by
  simp only [iVal, es_ev, ev_bind', ev_map', DofK]
@[simp ↓] theorem es_iItm {Y' : Itm → S → Prop} : Es (iItm fe s) Y' ↔ Es (fe s) fun r s1 => DofK r s1 fun kws s2 => Y' ⟨kws.map fun z => .tup [keyW z.1, z.2], []⟩ s2 := by
  simp only [iItm, es_ev, ev_bind', ev_map', DofK]
@[simp ↓] theorem es_eDGet1 {Q : R → S → Prop} : Es (eDGet1 fo fk s) Q ↔ Es (eDGet2 fo fk (eC .non) s) Q := Iff.rfl
theorem setd_some {k : Key} {x : R} {Q : R → S → Prop} {w : W} (h : look kws k = some w) : SetdK kws k n x s Q ↔ Q (.val w) s := by unfold SetdK; rw [h]
theorem setd_none {k : Key} {x : R} {Q : R → S → Prop} (h : look kws k = none) : SetdK kws k n x s Q ↔ RwoK x s.st fun w st' => SetK st' n (some (.dct (putW kws k w))) fun st2 => Q (.val w) ⟨s.sl, st2⟩ := by unfold SetdK; rw [h]
@[simp ↓] theorem es_eSetd {Q : R → S → Prop} : Es (eSetd fo fk fx s) Q ↔ Es (fo s) fun p s1 => ObjK p fun n => GetK s1.st n fun o => SoK o fun nd => DctK nd fun _ => Es (fk s1) fun q s2 => Es (fx s2) fun x s3 => GetK s3.st n fun o => SoK o fun nd => DctK nd fun kws => ViewK q s3.st fun u => KeyK u fun k =>
    kws.length < sizeLine ∧ SetdK kws k n x s3 Q := by
  simp only [eSetd, es_ev, ev_bind']
  constructor <;> intro h0 <;> refine h0.imp fun p h => ?_
  · split at h
    · rename_i n hp
      split at h
      · rename_i kws0 hn0
        refine ⟨n, hp, _, hn0, _, rfl, kws0, rfl, (ev_bind'.mp h).imp fun q h => (ev_bind'.mp h).imp fun z h => ?_⟩
        split at h
        · rename_i kws hn
          refine ⟨_, hn, _, rfl, kws, rfl, (ev_bind'.mp h).imp fun u h => (ev_bind'.mp h).imp fun k h => ?_⟩
          cases hlk : look kws k with
          | some w =>
            rw [hlk] at h
            dsimp only at h
            rw [ev_ite'] at h
            split at h
            · rename_i hl
              obtain ⟨_, e, h⟩ := h
              cases e
              exact ⟨hl, (setd_some hlk).mpr h⟩
            · exact (ev_none'.mp h).elim
          | none =>
            rw [hlk] at h
            dsimp only at h
            rw [ev_ite'] at h
            split at h
            · rename_i hl
              obtain ⟨_, e, h⟩ := h
              cases e
              exact ⟨hl, (setd_none hlk).mpr h⟩
            · exact (ev_none'.mp h).elim
        · exact (ev_none'.mp h).elim
      · exact (ev_none'.mp h).elim
    · exact (ev_none'.mp h).elim
  · obtain ⟨n, hp, o, hn0, nd, rfl, kws0, rfl, h⟩ := h
    rw [hp]; dsimp only; rw [hn0]; dsimp only
    refine ev_bind'.mpr (h.imp fun q h => ev_bind'.mpr (h.imp fun z h => ?_))
    obtain ⟨o, hn, nd, rfl, kws, rfl, h⟩ := h
    rw [hn]; dsimp only
    refine ev_bind'.mpr (h.imp fun u h => ev_bind'.mpr (h.imp fun k h => ?_))
    obtain ⟨hl, h⟩ := h
    cases hlk : look kws k with
    | some w =>
      have h := (setd_some hlk).mp h
      dsimp only
      rw [if_pos hl]
      exact ⟨_, rfl, h⟩
    | none =>
      have h := (setd_none hlk).mp h
      dsimp only
      rw [if_pos hl]
      exact ⟨_, rfl, h⟩
end
end NV

namespace NV
open PySem PySem.Spec PyProof.Rows L2
/-! ### l.remove(x), l a live list of data or of live lists, x there -/
section
variable {X : Cx} {e o : Expr} {es : List Expr} {fa fo fk : EF} {ff : AF} {s : S} {st : Sto} {Q : R → S → Prop} {apos cpos : Pos} {K : PySem.W.Frag} {g : G} {v : V}
/-- what live lists and data hold, read deep -/
def pyL (st : Sto) (ws : List W) : Option (List PyData) := (datL (wDat st 6) ws).bind D.pys
def remW (st : Sto) (ws as : List W) : Option (List W) := (pyL st ws).bind fun ds => (pyL st as).bind fun es => match es with
  | [d] => if SeqAt.shaped (.list ds) = true ∧ SeqAt.shaped d = true then (ds.findIdx? fun z => PyData.eqv z d).map fun j => ws.eraseIdx j else none
  | _ => none
def eRemD (fo : EF) (ff : AF) : EF := fun s => (fo s).bind fun p => match p.1 with
  | .val (.obj n) => (match p.2.st[n]? with
    | some (some (.lst _)) => (ff p.2).bind fun q => (match q.2.st[n]? with
      | some (some (.lst ws)) => (remW q.2.st ws q.1).map fun r => (.val (.d .non), { q.2 with st := q.2.st.set n (some (.lst r)) })
      | _ => none)
    | _ => none)
  | _ => none
/-! evaluation -/
@[simp ↓] theorem es_eRemD : Es (eRemD fo ff s) Q ↔ Es (fo s) fun p s1 => ObjK p fun n => GetK s1.st n fun o => SoK o fun nd => LstK nd fun _ => Es (ff s1) fun q s2 => GetK s2.st n fun o => SoK o fun nd => LstK nd fun ws => Ev (remW s2.st ws q) fun r => SetK s2.st n (some (.lst r)) fun st' => Q (.val (.d .non)) ⟨s2.sl, st'⟩ := by
  simp only [eRemD, es_ev, ev_bind']
  constructor <;> intro h <;> refine h.imp fun p h => ?_
  · split at h
    · split at h
      · rename_i n hp _ ws0 h0
        refine ⟨n, hp, _, h0, _, rfl, _, rfl, (ev_bind'.mp h).imp fun q h => ?_⟩
        split at h
        · rename_i _ ws h1
          exact ⟨_, h1, _, rfl, _, rfl, by have h3 := ev_map'.mp h; exact h3⟩
        · exact (ev_none'.mp h).elim
      · exact (ev_none'.mp h).elim
    · exact (ev_none'.mp h).elim
  · obtain ⟨n, hp, _, h0, _, rfl, _, rfl, h⟩ := h
    rw [hp]; dsimp only; rw [h0]; dsimp only
    refine ev_bind'.mpr (h.imp fun q h => ?_)
    obtain ⟨_, h1, _, rfl, _, rfl, h⟩ := h
    rw [h1]; exact ev_map'.mpr h
end
end NV

namespace NV
open PySem PySem.Spec PyProof.Rows L2
section
variable {X : Cx} {e o : Expr} {es : List Expr} {fa fo fk : EF} {ff : AF} {s : S} {st : Sto} {Q : R → S → Prop} {apos cpos : Pos} {K : PySem.W.Frag} {g : G} {v : V} {ws : List W} {w : W} {i : Int}
/-! ### l.insert(i, x) -/
def lInsert : LmH
  | ws, [.d (.int i), w] => if ws.length < sizeLine ∧ 0 ≤ i ∧ i < 2 ^ 63 then some (.d .non, ws.take i.toNat ++ [w] ++ ws.drop i.toNat) else none
  | _, _ => none
theorem l_insert : LmV X "list.insert" lInsert := by
  refine ⟨_, mt_insert, fun g l vs args ws wargs w' ws' Q go h1 h2 h3 e k => ?_⟩
  unfold lInsert at e
  split at e
  · rename_i i w
    split at e
    · rename_i hi
      cases e
      cases h3 with
      | cons q3 q4 =>
        cases q4 with
        | cons q5 q6 =>
          cases q6
          cases q3
          have hl := WrL.length h2
          refine ⟨l, vs, i, _, rfl, rfl, h1, by omega, hi.2.1, hi.2.2, k _ _ Dd.non ?_⟩
          exact ((h2.take i.toNat).append (.cons q5 .nil)).append (h2.drop i.toNat)
    · cases e
  · cases e
@[simp ↓] theorem lm_insert {B : W × List W → Prop} : Ev (lInsert ws [.d (.int i), w]) B ↔ (ws.length < sizeLine ∧ 0 ≤ i ∧ i < 2 ^ 63) ∧ B (.d .non, ws.take i.toNat ++ [w] ++ ws.drop i.toNat) := by
  by_cases h : ws.length < sizeLine ∧ 0 ≤ i ∧ i < 2 ^ 63
  · simp only [lInsert, if_pos h]
    exact ⟨fun z => ⟨h, ev_some'.mp z⟩, fun z => ev_some'.mpr z.2⟩
  · simp only [lInsert, if_neg h]
    exact ⟨fun z => (ev_none'.mp z).elim, fun z => (h z.1).elim⟩
/-! ### str of lists that live, read deep -/
def strW (st : Sto) : List W → Option R
  | [.obj n] => (wDat st 6 (.obj n)).bind fun d => (D.py d).bind fun p => if p.showable = true ∧ p.hasDict = false ∧ p.depth ≤ 60 ∧ p.shown.length ≤ sizeLine then some (.val (.d (.str p.shown))) else none
  | _ => none
def eStrL (ff : AF) : EF := fun s => (ff s).bind fun p => (strW p.2.st p.1).map fun r => (r, p.2)
/-! evaluation -/
@[simp ↓] theorem es_eStrL : Es (eStrL ff s) Q ↔ Es (ff s) fun ws s1 => Ev (strW s1.st ws) fun r => Q r s1 := by
  simp only [eStrL, es_ev, ev_bind', ev_map']
/-! texts of ints and lists of such can be compared -/
theorem strOk_of {x : Str} (h : ∀ c ∈ x.cps.toList, c < 0x110000) : PyData.strOk x = true := by
  unfold PyData.strOk
  rw [Array.all_eq_true']
  intro c hc
  simpa using h c (by simpa using hc)
theorem int_ok (i : Int) : PyData.strOk (PyData.int i).shown = true := strOk_of fun c hc => by
  by_cases z : c < 0x110000
  · exact z
  · exact absurd hc (shown_int_free' ⟨by omega, .inr (by omega)⟩ i)
end
end NV

namespace NV
open PySem PySem.Spec PyProof.Rows L2
section
variable {X : Cx} {a b c e iter tg : Expr} {es : List Expr} {fa fb fc f : EF} {ff : AF} {pos : Pos} {K : PySem.W.Frag} {g g1 : G} {v : V} {σ : L2.St} {s s1 : S} {st st1 : Sto}
/-! ### tuples that hold live things -/
def e1S : W → Option (Sum D Nat)
  | .d x => some (.inl x)
  | .obj n => some (.inr n)
  | .tp _ => none
def e1Ss : List W → Option (List (Sum D Nat))
  | [] => some []
  | w :: ws => (e1S w).bind fun x => (e1Ss ws).map fun y => x :: y
theorem e1Ss_ok {Φ : Hp} {ι : List Addr} : ∀ {vs : List V} {ws : List W} {es : List (Sum D Nat)}, WrL K Φ ι vs ws → e1Ss ws = some es → Paired (Wr1 K Φ ι) vs es
  | _, [], _, .nil, e => by cases e; exact .nil
  | _, w :: ws, _, .cons a b, e => by
    unfold e1Ss at e
    obtain ⟨x, e1, e⟩ := Option.bind_eq_some_iff.mp e
    obtain ⟨y, e2, e⟩ := Option.map_eq_some_iff.mp e
    cases e
    refine .cons ?_ (e1Ss_ok b e2)
    cases w with
    | d x' => cases e1; exact a
    | obj n => cases e1; exact a
    | tp es => cases e1
theorem e1Ss_len : ∀ {ws : List W} {es : List (Sum D Nat)}, e1Ss ws = some es → es.length = ws.length
  | [], _, e => by cases e; rfl
  | w :: ws, _, e => by
    unfold e1Ss at e
    obtain ⟨x, e1, e⟩ := Option.bind_eq_some_iff.mp e
    obtain ⟨y, e2, e⟩ := Option.map_eq_some_iff.mp e
    cases e
    simp [e1Ss_len e2]
/-- a new tuple made that may hold live things -/
theorem new_tp {es : List (Sum D Nat)} {vs : List V} {Q : VK} (go : GOk g) (hw : Paired (Wr1 K g.Φ g.ι) vs es) (k : ∀ v g', Ext g g' → RR K g.H g' v (.val (.tp es)) → Q v g'.H) : ∀ p, g.H p = none → Q (.ref p) (upd g.H p (.tup vs)) := fun p hp =>
  k (.ref p) _ (Ext.frz go hp) ⟨p, vs, rfl, upd_same, Paired.mapP hw fun _ _ q => Wr1.mono (Ext.frz go hp).phi ⟨[], by simp⟩ q⟩
def eTupL (ff : AF) : EF := fun s => (ff s).bind fun p => (e1Ss p.1).bind fun es => if es.length ≤ sizeLine then some (.val (.tp es), p.2) else none
theorem v_tupL {x1} (h : VA X es ff) : VE X (.Tuple es x1 pos) (eTupL ff) := ⟨(pe_tup h.pa).imp fun σ H Q ⟨g, s, r, s', hg, R, hf, k⟩ => by
  obtain ⟨⟨ws, s1⟩, h1, hf⟩ := Option.bind_eq_some_iff.mp hf
  obtain ⟨es', h2, hf⟩ := Option.bind_eq_some_iff.mp hf
  dsimp only at hf h2
  split at hf
  · rename_i hz
    cases hf
    subst hg
    refine ⟨g, s, ws, _, rfl, R, h1, fun vs g1 p1 R1 q1 => ?_⟩
    refine ⟨by rw [q1.length, ← e1Ss_len h2]; exact hz, new_tp R1.st.ok (e1Ss_ok q1 h2) fun v g' x rr => ?_⟩
    exact k v g' (p1.trans R.st R1.st x.step) (x.rel R1) rr
  · cases hf⟩
@[simp ↓] theorem es_eTupL {Q : R → S → Prop} : Es (eTupL ff s) Q ↔ Es (ff s) fun ws s1 => Ev (e1Ss ws) fun es => LenK es fun n => n ≤ sizeLine ∧ Q (.val (.tp es)) s1 := by
  simp [eTupL, es_ev, LenK, ev_ite']
@[simp ↓] theorem e1s_n {B : List (Sum D Nat) → Prop} : Ev (e1Ss []) B ↔ B [] := by simp [e1Ss]
@[simp ↓] theorem e1s_d {B : List (Sum D Nat) → Prop} {d : D} {ws : List W} : Ev (e1Ss (.d d :: ws)) B ↔ Ev (e1Ss ws) fun es => B (.inl d :: es) := by simp [e1Ss, e1S]
@[simp ↓] theorem e1s_o {B : List (Sum D Nat) → Prop} {n : Nat} {ws : List W} : Ev (e1Ss (.obj n :: ws)) B ↔ Ev (e1Ss ws) fun es => B (.inr n :: es) := by simp [e1Ss, e1S]
@[simp] theorem e1s_map (l : List Nat) : e1Ss (l.map W.obj) = some (l.map Sum.inr) := by
  induction l with
  | nil => rfl
  | cons n l ih => simp [e1Ss, e1S, ih]
@[simp] theorem e1W_l {d : D} : e1W (.inl d) = .d d := rfl
@[simp] theorem e1W_r {n : Nat} : e1W (.inr n) = .obj n := rfl
/-! looked at -/
@[simp ↓] theorem view_tp {es : List (Sum D Nat)} {U : Vu → Prop} : ViewK (.val (.tp es)) st U ↔ U (.tup (es.map e1W)) := by simp [ViewK, R.view]
/-! walked -/
def iTp (fa : EF) : IF := fun s => (fa s).bind fun p => match p.1 with
  | .val (.tp es) => some (⟨es.map fun e => .one (e1W e), []⟩, p.2)
  | _ => none
@[simp ↓] theorem es_iTp {Y' : Itm → S → Prop} : Es (iTp fa s) Y' ↔ Es (fa s) fun r s1 => ∃ es, r = .val (.tp es) ∧ Y' ⟨es.map fun e => .one (e1W e), []⟩ s1 := by
  simp only [iTp, es_ev, ev_bind']
  constructor <;> intro h <;> refine h.imp fun p h => ?_
  · obtain ⟨r, s1⟩ := p
    dsimp only at h ⊢
    split at h
    · rename_i es; exact ⟨es, rfl, h.elim fun q hq => by obtain ⟨e, hq⟩ := hq; cases e; exact hq⟩
    · exact (ev_none'.mp h).elim
  · obtain ⟨r, s1⟩ := p
    obtain ⟨es, h1, h2⟩ := h
    dsimp only at h1
    subst h1
    exact ⟨_, rfl, h2⟩
/-! cut -/
def hSlTp : SlH
  | .tup ws, lo, hi => (e1Ss ws).map fun es => .val (.tp (cut es lo hi))
  | _, _, _ => none
@[simp ↓] theorem ev_hSlTp {ws : List W} {lo hi : Option Int} {B : R → Prop} : Ev (hSlTp (.tup ws) lo hi) B ↔ Ev (e1Ss ws) fun es => B (.val (.tp (cut es lo hi))) := by simp [hSlTp]
/-! of a list -/
def hTupleL : CaH
  | [.lst ws] => (e1Ss ws).map fun ds => .val (.tp ds)
  | _ => none
@[simp ↓] theorem ev_hTupleL {ws : List W} {B : R → Prop} : Ev (hTupleL [.lst ws]) B ↔ Ev (e1Ss ws) fun es => B (.val (.tp es)) := by simp [hTupleL]
/-! targets -/
@[simp ↓] theorem ev_gTp {k : Nat} {u : GsF} {es : List (Sum D Nat)} {G : S → Prop} : Ev (gT k u (.one (.tp es)) s) G ↔ LenK es fun m => m = k ∧ Ev (u (es.map e1W) s) G := by simp [gT, Y.items, ev_ite', LenK]
/-! lent to a def of data -/
variable {B : List D → Prop} {k : Nat} {ws us : List W} {d : D}
theorem lendD_tp {es : List (Sum D Nat)} (q : LendD st k (es.map e1W) fun ds => LendD st (k + 1) ws fun cs => B (.tup ds :: cs)) : LendD st (k + 1) (.tp es :: ws) B := by
  unfold LendD at q ⊢
  obtain ⟨ds, h1, cs, h2, q⟩ := q
  refine ⟨.tup ds :: cs, ?_, q⟩
  have : wDat st (k + 1) (.tp es) = some (.tup ds) := by show (datL (wDat st k) (es.map e1W)).map D.tup = _; rw [h1]; rfl
  simp [datL, this, h2]
end
end NV

namespace NV
open PySem PySem.Spec PyProof.Rows L2
section
variable {X : Cx} {a b c e iter tg : Expr} {es : List Expr} {fa fb fc fe f : EF} {ff : AF} {pos : Pos} {K : PySem.W.Frag} {g g1 : G} {v : V} {σ : L2.St} {s s1 : S} {st st1 : Sto}
/-! ### l.clear() -/
def lClear : LmH
  | _, [] => some (.d .non, [])
  | _, _ => none
@[simp ↓] theorem lm_clear {ws : List W} {B : W × List W → Prop} : Ev (lClear ws []) B ↔ B (.d .non, []) := ev_some'
/-! ### what is walked: a list, or a tuple that holds live things -/
end
end NV

namespace NV
open PySem PySem.Spec PyProof.Rows L2
section
variable {X : Cx} {a b c e o i iter tg : Expr} {es : List Expr} {fa fb fc fe f : EF} {ff : AF} {pos tpos : Pos} {K : PySem.W.Frag} {g g1 : G} {v : V} {σ : L2.St} {s s1 : S} {st st1 : Sto}
/-! ### l[i] += e, ints -/
end
end NV

namespace NV
open PySem PySem.Spec PyProof.Rows L2
section
variable {X : Cx} {a b c e o i iter tg : Expr} {es : List Expr} {fa fb fc fe f : EF} {ff : AF} {pos tpos : Pos} {K : PySem.W.Frag} {g g1 : G} {v : V} {σ : L2.St} {s s1 : S} {st st1 : Sto}
/-! ### name = [..] on one line, its elements live -/
end
end NV

namespace NV
open PySem PySem.Spec PyProof.Rows L2
/-! ### sorted of a list of tuples -/
def isTup1 : PyData → Bool
  | .tuple (_ :: _) => true
  | _ => false
def sortOk (ps : List PyData) : Bool := (ps.all fun p => ps.all fun q => PySem.W.alike p q) && ps.all fun p => isTup1 p && decide (p.depth ≤ 60)
section
variable {X : Cx} {g g1 : G} {K : PySem.W.Frag}
end
end NV

namespace NV
open PySem PySem.Spec PyProof.Rows L2
section
variable {X : Cx} {a b c e o : Expr} {es : List Expr} {fa fb fo : EF} {ff : AF} {pos apos cpos : Pos} {K : PySem.W.Frag} {g g1 : G} {v : V} {σ : L2.St} {s s1 : S} {st st1 : Sto}
/-! ### a == b, a != b, things by their data -/
end
/-! ### what is asked of them -/
section
variable {s : S} {Q : R → S → Prop} {fa fb fo : EF} {ff : AF}
end
end NV

namespace NV
open PySem PySem.Spec PyProof.Rows L2
/-! ### dict(l), l a list of pairs (key, value), the values data or live -/
section
variable {X : Cx} {g g1 : G} {K : PySem.W.Frag}
end
end NV

namespace NV
open PySem PySem.Spec PyProof.Rows L2
/-! ### an expression that is walked in one of two ways (a method called on things of two classes) -/
section
variable {X : Cx} {e : Expr} {fa fb : EF} {s : S} {Q : R → S → Prop}
end
end NV

namespace NV
open PySem PySem.Spec PyProof.Rows L2 L2.DX
/-! ### sorted(d.items()), the keys numbers -/
section
variable {X : Cx}
end
end NV

namespace NV
open PySem PySem.Spec PyProof.Rows L2 L2.DX
/-! ### d.items() of a dict with keys of one part, and sorted(d.items()) as an expression -/
section
variable {X : Cx}
variable {o : Expr} {to : TE}
theorem sqL_mono {K : PySem.W.Frag} {H H2 : Hp} (g : ∀ b o, H b = some o → H2 b = some o) {a : Addr} {xs : List V} (h : SqL K H a xs) : SqL K H2 a xs := by
  unfold SqL at *
  exact h.imp (fun h => Or.imp (g _ _) (fun ⟨o, e⟩ => ⟨o, g _ _ e⟩) h) id
theorem sqT_mono {K : PySem.W.Frag} {H H2 : Hp} (g : ∀ b o, H b = some o → H2 b = some o) {a : Addr} {xs : List V} (h : SqT K H a xs) : SqT K H2 a xs := by
  unfold SqT at *
  exact h.imp (fun h => Or.imp (g _ _) (fun ⟨o, e⟩ => ⟨o, g _ _ e⟩) h) id
mutual
theorem dp_mono {K : PySem.W.Frag} {H H2 : Hp} (g : ∀ b o, H b = some o → H2 b = some o) : ∀ (d : PyData) (v : V), Dp K H v d → Dp K H2 v d
  | .list ds, _, h => by
    cases h with
    | lst h1 h2 => exact .lst (sqL_mono g h1) (dpAll_mono g ds _ h2)
  | .tuple ds, _, h => by
    cases h with
    | tup h1 h2 => exact .tup (sqT_mono g h1) (dpAll_mono g ds _ h2)
  | .none, _, h => by cases h; exact .non
  | .bool b, _, h => by cases h; exact .bl b
  | .int i, _, h => by cases h; exact .int i
  | .str x, _, h => by cases h; exact .str x
theorem dpAll_mono {K : PySem.W.Frag} {H H2 : Hp} (g : ∀ b o, H b = some o → H2 b = some o) : ∀ (ds : List PyData) (vs : List V), DpAll K H vs ds → DpAll K H2 vs ds
  | [], _, h => by cases h; exact .nil
  | d :: ds, _, h => by
    cases h with
    | cons a b => exact .cons (dp_mono g d _ a) (dpAll_mono g ds _ b)
end
end
end NV

namespace NV
open PySem PySem.Spec PyProof.Rows L2 L2.DX
/-! ### sorted(o.items()) of a dict whose keys are numbers -/
abbrev IE := Int × Sum D Nat
def intKs : List (Key × W) → Option (List IE)
  | [] => some []
  | (.inl i, .d x) :: l => (intKs l).map fun r => (i, .inl x) :: r
  | (.inl i, .obj n) :: l => (intKs l).map fun r => (i, .inr n) :: r
  | _ => none
def itW : IE → W
  | (i, .inl x) => .d (.tup [.int i, x])
  | (i, .inr n) => .tp [.inl (.int i), .inr n]
def ieLe (a b : IE × PyData) : Bool := PySem.W.dataLe false (fun z : IE × PyData => PyData.tuple [.int z.1.1, z.2]) a b
def srtI (st : Sto) (kws : List (Key × W)) : Option (List W) := (intKs kws).bind fun es => (pyL st (es.map fun e => e1W e.2)).bind fun ds =>
  if es.length = ds.length ∧ sortOk ((es.zip ds).map fun z => .tuple [.int z.1.1, z.2]) = true then some (((es.zip ds).mergeSort ieLe).map fun z => itW z.1) else none
def dctRd (p : R × S) : Option (List (Key × W)) := match p.1 with
  | .val (.obj n) => (match p.2.st[n]? with
    | some (some (.dct kws)) => some kws
    | _ => none)
  | .new (.dct kws) => some kws
  | _ => none
def eSrtI (fo : EF) : EF := fun s => (fo s).bind fun p => (dctRd p).bind fun kws => (srtI p.2.st kws).map fun ws => (.new (.lst ws), p.2)
section
variable {X : Cx} {K : PySem.W.Frag} {g g1 : G} {v : V} {σ : L2.St} {s s1 : S} {st : Sto} {o : Expr} {fo : EF} {Φ : Hp} {ι : List Addr}
end
/-! ### evaluation -/
@[simp ↓] theorem es_eSrtI {fo : EF} {s : S} {Q : R → S → Prop} : Es (eSrtI fo s) Q ↔ Es (fo s) fun p s1 => Ev (dctRd (p, s1)) fun kws => Ev (srtI s1.st kws) fun ws => Q (.new (.lst ws)) s1 := by
  simp only [eSrtI, es_ev, ev_bind', ev_map']
end NV

namespace NV
open PySem PySem.Spec PyProof.Rows L2
/-! ### sum(rows, []) , rows a list whose members are live lists of numbers -/
def rowsO (st : Sto) : List W → Option (List (List Int))
  | [] => some []
  | w :: r => ((R.val w).view st).bind fun u => u.lw.bind fun ws => (intsW ws).bind fun l => (rowsO st r).map fun ls => l :: ls
def eSumLO (ff : AF) : EF := fun s => (ff s).bind fun p => (views p.2.st p.1).bind fun us => match us with
  | [u, w] => u.lw.bind fun ws => (rowsO p.2.st ws).bind fun ls => w.lw.bind fun ws2 => if ws2 = [] ∧ ls ≠ [] ∧ ls.flatten.length ≤ 16777216 then some (.new (.lst (ls.flatten.map fun i => .d (.int i))), p.2) else none
  | _ => none
section
variable {X : Cx} {K : PySem.W.Frag} {g g1 : G} {st : Sto} {s : S} {e : Expr} {es : List Expr} {ff : AF} {pos : Pos}
end
def RowsK (st : Sto) (ws : List W) (B : List (List Int) → Prop) : Prop := Ev (rowsO st ws) B
@[simp ↓] theorem es_eSumLO {ff : AF} {s : S} {Q : R → S → Prop} : Es (eSumLO ff s) Q ↔ Es (ff s) fun ws s1 => ViewsK ws s1.st fun us => ∃ u w, us = [u, w] ∧ LwK u fun ws => RowsK s1.st ws fun ls => LwK w fun ws2 => (ws2 = [] ∧ ls ≠ [] ∧ ls.flatten.length ≤ 16777216) ∧ Q (.new (.lst (ls.flatten.map fun i => .d (.int i)))) s1 := by
  simp only [eSumLO, es_ev, ev_bind', ViewsK, LwK, RowsK]
  constructor
  · intro h
    refine h.imp fun p h => h.imp fun us h => ?_
    split at h
    · rename_i u w
      refine ⟨u, w, rfl, ?_⟩
      rw [ev_bind'] at h
      refine h.imp fun ws h => ?_
      rw [ev_bind'] at h
      refine h.imp fun ls h => ?_
      rw [ev_bind'] at h
      refine h.imp fun ws2 h => ?_
      split at h
      · rename_i hz
        rw [ev_some'] at h
        exact ⟨hz, h⟩
      · exact (ev_none'.mp h).elim
    · exact (ev_none'.mp h).elim
  · intro h
    refine h.imp fun p h => h.imp fun us h => ?_
    obtain ⟨u, w, rfl, h⟩ := h
    show Ev (u.lw.bind _) _
    rw [ev_bind']
    refine h.imp fun ws h => ?_
    rw [ev_bind']
    refine h.imp fun ls h => ?_
    rw [ev_bind']
    refine h.imp fun ws2 h => ?_
    rw [if_pos h.1]
    rw [ev_some']
    exact h.2
end NV

namespace NV
open PySem PySem.Spec PyProof.Rows L2
/-! ### methods of texts that tell something (join, split), int(text) -/
abbrev SmH := Str → List Vu → Option R
def SmV (X : Cx) (id : String) (h : SmH) : Prop := ∃ r, MtR X id r ∧ ∀ (g : G) (z : Str) (vs : List V) (us : List Vu) (res : R) (Q : VK), GOk g → Paired (VuOk X.K g) vs us → h z us = some res → (∀ v g', Ext g g' → RR X.K g.H g' v res → Q v g'.H) → r (.str z) vs g.H Q
def strsW : List W → Option (List Str)
  | [] => some []
  | .d (.str z) :: ws => (strsW ws).map fun l => z :: l
  | _ => none
section
variable {X : Cx} {K : PySem.W.Frag} {g g1 : G} {st : Sto} {s : S} {e o : Expr} {es : List Expr} {ff : AF} {fa fo : EF} {pos : Pos}
theorem strsW_ok {Φ : Hp} {ι : List Addr} : ∀ {vs : List V} {ws : List W} {ys : List Str}, WrL K Φ ι vs ws → strsW ws = some ys → vs = ys.map V.str
  | _, _, _, .nil, e => by cases e; rfl
  | _, w :: ws, ys, .cons a b, e => by
    unfold strsW at e
    split at e
    · rename_i h
      cases h
    · rename_i z ws' h
      obtain ⟨l, e1, e2⟩ := Option.map_eq_some_iff.mp e
      cases h
      subst e2
      cases a
      rw [strsW_ok b e1]
      rfl
    · cases e
def joinOf (z : Str) (ws : List W) : Option R := (strsW ws).bind fun ys => if (ys.map (·.length)).sum + ys.length * z.length ≤ 16777216 then some (.val (.d (.str (Txt.join z ys)))) else none
def hJoin : SmH
  | z, [.lst ws] => joinOf z ws
  | z, [.lsw ws] => joinOf z ws
  | z, [.tup ws] => joinOf z ws
  | _, _ => none
theorem joinOf_ok {z : Str} {ws : List W} {res : R} (e : joinOf z ws = some res) : ∃ ys, strsW ws = some ys ∧ (ys.map (·.length)).sum + ys.length * z.length ≤ 16777216 ∧ res = .val (.d (.str (Txt.join z ys))) := by
  unfold joinOf at e
  obtain ⟨ys, e1, e⟩ := Option.bind_eq_some_iff.mp e
  split at e
  · rename_i hz
    cases e
    exact ⟨ys, e1, hz, rfl⟩
  · cases e
theorem s_join : SmV X "str.join" hJoin := by
  refine ⟨_, mt_join, fun g z vs us res Q go h e k => ?_⟩
  unfold hJoin at e
  split at e
  · obtain ⟨ys, e1, e2, rfl⟩ := joinOf_ok e
    obtain ⟨v, rfl, a, vs, rfl, h1, h2⟩ := one_vu h
    rw [strsW_ok h2 e1] at h1
    exact ⟨z, a, ys, rfl, rfl, .inl (.inl (.inl h1)), e2, k _ g (Ext.refl go) Dd.str⟩
  · obtain ⟨ys, e1, e2, rfl⟩ := joinOf_ok e
    obtain ⟨v, rfl, a, vs, rfl, h1, h2⟩ := one_vu h
    rw [strsW_ok h2 e1] at h1
    exact ⟨z, a, ys, rfl, rfl, .inl h1, e2, k _ g (Ext.refl go) Dd.str⟩
  · obtain ⟨ys, e1, e2, rfl⟩ := joinOf_ok e
    obtain ⟨v, rfl, a, vs, rfl, h1, h2⟩ := one_vu h
    rw [strsW_ok h2 e1] at h1
    exact ⟨z, a, ys, rfl, rfl, .inr (.inl (.inl (go.sub _ _ h1))), e2, k _ g (Ext.refl go) Dd.str⟩
  · cases e
def hSplit : SmH
  | z, [.at (.str y)] => if (y.length == 0) = false ∧ z.length + 2 ≤ sizeLine then some (.new (.lst ((Txt.split z y).map fun x => .d (.str x)))) else none
  | _, _ => none
theorem strs_wr {Φ : Hp} {ι : List Addr} : ∀ ys : List Str, WrL K Φ ι (ys.map V.str) (ys.map fun x => W.d (.str x))
  | [] => .nil
  | y :: ys => .cons Dd.str (strs_wr ys)
theorem s_split : SmV X "str.split" hSplit := by
  refine ⟨_, mt_split, fun g z vs us res Q go h e k => ?_⟩
  unfold hSplit at e
  split at e
  · split at e
    · rename_i hz
      cases e
      obtain ⟨v, rfl, q⟩ := one_vu h
      cases VuOk.str q
      exact ⟨z, _, rfl, rfl, hz.1, hz.2, new_lst go (strs_wr _) k⟩
    · cases e
  · cases e
def eSm (h : SmH) (fo : EF) (ff : AF) : EF := fun s => (fo s).bind fun p => match p.1 with
  | .val (.d (.str z)) => (ff p.2).bind fun q => (views q.2.st q.1).bind fun us => (h z us).map fun r => (r, q.2)
  | _ => none
theorem sm_ok {id : String} {h : SmH} (hm : SmV X id h) : ∃ r, MtR X id r ∧ ∀ σ H Q, upE X.K (eSm h fo ff) σ H Q → upE X.K fo σ H fun x H1 => tyV X.K "str" x H1 ∧ upA X.K ff σ H1 fun xs H2 => r x xs H2 Q := by
  obtain ⟨r, hr, ho⟩ := hm
  refine ⟨r, hr, fun σ H Q ⟨g, s, r', s', hg, R, hf, k⟩ => ?_⟩
  obtain ⟨⟨ro, s1⟩, e1, hf⟩ := Option.bind_eq_some_iff.mp hf
  dsimp only at hf
  split at hf
  · rename_i z
    obtain ⟨⟨wargs, s2⟩, e2, hf⟩ := Option.bind_eq_some_iff.mp hf
    obtain ⟨us, e3, hf⟩ := Option.bind_eq_some_iff.mp hf
    obtain ⟨x, e4, hf⟩ := Option.map_eq_some_iff.mp hf
    cases hf
    subst hg
    refine ⟨g, s, _, s1, rfl, R, e1, fun x g1 p1 R1 q1 => ?_⟩
    cases q1
    refine ⟨rfl, g1, s1, wargs, s2, rfl, R1, e2, fun xs g2 p2 R2 q2 => ?_⟩
    exact ho g2 z xs us _ Q R2.st.ok (views_ok R2.st q2 e3) e4 fun v g' x' rr => k v g' ((p1.trans R.st R1.st p2).trans R.st R2.st x'.step) (x'.rel R2) (rr.back R.st (p1.trans R.st R1.st p2))
  · cases hf
variable {name : Str} {apos cpos : Pos} {id : String} {h : SmH}
theorem v_sm (slot : Slot "str" name id) (hty : typeOf (.builtin id) = pure (.type "method_descriptor")) (hm : SmV X id h) (ho : VE X o fo) (ha : VA X (e :: es) ff)
    (hbase : attributeBase o name X.env (eval o X.env) = eval o X.env := by rfl)
    (hfew : ((backTo cpos (starEach (e :: es) X.env)).all (fun x => !x.1) && (backToKw cpos (keywordEach [] X.env)).all (fun x => x.1.isSome)
      && decide ((e :: es).length + ([] : List Keyword).length + (if ([] : List Keyword).isEmpty then 0 else 1) < 30)) = true := by rfl)
    (hline : (apos.endLine == cpos.line) = true := by rfl) (hs : starEach (e :: es) X.env = (false, eval e X.env) :: starEach es X.env := by rfl) (hplain : (backTo cpos (starEach es X.env)).any (·.1) = false := by rfl) :
    VE X (.Call (.Attribute o name apos) (e :: es) [] cpos) (eSm h fo ff) := by
  obtain ⟨r, hr, q⟩ := sm_ok (fo := fo) (ff := ff) hm
  exact ⟨(pe_bm PySem.F.plainAttrs_str slot hty hr ho.pe ha.pa hbase hfew hline hs hplain).imp q⟩
def hIntS : CaH
  | [.at (.str z)] => if z.length ≤ 640 then (PySem.intText? z).map fun n => iR n else none
  | _ => none
theorem c_intS : CaV X (.type "int") hIntS := by
  refine ⟨_, call_int_str, fun g vs us res Q go h e k => ?_⟩
  unfold hIntS at e
  split at e
  · split at e
    · rename_i hz
      obtain ⟨n, e1, rfl⟩ := Option.map_eq_some_iff.mp e
      obtain ⟨v, rfl, q⟩ := one_vu h
      cases VuOk.str q
      exact ⟨_, n, rfl, e1, hz, k _ g (Ext.refl go) Dd.int⟩
    · cases e
  · cases e
def hIntX : CaH := orCa hInt hIntS
theorem c_intX : CaV X (.type "int") hIntX := c_int.or c_intS
end
end NV

namespace NV
open PySem PySem.Spec PyProof.Rows L2
/-! ### one sign in a text; a text's signs one by one -/
section
variable {X : Cx} {K : PySem.W.Frag} {g g1 : G} {st : Sto} {s : S} {e o tg iter : Expr} {es : List Expr} {ff : AF} {fa fo : EF} {pos : Pos}
def hInSg (neg : Bool) : OpH
  | .at (.str x), .at (.str z) => if h : x.cps.size = 1 then some (bR (if neg then !decide (x.cps[0]'(by omega) ∈ z.cps.toList) else decide (x.cps[0]'(by omega) ∈ z.cps.toList))) else none
  | _, _ => none
theorem one_sign {x : Str} (h : x.cps.size = 1) : x = ⟨#[x.cps[0]'(by omega)]⟩ := by
  obtain ⟨cps⟩ := x
  congr 1
  refine Array.ext (by simpa using h) fun i h1 h2 => ?_
  have : i = 0 := by simp at h2; omega
  subst this
  rfl
theorem o_notInSg : OpV X (compareOp .NotIn) (hInSg true) := by
  refine ⟨_, op_notIn_sign, fun g x y u w res Q go vx vy e k => ?_⟩
  unfold hInSg at e
  split at e
  · split at e
    · rename_i h
      cases e
      cases VuOk.str vx
      cases VuOk.str vy
      exact ⟨_, _, by rw [← one_sign h], rfl, k _ g (Ext.refl go) Dd.bl⟩
    · cases e
  · cases e
def hNotInX : OpH := orH hNotIn (hInSg true)
theorem o_notInX (hu : X.A.units + 64 < cLine) : OpV X (compareOp .NotIn) hNotInX := (o_notIn hu).or o_notInSg
def sgn (c : Nat) : Str := ⟨#[c]⟩
def ySigns (z : Str) : List Y := z.cps.toList.map fun c => .one (.d (.str (sgn c)))
def iSg (fa : EF) : IF := fun s => (fa s).bind fun p => match p.1 with
  | .val (.d (.str z)) => some (⟨ySigns z, []⟩, p.2)
  | _ => none
theorem it_sg {z : Str} : ItOk K (Its z) g st ⟨ySigns z, []⟩ := fun g' st' l o' _ i => by
  have o := o'.ok
  refine ⟨fun hi => (show z.cps.size ≤ i by simpa [ySigns] using hi), fun y hy => ?_⟩
  unfold ySigns at hy
  rw [List.getElem?_map] at hy
  obtain ⟨c, hc, rfl⟩ := Option.map_eq_some_iff.mp hy
  have hi : i < z.cps.size := by have := (List.getElem?_eq_some_iff.mp hc).1; simpa using this
  refine ⟨hi, fun x H' q => ?_⟩
  obtain ⟨e, c', hc', e2⟩ := q
  subst e e2
  have : c' = c := by
    rw [Array.getElem?_toList] at hc
    rw [hc'] at hc
    exact Option.some.inj hc
  subst this
  exact ⟨g'.Φ, Ext.refl o, Dd.str⟩
theorem vi_sg (ha : VE X iter fa) : VI X tg iter (iSg fa) := ⟨(pi_str ha.pe).imp fun σ H Q ⟨g, s, its, s', hg, R, hf, k⟩ => by
  obtain ⟨⟨ra, s1⟩, e1, hf⟩ := Option.bind_eq_some_iff.mp hf
  dsimp only at hf
  split at hf
  · rename_i z
    cases hf
    subst hg
    refine ⟨g, s, _, _, rfl, R, e1, fun v g1 p1 R1 q1 => ?_⟩
    cases q1
    exact ⟨z, rfl, k _ g1 p1 R1 it_sg⟩
  · cases hf⟩
end
/-! ### evaluation -/
section
variable {s : S} {ff : AF} {fa fo : EF} {Q : R → S → Prop} {P : R → Prop} {st : Sto}
def StrK (r : R) (B : Str → Prop) : Prop := ∃ z, r = .val (.d (.str z)) ∧ B z
@[simp ↓] theorem strk {z : Str} {B : Str → Prop} : StrK (.val (.d (.str z))) B ↔ B z := ⟨fun ⟨y, h, q⟩ => by cases h; exact q, fun q => ⟨z, rfl, q⟩⟩
@[simp ↓] theorem es_eSm {h : SmH} : Es (eSm h fo ff s) Q ↔ Es (fo s) fun r s1 => StrK r fun z => Es (ff s1) fun ws s2 => ViewsK ws s2.st fun us => Ev (h z us) fun x => Q x s2 := by
  simp only [eSm, es_ev, ev_bind', ViewsK, StrK]
  constructor
  · intro h
    refine h.imp fun p h => ?_
    split at h
    · rename_i z hz
      refine ⟨z, hz, ?_⟩
      rw [ev_bind'] at h
      refine h.imp fun q h => ?_
      rw [ev_bind'] at h
      refine h.imp fun us h => ?_
      rw [ev_map'] at h
      exact h
    · exact h.elim fun _ h => by cases h.1
  · intro h
    refine h.imp fun p h => ?_
    obtain ⟨z, hz, h⟩ := h
    rw [hz]
    dsimp only
    rw [ev_bind']
    refine h.imp fun q h => ?_
    rw [ev_bind']
    refine h.imp fun us h => ?_
    rw [ev_map']
    exact h
end
end NV

namespace NV
open PySem PySem.Spec PyProof.Rows L2
/-! ### a written dict of the module: text keys, tuples as values; d.get(k) -/
structure KTab (K : PySem.W.Frag) (w : World) (mg : Str → Option Value) (x : Str) (tab : List (Str × List D)) : Prop where
  ex : ∃ (a : Addr) (es : Array DictEntry) (n : Nat), mg x = some (.ref a) ∧ KDict K w a es n ∧ ∀ z, match tab.lookup z with
    | some ds => ∃ (c : Addr) (vs : List V), PySem.W.nsIn K a z = some (some (.ref c)) ∧ (∀ H, SqT K H c vs) ∧ ∀ Φ, DdL K Φ vs ds
    | none => PySem.W.nsIn K a z = some none
section
variable {X : Cx} {K : PySem.W.Frag} {d : Addr} {es : Array DictEntry} {n : Nat} {o e : Expr} {apos cpos pos : Pos} {to te : TE}
def tGetK (K : PySem.W.Frag) (d : Addr) (to te : TE) : TE := fun σ H Q => to σ H fun x H1 => x = .ref d ∧ te σ H1 fun y H2 => ∃ (z : Str) (r : Option Value) (v : V), y = .str z ∧ PySem.W.nsIn K d z = some r ∧ RelV v (r.getD .none) ∧ Q v H2
theorem pe_getK (D : KDict X.K X.w d es n) (ho : PE X o to) (he : PE X e te) (m : M1 X o "get" apos e cpos) : PE X (.Call (.Attribute o "get" apos) [e] [] cpos) (tGetK X.K d to te) := by
  refine ⟨fun pins s σ H Q I h => ?_⟩
  refine wpAny_Call_method m.base m.few m.line PySem.F.plainAttrs_dict PySem.F.slot_dict_get PySem.F.type_dict_get (thn (ho.run pins s σ H _ I h) fun u s1 ⟨x, H1, I1, rx, ex, q1⟩ => ?_)
  subst ex
  obtain rfl : u = Value.ref d := rx
  refine ⟨kd_type D I1, fun b q => ?_, ?_⟩
  · cases q
    exact ⟨_, I1.kIn _ _ D.at_, rfl⟩
  rw [m.trees]
  refine Calls.callWith_builtin rfl (Calls.evalArgs_plain (Calls.spliced_cons (thn (he.run pins s1 σ H1 _ I1 q1) fun iv s2 ⟨y, H2, I2, ry, z, r, v, ey, g, rv, q2⟩ => Calls.spliced_nil ?_)))
  subst ey
  obtain ⟨t, rfl⟩ := ry
  refine call_meetsIn PySem.F.slot_dict_get (kd_type D I2) PySem.F.entry_dict_get (PySem.F.args_dict_get_2 _ _) (meets_dict_get (PySem.strKind X.prog X.w) d (PySem.strKind_is X.prog X.w z t) D.low) ⟨_, PySem.W.mapOf_K (prog := X.prog) I2.kIn D.at_ D.lit, ?_⟩
  rw [PySem.W.find_K D.at_ g]
  exact ⟨v, H2, I2.tok _, rv, q2⟩
def eGetK (tab : List (Str × List D)) (fa : EF) : EF := fun s => (fa s).bind fun p => match p.1 with
  | .val (.d (.str z)) => some ((match tab.lookup z with | some ds => .val (.d (.tpw ds)) | none => .val (.d .non)), p.2)
  | _ => none
variable {x : Str} {p : Pos} {fa : EF} {tab : List (Str × List D)}
theorem v_getK (T : KTab X.K X.w X.mg x tab) (hg : Gl X x) (he : VE X e fa) (hb : attributeBase (.Name x p) "get" X.env (eval (.Name x p) X.env) = eval (.Name x p) X.env := by rfl) (hf : ((backTo cpos (starEach [e] X.env)).all (fun x => !x.1) && (backToKw cpos (keywordEach [] X.env)).all (fun x => x.1.isSome) && decide (([e] : List Expr).length + ([] : List Keyword).length + (if ([] : List Keyword).isEmpty then 0 else 1) < 30)) = true := by rfl) (hline : (apos.endLine == cpos.line) = true := by rfl) (htr : backTo cpos (starEach [e] X.env) = [(false, eval e X.env)] := by rfl) (hd : (x == ("__debug__" : Str)) = false := by decide) : VE X (.Call (.Attribute (.Name x p) "get" apos) [e] [] cpos) (eGetK tab fa) := by
  obtain ⟨a, es, n, hm, D, ht⟩ := T.ex
  have ho : PE X (.Name x p) (fun σ H Q => Q (.ref a) H) := pe_glob (v := .ref a) hg hm rfl hd
  refine ⟨(pe_getK D ho he.pe ⟨hb, hf, hline, htr⟩).imp fun σ H Q ⟨g, s, r', s', hgg, R, hf, k⟩ => ?_⟩
  obtain ⟨⟨ra, s1⟩, h1, hf⟩ := Option.bind_eq_some_iff.mp hf
  dsimp only at hf
  split at hf
  · rename_i z
    cases hf
    subst hgg
    refine ⟨rfl, g, s, _, _, rfl, R, h1, fun y g1 p1 R1 q1 => ?_⟩
    cases q1
    have hz := ht z
    cases hl : tab.lookup z with
    | some ds =>
      rw [hl] at hz k
      obtain ⟨c, vs, e1, e2, e3⟩ := hz
      exact ⟨z, _, .ref c, rfl, e1, rfl, k _ g1 p1 R1 (Dd.tpw e2 (e3 _))⟩
    | none =>
      rw [hl] at hz k
      exact ⟨z, _, .non, rfl, hz, rfl, k _ g1 p1 R1 Dd.non⟩
  · cases hf
end
/-! ### what is looked at behind the module's run -/
def tupA (K : PySem.W.Frag) (a : Addr) (vs : List He.Dv) : Bool := match K.lookup a with
  | some ⟨.type c, _, .seq its _, _⟩ => decide (c = "tuple") && (decide (its.size ≤ sizeLine) && He.relAll (vs.map (He.Dv.v K)) its.toList)
  | _ => false
theorem tupA_ok {K : PySem.W.Frag} {a : Addr} {vs : List He.Dv} (h : tupA K a vs = true) (H : Hp) : SqT K H a (vs.map (He.Dv.v K)) := by
  unfold tupA at h
  split at h
  · rename_i c od its n sl q
    rw [Bool.and_eq_true, Bool.and_eq_true] at h
    exact .inr ⟨_, its, n, q, congrArg Value.type (of_decide_eq_true h.1), rfl, of_decide_eq_true h.2.1, He.relAll_ok h.2.2⟩
  · cases h
def keyS (e : DictEntry) : Option Str := match e.key with
  | .str x _ => some x
  | _ => none
def kdB (K : PySem.W.Frag) (x : Str) (tab : List (Str × List He.Dv)) : Bool := match K.lookup (He.ga K x) with
  | some ⟨_, _, .dict es _, _⟩ => decide (es.toList.map keyS = tab.map fun q => some q.1) && tab.all fun q => match PySem.W.nsIn K (He.ga K x) q.1 with
    | some (some (.ref c)) => tupA K c q.2
    | _ => false
  | _ => false
theorem key_none {es : List DictEntry} {ks : List Str} {z : Str} (h : es.map keyS = ks.map some) (hz : z ∉ ks) : es.find? (fun e => e.key.isStr z) = none ∧ es.any (·.refKey) = false := by
  induction es generalizing ks with
  | nil => exact ⟨rfl, rfl⟩
  | cons e es ih =>
    cases ks with
    | nil => cases h
    | cons k ks =>
      rw [List.map_cons, List.map_cons] at h
      injection h with h1 h2
      obtain ⟨i1, i2⟩ := ih h2 (fun m => hz (List.mem_cons_of_mem _ m))
      unfold keyS at h1
      split at h1
      · rename_i y t hk
        cases h1
        have hne : (e.key.isStr z) = false := by
          rw [hk]
          show (k == z) = false
          rw [beq_eq_false_iff_ne]
          exact fun q => hz (by rw [← q]; exact List.mem_cons_self)
        refine ⟨by rw [List.find?_cons_of_neg (by rw [hne]; simp)]; exact i1, ?_⟩
        rw [List.any_cons, i2, Bool.or_false]
        unfold DictEntry.refKey
        rw [hk]
      · cases h1
theorem look_ex {α β : Type} {l : List (Str × α)} {m : List (Str × β)} {f : α → Option β} (h : (l.map fun q => (q.1, f q.2)) = m.map fun q => (q.1, some q.2)) (z : Str) : match m.lookup z with
    | some d => ∃ v, (z, v) ∈ l ∧ f v = some d
    | none => z ∉ l.map (·.1) := by
  induction l generalizing m with
  | nil =>
    cases m with
    | nil => exact List.not_mem_nil
    | cons _ _ => cases h
  | cons p l ih =>
    cases m with
    | nil => cases h
    | cons q m =>
      rw [List.map_cons, List.map_cons] at h
      injection h with h1 h2
      obtain ⟨e1, e2⟩ := Prod.mk.inj h1
      have i := ih h2
      rw [List.lookup_cons]
      by_cases hz : z = q.1
      · rw [show (z == q.1) = true from by rw [hz]; exact beq_self_eq_true _]
        exact ⟨p.2, by rw [hz, ← e1]; exact List.mem_cons_self, e2⟩
      · rw [show (z == q.1) = false from beq_eq_false_iff_ne.mpr hz]
        dsimp only
        cases hm : m.lookup z with
        | some d =>
          rw [hm] at i
          obtain ⟨v, v1, v2⟩ := i
          exact ⟨v, List.mem_cons_of_mem _ v1, v2⟩
        | none =>
          rw [hm] at i
          intro q9
          rcases List.mem_cons.mp q9 with q9 | q9
          · exact hz (by rw [q9]; exact e1)
          · exact i q9
theorem ktab_ok {K : PySem.W.Frag} {w : World} {h : Heap} {mg : Str → Option Value} {x : Str} {tab : List (Str × List He.Dv)} {tabD : List (Str × List D)} (X : K.In h) (G : h.Ns mainGlobals mg) (c : (He.Fa.glo x).ok K = true) (hd : ∃ es n, KDict K w (He.ga K x) es n) (hk : kdB K x tab = true) (e : (tab.map fun q => (q.1, dvDs q.2)) = tabD.map fun q => (q.1, some q.2)) : KTab K w mg x tabD := by
  obtain ⟨es, n, D⟩ := hd
  refine ⟨_, es, n, He.glo_ok X G c, D, fun z => ?_⟩
  unfold kdB at hk
  rw [D.at_] at hk
  dsimp only at hk
  rw [Bool.and_eq_true] at hk
  obtain ⟨h1, h2⟩ := hk
  have h1 := of_decide_eq_true h1
  have i := look_ex e z
  cases hl : tabD.lookup z with
  | some ds =>
    rw [hl] at i
    obtain ⟨v, v1, v2⟩ := i
    have h3 := List.all_eq_true.mp h2 _ v1
    dsimp only at h3
    split at h3
    · rename_i c9 hc
      exact ⟨c9, _, hc, fun H => tupA_ok h3 H, fun Φ => dvDs_ok v2⟩
    · cases h3
  | none =>
    rw [hl] at i
    unfold PySem.W.nsIn
    rw [D.at_]
    dsimp only
    obtain ⟨k1, k2⟩ := key_none (ks := tab.map (·.1)) (by rw [h1, List.map_map]; rfl) i
    rw [k1, k2]
    rfl
end NV

namespace NV
open PySem PySem.Spec PyProof.Rows L2
/-! ### evaluation of what is done with texts -/
section
variable {s : S} {ff : AF} {fa fo : EF} {Q : R → S → Prop} {P : R → Prop} {st : Sto} {Y' : Itm → S → Prop} {z y : Str} {ws : List W}
@[simp ↓] theorem es_eGetK {tab : List (Str × List D)} : Es (eGetK tab fa s) Q ↔ Es (fa s) fun r s1 => StrK r fun z => Q (match tab.lookup z with | some ds => .val (.d (.tpw ds)) | none => .val (.d .non)) s1 := by
  simp only [eGetK, es_ev, ev_bind', StrK]
  constructor
  · intro h
    refine h.imp fun p h => ?_
    split at h
    · rename_i z hz
      rw [ev_some'] at h
      exact ⟨z, hz, h⟩
    · exact h.elim fun _ h => by cases h.1
  · intro h
    refine h.imp fun p h => ?_
    obtain ⟨z, hz, h⟩ := h
    rw [hz]
    exact ev_some'.mpr h
@[simp ↓] theorem es_iSg : Es (iSg fa s) Y' ↔ Es (fa s) fun r s1 => StrK r fun z => Y' ⟨ySigns z, []⟩ s1 := by
  simp only [iSg, es_ev, ev_bind', StrK]
  constructor
  · intro h
    refine h.imp fun p h => ?_
    split at h
    · rename_i z hz
      rw [ev_some'] at h
      exact ⟨z, hz, h⟩
    · exact h.elim fun _ h => by cases h.1
  · intro h
    refine h.imp fun p h => ?_
    obtain ⟨z, hz, h⟩ := h
    rw [hz]
    exact ev_some'.mpr h
def StrsK (ws : List W) (B : List Str → Prop) : Prop := Ev (strsW ws) B
theorem strsW_map (ys : List Str) : strsW (ys.map (W.d ∘ D.str)) = some ys := by
  induction ys with
  | nil => rfl
  | cons y ys ih =>
    rw [List.map_cons]
    show (strsW (ys.map (W.d ∘ D.str))).map _ = _
    rw [ih]
    rfl
@[simp ↓] theorem strsk_map {ys : List Str} {B : List Str → Prop} : StrsK (ys.map (W.d ∘ D.str)) B ↔ B ys := by
  unfold StrsK
  rw [strsW_map]
  exact ev_some'
@[simp ↓] theorem strsk_nil {B : List Str → Prop} : StrsK [] B ↔ B [] := ev_some'
@[simp ↓] theorem strsk_cons {B : List Str → Prop} : StrsK (.d (.str z) :: ws) B ↔ StrsK ws fun ys => B (z :: ys) := by
  unfold StrsK
  show Ev ((strsW ws).map _) B ↔ _
  rw [ev_map']
theorem joinOf_k : Ev (joinOf z ws) P ↔ StrsK ws fun ys => (ys.map (·.length)).sum + ys.length * z.length ≤ 16777216 ∧ P (.val (.d (.str (Txt.join z ys)))) := by
  unfold joinOf StrsK
  rw [ev_bind']
  constructor
  · intro h
    refine h.imp fun ys h => ?_
    rw [ev_ite'] at h
    split at h
    · exact ⟨by assumption, ev_some'.mp h⟩
    · exact h.elim fun _ h => by cases h.1
  · intro h
    refine h.imp fun ys h => ?_
    rw [if_pos h.1]
    exact ev_some'.mpr h.2
@[simp ↓] theorem sm_join_l : Ev (hJoin z [.lst ws]) P ↔ StrsK ws fun ys => (ys.map (·.length)).sum + ys.length * z.length ≤ 16777216 ∧ P (.val (.d (.str (Txt.join z ys)))) := joinOf_k
@[simp ↓] theorem sm_join_t : Ev (hJoin z [.tup ws]) P ↔ StrsK ws fun ys => (ys.map (·.length)).sum + ys.length * z.length ≤ 16777216 ∧ P (.val (.d (.str (Txt.join z ys)))) := joinOf_k
@[simp ↓] theorem sm_split : Ev (hSplit z [.at (.str y)]) P ↔ ((y.length == 0) = false ∧ z.length + 2 ≤ sizeLine) ∧ P (.new (.lst ((Txt.split z y).map (W.d ∘ D.str)))) := by
  show Ev (if _ then _ else _) P ↔ _
  rw [ev_ite']
  constructor
  · intro h
    split at h
    · exact ⟨by assumption, ev_some'.mp h⟩
    · exact h.elim fun _ h => by cases h.1
  · intro h
    rw [if_pos h.1]
    exact ev_some'.mpr h.2
@[simp ↓] theorem ca_intX_i {i : Int} : Ev (hIntX [.at (.int i)]) P ↔ P (iR i) := ev_some'
@[simp ↓] theorem ca_intX_s : Ev (hIntX [.at (.str z)]) P ↔ z.length ≤ 640 ∧ ∃ n, PySem.intText? z = some n ∧ P (iR n) := by
  show Ev (if z.length ≤ 640 then _ else none) P ↔ _
  rw [ev_ite']
  constructor
  · intro h
    split at h
    · rw [ev_map'] at h
      obtain ⟨n, e, q⟩ := h
      exact ⟨by assumption, n, e, q⟩
    · exact h.elim fun _ h => by cases h.1
  · rintro ⟨h1, n, e, q⟩
    rw [if_pos h1, ev_map']
    exact ⟨n, e, q⟩
theorem notInX_sgn {c : Nat} : Ev (hNotInX (.at (.str (sgn c))) (.at (.str z))) P ↔ P (bR (!decide (c ∈ z.cps.toList))) := by
  have e : hNotInX (.at (.str (sgn c))) (.at (.str z)) = some (bR (!decide (c ∈ z.cps.toList))) := rfl
  rw [e]
  exact ev_some'
end
end NV

namespace NV
open PySem PySem.Spec PyProof.Rows L2
/-! ### a world told by one of its answers: a module that makes a dict asks the world about "special-get-raises" -/
def setF (w : World) (b : Bool) : World := { w with params := { w.params with followText := fun s => if s = "special-get-raises" then b else w.params.followText s } }
theorem setF_eq (w : World) : setF w (w.params.followText "special-get-raises") = w := by
  have e : (fun s => if s = "special-get-raises" then w.params.followText "special-get-raises" else w.params.followText s) = w.params.followText := by
    funext s
    split
    · rename_i h; rw [h]
    · rfl
  unfold setF
  rw [e]
theorem run_any {P : World → Prop} (f : ∀ w, P (setF w false)) (t : ∀ w, P (setF w true)) (w : World) : P w := by
  have h : ∀ b, P (setF w b) := fun b => by
    cases b
    · exact f w
    · exact t w
  have := h (w.params.followText "special-get-raises")
  rw [setF_eq] at this
  exact this
/-! ### C() -/
section
variable {X : Cx} {c x : Str} {F : FF} {k n : Nat} {ps : List Str} {p pos : Pos}
theorem v_cN0 (M : Mk X.K (He.ga X.K c) (He.ma X.K (He.ga X.K c) "__init__")) (G : Okm X.prog X.w X.K X.mg c "__init__" k ps (spF X.K 1 F)) (hr : Room (k + 1) X.A) (hg : Gl X x) (hm : X.mg x = some (.ref (He.ga X.K c))) (hdb : (x == ("__debug__" : Str)) = false := by decide) : VE X (.Call (.Name x p) [] [] pos) (eMake c F aNil) := by
  obtain ⟨fd, G, b⟩ := G
  refine ⟨(pe_make0 M (G _) hr hg hm b .nil pass0 hdb).imp fun σ H Q q => ?_⟩
  have h := make_ok (es := []) (n := 1) rfl va_nil (fun s ws s' e => by cases e; rfl) q
  obtain ⟨g1, s1, rs, s2, e4, R1, e5, k2⟩ := h
  cases e5
  rw [← e4]
  exact k2 [] g1 Step.refl R1 .nil
end
end NV

namespace NV
open PySem PySem.Spec PyProof.Rows L2
/-! ### str of a number or of a text -/
theorem call_strX {X : Cx} : CallR X (.type "str") (fun xs H Q => ∃ v, xs = [v] ∧ ((∃ i, v = .int i ∧ i.natAbs.log2 < 1920 ∧ Q (.str (toString i)) H) ∨ (∃ z, v = .str z ∧ Q (.str z) H))) := by
  intro pins s σ H xs us Q I r h
  obtain ⟨v, rfl, h⟩ := h
  obtain h | ⟨z, rfl, q⟩ := h
  · obtain ⟨i, rfl, hz, q⟩ := h
    obtain ⟨u, rfl, t, rfl⟩ := vals1 r
    exact PySem.P.str_of_int hz ⟨.str _, H, I.tok _, ⟨_, rfl⟩, q⟩
  · obtain ⟨u, rfl, t, rfl⟩ := vals1 r
    exact PySem.P.str_of_str ⟨.str z, H, I, ⟨t, rfl⟩, q⟩
def hStrX : CaH
  | [.at (.int i)] => if i.natAbs.log2 < 1920 then some (.val (.d (.str (toString i)))) else none
  | [.at (.str z)] => some (.val (.d (.str z)))
  | _ => none
theorem c_strX {X : Cx} : CaV X (.type "str") hStrX := by
  refine ⟨_, call_strX, fun g vs us res Q go h e k => ?_⟩
  unfold hStrX at e
  split at e
  · split at e
    · rename_i hz
      cases e
      obtain ⟨v, rfl, q⟩ := one_vu h
      cases q.int
      exact ⟨_, rfl, .inl ⟨_, rfl, hz, k _ g (Ext.refl go) Dd.str⟩⟩
    · cases e
  · cases e
    obtain ⟨v, rfl, q⟩ := one_vu h
    cases q.str
    exact ⟨_, rfl, .inr ⟨_, rfl, k _ g (Ext.refl go) Dd.str⟩⟩
  · cases e
end NV

namespace NV
open PySem PySem.Spec PyProof.Rows L2
/-! ### try .. except C: return "text", several clauses; a def of data called with what may raise -/
def sTryC (cs : List Str) (l : List (Str × Str)) (hb : SFX) : SF := fun s => (hb s).bind fun o => match o with
  | .o x => some x
  | .ex c s' => if c ∈ cs then (l.find? fun p => exSub c p.1).map fun p => .rt (.val (.d (.str p.2))) s' else none
inductive HdC (X : Cx) (cs : List Str) : List ExceptHandler → List (Str × Str) → Prop
  | nil : HdC X cs [] []
  | cons {x m : Str} {np p p2 pos' : Pos} {j} {hds : List ExceptHandler} {l : List (Str × Str)} (hc : Names X x (.ref (He.ga X.K x)))
      (hm : ∀ c ∈ cs, PySem.W.exmOne X.K (.ref (He.ga X.K c)) (.ref (He.ga X.K x)) = some (exSub c x)) (r : HdC X cs hds l) :
      HdC X cs (.ExceptHandler (some (.Name x np)) none [.Return (some (.Constant (.str m) j p)) p2] pos' :: hds) ((x, m) :: l)
section
variable {X : Cx} {cs : List Str} {sms : List Stmt} {pos : Pos} {hb : SFX}
variable {W : WX} {e : Expr} {fa : EFX}
def eCallPX (F : FF) (fa : EFX) : EFX := bindX fa fun r s => r.w.bind fun w => (dats [w]).bind fun ds => (callP F ds).map fun r' => .ok r' s
end
section
variable {s : S} {fa : EFX} {Q : R → S → Prop} {Qx : Str → S → Prop} {n : S → Prop} {r : R → S → Prop} {b c : S → Prop} {h1 : SFX} {cs : List Str}
@[simp ↓] theorem esx_callPX {F : FF} : Esx (eCallPX F fa s) Q Qx ↔ Esx (fa s) (fun p s1 => RwK p fun w => DatsK [w] fun ds => Ev (callP F ds) fun r' => Q r' s1) Qx := by
  unfold eCallPX
  rw [esx_bind]
  have e : ∀ (p : R) (s1 : S), Esx (p.w.bind fun w => (dats [w]).bind fun ds => (callP F ds).map fun r' => .ok r' s1) Q Qx ↔ RwK p fun w => DatsK [w] fun ds => Ev (callP F ds) fun r' => Q r' s1 := fun p s1 => by
    unfold RwK DatsK Ev
    cases hv : p.w with
    | none => simp [Esx]
    | some u =>
      cases hg : dats [u] with
      | none => simp [Esx, hg]
      | some ds =>
        cases hc : callP F ds with
        | none => simp [Esx, hg, hc]
        | some r' => simp [Esx, hg, hc]
  simp only [e]
@[simp ↓] theorem eo_tryC {l : List (Str × Str)} : Eo (sTryC cs l h1 s) n r b c ↔ Eox (h1 s) n r b c (fun c' s' => c' ∈ cs ∧ ∃ p, (l.find? fun p => exSub c' p.1) = some p ∧ r (.val (.d (.str p.2))) s') := by
  unfold sTryC
  cases hf : h1 s with
  | none => simp [Eo, Eox]
  | some p =>
    cases p with
    | o y => cases y <;> simp [Eo, Eox]
    | ex c' s' =>
      by_cases hc : c' ∈ cs
      · cases hl : l.find? fun p => exSub c' p.1 with
        | none => simp [Eo, Eox, hc, hl]
        | some p =>
          constructor
          · rintro ⟨y, h, q⟩
            have h' : (if c' ∈ cs then (l.find? fun p => exSub c' p.1).map fun p => O.rt (.val (.d (.str p.2))) s' else none) = some y := h
            rw [if_pos hc, hl] at h'
            cases h'
            exact ⟨_, rfl, hc, p, hl, q⟩
          · rintro ⟨y, h, q⟩
            cases h
            obtain ⟨_, p', h, q⟩ := q
            rw [hl] at h
            cases h
            refine ⟨.rt (.val (.d (.str p.2))) s', ?_, q⟩
            show (if c' ∈ cs then (l.find? fun p => exSub c' p.1).map fun p => O.rt (.val (.d (.str p.2))) s' else none) = _
            rw [if_pos hc, hl]
            rfl
      · simp [Eo, Eox, hc]
end
end NV

namespace NV.LB
open PySem PySem.Spec PyProof.Rows L2 NV
noncomputable def h_board_of : SF := sRet (eOp hDiv (eVar 1) (eVar 0))
noncomputable def F_board_of : FF := runF 2 h_board_of
noncomputable def h_shelf_of : SF := sRet (eOp hMod (eVar 1) (eVar 0))
noncomputable def F_shelf_of : FF := runF 2 h_shelf_of
noncomputable def h_box : SF := sSeq (sAsg (eIf (tE (eOp hLt (eVar 1) (eCa hLen (aCons (eVar 0) (aNil))))) (eOp hIx (eVar 0) (eVar 1)) (eC (.int 0))) (gN 2)) (sRet (eLst (aCons (eOp hMul (eCa hAbs (aCons (eVar 2) (aNil))) (eCa hInt (aCons (eOp hGe (eCa hAbs (aCons (eVar 2) (aNil))) (eOp hPow (eC (.int 10)) (eC (.int 18)))) (aNil)))) (aCons (eOp hMod (eOp hMul (eOp hAdd' (eOp hAdd' (eOp hMod (eVar 2) (eC (.int 2147483629))) (eOp hMul (eC (.int 15485863)) (eVar 1))) (eC (.int 37))) (eC (.int 48271))) (eC (.int 2147483647))) (aCons (eC (.int 0)) (aNil))))))
noncomputable def F_box : FF := runF 3 h_box
noncomputable def h_take : SF := sSeq (sIf (tE (eOp hGt (eOp hIx (eVar 0) (eC (.int 0))) (eC (.int 0)))) (sSeq (sAsg (eCa hDivmod (aCons (eOp hIx (eVar 0) (eC (.int 0))) (aCons (eVar 1) (aNil)))) (gT 2 (gCons' (gSb (eVar 0) (eC (.int 0))) (gCons' (gN 2) (gNil'))))) (sRet (eVar 2))) (sNext)) (sSeq (sAsg (eOp hAdd' (eOp hIx (eVar 0) (eC (.int 2))) (eC (.int 1))) (gSb (eVar 0) (eC (.int 2)))) (sSeq (sAsg (eOp hAdd' (eC (.int 69621)) (eOp hMul (eOp hIx (eVar 0) (eC (.int 2))) (eOp hIx (eVar 0) (eC (.int 2))))) (gN 3)) (sSeq (sAsg (eOp hMod (eOp hMul (eOp hAdd' (eOp hIx (eVar 0) (eC (.int 1))) (eOp hMul (eC (.int 39373)) (eOp hIx (eVar 0) (eC (.int 2))))) (eVar 3)) (eC (.int 2147483587))) (gN 4)) (sSeq (sAsg (eOp hMod (eOp hAdd' (eOp hMul (eVar 4) (eOp hAdd' (eOp hMod (eVar 4) (eC (.int 30011))) (eC (.int 5)))) (eOp hIx (eVar 0) (eC (.int 2)))) (eC (.int 2147483563))) (gN 5)) (sRet (eOp hMod (eOp hDiv (eOp hMod (eOp hMul (eVar 5) (eOp hAdd' (eOp hMod (eVar 5) (eC (.int 1013))) (eC (.int 3)))) (eC (.int 998244353))) (eC (.int 16))) (eVar 1)))))))
noncomputable def F_take : FF := runF 6 h_take
noncomputable def h_folded : SF := sSeq (sAsgO (eCa hList (aCons (eSl hSl (eVar 0) (oNone) (oSome (eVar 1))) (aNil))) (gN 2)) (sSeq (sFor (iEn (aCons (eSl hSl (eVar 0) (oSome (eVar 1)) (oSome (eC (.int 63)))) (aNil))) (gT 2 (gCons' (gN 3) (gCons' (gN 4) (gNil')))) (sAsg (eOp hAdd' (eOp hIx (eVar 2) (eOp hMod (eVar 3) (eVar 1))) (eOp hMul (eVar 4) (eOp hAdd' (eVar 3) (eC (.int 2))))) (gSb (eVar 2) (eOp hMod (eVar 3) (eVar 1))))) (sRet (eVar 2)))
noncomputable def F_folded : FF := runF 5 h_folded
noncomputable def h_same (F : FF) : SF := sSeq (sIf (tE (eCa hIs1 (aCons (eVar 1) (aCons (eTup (aCons (eC (.ty "list")) (aCons (eC (.ty "tuple")) (aNil)))) (aNil))))) (sSeq (sIf (tOrF (tNotF (tE (eCa hIs1 (aCons (eVar 0) (aCons (eTup (aCons (eC (.ty "list")) (aCons (eC (.ty "tuple")) (aNil)))) (aNil)))))) (tE (eOp hNe (eCa hIs1 (aCons (eVar 0) (aCons (eC (.ty "list")) (aNil)))) (eCa hIs1 (aCons (eVar 1) (aCons (eC (.ty "list")) (aNil))))))) (sRet (eC (.bl false))) (sNext)) (sRet (eAnd (eOp hEq (eCa hLen (aCons (eVar 0) (aNil))) (eCa hLen (aCons (eVar 1) (aNil)))) (eCa hAll (aCons (eLc (iZp (aCons (eVar 0) (aCons (eVar 1) (aNil)))) (gT 2 (gCons' (gN 2) (gCons' (gN 3) (gNil')))) (tYes') (eCallP F (aCons (eVar 2) (aCons (eVar 3) (aNil)))) [2, 3]) (aNil)))))) (sNext)) (sSeq (sIf (tOrF (tE (eOp hIs (eVar 1) (eC .non))) (tE (eCa hIs1 (aCons (eVar 1) (aCons (eC (.ty "str")) (aNil)))))) (sRet (eAnd (eOp hEq (eVar 0) (eVar 1)) (eOp hEq (eCa hIs1 (aCons (eVar 0) (aCons (eC (.ty "str")) (aNil)))) (eCa hIs1 (aCons (eVar 1) (aCons (eC (.ty "str")) (aNil))))))) (sNext)) (sRet (eAnd (eCa hIs1 (aCons (eVar 0) (aCons (eC (.ty "int")) (aNil)))) (eAnd (eOp hEq (eCa hIs1 (aCons (eVar 0) (aCons (eC (.ty "bool")) (aNil)))) (eCa hIs1 (aCons (eVar 1) (aCons (eC (.ty "bool")) (aNil))))) (eOp hEq (eVar 0) (eVar 1))))))
noncomputable def F_same : Nat → FF
  | 0 => fun _ _ => none
  | n + 1 => runF 4 (h_same (F_same n))
noncomputable def h_boxes : SF := sSeq (sAsg (eCallP F_folded (aCons (eVar 0) (aCons (eVar 1) (aNil)))) (gN 2)) (sRet (eLcO (iR1 (aCons (eCa hMax (aCons (eC (.int 1)) (aCons (eCa hLen (aCons (eVar 2) (aNil))) (aNil)))) (aNil))) (gN 3) (tYes') (eCallP F_box (aCons (eVar 2) (aCons (eVar 3) (aNil)))) [3]))
noncomputable def F_boxes : FF := runF 4 h_boxes
section
variable {Q : R → Prop}
theorem cMul_r {i j : Int} (h : -18446744073709551616 < j) (h' : j < 18446744073709551616) : cMul i j = true := by simp [cMul]; omega
theorem cMul_l {i j : Int} (h : -18446744073709551616 < i) (h' : i < 18446744073709551616) : cMul i j = true := by simp [cMul]; omega
/-! boxes of draws -/
abbrev bx (x y z : Int) : Nd := .lst [.d (.int x), .d (.int y), .d (.int z)]
/-- a box of at most k draws -/
def Box (k : Int) (nd : Nd) : Prop := ∃ x y z : Int, nd = bx x y z ∧ 0 ≤ x ∧ 0 ≤ z ∧ z ≤ k
theorem Box.mono {k k' : Int} {nd : Nd} (h : Box k nd) (l : k ≤ k') : Box k' nd := let ⟨x, y, z, e, h1, h2, h3⟩ := h; ⟨x, y, z, e, h1, h2, by omega⟩
theorem Box.isd {k : Int} {nd : Nd} (h : Box k nd) : nd.dat.isSome = true := by obtain ⟨x, y, z, rfl, _⟩ := h; rfl
theorem take_ev {k n : Int} {nd : Nd} {Q : R × Nd → Prop} (hb : Box k nd) (hk : k < 2147483648) (hn : 0 < n) (hn' : n < 1073741824) (q : ∀ r nd', 0 ≤ r → r < n → Box (k + 1) nd' → Q (iR r, nd')) : Ev (callB F_take [.obj 0, .d (.int n)] nd) Q := by
  obtain ⟨x, y, z, rfl, hx, hz, hzk⟩ := hb
  rw [ev_callB]
  simp [F_take, h_take]
  split
  · exact ⟨⟨hn, hn'⟩, q _ _ (Int.emod_nonneg _ (by omega)) (Int.emod_lt_of_pos _ hn) ⟨_, _, _, rfl, Int.ediv_nonneg hx (by omega), hz, by omega⟩⟩
  · have h2 : (z + 1) * (z + 1) ≤ 2147483648 * 2147483648 := Int.mul_le_mul (by omega) (by omega) (by omega) (by omega)
    have h3 : 0 ≤ (z + 1) * (z + 1) := Int.mul_nonneg (by omega) (by omega)
    exact ⟨cMul_l (by omega) (by omega), cMul_l (by omega) (by omega), cMul_r (by omega) (by omega), cMul_l (by omega) (by omega), cMul_l (by omega) (by omega), hn, q _ _ (Int.emod_nonneg _ (by omega)) (Int.emod_lt_of_pos _ hn) ⟨_, _, _, rfl, hx, by omega, by omega⟩⟩
theorem at_ints {ns : List Int} {k : Int} {V : W → Prop} (h : 0 ≤ k) (h' : k < ns.length) (q : ∀ i ∈ ns, V (.d (.int i))) : AtK (ns.map (W.d ∘ D.int)) k V := by
  unfold AtK
  rw [atI_nn h, List.getElem?_map, List.getElem?_eq_getElem (by omega)]
  exact ev_some'.mpr (q _ (List.getElem_mem _))
theorem box_ev {ns : List Int} {k : Int} {Q : R → Prop} (hk : 0 ≤ k) (hk' : k < 2147483648) (q : ∀ nd, Box 0 nd → Q (.new nd)) : Ev (callP F_box [.lst (ns.map .int), .int k]) Q := by
  rw [ev_callP]
  simp [F_box, h_box]
  have hp : cPow 10 18 = true := by decide
  split
  · refine at_ints hk (by omega) fun i _ => ?_
    simp
    have h1 : (10 : Int) ^ (18 : Nat) = 1000000000000000000 := by decide
    have h5 : 0 ≤ (i.natAbs : Int) * (if 1000000000000000000 ≤ (i.natAbs : Int) then 1 else 0) := Int.mul_nonneg (by omega) (by split <;> omega)
    refine ⟨hp, cMul_r (by split <;> omega) (by split <;> omega), cMul_l (by omega) (by omega), cMul_r (by omega) (by omega), q _ ⟨_, _, _, rfl, h5, by omega, by omega⟩⟩
  · exact ⟨hp, by decide, cMul_l (by omega) (by omega), cMul_r (by omega) (by omega), q _ ⟨_, _, _, rfl, by omega, by omega, by omega⟩⟩
theorem sIx_nn {n d : Nat} {a : Int} (h : 0 ≤ a) : HT.sIx n d (some a) = min a.toNat n := by
  unfold HT.sIx
  simp only
  rw [if_neg (by omega)]
theorem put_ints {ms : List Int} {k v : Int} {N : List W → Prop} (h : 0 ≤ k) (h' : k < ms.length) (q : N ((ms.set k.toNat v).map (W.d ∘ D.int))) : PutK (ms.map (W.d ∘ D.int)) k (.d (.int v)) N := by
  have e : k = (k.toNat : Int) := by omega
  rw [e, putk (by simp; omega)]
  rw [List.map_set] at q
  exact q
theorem cut_to {α : Type} {l : List α} {m : Int} (h : 0 ≤ m) : cut l none (some m) = l.take m.toNat := by
  unfold cut
  rw [sIx_nn h]
  simp [HT.sIx]
theorem cut_mid {α : Type} {l : List α} {a b : Int} (h : 0 ≤ a) (h' : 0 ≤ b) : cut l (some a) (some b) = (l.drop (min a.toNat l.length)).take (min b.toNat l.length - min a.toNat l.length) := by
  unfold cut
  rw [sIx_nn h, sIx_nn h']
theorem folded_ev {ns : List Int} {m : Int} {Q : R → Prop} (hm : 0 < m) (hm' : m ≤ 63) (hl : ns.length ≤ 63) (q : ∀ ms : List Int, ms.length ≤ m → Q (.new (.lst (ms.map (W.d ∘ D.int))))) : Ev (callP F_folded [.lsw (ns.map .int), .int m]) Q := by
  rw [ev_callP]
  simp [F_folded, h_folded]
  rw [cut_to (by omega), cut_mid (by omega) (by omega)]
  refine forL_inv (fun _ s => ∃ a b, ∃ ms : List Int, s = ⟨[some (W.d (D.lsw (List.map D.int ns))), some (W.d (D.int m)), some (W.obj 0), a, b], [some (Nd.lst (ms.map (W.d ∘ D.int)))]⟩ ∧ ms.length = min m.toNat ns.length) _ 0 _ ?_ ?_ ?_
  · exact ⟨none, none, _, rfl, by simp⟩
  · rintro j y s - hy ⟨a, b, ms, rfl, hms⟩
    obtain ⟨w, hw, rfl⟩ := yEnum_get hy
    rw [List.getElem?_map] at hw
    obtain ⟨c, hc, rfl⟩ := Option.map_eq_some_iff.mp hw
    have hlen := (List.getElem?_eq_some_iff.mp hc).1
    simp at hlen
    have h0 : 0 ≤ (j : Int) % m := Int.emod_nonneg _ (by omega)
    have h1 : (j : Int) % m < m := Int.emod_lt_of_pos _ hm
    simp
    refine ⟨hm, at_ints h0 (by omega) fun i _ => ?_⟩
    simp
    exact ⟨cMul_r (by omega) (by omega), hm, put_ints h0 (by omega) ⟨_, _, _, ⟨⟨rfl, rfl⟩, rfl⟩, by simpa using hms⟩⟩
  · rintro s ⟨a, b, ms, rfl, hms⟩
    simp
    exact q ms (by omega)
theorem small_nn {j : Int} (h : 0 ≤ j) (h' : j < 1073741824) : small j = true := by simp [small]; omega
/-- the objects from n on -/
abbrev objs (n k : Nat) : List W := (List.range k).map fun i => W.obj (n + i)
theorem boxes_ev {ns : List Int} {m : Int} {st : Sto} {Q : R × Sto → Prop} (hm : 0 < m) (hm' : m ≤ 63) (hl : ns.length ≤ 63) (q : ∀ nds : List Nd, 0 < nds.length → nds.length ≤ m → (∀ nd ∈ nds, Box 0 nd) → Q (.new (.lst (objs st.length nds.length)), st ++ nds.map some)) : Ev (F_boxes [.d (.lsw (ns.map .int)), .d (.int m)] st) Q := by
  simp [F_boxes, h_boxes]
  refine folded_ev hm hm' hl fun ms hms => ?_
  simp
  refine ⟨small_nn (by omega) (by omega), ?_⟩
  have hn : (max 1 (ms.length : Int)).toNat = max 1 ms.length := by omega
  rw [hn]
  refine lcL_inv (fun j acc st' => ∃ nds : List Nd, nds.length = j ∧ acc = objs st.length j ∧ st' = st ++ nds.map some ∧ ∀ nd ∈ nds, Box 0 nd) _ 0 _ _ ⟨[], rfl, rfl, by simp, by simp⟩ (by simp [yInts, rng, sizeLine_eq]; omega) ?_ ?_
  · rintro j y acc st' - hy ⟨nds, rfl, rfl, rfl, hb⟩
    obtain ⟨h1, rfl⟩ := yInts_get hy
    simp [LcS]
    refine box_ev (by omega) (by omega) fun nd hnd => ?_
    simp [AppK, LenK]
    refine ⟨nds ++ [nd], by simp, ?_, by simp, ?_⟩
    · simp [objs, List.range_succ]
    · intro x hx
      rcases List.mem_append.mp hx with h | h
      · exact hb x h
      · cases List.mem_singleton.mp h; exact hnd
  · rintro acc st' ⟨nds, hl1, rfl, rfl, hb⟩
    simp [yInts, rng] at hl1
    rw [← hl1] at hn
    have := q nds (by omega) (by omega) hb
    simpa [yInts, rng, hl1] using this
/-! same of like things -/
/-- plain data of so many levels -/
def Pl : Nat → D → Prop
  | 0, _ => False
  | _ + 1, .non => True
  | _ + 1, .bl _ => True
  | _ + 1, .int _ => True
  | _ + 1, .str _ => True
  | n + 1, .lst l => l.length ≤ sizeLine ∧ ∀ x ∈ l, Pl n x
  | n + 1, .tup l => l.length ≤ sizeLine ∧ ∀ x ∈ l, Pl n x
  | _ + 1, _ => False
theorem yzip_self {l : List W} {y : Y} (h : y ∈ yZip l l) : ∃ w ∈ l, y = .tup [w, w] := by
  obtain ⟨i, hi⟩ := List.getElem?_of_mem h
  obtain ⟨w, w', h1, h2, rfl⟩ := yZip_get hi
  rw [h1] at h2; cases h2
  exact ⟨w, List.mem_of_getElem? h1, rfl⟩
@[simp] theorem yzip_len {l m : List W} : (yZip l m).length = min l.length m.length := by simp [yZip]
theorem same_ev : ∀ {n : Nat} {d : D} {Q : R → Prop}, Pl n d → Q (bR true) → Ev (callP (F_same n) [d, d]) Q
  | 0, _, _, h, _ => h.elim
  | n + 1, d, Q, h, q => by
    rw [ev_callP]
    cases d with
    | non => simp [F_same, h_same]; exact q
    | bl b => simp [F_same, h_same]; exact q
    | int i => simp [F_same, h_same]; exact q
    | str z => simp [F_same, h_same]; exact q
    | lst l =>
      simp [F_same, h_same]
      refine lc_g D.bl (fun _ => true) (by simpa using h.1) (fun y hy => ?_) ?_
      · obtain ⟨w, hw, rfl⟩ := yzip_self hy
        obtain ⟨d, hd, rfl⟩ := List.mem_map.mp hw
        simp [LcS]
        refine same_ev (h.2 d hd) ?_
        simp
      · rintro l' rfl
        generalize hb : List.map (fun _ => true) (yZip (List.map W.d l) (List.map W.d l)) = bs
        have hall : bs.all id = true := by rw [← hb]; simp
        simp
        rw [hall]
        exact q
    | tup l =>
      simp [F_same, h_same]
      refine lc_g D.bl (fun _ => true) (by simpa using h.1) (fun y hy => ?_) ?_
      · obtain ⟨w, hw, rfl⟩ := yzip_self hy
        obtain ⟨d, hd, rfl⟩ := List.mem_map.mp hw
        simp [LcS]
        refine same_ev (h.2 d hd) ?_
        simp
      · rintro l' rfl
        generalize hb : List.map (fun _ => true) (yZip (List.map W.d l) (List.map W.d l)) = bs
        have hall : bs.all id = true := by rw [← hb]; simp
        simp
        rw [hall]
        exact q
    | lsw l => exact h.elim
    | dct l => exact h.elim
    | ty l => exact h.elim
    | exc l => exact h.elim
    | tpw l => exact h.elim
@[simp ↓] theorem board_ev {n s : Int} {Q : R → Prop} : Ev (callP F_board_of [.int n, .int s]) Q ↔ (0 < n ∧ n < 1073741824) ∧ Q (iR (s / n)) := by
  rw [ev_callP]; simp [F_board_of, h_board_of]
@[simp ↓] theorem shelf_ev {n s : Int} {Q : R → Prop} : Ev (callP F_shelf_of [.int n, .int s]) Q ↔ 0 < n ∧ Q (iR (s % n)) := by
  rw [ev_callP]; simp [F_shelf_of, h_shelf_of]
@[simp] theorem cut_init {α : Type} {l : List α} {a : α} : cut (l ++ [a]) none (some (-1)) = l := by
  unfold cut HT.sIx
  have e : (-1 + ((l.length : Int) + 1)).toNat = l.length := by omega
  simp
  rw [e]; simp
/-- a store whose first n things are boxes of at most k draws -/
def StB (n : Nat) (k : Int) (st : Sto) : Prop := ∀ i, i < n → ∃ nd, st[i]? = some (some nd) ∧ Box k nd
theorem StB.keep {n : Nat} {k : Int} {st st' : Sto} (h : StB n k st) (e : ∀ a, a < n → st'[a]? = st[a]?) : StB n k st' := fun i hi => by
  obtain ⟨nd, h1, h2⟩ := h i hi
  exact ⟨nd, by rw [e i hi]; exact h1, h2⟩
theorem StB.mono {n : Nat} {k k' : Int} {st : Sto} (h : StB n k st) (l : k ≤ k') : StB n k' st := fun i hi => let ⟨nd, h1, h2⟩ := h i hi; ⟨nd, h1, h2.mono l⟩
theorem take_sb {N : Nat} {k n : Int} {i : Nat} {st : Sto} {P : R × Nd → Sto → Prop} (h : StB N k st) (hi : i < N) (hk : k < 2147483648) (hn : 0 < n) (hn' : n < 1073741824) (q : ∀ r nd' st', 0 ≤ r → r < n → StB N (k + 1) st' → P (iR r, nd') st') :
    GetK st i fun o => SoK o fun nd => nd.dat.isSome = true ∧ Ev (callB F_take [.obj 0, .d (.int n)] nd) fun r => SetK st i (some r.2) fun st' => P r st' := by
  obtain ⟨nd, h1, h2⟩ := h i hi
  refine ⟨_, h1, nd, rfl, h2.isd, take_ev h2 hk hn hn' fun r nd' h3 h4 h5 => q r _ _ h3 h4 fun j hj => ?_⟩
  by_cases e : i = j
  · subst e
    exact ⟨nd', List.getElem?_set_self (List.getElem?_eq_some_iff.mp h1).1, h5⟩
  · obtain ⟨nd2, h6, h7⟩ := h j hj
    exact ⟨nd2, by rw [List.getElem?_set_ne e]; exact h6, h7.mono (by omega)⟩
theorem at_or {ws : List W} {i : Int} {V Z : W → Prop} (h : 0 ≤ i) (h' : i < ws.length) (hz : ∀ w ∈ ws, Z w) (q : ∀ w, Z w → V w) : AtK ws i V := by
  unfold AtK
  rw [atI_nn h, List.getElem?_eq_getElem (by omega)]
  exact ev_some'.mpr (q _ (hz _ (List.getElem_mem _)))
end
end NV.LB

namespace NV.LB
open PySem PySem.Spec PyProof.Rows L2 NV
section
variable {Q : R → Prop}
/-! ### rooms' plans -/
def isW (d : D) (a b : Int) : Bool := match d with
  | .int i => decide (a ≤ i) && decide (i ≤ b)
  | _ => false
/-- of a plain kind -/
def Pt : D → Prop
  | .non => True
  | .bl _ => True
  | .int _ => True
  | .str _ => True
  | .lst _ => True
  | .tup _ => True
  | _ => False
theorem Pl.pt {n : Nat} {d : D} (h : Pl n d) : Pt d := by
  cases n with
  | zero => exact h.elim
  | succ n => cases d <;> first | trivial | exact h.elim
def inS (d : D) (l : List Str) : Bool := match d with
  | .str z => decide (z ∈ l)
  | _ => false
def isRoom : D → Bool
  | .tup [a, b, c, e] => isW a 1 64 && isW b 1 16 && inS c ["old", "come", "few"] && inS e ["late", "through"]
  | _ => false
end
section
variable {Q : R → Prop}
end
section
theorem take_b {k n : Int} {nd : Nd} {P : R × Nd → Prop} (hb : Box k nd) (hk : k < 2147483648) (hn : 0 < n) (hn' : n < 1073741824) (q : ∀ r nd', 0 ≤ r → r < n → Box (k + 1) nd' → P (iR r, nd')) : nd.dat.isSome = true ∧ Ev (callB F_take [.obj 0, .d (.int n)] nd) P := ⟨hb.isd, take_ev hb hk hn hn' q⟩
/-- a part of a plan -/
def Th : Nat → D → Prop
  | 0, _ => False
  | _ + 1, .int i => -1000000000 ≤ i ∧ i ≤ 1000000000
  | _ + 1, .str z => z.length ≤ 100
  | n + 1, .tup l => l.length ≤ 100 ∧ ∀ x ∈ l, Th n x
  | _ + 1, _ => False
theorem Pl.up : ∀ {n m : Nat} {d : D}, Pl n d → n ≤ m → Pl m d
  | 0, _, _, h, _ => h.elim
  | n + 1, 0, _, _, h => absurd h (by omega)
  | n + 1, m + 1, d, h, hm => by
    cases d with
    | lst l => exact ⟨h.1, fun x hx => (h.2 x hx).up (by omega)⟩
    | tup l => exact ⟨h.1, fun x hx => (h.2 x hx).up (by omega)⟩
    | _ => first | trivial | exact h.elim
theorem Th.pl : ∀ {n : Nat} {d : D}, Th n d → Pl n d
  | 0, _, h => h.elim
  | n + 1, d, h => by
    cases d with
    | tup l => exact ⟨by rw [sizeLine_eq]; have := h.1; omega, fun x hx => (h.2 x hx).pl⟩
    | _ => first | trivial | exact h.elim
/-- an outcome that is plain data -/
def PlR (m : Nat) (r : R) : Prop := (∃ d, r = .val (.d d) ∧ Pl m d) ∨ ∃ l : List D, r = .new (.lst (l.map .d)) ∧ Pl m (.lst l)
theorem PlR.d {m : Nat} {d : D} (h : Pl m d) : PlR m (.val (.d d)) := .inl ⟨d, rfl, h⟩
theorem PlR.l {m : Nat} {l : List D} (h : Pl m (.lst l)) : PlR m (.new (.lst (l.map .d))) := .inr ⟨l, rfl, h⟩
theorem PlR.rw {m : Nat} {r : R} {V : W → Prop} (h : PlR m r) (q : ∀ d, Pl m d → V (.d d)) : RwK r V := by
  rcases h with ⟨d, rfl, h⟩ | ⟨l, rfl, h⟩
  · simp; exact q d h
  · simp; exact q _ h
theorem PlR.pure {m n : Nat} {st : Sto} {r : R} {P : R → Prop} (h : PlR m r) (q : P r) : Ev (r.pure n st) P := by
  rcases h with ⟨d, rfl, h⟩ | ⟨l, rfl, h⟩
  · simp; exact q
  · simp; exact q
theorem Pl.sub {m : Nat} {l l' : List D} (h : Pl m (.tup l)) (hl : l'.length ≤ 16777216) (hs : ∀ x ∈ l', x ∈ l ∨ Pl (m - 1) x) : Pl m (.tup l') := by
  cases m with
  | zero => exact h.elim
  | succ m => exact ⟨by rw [sizeLine_eq]; exact hl, fun x hx => (hs x hx).elim (h.2 x) id⟩
/-- a call with the i-th box -/
theorem call_sb {Good : R → Prop} {N : Nat} {k k' : Int} {i : Nat} {st : Sto} {F : FF} {ws : List W} {P : R × Nd → Sto → Prop} (h : StB N k st) (hi : i < N) (hk : k ≤ k') (hc : ∀ nd, Box k nd → ∀ Q : R × Nd → Prop, (∀ r nd', Good r → Box k' nd' → Q (r, nd')) → Ev (callB F ws nd) Q)
    (q : ∀ r nd' st', Good r → StB N k' st' → P (r, nd') st') : GetK st i fun o => SoK o fun nd => nd.dat.isSome = true ∧ Ev (callB F ws nd) fun r => SetK st i (some r.2) fun st' => P r st' := by
  obtain ⟨nd, h1, h2⟩ := h i hi
  refine ⟨_, h1, nd, rfl, h2.isd, hc nd h2 _ fun r nd' h3 h5 => q r _ _ h3 fun j hj => ?_⟩
  by_cases e : i = j
  · subst e
    exact ⟨nd', List.getElem?_set_self (List.getElem?_eq_some_iff.mp h1).1, h5⟩
  · obtain ⟨nd2, h6, h7⟩ := h j hj
    exact ⟨nd2, by rw [List.getElem?_set_ne e]; exact h6, h7.mono hk⟩
end
end NV.LB

namespace NV.LB
open PySem PySem.Spec PyProof.Rows L2 NV
noncomputable def h_room_plan : SF := sSeq (sAsg (eOp hEq (eCallB F_take (aConsO (eVar 0) (aCons (eC (.int 6)) (aNil)))) (eC (.int 0))) (gN 1)) (sSeq (sAsg (eIf (tE (eVar 1)) (eOp hAdd' (eC (.int 1)) (eCallB F_take (aConsO (eVar 0) (aCons (eC (.int 64)) (aNil))))) (eOp hIx (eLst (aCons (eC (.int 1)) (aCons (eC (.int 1)) (aCons (eC (.int 2)) (aCons (eC (.int 3)) (aCons (eC (.int 4)) (aNil))))))) (eCallB F_take (aConsO (eVar 0) (aCons (eC (.int 5)) (aNil)))))) (gN 2)) (sSeq (sAsg (eOp hAdd' (eC (.int 1)) (eCallB F_take (aConsO (eVar 0) (aCons (eIf (tE (eVar 1)) (eC (.int 16)) (eC (.int 4))) (aNil))))) (gN 3)) (sSeq (sAsg (eOp hIx (eLst (aCons (eC (.str "old")) (aCons (eC (.str "come")) (aCons (eC (.str "few")) (aNil))))) (eCallB F_take (aConsO (eVar 0) (aCons (eC (.int 3)) (aNil))))) (gN 4)) (sRet (eTup (aCons (eVar 2) (aCons (eVar 3) (aCons (eVar 4) (aCons (eOp hIx (eLst (aCons (eC (.str "late")) (aCons (eC (.str "through")) (aNil)))) (eCallB F_take (aConsO (eVar 0) (aCons (eC (.int 2)) (aNil))))) (aNil))))))))))
noncomputable def F_room_plan : FF := runF 5 h_room_plan
noncomputable def h_plan : SF := sSeq (sAsg (eOp hIx (eLst (aCons (eC (.str "within")) (aCons (eC (.str "apart")) (aCons (eC (.str "free")) (aNil))))) (eCallB F_take (aConsO (eVar 0) (aCons (eC (.int 3)) (aNil))))) (gN 1)) (sSeq (sAsg (eOp hAdd' (eC (.int 1)) (eCallB F_take (aConsO (eVar 0) (aCons (eOp hIx (eLst (aCons (eC (.int 4)) (aCons (eC (.int 16)) (aNil)))) (eCa hInt (aCons (eOp hEq (eCallB F_take (aConsO (eVar 0) (aCons (eC (.int 8)) (aNil)))) (eC (.int 0))) (aNil)))) (aNil))))) (gN 2)) (sRet (eTup (aCons (eVar 2) (aCons (eVar 1) (aCons (eCa hTuple (aCons (eLc (iR1 (aCons (eOp hAdd' (eC (.int 1)) (eCallB F_take (aConsO (eVar 0) (aCons (eC (.int 4)) (aNil))))) (aNil))) (gN 3) (tYes') (eCallB F_room_plan (aConsO (eVar 0) (aNil))) [3]) (aNil))) (aNil)))))))
noncomputable def F_plan : FF := runF 4 h_plan
/-! ### plans drawn -/
abbrev rules : List Str := ["old", "come", "few"]
abbrev writings : List Str := ["late", "through"]
abbrev kinds : List Str := ["within", "apart", "free"]
/-- a room's plan -/
def RP (d : D) : Prop := ∃ (sh pl : Int) (r w : Str), d = .tup [.int sh, .int pl, .str r, .str w] ∧ (1 ≤ sh ∧ sh ≤ 64) ∧ (1 ≤ pl ∧ pl ≤ 16) ∧ r ∈ rules ∧ w ∈ writings
/-- a plan -/
def PlanD (d : D) : Prop := ∃ (size : Int) (kind : Str) (rooms : List D), d = .tup [.int size, .str kind, .tup rooms] ∧ (1 ≤ size ∧ size ≤ 16) ∧ kind ∈ kinds ∧ (1 ≤ rooms.length ∧ rooms.length ≤ 4) ∧ ∀ r ∈ rooms, RP r
theorem rules_len {z : Str} (h : z ∈ rules) : z.length ≤ 100 := by
  simp [rules] at h
  rcases h with rfl | rfl | rfl <;> decide
theorem writings_len {z : Str} (h : z ∈ writings) : z.length ≤ 100 := by
  simp [writings] at h
  rcases h with rfl | rfl <;> decide
theorem kinds_len {z : Str} (h : z ∈ kinds) : z.length ≤ 100 := by
  simp [kinds] at h
  rcases h with rfl | rfl | rfl <;> decide
theorem RP.th {d : D} (h : RP d) : Th 2 d := by
  obtain ⟨sh, pl, r, w, rfl, h1, h2, h3, h4⟩ := h
  refine ⟨by simp, fun x hx => ?_⟩
  simp at hx
  rcases hx with rfl | rfl | rfl | rfl
  · exact ⟨by omega, by omega⟩
  · exact ⟨by omega, by omega⟩
  · exact rules_len h3
  · exact writings_len h4
theorem Th.up : ∀ {n m : Nat} {d : D}, Th n d → n ≤ m → Th m d
  | 0, _, _, h, _ => h.elim
  | n + 1, 0, _, _, h => absurd h (by omega)
  | n + 1, m + 1, d, h, hm => by
    cases d with
    | tup l => exact ⟨h.1, fun x hx => (h.2 x hx).up (by omega)⟩
    | _ => first | exact h | exact h.elim
theorem PlanD.th {d : D} (h : PlanD d) : Th 4 d := by
  obtain ⟨size, kind, rooms, rfl, h1, h2, h3, h4⟩ := h
  refine ⟨by simp, fun x hx => ?_⟩
  simp at hx
  rcases hx with rfl | rfl | rfl
  · exact ⟨by omega, by omega⟩
  · exact kinds_len h2
  · exact ⟨by omega, fun x hx => (h4 x hx).th⟩
theorem RP.room {d : D} (h : RP d) : isRoom d = true := by
  obtain ⟨sh, pl, r, w, rfl, h1, h2, h3, h4⟩ := h
  simp only [isRoom, isW, inS, Bool.and_eq_true, decide_eq_true_eq]
  exact ⟨⟨⟨⟨by omega, by omega⟩, by omega, by omega⟩, h3⟩, h4⟩
section
theorem room_plan_b {k : Int} {nd : Nd} {Q : R × Nd → Prop} (hb : Box k nd) (hk : k < 2147480000) (q : ∀ d nd', RP d → Box (k + 5) nd' → Q (.val (.d d), nd')) : Ev (callB F_room_plan [.obj 0] nd) Q := by
  rw [ev_callB]
  simp [F_room_plan, h_room_plan]
  refine take_b hb (by omega) (by omega) (by omega) fun r1 nd1 h1 h1' hb1 => ?_
  try simp
  split
  · refine take_b hb1 (by omega) (by omega) (by omega) fun r2 nd2 h2 h2' hb2 => ?_
    try simp
    refine take_b hb2 (by omega) (by omega) (by omega) fun r3 nd3 h3 h3' hb3 => ?_
    try simp
    refine take_b hb3 (by omega) (by omega) (by omega) fun r4 nd4 h4 h4' hb4 => ?_
    try simp
    refine at_or (by omega) (by simp; omega) (Z := fun w => ∃ z, w = .d (.str z) ∧ z ∈ rules) (by simp) ?_
    rintro w1 ⟨z1, rfl, hz1⟩
    try simp
    refine take_b hb4 (by omega) (by omega) (by omega) fun r5 nd5 h5 h5' hb5 => ?_
    try simp
    refine at_or (by omega) (by simp; omega) (Z := fun w => ∃ z, w = .d (.str z) ∧ z ∈ writings) (by simp) ?_
    rintro w2 ⟨z2, rfl, hz2⟩
    try simp
    exact ⟨hb5.isd, q _ _ ⟨_, _, _, _, rfl, ⟨by omega, by omega⟩, ⟨by omega, by omega⟩, hz1, hz2⟩ (hb5.mono (by omega))⟩
  · refine take_b hb1 (by omega) (by omega) (by omega) fun r2 nd2 h2 h2' hb2 => ?_
    try simp
    refine at_or (by omega) (by simp; omega) (Z := fun w => ∃ z : Int, w = .d (.int z) ∧ 1 ≤ z ∧ z ≤ 64) (by simp) ?_
    rintro w0 ⟨z0, rfl, hz0⟩
    try simp
    refine take_b hb2 (by omega) (by omega) (by omega) fun r3 nd3 h3 h3' hb3 => ?_
    try simp
    refine take_b hb3 (by omega) (by omega) (by omega) fun r4 nd4 h4 h4' hb4 => ?_
    try simp
    refine at_or (by omega) (by simp; omega) (Z := fun w => ∃ z, w = .d (.str z) ∧ z ∈ rules) (by simp) ?_
    rintro w1 ⟨z1, rfl, hz1⟩
    try simp
    refine take_b hb4 (by omega) (by omega) (by omega) fun r5 nd5 h5 h5' hb5 => ?_
    try simp
    refine at_or (by omega) (by simp; omega) (Z := fun w => ∃ z, w = .d (.str z) ∧ z ∈ writings) (by simp) ?_
    rintro w2 ⟨z2, rfl, hz2⟩
    try simp
    exact ⟨hb5.isd, q _ _ ⟨_, _, _, _, rfl, ⟨by omega, by omega⟩, ⟨by omega, by omega⟩, hz1, hz2⟩ (hb5.mono (by omega))⟩
theorem plan_b {k : Int} {nd : Nd} {Q : R × Nd → Prop} (hb : Box k nd) (hk : k < 2147470000) (q : ∀ d nd', PlanD d → Box (k + 24) nd' → Q (.val (.d d), nd')) : Ev (callB F_plan [.obj 0] nd) Q := by
  rw [ev_callB]
  simp [F_plan, h_plan]
  refine take_b hb (by omega) (by omega) (by omega) fun r1 nd1 h1 h1' hb1 => ?_
  try simp
  refine at_or (by omega) (by simp; omega) (Z := fun w => ∃ z, w = .d (.str z) ∧ z ∈ kinds) (by simp) ?_
  rintro w1 ⟨z1, rfl, hz1⟩
  try simp
  refine take_b hb1 (by omega) (by omega) (by omega) fun r2 nd2 h2 h2' hb2 => ?_
  try simp
  refine at_or (by split <;> omega) (by simp; split <;> omega) (Z := fun w => ∃ z : Int, w = .d (.int z) ∧ 1 ≤ z ∧ z ≤ 16) (by simp) ?_
  rintro w2 ⟨z2, rfl, hz2⟩
  try simp
  refine take_b hb2 (by omega) (by omega) (by omega) fun r3 nd3 h3 h3' hb3 => ?_
  try simp
  refine take_b hb3 (by omega) (by omega) (by omega) fun r4 nd4 h4 h4' hb4 => ?_
  try simp
  refine ⟨small_nn (by omega) (by omega), ?_⟩
  refine lcL_inv (fun i acc st' => ∃ (ds : List D) (nd' : Nd), st' = [some nd'] ∧ acc = ds.map W.d ∧ ds.length = i ∧ (∀ d ∈ ds, RP d) ∧ Box (k + 4 + 5 * i) nd') _ 0 [] _ ⟨[], nd4, rfl, rfl, rfl, by simp, hb4.mono (by omega)⟩ (by simp [yInts, rng, sizeLine_eq]; omega) ?_ ?_
  · rintro i y acc st' - hy ⟨ds, nd', rfl, rfl, hds, hrp, hb'⟩
    obtain ⟨hi, rfl⟩ := yInts_get hy
    simp [LcS]
    refine ⟨hb'.isd, room_plan_b hb' (by omega) fun d nd2 hd hb2 => ?_⟩
    simp
    exact ⟨ds ++ [d], by simp, by simp [hds], fun x hx => (List.mem_append.mp hx).elim (hrp x) fun e => by rw [List.mem_singleton.mp e]; exact hd, hb2.mono (by omega)⟩
  · rintro acc st' ⟨ds, nd', rfl, rfl, hds, hrp, hb'⟩
    rw [yInts_len] at hds hb'
    simp
    exact ⟨hb'.isd, q _ _ ⟨_, _, _, rfl, ⟨by omega, by omega⟩, hz1, ⟨by omega, by omega⟩, hrp⟩ (hb'.mono (by omega))⟩
end
def isRooms : D → Bool
  | .tup l => decide (1 ≤ l.length) && decide (l.length ≤ 4) && l.all isRoom
  | _ => false
def isPlan : D → Bool
  | .tup [s, k, r] => isW s 1 16 && inS k kinds && isRooms r
  | _ => false
theorem PlanD.plan {d : D} (h : PlanD d) : isPlan d = true := by
  obtain ⟨size, kind, rooms, rfl, h1, h2, h3, h4⟩ := h
  simp only [isPlan, isW, inS, isRooms, Bool.and_eq_true, decide_eq_true_eq, List.all_eq_true]
  exact ⟨⟨⟨by omega, by omega⟩, h2⟩, ⟨by omega, by omega⟩, fun x hx => (h4 x hx).room⟩
section
variable {Q : R → Prop}
@[simp ↓] theorem nin_st {z : Str} {ws : List W} {P : R → Prop} : Ev (hNotIn (.at (.str z)) (.tup ws)) P ↔ ws.all W.flat = true ∧ P (bR (!inW (.d (.str z)) ws)) := by
  have e : hNotIn (.at (.str z)) (.tup ws) = if ws.all W.flat = true then some (bR (!inW (.d (.str z)) ws)) else none := by
    show (match hInS true (.at (.str z)) (.tup ws) with
      | some r => some r
      | none => none) = _
    rw [hInS_seq (w := .d (.str z)) rfl rfl]
    split <;> simp_all
  rw [e, ev_ite']
  by_cases h : ws.all W.flat = true
  · rw [if_pos h, ev_some']; exact ⟨fun q => ⟨h, q⟩, fun q => q.2⟩
  · rw [if_neg h, ev_none']; exact ⟨False.elim, fun q => h q.1⟩
@[simp ↓] theorem nin_sw {z : Str} {ws : List W} {P : R → Prop} : Ev (hNotIn (.at (.str z)) (.lsw ws)) P ↔ ws.all W.flat = true ∧ P (bR (!inW (.d (.str z)) ws)) := by
  have e : hNotIn (.at (.str z)) (.lsw ws) = if ws.all W.flat = true then some (bR (!inW (.d (.str z)) ws)) else none := by
    show (match hInS true (.at (.str z)) (.lsw ws) with
      | some r => some r
      | none => none) = _
    rw [hInS_seq (w := .d (.str z)) rfl rfl]
    split <;> simp_all
  rw [e, ev_ite']
  by_cases h : ws.all W.flat = true
  · rw [if_pos h, ev_some']; exact ⟨fun q => ⟨h, q⟩, fun q => q.2⟩
  · rw [if_neg h, ev_none']; exact ⟨False.elim, fun q => h q.1⟩
end
end NV.LB

namespace NV.LB
open PySem PySem.Spec PyProof.Rows L2 NV
noncomputable def h_some_boards : SF := sSeq (sAsg (eOp hAdd' (eC (.int 3)) (eCallB F_take (aConsO (eVar 0) (aCons (eOp hIx (eLst (aCons (eC (.int 5)) (aCons (eC (.int 18)) (aNil)))) (eCa hInt (aCons (eOp hEq (eCallB F_take (aConsO (eVar 0) (aCons (eC (.int 6)) (aNil)))) (eC (.int 0))) (aNil)))) (aNil))))) (gN 2)) (sSeq (sAsg (eTup (aCons (eCallB F_take (aConsO (eVar 0) (aCons (eC (.int 4)) (aNil)))) (aCons (eCallB F_take (aConsO (eVar 0) (aCons (eC (.int 4)) (aNil)))) (aNil)))) (gT 2 (gCons' (gN 3) (gCons' (gN 4) (gNil'))))) (sSeq (sAsg (eIf (tE (eOp hLt (eVar 4) (eC (.int 2)))) (eVar 4) (eCallB F_take (aConsO (eVar 0) (aCons (eOp hIx (eLst (aCons (eC (.int 100)) (aCons (eCa hMax (aCons (eC (.int 1)) (aCons (eOp hSub (eOp hDiv (eC (.int 10000)) (eVar 1)) (eC (.int 480))) (aNil)))) (aNil)))) (eOp hSub (eVar 4) (eC (.int 2)))) (aNil))))) (gN 5)) (sSeq (sAsgO (eLc (iR1 (aCons (eVar 2) (aNil))) (gN 6) (tYes') (eOp hAdd' (eVar 5) (eOp hMul (eOp hIx (eLst (aCons (eC (.int 1)) (aCons (eC (.int 1)) (aCons (eC (.int 12)) (aCons (eC (.int 24)) (aNil)))))) (eVar 3)) (eVar 6))) [6]) (gN 7)) (sSeq (sAsg (eIf (tE (eOp hEq (eCallB F_take (aConsO (eVar 0) (aCons (eC (.int 5)) (aNil)))) (eC (.int 0)))) (eOp hDiv (eC (.int 9999)) (eVar 1)) (eCallB F_take (aConsO (eVar 0) (aCons (eOp hAdd' (eC (.int 1)) (eOp hDiv (eC (.int 9999)) (eVar 1))) (aNil))))) (gN 8)) (sSeq (sIf (tOrF (tAndF (tE (eOp hEq (eVar 3) (eC (.int 1)))) (tE (eOp hNotIn (eVar 8) (eVar 7)))) (tAndF (tE (eOp hEq (eVar 8) (eOp hDiv (eC (.int 9999)) (eVar 1)))) (tE (eOp hNotIn (eVar 8) (eVar 7))))) (sAsg (eVar 8) (gSb (eVar 7) (eNeg (eC (.int 1))))) (sNext)) (sSeq (sFor (iR1 (aCons (eOp hSub (eVar 2) (eC (.int 1))) (aNil))) (gN 6) (sSeq (sAsg (eOp hAdd' (eVar 6) (eCallB F_take (aConsO (eVar 0) (aCons (eOp hSub (eVar 2) (eVar 6)) (aNil))))) (gN 9)) (sAsg (eTup (aCons (eOp hIx (eVar 7) (eVar 9)) (aCons (eOp hIx (eVar 7) (eVar 6)) (aNil)))) (gT 2 (gCons' (gSb (eVar 7) (eVar 6)) (gCons' (gSb (eVar 7) (eVar 9)) (gNil'))))))) (sRet (eVar 7))))))))
noncomputable def F_some_boards : FF := runF 10 h_some_boards
/-! ### one room: what stands in the store -/
structure Rm where
  sh : Int
  pl : Int
  ru : Str
  step : Int
  mks : List (Int × (Int × Int × Int))
def roomN (sh pl : Int) (ru : Str) (step : Int) (m : Nat) : Nd := .ins "Room" [("shelves", .d (.int sh)), ("places", .d (.int pl)), ("rule", .d (.str ru)), ("step", .d (.int step)), ("marks", .obj m)]
abbrev mkD (p : Int × Int × Int) : D := .tup [.int p.1, .int p.2.1, .int p.2.2]
abbrev mkW (mk : List (Int × (Int × Int × Int))) : List (Key × W) := mk.map fun p => (.inl p.1, .d (mkD p.2))
def marksN (mk : List (Int × (Int × Int × Int))) : Nd := .dct (mkW mk)
structure RoomAt (st : Sto) (n m : Nat) (rm : Rm) : Prop where
  room : st[n]? = some (some (roomN rm.sh rm.pl rm.ru rm.step m))
  marks : st[m]? = some (some (marksN rm.mks))
  ne : n ≠ m
section
variable {B : W → Prop} {N : Nd → Prop} {sh pl step : Int} {ru : Str} {m : Nat} {w : W} {mk : List (Int × (Int × Int × Int))} {C : List (Key × W) → Prop}
@[simp ↓] theorem room_sh : FldK (roomN sh pl ru step m) "Room" "shelves" B ↔ B (.d (.int sh)) := ⟨(fun ⟨fs, w, h1, h2, q⟩ => by cases h1; cases h2; exact q), fun q => ⟨_, _, rfl, rfl, q⟩⟩
@[simp ↓] theorem room_pl : FldK (roomN sh pl ru step m) "Room" "places" B ↔ B (.d (.int pl)) := ⟨(fun ⟨fs, w, h1, h2, q⟩ => by cases h1; cases h2; exact q), fun q => ⟨_, _, rfl, rfl, q⟩⟩
@[simp ↓] theorem room_ru : FldK (roomN sh pl ru step m) "Room" "rule" B ↔ B (.d (.str ru)) := ⟨(fun ⟨fs, w, h1, h2, q⟩ => by cases h1; cases h2; exact q), fun q => ⟨_, _, rfl, rfl, q⟩⟩
@[simp ↓] theorem room_st : FldK (roomN sh pl ru step m) "Room" "step" B ↔ B (.d (.int step)) := ⟨(fun ⟨fs, w, h1, h2, q⟩ => by cases h1; cases h2; exact q), fun q => ⟨_, _, rfl, rfl, q⟩⟩
@[simp ↓] theorem room_mk : FldK (roomN sh pl ru step m) "Room" "marks" B ↔ B (.obj m) := ⟨(fun ⟨fs, w, h1, h2, q⟩ => by cases h1; cases h2; exact q), fun q => ⟨_, _, rfl, rfl, q⟩⟩
@[simp ↓] theorem room_put {i : Int} : PutFK (roomN sh pl ru step m) "Room" "step" (.d (.int i)) N ↔ N (roomN sh pl ru i m) := ⟨(fun ⟨fs, h1, h2, q⟩ => by cases h1; exact q), fun q => ⟨_, rfl, (by show 5 < 1000; decide), q⟩⟩
@[simp ↓] theorem marks_d : DctK (marksN mk) C ↔ C (mkW mk) := dctk
@[simp] theorem room_meth {mn : Str} (h : ([("shelves", W.d (.int sh)), ("places", .d (.int pl)), ("rule", .d (.str ru)), ("step", .d (.int step)), ("marks", .obj m)] : List (Str × W)).lookup mn = none) : MethK (roomN sh pl ru step m) "Room" mn := ⟨_, rfl, h⟩
@[simp] theorem rm_has : MethK (roomN sh pl ru step m) "Room" "has" := ⟨_, rfl, rfl⟩
@[simp] theorem rm_rank : MethK (roomN sh pl ru step m) "Room" "rank" := ⟨_, rfl, rfl⟩
@[simp] theorem rm_standing : MethK (roomN sh pl ru step m) "Room" "standing" := ⟨_, rfl, rfl⟩
@[simp] theorem rm_bring : MethK (roomN sh pl ru step m) "Room" "bring" := ⟨_, rfl, rfl⟩
@[simp] theorem rm_look : MethK (roomN sh pl ru step m) "Room" "look_there" := ⟨_, rfl, rfl⟩
@[simp] theorem rm_use : MethK (roomN sh pl ru step m) "Room" "use" := ⟨_, rfl, rfl⟩
@[simp] theorem rm_drop : MethK (roomN sh pl ru step m) "Room" "drop" := ⟨_, rfl, rfl⟩
@[simp] theorem rm_boards : MethK (roomN sh pl ru step m) "Room" "boards" := ⟨_, rfl, rfl⟩
@[simp] theorem rm_shelf : MethK (roomN sh pl ru step m) "Room" "shelf" := ⟨_, rfl, rfl⟩
@[simp ↓] theorem marks_view {n : Nat} {Q : Vu → Prop} : NdvK (marksN mk) n Q ↔ Q (.dct (mkW mk)) := Iff.rfl
end
/-! ### what it does, plainly -/
def mGet (mk : List (Int × (Int × Int × Int))) (b : Int) : Option (Int × Int × Int) := mk.lookup b
def mSet (mk : List (Int × (Int × Int × Int))) (b : Int) (v : Int × Int × Int) : List (Int × (Int × Int × Int)) := if mk.any (fun p => decide (p.1 = b)) = true then mk.map (fun p => if p.1 = b then (b, v) else p) else mk ++ [(b, v)]
def mDel (mk : List (Int × (Int × Int × Int))) (b : Int) : List (Int × (Int × Int × Int)) := mk.filter fun p => decide (p.1 ≠ b)
def rk (ru : Str) (p : Int × Int × Int) : Int × Int := if ru = "few" then (p.2.2, p.1) else if ru = "come" then (p.1, 0) else (p.2.1, 0)
namespace Rm
def has (rm : Rm) (b : Int) : Bool := (mGet rm.mks b).isSome
def stand (rm : Rm) (k : Int) : List Int := (sortK ((rm.mks.filter fun p => decide (p.1 % rm.sh = k)).map fun p => (rk rm.ru p.2, p.1))).map (·.2)
def use (rm : Rm) (b : Int) : Rm := match mGet rm.mks b with
  | some (c, _, n) => { rm with step := rm.step + 1, mks := mSet rm.mks b (c, rm.step + 1, n + 1) }
  | none => rm
def out (rm : Rm) (b : Int) : Option Int := if (rm.stand (b % rm.sh)).length = rm.pl then (rm.stand (b % rm.sh)).head? else none
def less (rm : Rm) (b : Int) : List (Int × (Int × Int × Int)) := match rm.out b with
  | some o => mDel rm.mks o
  | none => rm.mks
def bring (rm : Rm) (b : Int) : Rm := { rm with step := rm.step + 1, mks := mSet (rm.less b) b (rm.step + 1, rm.step + 1, 0) }
end Rm
abbrev optW : Option Int → W
  | none => .d .non
  | some i => .d (.int i)
section
theorem put_mk (mk : List (Int × (Int × Int × Int))) (b : Int) (v : Int × Int × Int) : putW (mkW mk) (.inl b) (.d (mkD v)) = mkW (mSet mk b v) := by
  have e : ((mkW mk).any fun kv => decide (kv.1 = (.inl b : Key))) = mk.any (fun p => decide (p.1 = b)) := by
    unfold mkW
    rw [List.any_map]
    congr 1
    funext p
    show decide ((Sum.inl p.1 : Key) = .inl b) = decide (p.1 = b)
    by_cases h : p.1 = b
    · rw [h]; simp
    · have h1 : ¬ (Sum.inl p.1 : Key) = .inl b := fun z => h (by injection z)
      rw [decide_eq_false h, decide_eq_false h1]
  unfold putW mSet
  rw [e]
  split
  · unfold mkW
    rw [List.map_map, List.map_map]
    refine List.map_congr_left fun p _ => ?_
    show (if (Sum.inl p.1 : Key) = .inl b then ((.inl p.1 : Key), W.d (mkD v)) else (.inl p.1, .d (mkD p.2))) = (fun p : Int × (Int × Int × Int) => ((.inl p.1 : Key), W.d (mkD p.2))) (if p.1 = b then (b, v) else p)
    by_cases h : p.1 = b
    · rw [if_pos h, if_pos (by rw [h]), h]
    · have h1 : ¬ (Sum.inl p.1 : Key) = .inl b := fun z => h (by injection z)
      rw [if_neg h, if_neg h1]
  · simp [mkW]
/-- the store with the room otherwise -/
def setRoom (st : Sto) (n m : Nat) (rm : Rm) : Sto := (st.set n (some (roomN rm.sh rm.pl rm.ru rm.step m))).set m (some (marksN rm.mks))
variable {st : Sto} {n m : Nat} {rm : Rm} {b : Int} {Q : R × Sto → Prop}
theorem setRoom_at (h : RoomAt st n m rm) (rm' : Rm) : RoomAt (setRoom st n m rm') n m rm' := by
  have h1 := (List.getElem?_eq_some_iff.mp h.room).1
  have h2 := (List.getElem?_eq_some_iff.mp h.marks).1
  refine ⟨?_, ?_, h.ne⟩
  · unfold setRoom
    rw [List.getElem?_set_ne (Ne.symm h.ne), List.getElem?_set_self h1]
  · unfold setRoom
    rw [List.getElem?_set_self (by simpa using h2)]
theorem setRoom_ne {k : Nat} (h1 : k ≠ n) (h2 : k ≠ m) : (setRoom st n m rm)[k]? = st[k]? := by
  unfold setRoom
  rw [List.getElem?_set_ne (Ne.symm h2), List.getElem?_set_ne (Ne.symm h1)]
theorem setRoom_len : (setRoom st n m rm).length = st.length := by simp [setRoom]
/-- the marks have each board once -/
def Nod (rm : Rm) : Prop := (rm.mks.map (·.1)).Nodup
theorem mGet_mem {mk : List (Int × (Int × Int × Int))} (hn : (mk.map (·.1)).Nodup) {p : Int × (Int × Int × Int)} (h : p ∈ mk) : mGet mk p.1 = some p.2 := by
  induction mk with
  | nil => cases h
  | cons a l ih =>
    obtain ⟨k, v⟩ := a
    unfold mGet
    rw [List.lookup_cons]
    rcases List.mem_cons.mp h with rfl | h
    · simp
    · rw [List.map_cons, List.nodup_cons] at hn
      have : (p.1 == k) = false := by
        simp only [beq_eq_false_iff_ne]
        intro z
        have := List.mem_map_of_mem (f := fun p : Int × (Int × Int × Int) => p.1) h
        rw [z] at this
        exact hn.1 this
      rw [this]
      exact ih hn.2 h
@[simp ↓] theorem marks_put {mk : List (Int × (Int × Int × Int))} {b x y z : Int} {N : Nd → Prop} : Ev ((marksN mk).put (.at (.int b)) (.d (.tup [.int x, .int y, .int z]))) N ↔ mk.length < 16777216 ∧ N (marksN (mSet mk b (x, y, z))) := by
  unfold marksN
  rw [put_d]
  simp
  rw [← put_mk]
  intro _
  exact Iff.rfl
theorem mDel_len (mk : List (Int × (Int × Int × Int))) (b : Int) : (mDel mk b).length ≤ mk.length := List.length_filter_le _ _
theorem sortK_perm {α : Type} (l : List (Kx α)) : (sortK l).Perm l := List.mergeSort_perm l leK
theorem stand_perm (rm : Rm) (k : Int) : (rm.stand k).Perm ((rm.mks.filter fun p => decide (p.1 % rm.sh = k)).map (·.1)) := by
  have := (sortK_perm ((rm.mks.filter fun p => decide (p.1 % rm.sh = k)).map fun p => (rk rm.ru p.2, p.1))).map (·.2)
  rw [List.map_map] at this
  exact this
theorem stand_mem {rm : Rm} {k b : Int} : b ∈ rm.stand k ↔ ∃ v, (b, v) ∈ rm.mks ∧ b % rm.sh = k := by
  rw [(stand_perm rm k).mem_iff, List.mem_map]
  constructor
  · rintro ⟨⟨c, v⟩, h, rfl⟩
    have := List.mem_filter.mp h
    exact ⟨v, this.1, by simpa using this.2⟩
  · rintro ⟨v, h1, h2⟩
    exact ⟨(b, v), List.mem_filter.mpr ⟨h1, by simpa using h2⟩, rfl⟩
end
end NV.LB

namespace NV.LB
open PySem PySem.Spec PyProof.Rows L2 NV
/-! ### a row, run -/
abbrev pD (p : Bool × Option Int) : D := .tup [.bl p.1, match p.2 with | none => .non | some i => .int i]
namespace Rm
def ask (rm : Rm) (b : Int) : (Bool × Option Int) × Rm := if rm.has b = true then ((true, none), rm.use b) else ((false, rm.out b), rm.bring b)
def run (rm : Rm) : List Int → List (Bool × Option Int)
  | [] => []
  | b :: l => (rm.ask b).1 :: (rm.ask b).2.run l
end Rm
theorem mSet_keys (mk : List (Int × (Int × Int × Int))) (b : Int) (v : Int × Int × Int) : (mSet mk b v).map (·.1) = if b ∈ mk.map (·.1) then mk.map (·.1) else mk.map (·.1) ++ [b] := by
  unfold mSet
  have e : (mk.any fun p => decide (p.1 = b)) = decide (b ∈ mk.map (·.1)) := by
    rw [Bool.eq_iff_iff]
    simp
  rw [e]
  by_cases h : b ∈ mk.map (·.1)
  · rw [if_pos (by simpa using h), if_pos h, List.map_map]
    refine List.map_congr_left fun p _ => ?_
    show (if p.1 = b then (b, v) else p).1 = p.1
    split
    · rename_i h; exact h.symm
    · rfl
  · rw [if_neg (by simpa using h), if_neg h]
    simp
theorem mSet_nodup {mk : List (Int × (Int × Int × Int))} {b : Int} {v : Int × Int × Int} (h : (mk.map (·.1)).Nodup) : ((mSet mk b v).map (·.1)).Nodup := by
  rw [mSet_keys]
  split
  · exact h
  · rename_i hb
    rw [List.nodup_append]
    refine ⟨h, by simp, ?_⟩
    intro a ha c hc
    simp at hc
    subst hc
    intro e
    subst e
    exact hb ha
theorem mSet_len (mk : List (Int × (Int × Int × Int))) (b : Int) (v : Int × Int × Int) : (mSet mk b v).length ≤ mk.length + 1 := by
  unfold mSet
  split <;> simp
theorem mDel_nodup {mk : List (Int × (Int × Int × Int))} {b : Int} (h : (mk.map (·.1)).Nodup) : ((mDel mk b).map (·.1)).Nodup := (List.filter_sublist.map _).nodup h
theorem less_nodup {rm : Rm} (h : Nod rm) (b : Int) : ((rm.less b).map (·.1)).Nodup := by
  unfold Rm.less
  split
  · exact mDel_nodup h
  · exact h
theorem less_len (rm : Rm) (b : Int) : (rm.less b).length ≤ rm.mks.length := by
  unfold Rm.less
  split
  · exact mDel_len _ _
  · exact Nat.le_refl _
theorem Rm.use_kept (rm : Rm) (b : Int) : (rm.use b).sh = rm.sh ∧ (rm.use b).pl = rm.pl ∧ (rm.use b).ru = rm.ru := by
  unfold Rm.use
  split <;> exact ⟨rfl, rfl, rfl⟩
theorem Rm.use_nod {rm : Rm} (h : Nod rm) (b : Int) : Nod (rm.use b) ∧ (rm.use b).mks.length ≤ rm.mks.length + 1 := by
  unfold Rm.use
  split
  · exact ⟨mSet_nodup h, mSet_len _ _ _⟩
  · exact ⟨h, by omega⟩
theorem Rm.bring_nod {rm : Rm} (h : Nod rm) (b : Int) : Nod (rm.bring b) ∧ (rm.bring b).mks.length ≤ rm.mks.length + 1 := by
  refine ⟨mSet_nodup (less_nodup h b), ?_⟩
  have h1 := mSet_len (rm.less b) b (rm.step + 1, rm.step + 1, 0)
  have h2 := less_len rm b
  show (mSet (rm.less b) b (rm.step + 1, rm.step + 1, 0)).length ≤ _
  omega
/-- how many were not here -/
def Rm.missed (rm : Rm) (l : List Int) : Nat := ((rm.run l).filter fun p => !p.1).length
end NV.LB
namespace NV.LB
open PySem PySem.Spec PyProof.Rows L2 NV
/-! ### shapes, boards, rows drawn -/
/-- boards drawn -/
def Brds (sz : Int) (l : List Int) : Prop := ∀ b ∈ l, 0 ≤ b ∧ b ≤ 9999 / sz
theorem eo_cut {f g : SF} {s : S} {I : S → Prop} {n : S → Prop} {r : R → S → Prop} {b c : S → Prop} (h1 : Eo (f s) I (fun _ _ => False) (fun _ => False) (fun _ => False)) (h2 : ∀ s, I s → Eo (g s) n r b c) : Eo (sSeq f g s) n r b c :=
  eo_sSeq.mpr (h1.imp h2 (fun _ _ h => h.elim) (fun _ h => h.elim) (fun _ h => h.elim))
theorem brd_room {sz : Int} (hz : 1 ≤ sz ∧ sz ≤ 16) : 624 ≤ 9999 / sz ∧ 10000 / sz ≤ 9999 / sz + 1 ∧ 9999 / sz ≤ 9999 := by
  refine ⟨?_, ?_, ?_⟩
  · exact (Int.le_ediv_iff_mul_le (by omega)).mpr (by omega)
  · have : 10000 / sz < 9999 / sz + 2 := by
      rw [Int.ediv_lt_iff_lt_mul (by omega)]
      have := Int.lt_ediv_add_one_mul_self 9999 (show 0 < sz by omega)
      rw [show (9999 / sz + 2) * sz = (9999 / sz + 1) * sz + sz by rw [show (9999 / sz + 2) = (9999 / sz + 1) + 1 by omega, Int.add_mul (9999 / sz + 1) 1, Int.one_mul]]
      omega
    omega
  · exact Int.ediv_le_self _ (by omega)
theorem put_last {ms : List Int} {v : Int} {N : List W → Prop} (h : 0 < ms.length) (q : N ((ms.set (ms.length - 1) v).map (W.d ∘ D.int))) : PutK (ms.map (W.d ∘ D.int)) (-1) (.d (.int v)) N := by
  unfold PutK L2.ixN
  rw [if_neg (by omega), List.length_map, if_pos (by omega)]
  refine ev_some'.mpr ?_
  rw [show ((-1 + (ms.length : Int)).toNat) = ms.length - 1 by omega]
  rw [List.map_set] at q
  exact q
theorem Brds.set {sz v : Int} {l : List Int} (h : Brds sz l) (hv : 0 ≤ v ∧ v ≤ 9999 / sz) (i : Nat) : Brds sz (l.set i v) := by
  intro b hb
  rcases List.mem_or_eq_of_mem_set hb with hb | rfl
  · exact h b hb
  · exact hv
theorem some_boards_b {k sz : Int} {nd : Nd} {Q : R × Nd → Prop} (hz : 1 ≤ sz ∧ sz ≤ 16) (hb : Box k nd) (hk : k < 2147480000) (q : ∀ (l : List Int) nd', Brds sz l → (3 ≤ l.length ∧ l.length ≤ 20) → Box (k + 30) nd' → Q (.new (.lst (l.map (W.d ∘ D.int))), nd')) : Ev (callB F_some_boards [.obj 0, .d (.int sz)] nd) Q := by
  rw [ev_callB]
  obtain ⟨hd1, hd2, hd3⟩ := brd_room hz
  simp [F_some_boards]
  unfold h_some_boards
  -- how many
  refine eo_cut (I := fun s => ∃ m nd', s = ⟨[some (W.obj 0), some (W.d (D.int sz)), some (W.d (D.int m)), none, none, none, none, none, none, none], [some nd']⟩ ∧ Box (k + 2) nd' ∧ 3 ≤ m ∧ m ≤ 20) ?_ ?_
  · simp
    refine take_b hb (by omega) (by omega) (by omega) fun r1 nd1 h1 h1' hb1 => ?_
    try simp
    refine at_or (by split <;> omega) (by simp; split <;> omega) (Z := fun w => ∃ z : Int, w = .d (.int z) ∧ 5 ≤ z ∧ z ≤ 18) (by simp) ?_
    rintro w2 ⟨z2, rfl, hz2⟩
    try simp
    refine take_b hb1 (by omega) (by omega) (by omega) fun r2 nd2 h2 h2' hb2 => ?_
    try simp
    exact ⟨_, _, ⟨rfl, rfl⟩, hb2.mono (by omega), by omega, by omega⟩
  rintro s ⟨m, nd2, rfl, hb2, hm, hm'⟩
  refine eo_cut (I := fun s => ∃ w g nd', s = ⟨[some (W.obj 0), some (W.d (D.int sz)), some (W.d (D.int m)), some (W.d (D.int w)), some (W.d (D.int g)), none, none, none, none, none], [some nd']⟩ ∧ Box (k + 4) nd' ∧ (0 ≤ w ∧ w < 4) ∧ (0 ≤ g ∧ g < 4)) ?_ ?_
  · simp
    refine take_b hb2 (by omega) (by omega) (by omega) fun r3 nd3 h3 h3' hb3 => ?_
    try simp
    refine take_b hb3 (by omega) (by omega) (by omega) fun r4 nd4 h4 h4' hb4 => ?_
    try simp
    exact ⟨_, _, _, ⟨⟨rfl, rfl⟩, rfl⟩, hb4.mono (by omega), ⟨by omega, by omega⟩, by omega, by omega⟩
  rintro s ⟨w, g, nd4, rfl, hb4, hw, hg⟩
  refine eo_cut (I := fun s => ∃ f nd', s = ⟨[some (W.obj 0), some (W.d (D.int sz)), some (W.d (D.int m)), some (W.d (D.int w)), some (W.d (D.int g)), some (W.d (D.int f)), none, none, none, none], [some nd']⟩ ∧ Box (k + 5) nd' ∧ (0 ≤ f ∧ f ≤ 9999 / sz - 480)) ?_ ?_
  · simp
    split
    · exact ⟨_, _, ⟨rfl, rfl⟩, hb4.mono (by omega), by omega, by omega⟩
    · refine ⟨by omega, ?_⟩
      refine at_or (by omega) (by simp; omega) (Z := fun w => ∃ z : Int, w = .d (.int z) ∧ 1 ≤ z ∧ z ≤ 9999 / sz - 480 + 1) (by simp; omega) ?_
      rintro w0 ⟨z0, rfl, hz0, hz1⟩
      try simp
      refine take_b hb4 (by omega) (by omega) (by omega) fun r5 nd5 h5 h5' hb5 => ?_
      try simp
      exact ⟨_, _, ⟨rfl, rfl⟩, hb5.mono (by omega), by omega, by omega⟩
  rintro s ⟨f, nd5, rfl, hb5, hf⟩
  refine eo_cut (I := fun s => ∃ l, s = ⟨[some (W.obj 0), some (W.d (D.int sz)), some (W.d (D.int m)), some (W.d (D.int w)), some (W.d (D.int g)), some (W.d (D.int f)), none, some (W.obj 1), none, none], [some nd5, some (.lst (l.map (W.d ∘ D.int)))]⟩ ∧ Brds sz l ∧ (l.length : Int) = m) ?_ ?_
  · simp
    refine ⟨small_nn (by omega) (by omega), ?_⟩
    refine lc_m D.int (fun i => f + (if w < 2 then 1 else if w = 2 then 12 else 24) * i) (by simp; omega) (fun i hi => ?_) (fun l hl => ?_)
    · have : w = 0 ∨ w = 1 ∨ w = 2 ∨ w = 3 := by omega
      rcases this with rfl | rfl | rfl | rfl <;> simp [LcS] <;> exact cMul_l (by omega) (by omega)
    · simp
      refine ⟨l, rfl, ?_, ?_⟩
      · intro b hb
        rw [hl] at hb
        obtain ⟨i, hi, rfl⟩ := List.mem_map.mp hb
        obtain ⟨hi1, hi2⟩ := mem_rng.mp hi
        split
        · omega
        · split <;> omega
      · rw [hl]
        simp
        omega
  rintro s ⟨l, rfl, hl, hlm⟩
  refine eo_cut (I := fun s => ∃ far nd', s = ⟨[some (W.obj 0), some (W.d (D.int sz)), some (W.d (D.int m)), some (W.d (D.int w)), some (W.d (D.int g)), some (W.d (D.int f)), none, some (W.obj 1), some (W.d (D.int far)), none], [some nd', some (.lst (l.map (W.d ∘ D.int)))]⟩ ∧ Box (k + 7) nd' ∧ 0 ≤ far ∧ far ≤ 9999 / sz) ?_ ?_
  · simp
    refine take_b hb5 (by omega) (by omega) (by omega) fun r6 nd6 h6 h6' hb6 => ?_
    try simp
    split
    · exact ⟨⟨by omega, by omega⟩, _, _, ⟨rfl, rfl⟩, hb6.mono (by omega), by omega, by omega⟩
    · refine ⟨⟨by omega, by omega⟩, ?_⟩
      refine take_b hb6 (by omega) (by omega) (by omega) fun r7 nd7 h7 h7' hb7 => ?_
      try simp
      exact ⟨_, _, ⟨rfl, rfl⟩, hb7.mono (by omega), by omega, by omega⟩
  rintro s ⟨far, nd7, rfl, hb7, hfar, hfar'⟩
  refine eo_cut (I := fun s => ∃ l, s = ⟨[some (W.obj 0), some (W.d (D.int sz)), some (W.d (D.int m)), some (W.d (D.int w)), some (W.d (D.int g)), some (W.d (D.int f)), none, some (W.obj 1), some (W.d (D.int far)), none], [some nd7, some (.lst (l.map (W.d ∘ D.int)))]⟩ ∧ Brds sz l ∧ (l.length : Int) = m) ?_ ?_
  · simp
    have k1 : ∃ l_1, List.map (W.d ∘ D.int) l = List.map (W.d ∘ D.int) l_1 ∧ Brds sz l_1 ∧ (l_1.length : Int) = m := ⟨l, rfl, hl, hlm⟩
    have k2 : PutK (List.map (W.d ∘ D.int) l) (-1) (W.d (D.int far)) fun ws' => ∃ l, ws' = List.map (W.d ∘ D.int) l ∧ Brds sz l ∧ (l.length : Int) = m := put_last (by omega) ⟨_, rfl, hl.set ⟨hfar, hfar'⟩ _, by simpa using hlm⟩
    have k3 : ∀ x : Int, x ∈ l → (W.d (D.int x)).flat = true := fun _ _ => rfl
    have k4 : 0 < sz ∧ sz < 1073741824 := ⟨by omega, by omega⟩
    repeat' (first | exact k1 | exact k2 | refine ⟨k3, ?_⟩ | refine ⟨k4, ?_⟩ | split)
  clear hl hlm l
  rintro s ⟨l, rfl, hl, hlm⟩
  simp
  refine ⟨small_nn (by omega) (by omega), ?_⟩
  refine forL_inv (fun i s => ∃ l u v nd', s = ⟨[some (W.obj 0), some (W.d (D.int sz)), some (W.d (D.int m)), some (W.d (D.int w)), some (W.d (D.int g)), some (W.d (D.int f)), u, some (W.obj 1), some (W.d (D.int far)), v], [some nd', some (.lst (l.map (W.d ∘ D.int)))]⟩ ∧ Brds sz l ∧ (l.length : Int) = m ∧ Box (k + 7 + i) nd') _ 0 _ ⟨l, _, _, nd7, rfl, hl, hlm, hb7.mono (by omega)⟩ ?_ ?_
  · rintro i y s - hy ⟨l, u, v, nd', rfl, hl, hlm, hb'⟩
    rw [Nat.sub_zero] at hy
    obtain ⟨hi, rfl⟩ := yInts_get hy
    simp
    refine take_b hb' (by omega) (by omega) (by omega) fun r nd1 h1 h1' hb1 => ?_
    try simp
    refine at_ints (by omega) (by omega) fun x hx => ?_
    try simp
    refine at_ints (by omega) (by omega) fun x2 hx2 => ?_
    try simp
    refine put_ints (by omega) (by omega) ?_
    try simp [-List.map_set]
    refine put_ints (by omega) (by simp; omega) ?_
    try simp [-List.map_set]
    exact ⟨_, _, _, _, ⟨⟨rfl, rfl⟩, rfl, rfl⟩, (hl.set (hl x hx) _).set (hl x2 hx2) _, by simpa using hlm, hb1.mono (by omega)⟩
  · rintro s ⟨l, u, v, nd', rfl, hl, hlm, hb'⟩
    simp at hb'
    simp
    exact ⟨hb'.isd, q l nd' hl ⟨by omega, by omega⟩ (hb'.mono (by omega))⟩
@[simp ↓] theorem in_ti {i : Int} {ws : List W} {P : R → Prop} : Ev (hIn (.at (.int i)) (.tup ws)) P ↔ ws.all W.flat = true ∧ P (bR (inW (.d (.int i)) ws)) := in_l (i := i) (ws := ws)
@[simp] theorem inW_2 {i a b : Int} : inW (.d (.int i)) [.d (.int a), .d (.int b)] = decide (i = a ∨ i = b) := by
  have := ints_in (ns := [a, b]) (i := i)
  simpa using this
end NV.LB

namespace NV.LB
open PySem PySem.Spec PyProof.Rows L2 NV
/-! ### one shelf, without clocks -/
abbrev En := Int × (Int × Int × Int)
abbrev Sh := List (Int × Int)
abbrev lru (ru : Str) : Prop := ¬ ru = "few" ∧ ¬ ru = "come"
def rkPick (ru : Str) (A : Sh) : Option Int := if ru = "few" then (A.find? fun e => A.all fun e' => decide (e.2 ≤ e'.2)).map (·.1) else A.head?.map (·.1)
def shOut (ru : Str) (pl : Int) (A : Sh) : Option Int := if (A.length : Int) = pl then rkPick ru A else none
def shLess (ru : Str) (pl : Int) (A : Sh) : Sh := match shOut ru pl A with
  | some o => A.filter fun e => decide (e.1 ≠ o)
  | none => A
def shBring (ru : Str) (pl : Int) (b : Int) (A : Sh) : Sh := shLess ru pl A ++ [(b, 0)]
def shUse (ru : Str) (b : Int) (A : Sh) : Sh := if lru ru then (A.filter fun e => decide (e.1 ≠ b)) ++ [(b, (A.lookup b).getD 0 + 1)] else A.map fun e => if e.1 = b then (e.1, e.2 + 1) else e
def shAsk (ru : Str) (pl : Int) (A : Sh) (b : Int) : (Bool × Option Int) × Sh := if b ∈ A.map (·.1) then ((true, none), shUse ru b A) else ((false, shOut ru pl A), shBring ru pl b A)
/-- all shelves -/
abbrev Rk := Int → Sh
def rkSet (f : Rk) (k : Int) (A : Sh) : Rk := fun j => if j = k then A else f j
def rkAsk (ru : Str) (pl sh : Int) (f : Rk) (b : Int) : (Bool × Option Int) × Rk := ((shAsk ru pl (f (b % sh)) b).1, rkSet f (b % sh) (shAsk ru pl (f (b % sh)) b).2)
/-! ### the room is so -/
def ck (ru : Str) (e : En) : Int := if lru ru then e.2.2.1 else e.2.1
theorem ck_few {e : En} : ck "few" e = e.2.1 := if_neg fun h => h.1 rfl
theorem rk_lt {ru : Str} (h : ¬ ru = "few") {e e' : En} : ¬ SrtO.lexB (rk ru e.2) (rk ru e'.2) = true ↔ ck ru e' ≤ ck ru e := by
  unfold rk ck
  rw [if_neg h, if_neg h]
  by_cases h1 : ru = "come"
  · rw [if_pos h1, if_pos h1, if_neg (fun x => x.2 h1), if_neg (fun x => x.2 h1), SrtO.lexB_iff]
    simp
  · rw [if_neg h1, if_neg h1, if_pos ⟨h, h1⟩, if_pos ⟨h, h1⟩, SrtO.lexB_iff]
    simp
structure Ord (rm : Rm) (k : Int) (L : List En) : Prop where
  mem : ∀ e, e ∈ L ↔ e ∈ rm.mks ∧ e.1 % rm.sh = k
  srt : L.Pairwise fun p q => ck rm.ru p < ck rm.ru q
def Clk (rm : Rm) : Prop := ∀ e ∈ rm.mks, e.2.1 ≤ rm.step ∧ e.2.2.1 ≤ rm.step
abbrev forg (L : List En) : Sh := L.map fun e => (e.1, e.2.2.2)
structure Rel (rm : Rm) (f : Rk) : Prop where
  nod : Nod rm
  clk : Clk rm
  all : ∀ k, ∃ L, Ord rm k L ∧ f k = forg L
theorem mSet_mem {mk : List En} {b : Int} {v : Int × Int × Int} {e : En} : e ∈ mSet mk b v ↔ e = (b, v) ∨ (e ∈ mk ∧ e.1 ≠ b) := by
  unfold mSet
  split
  · rename_i h
    obtain ⟨a, ha, hab⟩ := List.any_eq_true.mp h
    have hab : a.1 = b := by simpa using hab
    rw [List.mem_map]
    constructor
    · rintro ⟨p, hp, rfl⟩
      split
      · exact .inl rfl
      · rename_i hne
        exact .inr ⟨hp, hne⟩
    · rintro (rfl | ⟨h1, h2⟩)
      · exact ⟨a, ha, by rw [if_pos hab]⟩
      · exact ⟨e, h1, by rw [if_neg h2]⟩
  · rename_i h
    rw [List.mem_append]
    constructor
    · rintro (h1 | h1)
      · refine .inr ⟨h1, fun z => h ?_⟩
        exact List.any_eq_true.mpr ⟨e, h1, by simpa using z⟩
      · simp at h1
        exact .inl h1
    · rintro (rfl | ⟨h1, h2⟩)
      · simp
      · exact .inl h1
theorem mDel_mem {mk : List En} {o : Int} {e : En} : e ∈ mDel mk o ↔ e ∈ mk ∧ e.1 ≠ o := by
  unfold mDel
  rw [List.mem_filter]
  simp
theorem nod_uniq {mk : List En} (h : (mk.map (·.1)).Nodup) {e e' : En} (h1 : e ∈ mk) (h2 : e' ∈ mk) (he : e.1 = e'.1) : e = e' := by
  have a1 := mGet_mem h h1
  have a2 := mGet_mem h h2
  rw [he] at a1
  have := a1.symm.trans a2
  exact Prod.ext he (by simpa using this)
theorem ord_nodup {rm : Rm} {k : Int} {L : List En} (h : Ord rm k L) : L.Nodup := h.srt.imp fun hlt he => by subst he; omega
theorem ord_keys {rm : Rm} {k : Int} {L : List En} (hn : Nod rm) (h : Ord rm k L) : (L.map (·.1)).Nodup := by
  refine List.pairwise_map.mpr ?_
  refine (ord_nodup h).imp_of_mem fun ha hb hne he => hne ?_
  exact nod_uniq hn ((h.mem _).mp ha).1 ((h.mem _).mp hb).1 he
theorem ord_perm {rm : Rm} {k : Int} {L : List En} (hn : Nod rm) (h : Ord rm k L) : L.Perm (rm.mks.filter fun p => decide (p.1 % rm.sh = k)) := by
  have h2 : rm.mks.Nodup := List.Pairwise.of_map _ (fun _ _ hne he => hne (by rw [he])) hn
  refine (List.perm_ext_iff_of_nodup (ord_nodup h) (h2.sublist List.filter_sublist)).mpr fun e => ?_
  rw [h.mem, List.mem_filter]
  simp
theorem ord_len {rm : Rm} {k : Int} {L : List En} (hn : Nod rm) (h : Ord rm k L) : (rm.stand k).length = L.length := by
  rw [(stand_perm rm k).length_eq, List.length_map, (ord_perm hn h).length_eq]
theorem lookup_mem {β : Type} {mk : List (Int × β)} (hn : (mk.map (·.1)).Nodup) {p : Int × β} (h : p ∈ mk) : mk.lookup p.1 = some p.2 := by
  induction mk with
  | nil => cases h
  | cons a l ih =>
    obtain ⟨k, v⟩ := a
    rw [List.lookup_cons]
    rcases List.mem_cons.mp h with rfl | h
    · simp
    · rw [List.map_cons, List.nodup_cons] at hn
      have : (p.1 == k) = false := by
        simp only [beq_eq_false_iff_ne]
        intro z
        have := List.mem_map_of_mem (f := fun p : Int × β => p.1) h
        rw [z] at this
        exact hn.1 this
      rw [this]
      exact ih hn.2 h
/-- the head of those standing -/
theorem stand_head {rm : Rm} {k o : Int} {l : List Int} (h : rm.stand k = o :: l) : ∃ v, (o, v) ∈ rm.mks ∧ o % rm.sh = k ∧ ∀ e ∈ rm.mks, e.1 % rm.sh = k → ¬ SrtO.lexB (rk rm.ru e.2) (rk rm.ru v) = true := by
  unfold Rm.stand at h
  have hp := sortK_perm ((rm.mks.filter fun p => decide (p.1 % rm.sh = k)).map fun p => (rk rm.ru p.2, p.1))
  have hs := sortK_srtd ((rm.mks.filter fun p => decide (p.1 % rm.sh = k)).map fun p => (rk rm.ru p.2, p.1))
  generalize hz : sortK ((rm.mks.filter fun p => decide (p.1 % rm.sh = k)).map fun p => (rk rm.ru p.2, p.1)) = z at *
  cases z with
  | nil => simp at h
  | cons a z =>
    simp at h
    obtain ⟨h1, h2⟩ := h
    have ha : a ∈ (rm.mks.filter fun p => decide (p.1 % rm.sh = k)).map fun p => (rk rm.ru p.2, p.1) := hp.mem_iff.mp (by simp)
    obtain ⟨e, he, rfl⟩ := List.mem_map.mp ha
    obtain ⟨he1, he2⟩ := List.mem_filter.mp he
    dsimp only at h1
    subst h1
    refine ⟨e.2, he1, by simpa using he2, fun e' h3 h4 => ?_⟩
    have hb : (rk rm.ru e'.2, e'.1) ∈ (rk rm.ru e.2, e.1) :: z := hp.mem_iff.mpr (List.mem_map.mpr ⟨e', List.mem_filter.mpr ⟨h3, by simpa using h4⟩, rfl⟩)
    rcases List.mem_cons.mp hb with hb | hb
    · have : rk rm.ru e'.2 = rk rm.ru e.2 := congrArg (·.1) hb
      rw [this]
      intro hx
      have := SrtO.lexB_iff.mp hx
      omega
    · have := (List.pairwise_cons.mp hs).1 _ hb
      intro hx
      have h5 : ltK ((rk rm.ru e'.2, e'.1) : Kx Int) (rk rm.ru e.2, e.1) = true := hx
      rw [h5] at this
      cases this
/-- who goes -/
theorem out_eq {rm : Rm} {b : Int} {L : List En} (hn : Nod rm) (h : Ord rm (b % rm.sh) L) : rm.out b = shOut rm.ru rm.pl (forg L) := by
  unfold Rm.out shOut
  rw [ord_len hn h, List.length_map]
  split
  · cases hst : rm.stand (b % rm.sh) with
    | nil =>
      have : L.length = 0 := by rw [← ord_len hn h, hst]; rfl
      cases L with
      | nil => unfold rkPick; split <;> rfl
      | cons _ _ => simp at this
    | cons o l =>
      obtain ⟨v, h1, h2, h3⟩ := stand_head hst
      have hm : ((o, v) : En) ∈ L := (h.mem _).mpr ⟨h1, h2⟩
      unfold rkPick
      split
      · rename_i hru
        obtain ⟨as, bs, hab⟩ := List.append_of_mem hm
        have hf : (forg L).find? (fun e => (forg L).all fun e' => decide (e.2 ≤ e'.2)) = some (o, v.2.2) := by
          refine List.find?_eq_some_iff_append.mpr ⟨?_, forg as, forg bs, ?_, ?_⟩
          · refine List.all_eq_true.mpr fun x hx => ?_
            obtain ⟨e, he, rfl⟩ := List.mem_map.mp hx
            have he' := (h.mem e).mp he
            have := h3 e he'.1 he'.2
            have := SrtO.lexB_no.mp (by simpa using this)
            simp [rk, hru] at this
            simp
            omega
          · rw [hab]; simp
          · intro x hx
            obtain ⟨e, he, rfl⟩ := List.mem_map.mp hx
            have heL : e ∈ L := by rw [hab]; simp [he]
            have he' := (h.mem e).mp heL
            have hlt : ck rm.ru e < ck rm.ru (o, v) := by
              have := h.srt
              rw [hab] at this
              exact (List.pairwise_append.mp this).2.2 e he _ (by simp)
            have := h3 e he'.1 he'.2
            have := SrtO.lexB_no.mp (by simpa using this)
            simp [rk, hru] at this
            rw [hru, ck_few, ck_few] at hlt
            simp only [Bool.not_eq_true', List.all_eq_false]
            refine ⟨(o, v.2.2), List.mem_map.mpr ⟨(o, v), hm, rfl⟩, ?_⟩
            simp
            dsimp only at hlt
            omega
        rw [hf]; rfl
      · rename_i hru
        cases L with
        | nil => cases hm
        | cons a L =>
          rcases List.mem_cons.mp hm with rfl | hm
          · rfl
          · have hlt := (List.pairwise_cons.mp h.srt).1 _ hm
            have ha := (h.mem a).mp (by simp)
            have := h3 a ha.1 ha.2
            have := (rk_lt (e := a) (e' := (o, v)) hru).mp this
            omega
  · rfl
theorem has_iff {rm : Rm} {b : Int} {L : List En} (hn : Nod rm) (h : Ord rm (b % rm.sh) L) : rm.has b = true ↔ b ∈ (forg L).map (·.1) := by
  unfold Rm.has
  rw [Option.isSome_iff_exists]
  constructor
  · rintro ⟨v, hv⟩
    have : (b, v) ∈ rm.mks := by
      unfold mGet at hv
      obtain ⟨l1, l2, h1, h2⟩ := List.lookup_eq_some_iff.mp hv
      rw [h1]
      simp
    have := (h.mem (b, v)).mpr ⟨this, rfl⟩
    rw [List.map_map]
    exact List.mem_map.mpr ⟨_, this, rfl⟩
  · intro hm
    rw [List.map_map] at hm
    obtain ⟨e, he, rfl⟩ := List.mem_map.mp hm
    exact ⟨e.2, mGet_mem hn ((h.mem e).mp he).1⟩
theorem forg_filter (L : List En) (b : Int) : forg (L.filter fun e => decide (e.1 ≠ b)) = (forg L).filter fun e => decide (e.1 ≠ b) := by
  rw [List.filter_map]; rfl
theorem ord_other {rm rm' : Rm} {k b : Int} {L : List En} (h : Ord rm k L) (hs : rm'.sh = rm.sh) (hr : rm'.ru = rm.ru) (hm : ∀ e, e.1 % rm.sh = k → (e ∈ rm'.mks ↔ e ∈ rm.mks)) : Ord rm' k L := by
  refine ⟨fun e => ?_, ?_⟩
  · rw [h.mem e, hs]
    constructor
    · rintro ⟨h1, h2⟩
      exact ⟨(hm e h2).mpr h1, h2⟩
    · rintro ⟨h1, h2⟩
      exact ⟨(hm e h2).mp h1, h2⟩
  · rw [hr]; exact h.srt
theorem srt_snoc {ru : Str} {L : List En} {e : En} (h : L.Pairwise fun p q => ck ru p < ck ru q) (hlt : ∀ x ∈ L, ck ru x < ck ru e) : (L ++ [e]).Pairwise fun p q => ck ru p < ck ru q := by
  refine List.pairwise_append.mpr ⟨h, by simp, fun a ha b hb => ?_⟩
  simp at hb
  subst hb
  exact hlt a ha
theorem ck_le {rm : Rm} (h : Clk rm) {e : En} (he : e ∈ rm.mks) : ck rm.ru e ≤ rm.step := by
  have := h e he
  unfold ck
  split <;> omega
theorem ck_new {ru : Str} {b t n : Int} : ck ru (b, t, t, n) = t := by unfold ck; split <;> rfl
theorem use_rel {rm : Rm} {f : Rk} {b : Int} (h : Rel rm f) (hb : rm.has b = true) : Rel (rm.use b) (rkSet f (b % rm.sh) (shUse rm.ru b (f (b % rm.sh)))) := by
  have hb' := hb
  unfold Rm.has at hb'
  obtain ⟨⟨c, l, n⟩, hv⟩ := Option.isSome_iff_exists.mp hb'
  have eu : rm.use b = { rm with step := rm.step + 1, mks := mSet rm.mks b (c, rm.step + 1, n + 1) } := by unfold Rm.use; rw [hv]
  have hvm : (b, c, l, n) ∈ rm.mks := by
    obtain ⟨l1, l2, h1, h2⟩ := List.lookup_eq_some_iff.mp hv
    rw [h1]; simp
  refine ⟨(Rm.use_nod h.nod b).1, ?_, fun k => ?_⟩
  · rw [eu]
    intro e he
    rcases mSet_mem.mp he with rfl | ⟨h1, h2⟩
    · have := h.clk _ hvm
      dsimp only at this ⊢
      omega
    · have := h.clk _ h1
      dsimp only
      omega
  · obtain ⟨L, hL, hf⟩ := h.all k
    by_cases hk : k = b % rm.sh
    · subst hk
      have hbL : (b, c, l, n) ∈ L := (hL.mem _).mpr ⟨hvm, rfl⟩
      have hun : ∀ e ∈ L, e.1 = b → e = (b, c, l, n) := fun e he heb => nod_uniq h.nod ((hL.mem e).mp he).1 hvm heb
      unfold rkSet
      rw [if_pos rfl, hf]
      unfold shUse
      by_cases hr : lru rm.ru
      · rw [if_pos hr]
        refine ⟨(L.filter fun e => decide (e.1 ≠ b)) ++ [(b, c, rm.step + 1, n + 1)], ?_, ?_⟩
        · rw [eu]
          refine ⟨fun e => ?_, ?_⟩
          · rw [List.mem_append, List.mem_filter, hL.mem]
            show _ ↔ e ∈ mSet rm.mks b (c, rm.step + 1, n + 1) ∧ e.1 % rm.sh = b % rm.sh
            rw [mSet_mem]
            simp
            constructor
            · rintro (⟨⟨h1, h2⟩, h3⟩ | rfl)
              · exact ⟨.inr ⟨h1, h3⟩, h2⟩
              · exact ⟨.inl rfl, rfl⟩
            · rintro ⟨rfl | ⟨h1, h2⟩, h3⟩
              · exact .inr rfl
              · exact .inl ⟨⟨h1, h3⟩, h2⟩
          · refine srt_snoc (hL.srt.sublist List.filter_sublist) fun x hx => ?_
            have := ck_le h.clk ((hL.mem x).mp (List.mem_filter.mp hx).1).1
            show ck rm.ru x < ck rm.ru (b, c, rm.step + 1, n + 1)
            have e2 : ck rm.ru (b, c, rm.step + 1, n + 1) = rm.step + 1 := if_pos hr
            omega
        · have el : (forg L).lookup b = some n := by
            have hk2 : ((forg L).map (·.1)).Nodup := by
              rw [List.map_map]
              exact ord_keys h.nod hL
            exact lookup_mem hk2 (p := (b, n)) (List.mem_map.mpr ⟨_, hbL, rfl⟩)
          rw [el, ← forg_filter]
          simp [forg]
      · rw [if_neg hr]
        refine ⟨L.map fun e => if e.1 = b then (e.1, e.2.1, rm.step + 1, e.2.2.2 + 1) else e, ?_, ?_⟩
        · rw [eu]
          refine ⟨fun e => ?_, ?_⟩
          · rw [List.mem_map]
            show _ ↔ e ∈ mSet rm.mks b (c, rm.step + 1, n + 1) ∧ e.1 % rm.sh = b % rm.sh
            rw [mSet_mem]
            constructor
            · rintro ⟨x, hx, rfl⟩
              split
              · rename_i hxb
                have := hun x hx hxb
                subst this
                exact ⟨.inl rfl, rfl⟩
              · rename_i hxb
                have := (hL.mem x).mp hx
                exact ⟨.inr ⟨this.1, hxb⟩, this.2⟩
            · rintro ⟨rfl | ⟨h1, h2⟩, h3⟩
              · exact ⟨_, hbL, by rw [if_pos rfl]⟩
              · exact ⟨e, (hL.mem e).mpr ⟨h1, h3⟩, by rw [if_neg h2]⟩
          · refine List.pairwise_map.mpr (hL.srt.imp fun {p q} hlt => ?_)
            show ck rm.ru _ < ck rm.ru _
            have hc : ∀ e : En, ck rm.ru (if e.1 = b then (e.1, e.2.1, rm.step + 1, e.2.2.2 + 1) else e) = ck rm.ru e := by
              intro e
              split
              · unfold ck
                rw [if_neg hr, if_neg hr]
              · rfl
            rw [hc, hc]
            exact hlt
        · unfold forg
          rw [List.map_map, List.map_map]
          refine List.map_congr_left fun e _ => ?_
          show (if e.1 = b then (e.1, e.2.2.2 + 1) else (e.1, e.2.2.2)) = _
          dsimp only [Function.comp]
          split <;> rfl
    · unfold rkSet
      rw [if_neg hk]
      refine ⟨L, ?_, hf⟩
      rw [eu]
      refine ord_other (b := b) hL rfl rfl fun e he => ?_
      rw [mSet_mem]
      constructor
      · rintro (rfl | ⟨h1, h2⟩)
        · exact absurd he (Ne.symm hk)
        · exact h1
      · intro h1
        refine .inr ⟨h1, fun z => hk ?_⟩
        rw [← he, z]
theorem pick_mem {ru : Str} {A : Sh} {o : Int} (h : rkPick ru A = some o) : o ∈ A.map (·.1) := by
  unfold rkPick at h
  split at h
  · obtain ⟨e, he, rfl⟩ := Option.map_eq_some_iff.mp h
    exact List.mem_map_of_mem (List.mem_of_find?_eq_some he)
  · obtain ⟨e, he, rfl⟩ := Option.map_eq_some_iff.mp h
    exact List.mem_map_of_mem (List.mem_of_mem_head? he)
theorem shOut_mem {ru : Str} {pl : Int} {A : Sh} {o : Int} (h : shOut ru pl A = some o) : o ∈ A.map (·.1) := by
  unfold shOut at h
  split at h
  · exact pick_mem h
  · cases h
theorem less_mem {rm : Rm} {b : Int} {e : En} : e ∈ rm.less b ↔ e ∈ rm.mks ∧ ∀ o, rm.out b = some o → e.1 ≠ o := by
  unfold Rm.less
  split
  · rename_i o ho
    rw [mDel_mem, ho]
    constructor
    · rintro ⟨h1, h2⟩
      exact ⟨h1, fun o' h => by injection h with h; rw [← h]; exact h2⟩
    · rintro ⟨h1, h2⟩
      exact ⟨h1, h2 _ rfl⟩
  · rename_i ho
    rw [ho]
    exact ⟨fun h => ⟨h, fun o' h => by cases h⟩, fun h => h.1⟩
theorem bring_rel {rm : Rm} {f : Rk} {b : Int} (h : Rel rm f) (hb : rm.has b = false) : Rel (rm.bring b) (rkSet f (b % rm.sh) (shBring rm.ru rm.pl b (f (b % rm.sh)))) := by
  have hbm : ∀ e ∈ rm.mks, e.1 ≠ b := by
    rintro e he rfl
    have := mGet_mem h.nod he
    unfold Rm.has at hb
    rw [this] at hb
    cases hb
  obtain ⟨L0, hL0, hf0⟩ := h.all (b % rm.sh)
  have ho := out_eq h.nod hL0
  refine ⟨(Rm.bring_nod h.nod b).1, ?_, fun k => ?_⟩
  · intro e he
    rcases mSet_mem.mp he with rfl | ⟨h1, h2⟩
    · exact ⟨Int.le_refl _, Int.le_refl _⟩
    · have := h.clk _ (less_mem.mp h1).1
      show e.2.1 ≤ rm.step + 1 ∧ e.2.2.1 ≤ rm.step + 1
      omega
  · by_cases hk : k = b % rm.sh
    · subst hk
      unfold rkSet
      rw [if_pos rfl, hf0]
      have hless : ∃ L1, L1.Sublist L0 ∧ (∀ e, e ∈ L1 ↔ e ∈ L0 ∧ ∀ o, rm.out b = some o → e.1 ≠ o) ∧ forg L1 = shLess rm.ru rm.pl (forg L0) := by
        unfold shLess
        rw [← ho]
        cases hob : rm.out b with
        | none => exact ⟨L0, List.Sublist.refl _, fun e => ⟨fun h => ⟨h, fun o h => by cases h⟩, fun h => h.1⟩, rfl⟩
        | some o =>
          refine ⟨L0.filter fun e => decide (e.1 ≠ o), List.filter_sublist, fun e => ?_, forg_filter _ _⟩
          rw [List.mem_filter]
          constructor
          · rintro ⟨h1, h2⟩
            exact ⟨h1, fun o' h => by injection h with h; rw [← h]; simpa using h2⟩
          · rintro ⟨h1, h2⟩
            exact ⟨h1, by simpa using h2 _ rfl⟩
      obtain ⟨L1, hs1, hm1, hf1⟩ := hless
      refine ⟨L1 ++ [(b, rm.step + 1, rm.step + 1, 0)], ⟨fun e => ?_, ?_⟩, ?_⟩
      · rw [List.mem_append, hm1, hL0.mem]
        show _ ↔ e ∈ mSet (rm.less b) b (rm.step + 1, rm.step + 1, 0) ∧ e.1 % rm.sh = b % rm.sh
        rw [mSet_mem, less_mem]
        simp
        constructor
        · rintro (⟨⟨h1, h2⟩, h3⟩ | rfl)
          · exact ⟨.inr ⟨⟨h1, h3⟩, hbm e h1⟩, h2⟩
          · exact ⟨.inl rfl, rfl⟩
        · rintro ⟨rfl | ⟨h1, h2⟩, h3⟩
          · exact .inr rfl
          · exact .inl ⟨⟨h1.1, h3⟩, h1.2⟩
      · show (L1 ++ [(b, rm.step + 1, rm.step + 1, 0)]).Pairwise fun p q => ck rm.ru p < ck rm.ru q
        refine srt_snoc (hL0.srt.sublist hs1) fun x hx => ?_
        have := ck_le h.clk ((hL0.mem x).mp (hs1.mem hx)).1
        rw [ck_new]
        omega
      · unfold shBring
        rw [← hf1]
        simp [forg]
    · obtain ⟨L, hL, hf⟩ := h.all k
      unfold rkSet
      rw [if_neg hk]
      refine ⟨L, ?_, hf⟩
      refine ord_other (b := b) hL rfl rfl fun e he => ?_
      show e ∈ mSet (rm.less b) b (rm.step + 1, rm.step + 1, 0) ↔ _
      rw [mSet_mem, less_mem]
      constructor
      · rintro (rfl | ⟨h1, h2⟩)
        · exact absurd he (Ne.symm hk)
        · exact h1.1
      · intro h1
        refine .inr ⟨⟨h1, ?_⟩, hbm e h1⟩
        rintro o hoo rfl
        rw [ho] at hoo
        have := shOut_mem hoo
        rw [List.map_map] at this
        obtain ⟨x, hx, hxe⟩ := List.mem_map.mp this
        have hx2 := ((hL0.mem x).mp hx).2
        have hxe : x.1 = e.1 := hxe
        rw [hxe] at hx2
        exact hk (he.symm.trans hx2)
end NV.LB

namespace NV.LB
open PySem PySem.Spec PyProof.Rows L2 NV
/-! ### laws of shelves -/
section
variable {ru : Str} {pl sh : Int} {f g : Rk} {A : Sh} {b : Int}
abbrev keys (A : Sh) : List Int := A.map (·.1)
theorem rkSet_self {k : Int} : rkSet f k A k = A := if_pos rfl
/-! what is kept -/
/-! asked twos -/
theorem keys_filter (A : Sh) (o : Int) : keys (A.filter fun e => decide (e.1 ≠ o)) = (keys A).filter fun x => decide (x ≠ o) := by
  rw [keys, keys, List.filter_map]; rfl
theorem use_keys (A : Sh) : keys (shUse ru b A) = if lru ru then (keys A).filter (fun x => decide (x ≠ b)) ++ [b] else keys A := by
  unfold shUse
  split
  · rw [keys, List.map_append, ← keys_filter]; rfl
  · rw [keys, keys, List.map_map]
    refine List.map_congr_left fun e _ => ?_
    dsimp only [Function.comp]
    split <;> rfl
theorem bring_keys (A : Sh) : keys (shBring ru pl b A) = keys (shLess ru pl A) ++ [b] := by
  unfold shBring
  rw [keys, List.map_append]; rfl
def KN (f : Rk) : Prop := ∀ k, (keys (f k)).Nodup
theorem less_nd (h : (keys A).Nodup) : (keys (shLess ru pl A)).Nodup := by
  unfold shLess
  split
  · exact (List.filter_sublist.map _).nodup h
  · exact h
theorem ask_nd (h : (keys A).Nodup) : (keys (shAsk ru pl A b).2).Nodup := by
  unfold shAsk
  split
  · dsimp only
    rw [use_keys]
    split
    · refine List.nodup_append.mpr ⟨h.sublist List.filter_sublist, by simp, fun x hx y hy => ?_⟩
      have := (List.mem_filter.mp hx).2
      simp at this hy
      rw [hy]; exact this
    · exact h
  · rename_i hb
    dsimp only
    rw [bring_keys]
    refine List.nodup_append.mpr ⟨less_nd h, by simp, fun x hx y hy => ?_⟩
    simp at hy
    rw [hy]
    rintro rfl
    apply hb
    unfold shLess at hx
    split at hx
    · exact (List.filter_sublist.map _).mem hx
    · exact hx
theorem KN.ask (h : KN f) : KN (rkAsk ru pl sh f b).2 := by
  intro k
  unfold rkAsk rkSet
  dsimp only
  split
  · exact ask_nd (h _)
  · exact h k
def twos (l : List Int) : List Int := l.flatMap fun b => [b, b]
end
end NV.LB

namespace NV.LB
open PySem PySem.Spec PyProof.Rows L2 NV
/-! ### every second -/
section
variable {α β : Type}
end
theorem pair_cm (p : Bool × Option Int) : Cm 60 (pD p) := by
  obtain ⟨a, b⟩ := p
  intro x hx
  cases b <;> simp [pD] at hx <;> rcases hx with rfl | rfl <;> trivial
@[simp ↓] theorem eq_pairs_same {l : List (Bool × Option Int)} {P : R → Prop} : Ev (hEq (.lst (l.map (W.d ∘ pD))) (.lst (l.map (W.d ∘ pD)))) P ↔ P (bR true) := ev_is (same_of pD pair_cm l).1
@[simp ↓] theorem ne_pairs_same {l : List (Bool × Option Int)} {P : R → Prop} : Ev (hNe (.lst (l.map (W.d ∘ pD))) (.lst (l.map (W.d ∘ pD)))) P ↔ P (bR false) := ev_is (same_of pD pair_cm l).2
/-! ### each once -/
/-! ### each box right -/
end NV.LB

namespace NV.LB
open PySem PySem.Spec PyProof.Rows L2 NV
/-! ### dicts: what stands at a key -/
/-! ### how many lie between -/
/-- how many would be missed, at each number of places -/
def deeper (j : Int) : Option Int → Bool
  | none => true
  | some d => decide (j ≤ d)
end NV.LB

namespace NV.LB
open PySem PySem.Spec PyProof.Rows L2 NV
theorem cut_from {α : Type} {l : List α} {m : Int} (h : 0 ≤ m) : cut l (some m) none = l.drop m.toNat := by
  unfold cut
  rw [sIx_nn h]
  simp [HT.sIx]
  by_cases hm : m.toNat < l.length
  · rw [Nat.min_eq_left (by omega), List.take_of_length_le (by simp)]
  · rw [Nat.min_eq_right (by omega), List.drop_of_length_le (Nat.le_refl _), List.drop_of_length_le (by omega)]
    simp
/-! ### elsewhere, longer, one more -/
section
variable {ru : Str} {pl sh : Int} {f g : Rk} {A : Sh} {b t : Int}
/-! elsewhere -/
end
end NV.LB

namespace NV.LB
open PySem PySem.Spec PyProof.Rows L2 NV
/-! ### the oldest goes: found by what lies between -/
section
variable {pl sh : Int} {f : Rk} {b : Int}
theorem old_lru : lru "old" := by decide
theorem fl_self {X : List Int} (h : b ∉ X) : (X.filter fun c => decide (c ≠ b)) = X := List.filter_eq_self.mpr fun x hx => by
  simp
  rintro rfl
  exact h hx
end
end NV.LB

namespace NV.LB
open PySem PySem.Spec PyProof.Rows L2 NV
/-! ### marks kept otherwise -/
/-! ### never more than there are places -/
theorem use_len {ru : Str} {b : Int} {A : Sh} (h : b ∈ keys A) : (shUse ru b A).length ≤ A.length := by
  unfold shUse
  split
  · obtain ⟨e, he, rfl⟩ := List.mem_map.mp h
    have : (A.filter fun x => decide (x.1 ≠ e.1)).length < A.length := List.length_filter_lt_length_iff_exists.mpr ⟨e, he, by simp⟩
    rw [List.length_append, List.length_singleton]
    omega
  · rw [List.length_map]; exact Nat.le_refl _
theorem bring_len {ru : Str} {pl : Int} {b : Int} {A : Sh} (hp : 0 < pl) (h : (A.length : Int) ≤ pl) : ((shBring ru pl b A).length : Int) ≤ pl := by
  unfold shBring shLess
  rw [List.length_append]
  cases ho : shOut ru pl A with
  | none =>
    unfold shOut at ho
    split at ho
    · rename_i hf
      cases A with
      | nil => simp at hf; omega
      | cons e A =>
        exfalso
        unfold rkPick at ho
        split at ho
        · rw [Option.map_eq_none_iff, List.find?_eq_none] at ho
          -- some is the least
          have : ∀ B : List (Int × Int), B ≠ [] → ∃ x ∈ B, ∀ y ∈ B, x.2 ≤ y.2 := by
            intro B
            induction B with
            | nil => exact fun h => absurd rfl h
            | cons z B ih =>
              intro _
              by_cases hB : B = []
              · subst hB
                exact ⟨z, by simp, by simp⟩
              · obtain ⟨x, hx, hm⟩ := ih hB
                by_cases hz : z.2 ≤ x.2
                · exact ⟨z, by simp, fun y hy => by
                    rcases List.mem_cons.mp hy with rfl | hy
                    · exact Int.le_refl _
                    · exact Int.le_trans hz (hm y hy)⟩
                · exact ⟨x, by simp [hx], fun y hy => by
                    rcases List.mem_cons.mp hy with rfl | hy
                    · omega
                    · exact hm y hy⟩
          obtain ⟨x, hx, hm⟩ := this (e :: A) (by simp)
          exact ho x hx (List.all_eq_true.mpr fun y hy => by simpa using hm y hy)
        · simp at ho
    · simp; omega
  | some o =>
    obtain ⟨e, he, rfl⟩ := List.mem_map.mp (shOut_mem ho)
    have : (A.filter fun x => decide (x.1 ≠ e.1)).length < A.length := List.length_filter_lt_length_iff_exists.mpr ⟨e, he, by simp⟩
    show (((A.filter fun x => decide (x.1 ≠ e.1)).length + 1 : Nat) : Int) ≤ pl
    omega
def Few (pl : Int) (f : Rk) : Prop := ∀ k, ((f k).length : Int) ≤ pl
theorem Few.ask {ru : Str} {pl sh : Int} {f : Rk} {b : Int} (hp : 0 < pl) (h : Few pl f) : Few pl (rkAsk ru pl sh f b).2 := by
  intro k
  unfold rkAsk rkSet
  dsimp only
  split
  · unfold shAsk
    split
    · rename_i hm
      have := use_len (ru := ru) hm
      have := h (b % sh)
      dsimp only
      omega
    · exact bring_len hp (h _)
  · exact h k
/-! ### who goes, by a least tuple -/
end NV.LB

namespace NV.LB
open PySem PySem.Spec PyProof.Rows L2 NV
noncomputable def h_many : SF := sSeq (sAsg (eOp hEq (eCallB F_take (aConsO (eVar 0) (aCons (eC (.int 8)) (aNil)))) (eC (.int 0))) (gN 3)) (sRet (eOp hAdd' (eC (.int 1)) (eCallB F_take (aConsO (eVar 0) (aCons (eIf (tE (eVar 3)) (eVar 2) (eVar 1)) (aNil))))))
noncomputable def F_many : FF := runF 4 h_many
/-! ### one room more -/
namespace Rm
def drop (rm : Rm) (b : Int) : Rm := { rm with mks := mDel rm.mks b }
end Rm
structure Good (N : Nat) (rm : Rm) : Prop where
  nod : Nod rm
  sh : 0 < rm.sh
  pl : 0 < rm.pl
  len : rm.mks.length ≤ N
theorem Good.up {N M : Nat} {rm : Rm} (h : Good N rm) (l : N ≤ M) : Good M rm := ⟨h.nod, h.sh, h.pl, Nat.le_trans h.len l⟩
theorem drop_nod {rm : Rm} (h : Nod rm) (b : Int) : Nod (rm.drop b) := mDel_nodup h
theorem Good.use {N : Nat} {rm : Rm} (h : Good N rm) (b : Int) : Good (N + 1) (rm.use b) := by
  obtain ⟨h1, h2⟩ := Rm.use_nod h.nod b
  obtain ⟨k1, k2, _⟩ := rm.use_kept b
  exact ⟨h1, by rw [k1]; exact h.sh, by rw [k2]; exact h.pl, Nat.le_trans h2 (by have := h.len; omega)⟩
theorem Good.bring {N : Nat} {rm : Rm} (h : Good N rm) (b : Int) : Good (N + 1) (rm.bring b) := by
  obtain ⟨h1, h2⟩ := Rm.bring_nod h.nod b
  exact ⟨h1, h.sh, h.pl, Nat.le_trans h2 (by have := h.len; omega)⟩
theorem Good.drop {N : Nat} {rm : Rm} (h : Good N rm) (b : Int) : Good N (rm.drop b) := ⟨drop_nod h.nod b, h.sh, h.pl, Nat.le_trans (mDel_len _ _) h.len⟩
/-! ### rooms side by side -/
def RoomsAt (st : Sto) (rs : List Rm) : Prop := ∀ i rm, rs[i]? = some rm → RoomAt st (2 * i) (2 * i + 1) rm
def roomW (i : Nat) : W := .obj (2 * i)
theorem RoomsAt.set {st : Sto} {rs : List Rm} {i : Nat} (h : RoomsAt st rs) (hi : i < rs.length) (rm' : Rm) : RoomsAt (setRoom st (2 * i) (2 * i + 1) rm') (rs.set i rm') := by
  have h0 := h i rs[i] (List.getElem?_eq_getElem hi)
  intro j rm hj
  by_cases e : i = j
  · subst e
    rw [List.getElem?_set_self hi] at hj
    cases hj
    exact setRoom_at h0 rm'
  · rw [List.getElem?_set_ne e] at hj
    have h1 := h j rm hj
    refine ⟨?_, ?_, h1.ne⟩
    · rw [setRoom_ne (by omega) (by omega)]; exact h1.room
    · rw [setRoom_ne (by omega) (by omega)]; exact h1.marks
/-- all else stands -/
def Beh (k : Nat) (st st' : Sto) : Prop := st'.length = st.length ∧ ∀ j, k ≤ j → st'[j]? = st[j]?
theorem Beh.refl (k : Nat) (st : Sto) : Beh k st st := ⟨rfl, fun _ _ => rfl⟩
theorem Beh.trans {k : Nat} {s1 s2 s3 : Sto} (h1 : Beh k s1 s2) (h2 : Beh k s2 s3) : Beh k s1 s3 := ⟨h2.1.trans h1.1, fun j hj => (h2.2 j hj).trans (h1.2 j hj)⟩
theorem Beh.set {st : Sto} {k i : Nat} {rm : Rm} (hi : i < k) : Beh (2 * k) st (setRoom st (2 * i) (2 * i + 1) rm) := ⟨setRoom_len, fun j hj => setRoom_ne (by omega) (by omega)⟩
def near (rs : List Rm) (b : Int) : Nat := rs.findIdx fun rm => rm.has b
def brg (i : Nat) (b : Int) (rs : List Rm) : List Rm := match rs[i]? with
  | some rm => rs.set i (rm.bring b)
  | none => rs
def outAt (i : Nat) (b : Int) (rs : List Rm) : Option Int := rs[i]?.bind fun rm => rm.out b
def dropB (i : Nat) (o : Int) (rs : List Rm) : List Rm := rs.mapIdx fun j rm => if j < i ∧ rm.has o = true then rm.drop o else rm
def cin1 (w : Bool) (b : Int) (i : Nat) (rs : List Rm) : List Rm := match outAt i b rs with
  | some o => if w = true then dropB i o (brg i b rs) else brg i b rs
  | none => brg i b rs
def cin (w : Bool) (b : Int) : Nat → List Rm → List Rm
  | 0, rs => rs
  | k + 1, rs => cin w b k (cin1 w b k rs)
theorem lc_w {β : Type} {cv : Cv} {t : GF} {tt : TF} {fe : EF} {own : List Nat} {gd : List (Nat × Nd)} {sl : List (Option W)} {st : Sto} {B : List W × Sto → Prop} {e : β → Y} {xs : List β} (f : β → W) (p : β → Bool) (hl : xs.length ≤ 16777216)
    (hs : ∀ x ∈ xs, LcS cv t tt fe own sl st (e x) fun o st' => o = (if p x = true then some (f x) else none) ∧ st' = st) (q : B ((xs.filter p).map f, st)) (hg : gok gd st := by exact gok_nil) : Ev (lcL cv t tt fe own sl gd (xs.map e) [] st) B := by
  refine lcL_inv (fun j acc st' => acc = ((xs.take j).filter p).map f ∧ st' = st) (xs.map e) 0 [] st ⟨by simp, rfl⟩ (by rw [sizeLine_eq]; simpa using hl) (fun j y acc st' _ hy hI => ?_) (fun acc st' hI => ?_) (fun j acc st' hI => by rw [hI.2]; exact hg)
  · obtain ⟨rfl, rfl⟩ := hI
    rw [Nat.sub_zero, List.getElem?_map] at hy
    obtain ⟨x, hx, rfl⟩ := Option.map_eq_some_iff.mp hy
    have := hs x (List.mem_of_getElem? hx)
    unfold LcS WipeK at this ⊢
    refine this.imp fun s1 h1 => h1.imp fun b s2 h2 => ?_
    have e1 : ∀ o : Option W, o = (if p x = true then some (f x) else none) → ((List.take j xs).filter p).map f ++ o.toList = ((List.take (j + 1) xs).filter p).map f := by
      rintro o rfl
      rw [List.take_add_one, hx]
      cases hp : p x <;> simp [hp]
    unfold IteK at h2 ⊢
    split at h2
    · rename_i hb
      rw [if_pos hb]
      exact h2.imp fun r s3 h3 => h3.imp fun z h4 => ⟨e1 _ h4.1, h4.2⟩
    · rename_i hb
      rw [if_neg hb]
      exact ⟨e1 _ h2.1, h2.2⟩
  · obtain ⟨rfl, rfl⟩ := hI
    rw [Nat.zero_add, List.length_map, List.take_length]
    exact q
theorem dropB_get {i j : Nat} {o : Int} {rs : List Rm} : (dropB i o rs)[j]? = rs[j]?.map fun rm => if j < i ∧ rm.has o = true then rm.drop o else rm := by
  unfold dropB
  rw [List.getElem?_mapIdx]
/-- the room's list stands, the rooms too -/
structure Rms (l : Nat) (rs : List Rm) (st : Sto) : Prop where
  rooms : RoomsAt st rs
  list : st[l]? = some (some (.lst ((List.range rs.length).map roomW)))
  far : 2 * rs.length ≤ l
theorem Rms.put {l i : Nat} {rs : List Rm} {st : Sto} (h : Rms l rs st) (hi : i < rs.length) (rm' : Rm) : Rms l (rs.set i rm') (setRoom st (2 * i) (2 * i + 1) rm') := by
  have := h.far
  refine ⟨h.rooms.set hi rm', ?_, by rw [List.length_set]; exact h.far⟩
  rw [List.length_set, setRoom_ne (by omega) (by omega)]
  exact h.list
theorem Rms.at {l i : Nat} {rs : List Rm} {st : Sto} (h : Rms l rs st) (hi : i < rs.length) : RoomAt st (2 * i) (2 * i + 1) rs[i] := h.rooms i _ (List.getElem?_eq_getElem hi)
/-! ### passed on -/
def pas : Option Int → List Rm → List Rm
  | some c, rm :: l => rm.bring c :: pas (rm.out c) l
  | none, l => l
  | some _, [] => []
theorem pas_none (l : List Rm) : pas none l = l := by cases l <;> rfl
def drp (k : Nat) (b : Int) (rs : List Rm) : List Rm := match rs[k]? with
  | some rm => rs.set k (rm.drop b)
  | none => rs
def passes (k : Nat) (b : Int) (rs : List Rm) : List Rm := pas (some b) (drp k b rs)
def Dis (rs : List Rm) : Prop := ∀ (i j : Nat) (x y : Rm), i ≠ j → rs[i]? = some x → rs[j]? = some y → ∀ c, x.has c = true → y.has c = false
def Nowh (c : Int) (rs : List Rm) : Prop := ∀ rm ∈ rs, rm.has c = false
theorem has_false {rm : Rm} {c : Int} (h : ¬ rm.has c = true) : rm.has c = false := by simpa using h
def PI (l k N : Nat) (b : Int) (n0 : Nat) (fin : List Rm) (st : Sto) (t : Nat) (s : S) : Prop :=
  ∃ (c : Option Int) (u3 : Option W) (st1 : Sto) (dn rest : List Rm), s = ⟨[some (W.obj l), some (W.d (D.int k)), some (optW c), u3], st1⟩ ∧ Rms l (dn ++ rest) st1 ∧ Beh (2 * n0) st st1 ∧ dn.length = t ∧ (dn ++ rest).length = n0 ∧ (∀ rm ∈ dn ++ rest, Good (N + t) rm) ∧ fin = dn ++ pas c rest ∧ Dis (dn ++ rest) ∧ ∀ x, c = some x → Nowh x (dn ++ rest)
end NV.LB

namespace NV.LB
open PySem PySem.Spec PyProof.Rows L2 NV
/-! ### where each board is found -/
structure Spc where
  sh : Int
  pl : Int
  ru : Str
  wr : Str
structure SpOk (s : Spc) : Prop where
  sh : 1 ≤ s.sh ∧ s.sh ≤ 64
  pl : 1 ≤ s.pl ∧ s.pl ≤ 16
  ru : s.ru ∈ rules
  wr : s.wr ∈ writings
def useA (k : Nat) (b : Int) (rs : List Rm) : List Rm := match rs[k]? with
  | some rm => rs.set k (rm.use b)
  | none => rs
def fo1 (kd : Str) (b : Int) (rs : List Rm) : List Rm :=
  if kd = "apart" then (if near rs b = 0 then useA 0 b rs else passes (near rs b) b rs)
  else cin (decide (kd = "within")) b (near rs b) (useA (near rs b) b rs)
end NV.LB

namespace NV.LB
open PySem PySem.Spec PyProof.Rows L2 NV
/-! ### founds: laws -/
section
variable {t b : Int} {rm : Rm}
def Mul (t : Int) (rs : List Rm) : Prop := ∀ rm ∈ rs, t % rm.sh = 0
/-! shelves stay -/
theorem Mul.brg {rs : List Rm} (h : Mul t rs) (k : Nat) : Mul t (LB.brg k b rs) := by
  unfold LB.brg
  split
  · rename_i rm hk
    intro r hr
    rcases List.mem_or_eq_of_mem_set hr with hr | rfl
    · exact h r hr
    · exact h rm (List.mem_of_getElem? hk)
  · exact h
theorem Mul.dropB {rs : List Rm} (h : Mul t rs) (k : Nat) (o : Int) : Mul t (LB.dropB k o rs) := by
  intro r hr
  obtain ⟨i, hi⟩ := List.getElem?_of_mem hr
  rw [dropB_get] at hi
  obtain ⟨r0, h0, rfl⟩ := Option.map_eq_some_iff.mp hi
  have := h r0 (List.mem_of_getElem? h0)
  split
  · exact this
  · exact this
theorem Mul.useA {rs : List Rm} (h : Mul t rs) (k : Nat) : Mul t (LB.useA k b rs) := by
  unfold LB.useA
  split
  · rename_i rm hk
    intro r hr
    rcases List.mem_or_eq_of_mem_set hr with hr | rfl
    · exact h r hr
    · rw [(rm.use_kept b).1]; exact h rm (List.mem_of_getElem? hk)
  · exact h
theorem Mul.drp {rs : List Rm} (h : Mul t rs) (k : Nat) : Mul t (LB.drp k b rs) := by
  unfold LB.drp
  split
  · rename_i rm hk
    intro r hr
    rcases List.mem_or_eq_of_mem_set hr with hr | rfl
    · exact h r hr
    · exact h rm (List.mem_of_getElem? hk)
  · exact h
theorem Mul.cin1 {rs : List Rm} (h : Mul t rs) (w : Bool) (k : Nat) : Mul t (LB.cin1 w b k rs) := by
  unfold LB.cin1
  split
  · split
    · exact (h.brg k).dropB k _
    · exact h.brg k
  · exact h.brg k
end
/-! ### prefixes -/
def foE (kd : Str) : List Rm → List Int → List Rm
  | rs, [] => rs
  | rs, b :: l => foE kd (fo1 kd b rs) l
end NV.LB

namespace NV.LB
open PySem PySem.Spec PyProof.Rows L2 NV
/-! ### founds: what was never asked is nowhere -/
section
variable {b : Int} {kd : Str}
/-! somewhere before, or the one asked for -/
end
end NV.LB

namespace NV.LB
open PySem PySem.Spec PyProof.Rows L2 NV
/-! ### rows of boards of a plan -/
theorem many_b {k fw mo : Int} {nd : Nd} {Q : R × Nd → Prop} (hf : 1 ≤ fw ∧ fw ≤ 1000) (hm : 1 ≤ mo ∧ mo ≤ 1000) (hb : Box k nd) (hk : k < 2147480000) (q : ∀ n nd', 1 ≤ n → n ≤ max fw mo → Box (k + 2) nd' → Q (iR n, nd')) : Ev (callB F_many [.obj 0, .d (.int fw), .d (.int mo)] nd) Q := by
  rw [ev_callB]
  simp [F_many, h_many]
  refine take_b hb (by omega) (by omega) (by omega) fun r1 nd1 h1 h1' hb1 => ?_
  try simp
  split
  · refine take_b hb1 (by omega) (by omega) (by omega) fun r2 nd2 h2 h2' hb2 => ?_
    try simp
    exact ⟨hb2.isd, q _ _ (by omega) (by omega) (hb2.mono (by omega))⟩
  · refine take_b hb1 (by omega) (by omega) (by omega) fun r2 nd2 h2 h2' hb2 => ?_
    try simp
    exact ⟨hb2.isd, q _ _ (by omega) (by omega) (hb2.mono (by omega))⟩
end NV.LB

namespace NV.LB
open PySem PySem.Spec PyProof.Rows L2 NV
/-! ### founds, room by room -/
section
variable {b : Int}
end
end NV.LB

namespace NV.LB
open PySem PySem.Spec PyProof.Rows L2 NV
/-! ### one shelf each, the oldest goes: one long row -/
section
variable {b : Int}
theorem drop_rel {rm : Rm} {f : Rk} (h : NV.LB.Rel rm f) (b : Int) : NV.LB.Rel (rm.drop b) (fun k => (f k).filter fun e => decide (e.1 ≠ b)) := by
  refine ⟨drop_nod h.nod b, fun e he => h.clk e (mDel_mem.mp he).1, fun k => ?_⟩
  obtain ⟨L, hL, hf⟩ := h.all k
  refine ⟨L.filter fun e => decide (e.1 ≠ b), ⟨fun e => ?_, hL.srt.sublist List.filter_sublist⟩, ?_⟩
  · rw [List.mem_filter, hL.mem]
    show _ ↔ e ∈ mDel rm.mks b ∧ e.1 % rm.sh = k
    rw [mDel_mem]
    simp
    constructor
    · rintro ⟨⟨h1, h2⟩, h3⟩; exact ⟨⟨h1, h3⟩, h2⟩
    · rintro ⟨⟨h1, h3⟩, h2⟩; exact ⟨⟨h1, h2⟩, h3⟩
  · show (f k).filter _ = _
    rw [hf, forg_filter]
/-- a room of one shelf, its boards the latest first -/
structure OR (rm : Rm) (p : Nat) (K : List Int) : Prop where
  sh : rm.sh = 1
  pl : rm.pl = p
  ru : rm.ru = "old"
  rel : ∃ f, NV.LB.Rel rm f ∧ keys (f 0) = K.reverse
theorem mod1 {c : Int} : c % 1 = 0 := Int.emod_one c
theorem OR.has {rm : Rm} {p : Nat} {K : List Int} (h : OR rm p K) : rm.has b = true ↔ b ∈ K := by
  obtain ⟨f, hr, hk⟩ := h.rel
  obtain ⟨L, hL, hf⟩ := hr.all (b % rm.sh)
  rw [has_iff hr.nod hL, ← hf]
  have : b % rm.sh = 0 := by rw [h.sh]; exact mod1
  rw [this]
  show b ∈ keys (f 0) ↔ _
  rw [hk, List.mem_reverse]
theorem OR.use {rm : Rm} {p : Nat} {K : List Int} (h : OR rm p K) (hb : rm.has b = true) : OR (rm.use b) p (b :: K.filter fun c => decide (c ≠ b)) := by
  obtain ⟨f, hr, hk⟩ := h.rel
  obtain ⟨k1, k2, k3⟩ := rm.use_kept b
  refine ⟨by rw [k1, h.sh], by rw [k2, h.pl], by rw [k3, h.ru], _, use_rel hr hb, ?_⟩
  have e : b % rm.sh = 0 := by rw [h.sh]; exact mod1
  rw [e, rkSet_self, use_keys, h.ru, if_pos old_lru, hk, List.filter_reverse, List.reverse_cons]
theorem OR.drop {rm : Rm} {p : Nat} {K : List Int} (h : OR rm p K) (b : Int) : OR (rm.drop b) p (K.filter fun c => decide (c ≠ b)) := by
  obtain ⟨f, hr, hk⟩ := h.rel
  refine ⟨h.sh, h.pl, h.ru, _, drop_rel hr b, ?_⟩
  show keys ((f 0).filter _) = _
  rw [keys_filter, hk, List.filter_reverse]
theorem OR.out {rm : Rm} {p : Nat} {K : List Int} (h : OR rm p K) : rm.out b = if K.length = p then K.getLast? else none := by
  obtain ⟨f, hr, hk⟩ := h.rel
  obtain ⟨L, hL, hf⟩ := hr.all (b % rm.sh)
  rw [out_eq hr.nod hL, ← hf, h.ru, h.pl]
  have e : b % rm.sh = 0 := by rw [h.sh]; exact mod1
  rw [e]
  unfold shOut rkPick
  have hl : (f 0).length = K.length := by have := congrArg List.length hk; simpa using this
  rw [hl, if_neg old_lru.1, ← List.head?_map]
  have hk' : (f 0).map (·.1) = K.reverse := hk
  rw [hk', List.head?_reverse]
  by_cases hp : K.length = p
  · rw [if_pos (by omega), if_pos hp]
  · rw [if_neg (by omega), if_neg hp]
theorem OR.bring {rm : Rm} {p : Nat} {K : List Int} (h : OR rm p K) (hn : K.Nodup) (hb : b ∉ K) : OR (rm.bring b) p (b :: if K.length = p then K.dropLast else K) := by
  have hbf : rm.has b = false := has_false fun x => hb (h.has.mp x)
  have ho := h.out (b := b)
  obtain ⟨f, hr, hk⟩ := h.rel
  refine ⟨h.sh, h.pl, h.ru, _, bring_rel hr hbf, ?_⟩
  have e : b % rm.sh = 0 := by rw [h.sh]; exact mod1
  obtain ⟨L, hL, hf⟩ := hr.all (b % rm.sh)
  have hoe := out_eq hr.nod hL
  rw [← hf, e] at hoe
  rw [e, rkSet_self, bring_keys, List.reverse_cons]
  congr 1
  unfold shLess
  rw [← hoe, ho]
  by_cases hp : K.length = p
  · rw [if_pos hp, if_pos hp]
    cases hg : K.getLast? with
    | none =>
      have : K = [] := by simpa using hg
      subst this
      dsimp only
      rw [hk]; rfl
    | some o =>
      dsimp only
      rw [keys_filter, hk, List.filter_reverse]
      congr 1
      obtain ⟨Z, rfl⟩ : ∃ Z, K = Z ++ [o] := by
        obtain ⟨hne, he⟩ := List.getLast?_eq_some_iff.mp hg
        exact ⟨_, he⟩
      have hoZ : o ∉ Z := fun x => (List.nodup_append.mp hn).2.2 o x o (by simp) rfl
      rw [List.filter_append, fl_self hoZ]
      simp
  · rw [if_neg hp, if_neg hp]
    exact hk
/-- the rooms have these -/
def ORs : List Rm → List Nat → List (List Int) → Prop
  | [], [], [] => True
  | rm :: rs, p :: ps, K :: Ks => OR rm p K ∧ ORs rs ps Ks
  | _, _, _ => False
theorem ORs.len : ∀ {rs : List Rm} {ps : List Nat} {Ks : List (List Int)}, ORs rs ps Ks → rs.length = ps.length
  | [], [], [], _ => rfl
  | _ :: _, _ :: _, _ :: _, h => by simp [ORs.len h.2]
/-! ### where it is found -/
end
end NV.LB

namespace NV.LB
open PySem PySem.Spec PyProof.Rows L2 NV
/-! ### books: pairs with a number ahead -/
section
variable {α β : Type}
def aSet (l : List (Int × α)) (b : Int) (v : α) : List (Int × α) := if l.any (fun p => decide (p.1 = b)) = true then l.map (fun p => if p.1 = b then (b, v) else p) else l ++ [(b, v)]
def aDel (l : List (Int × α)) (b : Int) : List (Int × α) := l.filter fun p => decide (p.1 ≠ b)
abbrev aW (f : α → W) (l : List (Int × α)) : List (Key × W) := l.map fun p => (.inl p.1, f p.2)
theorem aSet_mem {l : List (Int × α)} {b : Int} {v : α} {p : Int × α} (h : p ∈ aSet l b v) : p = (b, v) ∨ (p ∈ l ∧ p.1 ≠ b) := by
  unfold aSet at h
  split at h
  · obtain ⟨q, hq, rfl⟩ := List.mem_map.mp h
    split
    · exact .inl rfl
    · rename_i hb; exact .inr ⟨hq, hb⟩
  · rename_i hn
    rcases List.mem_append.mp h with h | h
    · refine .inr ⟨h, fun e => hn ?_⟩
      exact List.any_eq_true.mpr ⟨p, h, by simpa using e⟩
    · exact .inl (List.mem_singleton.mp h)
theorem aDel_mem {l : List (Int × α)} {b : Int} {p : Int × α} : p ∈ aDel l b ↔ p ∈ l ∧ p.1 ≠ b := by
  unfold aDel
  rw [List.mem_filter]
  simp
theorem look_mem {l : List (Int × α)} {b : Int} {v : α} (h : l.lookup b = some v) : (b, v) ∈ l := by
  obtain ⟨l1, l2, h1, _⟩ := List.lookup_eq_some_iff.mp h
  rw [h1]; simp
theorem lookA_none {l : List (Int × α)} {b : Int} : l.lookup b = none ↔ b ∉ l.map (·.1) := by
  rw [List.lookup_eq_none_iff]
  constructor
  · intro h hm
    obtain ⟨p, hp, rfl⟩ := List.mem_map.mp hm
    have := h p hp
    simp at this
  · intro h p hp
    by_cases e : b = p.1
    · exact absurd (e ▸ List.mem_map_of_mem hp) h
    · simpa using e
theorem look_aSet (l : List (Int × α)) (b c : Int) (v : α) : (aSet l b v).lookup c = if c = b then some v else l.lookup c := by
  unfold aSet
  split
  · rename_i h
    have key : ∀ l : List (Int × α), (l.map fun p => if p.1 = b then (b, v) else p).lookup c = if c = b then (if b ∈ l.map (·.1) then some v else none) else l.lookup c := by
      intro l
      induction l with
      | nil => simp
      | cons p l ih =>
        obtain ⟨k, w⟩ := p
        rw [List.map_cons, List.lookup_cons]
        by_cases hk : k = b
        · subst hk
          rw [if_pos rfl, List.lookup_cons]
          by_cases hc : c = k
          · subst hc; simp
          · have : (c == k) = false := by simpa using hc
            rw [this, if_neg hc]
            dsimp only
            rw [ih, if_neg hc]
        · rw [if_neg hk, List.lookup_cons]
          by_cases hc : c = k
          · subst hc
            rw [if_neg hk]; simp
          · have : (c == k) = false := by simpa using hc
            rw [this]
            dsimp only
            rw [ih]
            by_cases hcb : c = b
            · rw [if_pos hcb, if_pos hcb]
              have : (b ∈ List.map (fun x => x.1) ((k, w) :: l)) ↔ b ∈ List.map (fun x => x.1) l := by
                simp [Ne.symm hk]
              simp only [this]
            · rw [if_neg hcb, if_neg hcb]
    rw [key]
    have hb : b ∈ l.map (·.1) := by
      obtain ⟨q, hq, e⟩ := List.any_eq_true.mp h
      exact List.mem_map.mpr ⟨q, hq, by simpa using e⟩
    rw [if_pos hb]
  · rename_i h
    have hb : l.lookup b = none := by
      rw [lookA_none]
      intro hm
      obtain ⟨q, hq, e⟩ := List.mem_map.mp hm
      exact h (List.any_eq_true.mpr ⟨q, hq, by simpa using e⟩)
    by_cases hc : c = b
    · subst hc
      rw [if_pos rfl, List.lookup_append, hb]; simp
    · rw [if_neg hc, List.lookup_append]
      have : (c == b) = false := by simpa using hc
      cases l.lookup c <;> simp [List.lookup, this]
theorem look_aDel (l : List (Int × α)) (b c : Int) : (aDel l b).lookup c = if c = b then none else l.lookup c := by
  unfold aDel
  induction l with
  | nil => simp
  | cons p l ih =>
    obtain ⟨k, w⟩ := p
    by_cases hk : k = b
    · subst hk
      rw [List.filter_cons_of_neg (by simp), ih, List.lookup_cons]
      by_cases hc : c = k
      · rw [if_pos hc, if_pos hc]
      · have : (c == k) = false := by simpa using hc
        rw [if_neg hc, if_neg hc, this]
    · rw [List.filter_cons_of_pos (by simpa using hk), List.lookup_cons, List.lookup_cons, ih]
      by_cases hc : c = k
      · subst hc
        rw [if_neg hk]
        simp [hk]
      · have : (c == k) = false := by simpa using hc
        rw [this]
theorem aSet_len (l : List (Int × α)) (b : Int) (v : α) : (aSet l b v).length ≤ l.length + 1 := by
  unfold aSet
  split <;> simp
theorem aDel_len (l : List (Int × α)) (b : Int) : (aDel l b).length ≤ l.length := List.length_filter_le _ _
theorem aSet_keys (l : List (Int × α)) (b : Int) (v : α) : (aSet l b v).map (·.1) = if b ∈ l.map (·.1) then l.map (·.1) else l.map (·.1) ++ [b] := by
  unfold aSet
  have e : (l.any fun p => decide (p.1 = b)) = decide (b ∈ l.map (·.1)) := by
    rw [Bool.eq_iff_iff]
    simp
  rw [e]
  by_cases h : b ∈ l.map (·.1)
  · rw [if_pos (by simpa using h), if_pos h, List.map_map]
    refine List.map_congr_left fun p _ => ?_
    show (if p.1 = b then (b, v) else p).1 = p.1
    split
    · rename_i h; exact h.symm
    · rfl
  · rw [if_neg (by simpa using h), if_neg h]
    simp
theorem aSet_nodup {l : List (Int × α)} {b : Int} {v : α} (h : (l.map (·.1)).Nodup) : ((aSet l b v).map (·.1)).Nodup := by
  rw [aSet_keys]
  split
  · exact h
  · rename_i hb
    rw [List.nodup_append]
    refine ⟨h, by simp, ?_⟩
    intro a ha c hc
    simp at hc
    subst hc
    intro e
    subst e
    exact hb ha
theorem aDel_nodup {l : List (Int × α)} {b : Int} (h : (l.map (·.1)).Nodup) : ((aDel l b).map (·.1)).Nodup := (List.filter_sublist.map _).nodup h
theorem mem_look {l : List (Int × α)} (hn : (l.map (·.1)).Nodup) {p : Int × α} (h : p ∈ l) : l.lookup p.1 = some p.2 := by
  induction l with
  | nil => cases h
  | cons a l ih =>
    obtain ⟨k, v⟩ := a
    rw [List.lookup_cons]
    rcases List.mem_cons.mp h with rfl | h
    · simp
    · rw [List.map_cons, List.nodup_cons] at hn
      have : (p.1 == k) = false := by
        simp only [beq_eq_false_iff_ne]
        intro z
        have := List.mem_map_of_mem (f := fun p : Int × α => p.1) h
        rw [z] at this
        exact hn.1 this
      rw [this]
      exact ih hn.2 h
end
/-! ### one stair: what stands in the store -/
abbrev iws (ws : List Int) : List W := ws.map (W.d ∘ D.int)
structure Sm where
  rm : Rm
  late : Bool
  cop : List (Int × (Nat × List Int))
  chg : List (Int × Unit)
def stairN (late : Bool) (r c m : Nat) : Nd := .ins "Stair" [("room", .obj r), ("is_late", .d (.bl late)), ("copies", .obj c), ("marks", .obj m)]
def copN (cop : List (Int × (Nat × List Int))) : Nd := .dct (aW (fun v => .obj v.1) cop)
def mkN (mk : List (Int × Unit)) : Nd := .dct (aW (fun _ => .d (.bl true)) mk)
structure StAt (st : Sto) (s : Nat) (x : Sm) : Prop where
  room : RoomAt st s (s + 1) x.rm
  stair : st[s + 2]? = some (some (stairN x.late s (s + 3) (s + 4)))
  cop : st[s + 3]? = some (some (copN x.cop))
  chg : st[s + 4]? = some (some (mkN x.chg))
  wd : ∀ p ∈ x.cop, st[p.2.1]? = some (some (.lst (iws p.2.2)))
  inj : ∀ p ∈ x.cop, ∀ q ∈ x.cop, p.2.1 = q.2.1 → p.1 = q.1
  far : ∀ p ∈ x.cop, p.2.1 < s ∨ s + 5 ≤ p.2.1
def ownS (s : Nat) (x : Sm) (a : Nat) : Prop := (s ≤ a ∧ a < s + 5) ∨ ∃ p ∈ x.cop, p.2.1 = a
structure FrS (s : Nat) (x x' : Sm) (st st' : Sto) : Prop where
  len : st.length ≤ st'.length
  fr : ∀ a, a < st.length → ¬ ownS s x a → st'[a]? = st[a]?
  nw : ∀ a, ownS s x' a → ownS s x a ∨ st.length ≤ a
section
variable {B : W → Prop} {N : Nd → Prop} {late : Bool} {r c m : Nat} {w : W} {C : List (Key × W) → Prop} {cop : List (Int × (Nat × List Int))} {mk : List (Int × Unit)}
@[simp ↓] theorem stair_room : FldK (stairN late r c m) "Stair" "room" B ↔ B (.obj r) := ⟨(fun ⟨fs, w, h1, h2, q⟩ => by cases h1; cases h2; exact q), fun q => ⟨_, _, rfl, rfl, q⟩⟩
@[simp ↓] theorem stair_late : FldK (stairN late r c m) "Stair" "is_late" B ↔ B (.d (.bl late)) := ⟨(fun ⟨fs, w, h1, h2, q⟩ => by cases h1; cases h2; exact q), fun q => ⟨_, _, rfl, rfl, q⟩⟩
@[simp ↓] theorem stair_cop : FldK (stairN late r c m) "Stair" "copies" B ↔ B (.obj c) := ⟨(fun ⟨fs, w, h1, h2, q⟩ => by cases h1; cases h2; exact q), fun q => ⟨_, _, rfl, rfl, q⟩⟩
@[simp ↓] theorem stair_mk : FldK (stairN late r c m) "Stair" "marks" B ↔ B (.obj m) := ⟨(fun ⟨fs, w, h1, h2, q⟩ => by cases h1; cases h2; exact q), fun q => ⟨_, _, rfl, rfl, q⟩⟩
@[simp] theorem sm_holds : MethK (stairN late r c m) "Stair" "holds" := ⟨_, rfl, rfl⟩
@[simp] theorem sm_take : MethK (stairN late r c m) "Stair" "take" := ⟨_, rfl, rfl⟩
@[simp] theorem sm_leave : MethK (stairN late r c m) "Stair" "leave" := ⟨_, rfl, rfl⟩
@[simp] theorem sm_renew : MethK (stairN late r c m) "Stair" "renew" := ⟨_, rfl, rfl⟩
@[simp] theorem sm_setw : MethK (stairN late r c m) "Stair" "set_word" := ⟨_, rfl, rfl⟩
@[simp ↓] theorem cop_d : DctK (copN cop) C ↔ C (aW (fun v => .obj v.1) cop) := dctk
@[simp ↓] theorem mkn_d : DctK (mkN mk) C ↔ C (aW (fun _ => .d (.bl true)) mk) := dctk
@[simp ↓] theorem cop_view {n : Nat} {Q : Vu → Prop} : NdvK (copN cop) n Q ↔ Q (.dct (aW (fun v => .obj v.1) cop)) := Iff.rfl
@[simp ↓] theorem mkn_view {n : Nat} {Q : Vu → Prop} : NdvK (mkN mk) n Q ↔ Q (.dct (aW (fun _ => .d (.bl true)) mk)) := Iff.rfl
end
namespace Sm
def take (x : Sm) (a : Nat) (b : Int) (ws : List Int) (m : Bool) : Sm := { x with cop := aSet x.cop b (a, ws), chg := if m = true then aSet x.chg b () else x.chg }
def leave (x : Sm) (b : Int) : Sm := { x with rm := if x.rm.has b = true then x.rm.drop b else x.rm, cop := aDel x.cop b, chg := aDel x.chg b }
def holds (x : Sm) (b : Int) : Bool := (x.cop.lookup b).isSome
def words (x : Sm) (b : Int) : List Int := ((x.cop.lookup b).map (·.2)).getD []
def marked (x : Sm) (b : Int) : Bool := (x.chg.lookup b).isSome
end Sm
section
variable {st : Sto} {s : Nat} {x : Sm} {b : Int} {Q : R × Sto → Prop}
theorem lt_of {α : Type} {l : List α} {i : Nat} {a : α} (h : l[i]? = some a) : i < l.length := (List.getElem?_eq_some_iff.mp h).1
end
end NV.LB

namespace NV.LB
open PySem PySem.Spec PyProof.Rows L2 NV
section
variable {st st' : Sto} {s : Nat} {x : Sm} {b : Int} {ws : List Int} {m : Bool} {Q : R × Sto → Prop}
theorem StAt.old (h : StAt st s x) : s + 5 ≤ st.length := lt_of h.chg
theorem StAt.alt (h : StAt st s x) {p : Int × (Nat × List Int)} (hp : p ∈ x.cop) : p.2.1 < st.length := lt_of (h.wd p hp)
theorem get_set {st : Sto} {i j : Nat} {o v : Option Nd} (h : st[i]? = some o) (ne : j ≠ i) : (st.set j v)[i]? = some o := by
  rw [List.getElem?_set_ne ne]; exact h
theorem FrS.refl (s : Nat) (x : Sm) (st : Sto) : FrS s x x st st := ⟨Nat.le_refl _, fun _ _ _ => rfl, fun _ h => .inl h⟩
theorem FrS.trans {s : Nat} {x x1 x2 : Sm} {st st1 st2 : Sto} (h1 : FrS s x x1 st st1) (h2 : FrS s x1 x2 st1 st2) : FrS s x x2 st st2 := by
  refine ⟨Nat.le_trans h1.len h2.len, fun a ha hn => ?_, fun a ha => ?_⟩
  · rw [h2.fr a (Nat.lt_of_lt_of_le ha h1.len) (fun ho => ?_), h1.fr a ha hn]
    rcases h1.nw a ho with h | h
    · exact hn h
    · omega
  · rcases h2.nw a ha with h | h
    · exact h1.nw a h
    · exact .inr (Nat.le_trans h1.len h)
theorem StAt.mark (h : StAt st s x) (l : List (Int × Unit)) : StAt (st.set (s + 4) (some (mkN l))) s { x with chg := l } ∧ FrS s x { x with chg := l } st (st.set (s + 4) (some (mkN l))) := by
  have ho := h.old
  refine ⟨⟨⟨get_set h.room.room (by omega), get_set h.room.marks (by omega), h.room.ne⟩, get_set h.stair (by omega), get_set h.cop (by omega), ?_, fun p hp => ?_, h.inj, h.far⟩, ⟨by simp, fun a ha hn => ?_, fun a ha => .inl ha⟩⟩
  · rw [List.getElem?_set_self (by omega)]
  · have := h.far p hp
    exact get_set (h.wd p hp) (by omega)
  · have : s + 4 ≠ a := fun e => hn (.inl ⟨by omega, by omega⟩)
    rw [List.getElem?_set_ne this]
theorem StAt.frame (h : StAt st s x) (e : ∀ c, ownS s x c → st'[c]? = st[c]?) : StAt st' s x := by
  have k : ∀ c, s ≤ c → c < s + 5 → st'[c]? = st[c]? := fun c h1 h2 => e c (.inl ⟨h1, h2⟩)
  refine ⟨⟨?_, ?_, h.room.ne⟩, ?_, ?_, ?_, fun p hp => ?_, h.inj, h.far⟩
  · rw [k _ (by omega) (by omega)]; exact h.room.room
  · rw [k _ (by omega) (by omega)]; exact h.room.marks
  · rw [k _ (by omega) (by omega)]; exact h.stair
  · rw [k _ (by omega) (by omega)]; exact h.cop
  · rw [k _ (by omega) (by omega)]; exact h.chg
  · rw [e _ (.inr ⟨p, hp, rfl⟩)]; exact h.wd p hp
/-- a board out of the book -/
theorem StAt.less (h : StAt st s x) (b : Int) : StAt (st.set (s + 3) (some (copN (aDel x.cop b)))) s { x with cop := aDel x.cop b } ∧ FrS s x { x with cop := aDel x.cop b } st (st.set (s + 3) (some (copN (aDel x.cop b)))) := by
  have ho := h.old
  refine ⟨⟨⟨get_set h.room.room (by omega), get_set h.room.marks (by omega), h.room.ne⟩, get_set h.stair (by omega), ?_, get_set h.chg (by omega), fun p hp => ?_, fun p hp q hq e => h.inj p (aDel_mem.mp hp).1 q (aDel_mem.mp hq).1 e, fun p hp => h.far p (aDel_mem.mp hp).1⟩, ⟨by simp, fun c hc hn => ?_, ?_⟩⟩
  · rw [List.getElem?_set_self (by omega)]
  · obtain ⟨h1, h2⟩ := aDel_mem.mp hp
    have := h.far p h1
    exact get_set (h.wd p h1) (by omega)
  · have e1 : s + 3 ≠ c := fun e => hn (.inl ⟨by omega, by omega⟩)
    rw [List.getElem?_set_ne e1]
  · rintro c (hc | ⟨p, hp, rfl⟩)
    · exact .inl (.inl hc)
    · exact .inl (.inr ⟨p, (aDel_mem.mp hp).1, rfl⟩)
/-- a board's words otherwise, in place -/
theorem StAt.word (h : StAt st s x) {a : Nat} (hl : x.cop.lookup b = some (a, ws)) (hk : (x.cop.map (·.1)).Nodup) (ws' : List Int) : StAt (st.set a (some (Nd.lst (iws ws')))) s { x with cop := aSet x.cop b (a, ws') } ∧ FrS s x { x with cop := aSet x.cop b (a, ws') } st (st.set a (some (Nd.lst (iws ws')))) := by
  have ho := h.old
  have hm := look_mem hl
  have hf := h.far _ hm
  have hal := h.alt hm
  dsimp only at hf hal
  refine ⟨⟨⟨get_set h.room.room (by omega), get_set h.room.marks (by omega), h.room.ne⟩, get_set h.stair (by omega), ?_, get_set h.chg (by omega), fun p hp => ?_, fun p hp q hq e => ?_, fun p hp => ?_⟩, ⟨by simp, fun c hc hn => ?_, ?_⟩⟩
  · have e : copN (aSet x.cop b (a, ws')) = copN x.cop := by
      unfold copN aSet
      rw [if_pos (List.any_eq_true.mpr ⟨_, hm, by simp⟩)]
      unfold aW
      rw [List.map_map]
      congr 1
      refine List.map_congr_left fun p hp => ?_
      show (fun p : Int × (Nat × List Int) => ((Sum.inl p.1 : Key), W.obj p.2.1)) (if p.1 = b then (b, (a, ws')) else p) = (Sum.inl p.1, W.obj p.2.1)
      split
      · rename_i e
        have : x.cop.lookup p.1 = some p.2 := mem_look hk hp
        rw [e, hl] at this
        cases p with
        | mk k v => cases this; dsimp only at e; subst e; rfl
      · rfl
    show (st.set a _)[s + 3]? = some (some (copN (aSet x.cop b (a, ws'))))
    rw [e]
    exact get_set h.cop (by omega)
  · rcases aSet_mem hp with rfl | ⟨hp, h2⟩
    · show (st.set a _)[a]? = _
      rw [List.getElem?_set_self hal]
    · exact get_set (h.wd p hp) (fun e => h2 (h.inj p hp _ hm e.symm))
  · rcases aSet_mem hp with rfl | ⟨hp, h2⟩
    · rcases aSet_mem hq with rfl | ⟨hq, h3⟩
      · rfl
      · exact absurd (h.inj _ hm q hq e).symm h3
    · rcases aSet_mem hq with rfl | ⟨hq, h3⟩
      · exact absurd (h.inj p hp _ hm e) h2
      · exact h.inj p hp q hq e
  · rcases aSet_mem hp with rfl | ⟨hp, h2⟩
    · exact hf
    · exact h.far p hp
  · have e2 : a ≠ c := fun e => hn (.inr ⟨_, hm, e⟩)
    rw [List.getElem?_set_ne e2]
  · rintro c (hc | ⟨p, hp, rfl⟩)
    · exact .inl (.inl hc)
    · rcases aSet_mem hp with rfl | ⟨hp, h2⟩
      · exact .inl (.inr ⟨_, hm, rfl⟩)
      · exact .inl (.inr ⟨p, hp, rfl⟩)
/-! ### the methods of a stair -/
end
end NV.LB

namespace NV.LB
open PySem PySem.Spec PyProof.Rows L2 NV
/-! ### stairs as they are told, without places in the store -/
structure SP where
  rm : Rm
  late : Bool
  cop : List (Int × List Int)
  chg : List (Int × Unit)
structure FP where
  kind : Str
  size : Int
  sts : List SP
  num : List (Int × Int)
namespace SP
def holds (x : SP) (b : Int) : Bool := (x.cop.lookup b).isSome
def words (x : SP) (b : Int) : List Int := (x.cop.lookup b).getD []
def marked (x : SP) (b : Int) : Bool := (x.chg.lookup b).isSome
def take (x : SP) (b : Int) (ws : List Int) (m : Bool) : SP := { x with cop := aSet x.cop b ws, chg := if m = true then aSet x.chg b () else x.chg }
def leave (x : SP) (b : Int) : SP := { x with rm := if x.rm.has b = true then x.rm.drop b else x.rm, cop := aDel x.cop b, chg := aDel x.chg b }
def setw (x : SP) (b : Int) (i : Nat) (n : Int) : SP := { x with cop := aSet x.cop b ((x.words b).set i n) }
def mark (x : SP) (b : Int) : SP := { x with chg := aSet x.chg b () }
end SP
def Sm.era (x : Sm) : SP := ⟨x.rm, x.late, x.cop.map fun p => (p.1, p.2.2), x.chg⟩
section
variable {x : Sm} {b : Int} {ws : List Int} {m : Bool} {a : Nat}
end
/-! ### where they stand -/
def flightN (kind : Str) (l s : Nat) : Nd := .ins "Flight" [("kind", .d (.str kind)), ("stairs", .obj l), ("store", .obj s)]
def storeN (size : Int) (n : Nat) : Nd := .ins "Store" [("size", .d (.int size)), ("numbers", .obj n)]
def numN (num : List (Int × Int)) : Nd := .dct (aW (fun i => .d (.int i)) num)
def stW (B i : Nat) : W := .obj (B + 5 * i + 2)
structure Fm where
  kind : Str
  size : Int
  sts : List Sm
  num : List (Int × Int)
structure FlAt (st : Sto) (B : Nat) (f : Fm) : Prop where
  sts : ∀ (i : Nat) (x : Sm), f.sts[i]? = some x → StAt st (B + 5 * i) x
  list : st[B + 5 * f.sts.length]? = some (some (.lst ((List.range f.sts.length).map (stW B))))
  fl : st[B + 5 * f.sts.length + 1]? = some (some (flightN f.kind (B + 5 * f.sts.length) (B + 5 * f.sts.length + 2)))
  store : st[B + 5 * f.sts.length + 2]? = some (some (storeN f.size (B + 5 * f.sts.length + 3)))
  num : st[B + 5 * f.sts.length + 3]? = some (some (numN f.num))
  dis : ∀ (i j : Nat) (x y : Sm), i ≠ j → f.sts[i]? = some x → f.sts[j]? = some y → ∀ p ∈ x.cop, ∀ q ∈ y.cop, p.2.1 ≠ q.2.1
  out : ∀ (i : Nat) (x : Sm), f.sts[i]? = some x → ∀ p ∈ x.cop, B + 5 * f.sts.length + 4 ≤ p.2.1
def ownF (B : Nat) (f : Fm) (a : Nat) : Prop := (B ≤ a ∧ a < B + 5 * f.sts.length + 4) ∨ ∃ (i : Nat) (x : Sm), f.sts[i]? = some x ∧ ∃ p ∈ x.cop, p.2.1 = a
structure FrF (A A' : Nat → Prop) (st st' : Sto) : Prop where
  len : st.length ≤ st'.length
  fr : ∀ a, a < st.length → ¬ A a → st'[a]? = st[a]?
  nw : ∀ a, A' a → A a ∨ st.length ≤ a
theorem FrF.refl (A : Nat → Prop) (st : Sto) : FrF A A st st := ⟨Nat.le_refl _, fun _ _ _ => rfl, fun _ h => .inl h⟩
theorem FrF.trans {A A1 A2 : Nat → Prop} {st st1 st2 : Sto} (h1 : FrF A A1 st st1) (h2 : FrF A1 A2 st1 st2) : FrF A A2 st st2 := by
  refine ⟨Nat.le_trans h1.len h2.len, fun a ha hn => ?_, fun a ha => ?_⟩
  · rw [h2.fr a (Nat.lt_of_lt_of_le ha h1.len) (fun ho => ?_), h1.fr a ha hn]
    rcases h1.nw a ho with h | h
    · exact hn h
    · omega
  · rcases h2.nw a ha with h | h
    · exact h1.nw a h
    · exact .inr (Nat.le_trans h1.len h)
section
variable {st st' : Sto} {B e i : Nat} {f : Fm} {x x' : Sm}
theorem FlAt.old (h : FlAt st B f) : B + 5 * f.sts.length + 4 ≤ st.length := lt_of h.num
theorem FlAt.own_lt (h : FlAt st B f) {a : Nat} (ha : ownF B f a) : a < st.length := by
  rcases ha with ha | ⟨i, x, hx, p, hp, rfl⟩
  · have := h.old; omega
  · exact (h.sts i x hx).alt hp
theorem own_in (hx : f.sts[i]? = some x) {a : Nat} (ha : ownS (B + 5 * i) x a) : ownF B f a := by
  have := lt_of hx
  rcases ha with ha | ⟨p, hp, rfl⟩
  · exact .inl ⟨by omega, by omega⟩
  · exact .inr ⟨i, x, hx, p, hp, rfl⟩
/-- one stair otherwise -/
theorem FlAt.step (h : FlAt st B f) (hx : f.sts[i]? = some x) (h1 : StAt st' (B + 5 * i) x') (f1 : FrS (B + 5 * i) x x' st st') :
    FlAt st' B { f with sts := f.sts.set i x' } ∧ FrF (ownF B f) (ownF B { f with sts := f.sts.set i x' }) st st' := by
  have hi := lt_of hx
  have ho := h.old
  -- what is elsewhere stays
  have far : ∀ a, a < st.length → ¬ ownS (B + 5 * i) x a → st'[a]? = st[a]? := f1.fr
  have tail : ∀ a, B + 5 * f.sts.length ≤ a → a < B + 5 * f.sts.length + 4 → st'[a]? = st[a]? := fun a h1 h2 => far a (by omega) (by
    rintro (h3 | ⟨p, hp, rfl⟩)
    · omega
    · have := h.out i x hx p hp; omega)
  have get : ∀ j y, (f.sts.set i x')[j]? = some y → (j = i ∧ y = x') ∨ (j ≠ i ∧ f.sts[j]? = some y) := fun j y hy => by
    by_cases e : i = j
    · subst e
      rw [List.getElem?_set_self hi] at hy
      cases hy
      exact .inl ⟨rfl, rfl⟩
    · rw [List.getElem?_set_ne e] at hy
      exact .inr ⟨Ne.symm e, hy⟩
  have adr : ∀ p ∈ x'.cop, ownS (B + 5 * i) x p.2.1 ∨ st.length ≤ p.2.1 := fun p hp => f1.nw _ (.inr ⟨p, hp, rfl⟩)
  have adr2 : ∀ p ∈ x'.cop, (∃ q ∈ x.cop, q.2.1 = p.2.1) ∨ st.length ≤ p.2.1 := fun p hp => by
    rcases adr p hp with (h2 | h2) | h2
    · have := h1.far p hp; omega
    · exact .inl h2
    · exact .inr h2
  refine ⟨⟨fun j y hy => ?_, ?_, ?_, ?_, ?_, fun j k y z hjk hy hz p hp q hq => ?_, fun j y hy p hp => ?_⟩, ⟨f1.len, fun a ha hn => far a ha fun h2 => hn (own_in hx h2), fun a ha => ?_⟩⟩
  · dsimp only at hy
    rcases get j y hy with ⟨rfl, rfl⟩ | ⟨hj, hy⟩
    · exact h1
    · refine (h.sts j y hy).frame fun c hc => far c ((h.own_lt (own_in hy hc))) ?_
      have hjl := lt_of hy
      rintro (h2 | ⟨p, hp, rfl⟩)
      · rcases hc with hc | ⟨q, hq, rfl⟩
        · omega
        · have := h.out j y hy q hq; omega
      · rcases hc with hc | ⟨q, hq, e⟩
        · have := h.out i x hx p hp; omega
        · exact h.dis j i y x hj hy hx q hq p hp e
  · dsimp only
    rw [List.length_set, tail _ (by omega) (by omega)]; exact h.list
  · dsimp only
    rw [List.length_set, tail _ (by omega) (by omega)]; exact h.fl
  · dsimp only
    rw [List.length_set, tail _ (by omega) (by omega)]; exact h.store
  · dsimp only
    rw [List.length_set, tail _ (by omega) (by omega)]; exact h.num
  · dsimp only at hy hz
    rcases get j y hy with ⟨e1, e2⟩ | ⟨hj, hy'⟩
    · rcases get k z hz with ⟨e3, e4⟩ | ⟨hk, hz'⟩
      · omega
      · rw [e2] at hp
        rcases adr2 p hp with ⟨p', hp', e⟩ | h2
        · rw [← e]; exact h.dis _ _ _ _ (fun z => hk z.symm) hx hz' p' hp' q hq
        · have := (h.sts k z hz').alt hq
          omega
    · rcases get k z hz with ⟨e3, e4⟩ | ⟨hk, hz'⟩
      · rw [e4] at hq
        rcases adr2 q hq with ⟨q', hq', e⟩ | h2
        · rw [← e]; exact h.dis _ _ _ _ hj hy' hx p hp q' hq'
        · have := (h.sts j y hy').alt hp
          omega
      · exact h.dis _ _ _ _ hjk hy' hz' p hp q hq
  · dsimp only at hy ⊢
    rw [List.length_set]
    rcases get j y hy with ⟨rfl, rfl⟩ | ⟨hj, hy⟩
    · rcases adr2 p hp with ⟨p', hp', e⟩ | h2
      · rw [← e]; exact h.out _ _ hx p' hp'
      · omega
    · exact h.out _ _ hy p hp
  · rcases ha with ha | ⟨j, y, hy, p, hp, rfl⟩
    · dsimp only at ha
      rw [List.length_set] at ha
      exact .inl (.inl ha)
    · dsimp only at hy
      rcases get j y hy with ⟨rfl, rfl⟩ | ⟨hj, hy⟩
      · rcases adr p hp with h2 | h2
        · exact .inl (own_in hx h2)
        · exact .inr h2
      · exact .inl (.inr ⟨j, y, hy, p, hp, rfl⟩)
theorem FlAt.frame (h : FlAt st B f) (e : ∀ a, ownF B f a → st'[a]? = st[a]?) : FlAt st' B f := by
  have k : ∀ c, B ≤ c → c < B + 5 * f.sts.length + 4 → st'[c]? = st[c]? := fun c h1 h2 => e c (.inl ⟨h1, h2⟩)
  refine ⟨fun i x hx => (h.sts i x hx).frame fun c hc => e c (own_in hx hc), ?_, ?_, ?_, ?_, h.dis, h.out⟩
  · rw [k _ (by omega) (by omega)]; exact h.list
  · rw [k _ (by omega) (by omega)]; exact h.fl
  · rw [k _ (by omega) (by omega)]; exact h.store
  · rw [k _ (by omega) (by omega)]; exact h.num
end
/-! ### stairs, and a list of events beside them -/
def Fm.era (f : Fm) : FP := ⟨f.kind, f.size, f.sts.map Sm.era, f.num⟩
structure Fl (st : Sto) (B : Nat) (A : Nat → Prop) (g : FP) : Prop where
  ex : ∃ f : Fm, FlAt st B f ∧ A = ownF B f ∧ f.era = g
structure Fre (e : Nat) (A A' : Nat → Prop) (st st' : Sto) : Prop where
  len : st.length ≤ st'.length
  fr : ∀ a, a < st.length → ¬ A a → a ≠ e → st'[a]? = st[a]?
  nw : ∀ a, A' a → A a ∨ st.length ≤ a
structure FE (st : Sto) (B : Nat) (A : Nat → Prop) (e : Nat) (g : FP) (l : List D) : Prop where
  fl : Fl st B A g
  ne : ¬ A e
  ev : st[e]? = some (some (.lst (l.map W.d)))
theorem Fre.refl (e : Nat) (A : Nat → Prop) (st : Sto) : Fre e A A st st := ⟨Nat.le_refl _, fun _ _ _ _ => rfl, fun _ h => .inl h⟩
theorem FrF.e {A A' : Nat → Prop} {st st' : Sto} (h : FrF A A' st st') (e : Nat) : Fre e A A' st st' := ⟨h.len, fun a ha hn _ => h.fr a ha hn, h.nw⟩
theorem Fre.trans {e : Nat} {A A1 A2 : Nat → Prop} {st st1 st2 : Sto} (h1 : Fre e A A1 st st1) (h2 : Fre e A1 A2 st1 st2) : Fre e A A2 st st2 := by
  refine ⟨Nat.le_trans h1.len h2.len, fun a ha hn he => ?_, fun a ha => ?_⟩
  · rw [h2.fr a (Nat.lt_of_lt_of_le ha h1.len) (fun ho => ?_) he, h1.fr a ha hn he]
    rcases h1.nw a ho with h | h
    · exact hn h
    · omega
  · rcases h2.nw a ha with h | h
    · exact h1.nw a h
    · exact .inr (Nat.le_trans h1.len h)
section
variable {st st' : Sto} {B e i : Nat} {A : Nat → Prop} {g : FP} {y : SP} {l : List D}
theorem Fl.stair (h : Fl st B A g) (hy : g.sts[i]? = some y) : ∃ x : Sm, x.era = y ∧ StAt st (B + 5 * i) x ∧
    ∀ st' x', StAt st' (B + 5 * i) x' → FrS (B + 5 * i) x x' st st' → ∃ A', Fl st' B A' { g with sts := g.sts.set i x'.era } ∧ FrF A A' st st' := by
  obtain ⟨f, h1, rfl, rfl⟩ := h.ex
  unfold Fm.era at hy
  dsimp only at hy
  rw [List.getElem?_map] at hy
  obtain ⟨x, hx, rfl⟩ := Option.map_eq_some_iff.mp hy
  refine ⟨x, rfl, h1.sts i x hx, fun st' x' h2 f2 => ?_⟩
  obtain ⟨h3, f3⟩ := h1.step hx h2 f2
  refine ⟨_, ⟨_, h3, rfl, ?_⟩, f3⟩
  unfold Fm.era
  dsimp only
  rw [List.map_set]
theorem Fl.list (h : Fl st B A g) : st[B + 5 * g.sts.length]? = some (some (.lst ((List.range g.sts.length).map (stW B)))) := by
  obtain ⟨f, h1, rfl, rfl⟩ := h.ex
  have := h1.list
  simpa [Fm.era] using this
theorem Fl.flight (h : Fl st B A g) : st[B + 5 * g.sts.length + 1]? = some (some (flightN g.kind (B + 5 * g.sts.length) (B + 5 * g.sts.length + 2))) := by
  obtain ⟨f, h1, rfl, rfl⟩ := h.ex
  have := h1.fl
  simpa [Fm.era] using this
theorem Fl.store (h : Fl st B A g) : st[B + 5 * g.sts.length + 2]? = some (some (storeN g.size (B + 5 * g.sts.length + 3))) := by
  obtain ⟨f, h1, rfl, rfl⟩ := h.ex
  have := h1.store
  simpa [Fm.era] using this
theorem Fl.num (h : Fl st B A g) : st[B + 5 * g.sts.length + 3]? = some (some (numN g.num)) := by
  obtain ⟨f, h1, rfl, rfl⟩ := h.ex
  have := h1.num
  simpa [Fm.era] using this
theorem Fl.frame (h : Fl st B A g) (e : ∀ a, A a → st'[a]? = st[a]?) : Fl st' B A g := by
  obtain ⟨f, h1, rfl, rfl⟩ := h.ex
  exact ⟨f, h1.frame e, rfl, rfl⟩
theorem Fl.lt (h : Fl st B A g) {a : Nat} (ha : A a) : a < st.length := by
  obtain ⟨f, h1, rfl, rfl⟩ := h.ex
  exact h1.own_lt ha
theorem Fl.ge (h : Fl st B A g) {a : Nat} (ha : A a) : B ≤ a := by
  obtain ⟨f, h1, rfl, rfl⟩ := h.ex
  rcases ha with ha | ⟨i, x, hx, p, hp, rfl⟩
  · exact ha.1
  · have := h1.out i x hx p hp; omega
theorem Fl.blk (h : Fl st B A g) {a : Nat} (h1 : B ≤ a) (h2 : a < B + 5 * g.sts.length + 4) : A a := by
  obtain ⟨f, _, rfl, rfl⟩ := h.ex
  exact .inl ⟨h1, by simpa [Fm.era] using h2⟩
theorem Fl.old (h : Fl st B A g) : B + 5 * g.sts.length + 4 ≤ st.length := lt_of h.num
/-- the events stay while the stairs change -/
theorem FE.keep {A' : Nat → Prop} {g' : FP} (h : FE st B A e g l) (h1 : Fl st' B A' g') (f1 : FrF A A' st st') : FE st' B A' e g' l ∧ Fre e A A' st st' := by
  have he := lt_of h.ev
  have : ¬ A' e := fun z => by
    rcases f1.nw e z with z | z
    · exact h.ne z
    · omega
  exact ⟨⟨h1, this, by rw [f1.fr e he h.ne]; exact h.ev⟩, f1.e e⟩
/-- more events -/
theorem FE.more (h : FE st B A e g l) (l' : List D) : FE (st.set e (some (.lst (l'.map W.d)))) B A e g l' ∧ Fre e A A st (st.set e (some (.lst (l'.map W.d)))) := by
  have he := lt_of h.ev
  refine ⟨⟨h.fl.frame fun a ha => List.getElem?_set_ne fun z => h.ne (by rw [z]; exact ha), h.ne, by rw [List.getElem?_set_self he]⟩, ⟨by simp, fun a _ _ hn => List.getElem?_set_ne (Ne.symm hn), fun a ha => .inl ha⟩⟩
end
end NV.LB

namespace NV.LB
open PySem PySem.Spec PyProof.Rows L2 NV
/-! ### the memory -/
def putB (size b : Int) (ws : List Int) (num : List (Int × Int)) : List (Int × Int) := ((rng (b * size) size.toNat).zip ws).foldl (fun n p => aSet n p.1 p.2) num
def FP.bw (g : FP) (b : Int) : List Int := (rng (b * g.size) g.size.toNat).map fun s => (g.num.lookup s).getD 0
section
variable {C : List (Key × W) → Prop} {N : Nd → Prop} {B : W → Prop} {num : List (Int × Int)} {size : Int} {n l s : Nat} {kind : Str}
@[simp ↓] theorem store_size : FldK (storeN size n) "Store" "size" B ↔ B (.d (.int size)) := ⟨(fun ⟨fs, w, h1, h2, q⟩ => by cases h1; cases h2; exact q), fun q => ⟨_, _, rfl, rfl, q⟩⟩
@[simp ↓] theorem store_num : FldK (storeN size n) "Store" "numbers" B ↔ B (.obj n) := ⟨(fun ⟨fs, w, h1, h2, q⟩ => by cases h1; cases h2; exact q), fun q => ⟨_, _, rfl, rfl, q⟩⟩
@[simp ↓] theorem flight_kind : FldK (flightN kind l s) "Flight" "kind" B ↔ B (.d (.str kind)) := ⟨(fun ⟨fs, w, h1, h2, q⟩ => by cases h1; cases h2; exact q), fun q => ⟨_, _, rfl, rfl, q⟩⟩
@[simp ↓] theorem flight_stairs : FldK (flightN kind l s) "Flight" "stairs" B ↔ B (.obj l) := ⟨(fun ⟨fs, w, h1, h2, q⟩ => by cases h1; cases h2; exact q), fun q => ⟨_, _, rfl, rfl, q⟩⟩
@[simp ↓] theorem flight_store : FldK (flightN kind l s) "Flight" "store" B ↔ B (.obj s) := ⟨(fun ⟨fs, w, h1, h2, q⟩ => by cases h1; cases h2; exact q), fun q => ⟨_, _, rfl, rfl, q⟩⟩
@[simp] theorem so_put : MethK (storeN size n) "Store" "put_board" := ⟨_, rfl, rfl⟩
@[simp] theorem so_bw : MethK (storeN size n) "Store" "board_words" := ⟨_, rfl, rfl⟩
@[simp] theorem so_pairs : MethK (storeN size n) "Store" "pairs" := ⟨_, rfl, rfl⟩
@[simp] theorem so_place : MethK (storeN size n) "Store" "place_of" := ⟨_, rfl, rfl⟩
@[simp] theorem fl_nearest : MethK (flightN kind l s) "Flight" "nearest" := ⟨_, rfl, rfl⟩
@[simp] theorem fl_fetched : MethK (flightN kind l s) "Flight" "fetched" := ⟨_, rfl, rfl⟩
@[simp] theorem fl_read : MethK (flightN kind l s) "Flight" "read" := ⟨_, rfl, rfl⟩
@[simp] theorem fl_write : MethK (flightN kind l s) "Flight" "write" := ⟨_, rfl, rfl⟩
@[simp] theorem fl_emptied : MethK (flightN kind l s) "Flight" "emptied" := ⟨_, rfl, rfl⟩
@[simp] theorem fl_stair_of : MethK (flightN kind l s) "Flight" "stair_of" := ⟨_, rfl, rfl⟩
@[simp] theorem fl_lies : MethK (flightN kind l s) "Flight" "lies" := ⟨_, rfl, rfl⟩
@[simp] theorem fl_changed : MethK (flightN kind l s) "Flight" "changed" := ⟨_, rfl, rfl⟩
@[simp] theorem fl_order : MethK (flightN kind l s) "Flight" "order" := ⟨_, rfl, rfl⟩
@[simp] theorem fl_words : MethK (flightN kind l s) "Flight" "words" := ⟨_, rfl, rfl⟩
@[simp] theorem fl_memory : MethK (flightN kind l s) "Flight" "memory" := ⟨_, rfl, rfl⟩
@[simp ↓] theorem num_d : DctK (numN num) C ↔ C (aW (fun i => .d (.int i)) num) := dctk
@[simp ↓] theorem num_view {k : Nat} {Q : Vu → Prop} : NdvK (numN num) k Q ↔ Q (.dct (aW (fun i => .d (.int i)) num)) := Iff.rfl
end
section
variable {st : Sto} {B e : Nat} {A : Nat → Prop} {g : FP} {l : List D} {b : Int} {ws : List Int} {Q : R × Sto → Prop}
abbrev evW (k : Nat) (b : Int) : D := .tup [.str "words", .int k, .int b]
abbrev evO (k : Nat) (b : Int) : D := .tup [.str "out", .int k, .int b]
abbrev evI (k : Nat) (b : Int) : D := .tup [.str "in", .int k, .int b]
def FP.putD (g : FP) (b : Int) (ws : List Int) (m : Bool) : FP := if m = true then { g with num := putB g.size b ws g.num } else g
theorem FE.put (h : FE st B A e g l) {d : D} {P : Sto → Prop} (q : ∀ st', FE st' B A e g (l ++ [d]) → Fre e A A st st' → P st') : SetK st e (some (.lst (l.map W.d ++ [.d d]))) P := by
  unfold SetK
  have := h.more (l ++ [d])
  rw [List.map_append] at this
  exact q _ this.1 this.2
end
end NV.LB

namespace NV.LB
open PySem PySem.Spec PyProof.Rows L2 NV
def FP.near (g : FP) (b : Int) : Nat := g.sts.findIdx fun x => x.holds b
/-- words go on -/
def wOn (b : Int) (ws : List Int) : Nat → List SP → List SP × List D × Bool
  | _, [] => ([], [], true)
  | k, x :: xs => if x.holds b = true then (if x.late = true then (x.take b ws true :: xs, [evW k b], false) else
      (x.take b ws false :: (wOn b ws (k + 1) xs).1, evW k b :: (wOn b ws (k + 1) xs).2.1, (wOn b ws (k + 1) xs).2.2)) else (x :: (wOn b ws (k + 1) xs).1, (wOn b ws (k + 1) xs).2.1, (wOn b ws (k + 1) xs).2.2)
def FP.wordsOn (g : FP) (k : Nat) (b : Int) (ws : List Int) : FP :=
  { g with sts := g.sts.take k ++ (wOn b ws k (g.sts.drop k)).1, num := if (wOn b ws k (g.sts.drop k)).2.2 = true then putB g.size b ws g.num else g.num }
theorem wOn_len (b : Int) (ws : List Int) : ∀ (k : Nat) (xs : List SP), (wOn b ws k xs).1.length = xs.length
  | _, [] => rfl
  | k, x :: xs => by
    unfold wOn
    split
    · split
      · rfl
      · simp [wOn_len b ws (k + 1) xs]
    · simp [wOn_len b ws (k + 1) xs]
/-- bounds -/
structure OkS (N : Nat) (x : SP) : Prop where
  good : Good N x.rm
  cop : x.cop.length ≤ N
  chg : x.chg.length ≤ N
  brd : ∀ p ∈ x.rm.mks, 0 ≤ p.1 ∧ p.1 < 1073741824
structure Bd (N : Nat) (g : FP) : Prop where
  sts : ∀ x ∈ g.sts, OkS N x
  num : g.num.length ≤ N
  len : g.sts.length ≤ 4
  size : 1 ≤ g.size ∧ g.size ≤ 16
section
variable {st : Sto} {B e : Nat} {A : Nat → Prop} {g : FP} {l : List D} {b : Int} {ws : List Int} {Q : R × Sto → Prop}
end
end NV.LB

namespace NV.LB
open PySem PySem.Spec PyProof.Rows L2 NV
/-! ### bounds stay -/
theorem OkS.up {N M : Nat} {x : SP} (h : OkS N x) (l : N ≤ M) : OkS M x := ⟨h.good.up l, Nat.le_trans h.cop l, Nat.le_trans h.chg l, h.brd⟩
theorem OkS.leave {N : Nat} {x : SP} (h : OkS N x) (b : Int) : OkS N (x.leave b) := by
  refine ⟨?_, Nat.le_trans (aDel_len _ _) h.cop, Nat.le_trans (aDel_len _ _) h.chg, ?_⟩
  · unfold SP.leave
    dsimp only
    split
    · exact h.good.drop b
    · exact h.good
  · unfold SP.leave
    dsimp only
    split
    · intro p hp
      exact h.brd p (mDel_mem.mp hp).1
    · exact h.brd
theorem OkS.take {N : Nat} {x : SP} (h : OkS N x) (b : Int) (ws : List Int) (m : Bool) : OkS (N + 1) (x.take b ws m) := by
  have h1 := aSet_len x.cop b ws
  have h2 := aSet_len x.chg b ()
  have h3 := h.cop
  have h4 := h.chg
  refine ⟨h.good.up (by omega), by unfold SP.take; dsimp only; omega, ?_, h.brd⟩
  unfold SP.take
  dsimp only
  split <;> omega
theorem OkS.bring {N : Nat} {x : SP} (h : OkS N x) {b : Int} (hb : 0 ≤ b ∧ b < 1073741824) : OkS (N + 1) { x with rm := x.rm.bring b } := by
  refine ⟨h.good.bring b, Nat.le_succ_of_le h.cop, Nat.le_succ_of_le h.chg, ?_⟩
  intro p hp
  rcases mSet_mem.mp hp with rfl | ⟨h1, _⟩
  · exact hb
  · exact h.brd p (less_mem.mp h1).1
theorem OkS.use {N : Nat} {x : SP} (h : OkS N x) {b : Int} (hb : 0 ≤ b ∧ b < 1073741824) : OkS (N + 1) { x with rm := x.rm.use b } := by
  refine ⟨h.good.use b, Nat.le_succ_of_le h.cop, Nat.le_succ_of_le h.chg, ?_⟩
  intro p hp
  unfold Rm.use at hp
  dsimp only at hp
  split at hp
  · rcases mSet_mem.mp hp with rfl | ⟨h1, _⟩
    · exact hb
    · exact h.brd p h1
  · exact h.brd p hp
theorem OkS.out {N : Nat} {x : SP} (h : OkS N x) {b o : Int} (ho : x.rm.out b = some o) : 0 ≤ o ∧ o < 1073741824 := by
  unfold Rm.out at ho
  split at ho
  · obtain ⟨v, hv, _⟩ := stand_mem.mp (List.mem_of_mem_head? ho)
    exact h.brd _ hv
  · cases ho
theorem Bd.up {N M : Nat} {g : FP} (h : Bd N g) (l : N ≤ M) : Bd M g := ⟨fun x hx => (h.sts x hx).up l, Nat.le_trans h.num l, h.len, h.size⟩
theorem Bd.set {N : Nat} {g : FP} (h : Bd N g) {i : Nat} {y : SP} (hy : OkS N y) : Bd N { g with sts := g.sts.set i y } := by
  refine ⟨fun x hx => ?_, h.num, by simpa using h.len, h.size⟩
  rcases List.mem_or_eq_of_mem_set hx with hx | rfl
  · exact h.sts x hx
  · exact hy
theorem putB_len (size b : Int) (ws : List Int) (num : List (Int × Int)) : (putB size b ws num).length ≤ num.length + size.toNat := by
  unfold putB
  have key : ∀ (zs : List (Int × Int)) (n : List (Int × Int)), (zs.foldl (fun n p => aSet n p.1 p.2) n).length ≤ n.length + zs.length := by
    intro zs
    induction zs with
    | nil => intro n; simp
    | cons z zs ih =>
      intro n
      have h1 := ih (aSet n z.1 z.2)
      have h2 := aSet_len n z.1 z.2
      simp only [List.foldl_cons, List.length_cons]
      omega
  have := key ((rng (b * size) size.toNat).zip ws) num
  have h2 : ((rng (b * size) size.toNat).zip ws).length ≤ size.toNat := by simp; omega
  omega
theorem wOn_ok {N : Nat} (b : Int) (ws : List Int) : ∀ (k : Nat) (xs : List SP), (∀ x ∈ xs, OkS N x) → ∀ x ∈ (wOn b ws k xs).1, OkS (N + 1) x
  | _, [], _ => by simp [wOn]
  | k, x :: xs, h => by
    have ih := wOn_ok (N := N) b ws (k + 1) xs fun y hy => h y (List.mem_cons_of_mem _ hy)
    have hx := h x List.mem_cons_self
    unfold wOn
    split
    · split
      · intro y hy
        rcases List.mem_cons.mp hy with rfl | hy
        · exact hx.take b ws true
        · exact (h y (List.mem_cons_of_mem _ hy)).up (by omega)
      · intro y hy
        rcases List.mem_cons.mp hy with rfl | hy
        · exact hx.take b ws false
        · exact ih y hy
    · intro y hy
      rcases List.mem_cons.mp hy with rfl | hy
      · exact hx.up (by omega)
      · exact ih y hy
theorem Bd.words {N : Nat} {g : FP} (h : Bd N g) (k : Nat) (b : Int) (ws : List Int) : Bd (N + 16) (g.wordsOn k b ws) := by
  refine ⟨fun x hx => ?_, ?_, ?_, h.size⟩
  · rcases List.mem_append.mp hx with hx | hx
    · exact (h.sts x (List.mem_of_mem_take hx)).up (by omega)
    · exact (wOn_ok b ws k _ (fun y hy => h.sts y (List.mem_of_mem_drop hy)) x hx).up (by omega)
  · unfold FP.wordsOn
    dsimp only
    have h1 := h.num
    have h2 := h.size
    split
    · have := putB_len g.size b ws g.num; omega
    · omega
  · have h1 := h.len
    unfold FP.wordsOn
    dsimp only
    rw [List.length_append, wOn_len, ← List.length_append, List.take_append_drop]
    exact h1
theorem words_len (g : FP) (k : Nat) (b : Int) (ws : List Int) : (g.wordsOn k b ws).sts.length = g.sts.length := by
  unfold FP.wordsOn
  dsimp only
  rw [List.length_append, wOn_len, ← List.length_append, List.take_append_drop]
/-! ### a board goes -/
structure Go where
  sts : List SP
  ws : List Int
  m : Bool
  ev : List D
def goStep (b : Int) (s : Go) (h : Nat) : Go := match s.sts[h]? with
  | some x => if x.holds b = true then ⟨s.sts.set h (x.leave b), x.words b, s.m || x.marked b, s.ev ++ [evO h b]⟩ else s
  | none => s
def goL (b : Int) (i : Nat) : Nat → Go → Go
  | 0, s => s
  | j + 1, s => goStep b (goL b i j s) (i - j)
def FP.goS (g : FP) (i : Nat) (b : Int) (w : Bool) : Go := goL b i (if w = true then i + 1 else 1) ⟨g.sts, [], false, []⟩
def FP.goes (g : FP) (i : Nat) (b : Int) (w : Bool) : FP := if (g.goS i b w).m = true then ({ g with sts := (g.goS i b w).sts } : FP).wordsOn (i + 1) b (g.goS i b w).ws else { g with sts := (g.goS i b w).sts }
theorem goL_ok {N : Nat} (b : Int) (i : Nat) (s : Go) (h : ∀ x ∈ s.sts, OkS N x) : ∀ j, (goL b i j s).sts.length = s.sts.length ∧ (goL b i j s).ev.length ≤ s.ev.length + j ∧ ∀ x ∈ (goL b i j s).sts, OkS N x
  | 0 => ⟨rfl, Nat.le_refl _, h⟩
  | j + 1 => by
    obtain ⟨h1, h2, h3⟩ := goL_ok (N := N) b i s h j
    unfold goL goStep
    split
    · rename_i x hx
      split
      · refine ⟨by simpa using h1, by simp; omega, fun y hy => ?_⟩
        rcases List.mem_or_eq_of_mem_set hy with hy | rfl
        · exact h3 y hy
        · exact (h3 x (List.mem_of_getElem? hx)).leave b
      · exact ⟨h1, by omega, h3⟩
    · exact ⟨h1, by omega, h3⟩
section
variable {st : Sto} {B e : Nat} {A : Nat → Prop} {g : FP} {l : List D} {b : Int} {ws : List Int} {Q : R × Sto → Prop}
end
end NV.LB

namespace NV.LB
open PySem PySem.Spec PyProof.Rows L2 NV
/-! ### a board comes -/
def FP.brG (g : FP) (i : Nat) (b : Int) : FP := match g.sts[i]? with
  | some x => { g with sts := g.sts.set i { x with rm := x.rm.bring b } }
  | none => g
def FP.outA (g : FP) (i : Nat) (b : Int) : Option Int := g.sts[i]?.bind fun x => x.rm.out b
def FP.gone (g : FP) (i : Nat) (b : Int) (w : Bool) : FP := match g.outA i b with
  | some o => (g.brG i b).goes i o w
  | none => g.brG i b
def FP.tk (g : FP) (i : Nat) (b : Int) (ws : List Int) (m : Bool) : FP := match g.sts[i]? with
  | some x => { g with sts := g.sts.set i (x.take b ws m) }
  | none => g
def FP.comes (g : FP) (i : Nat) (b : Int) (ws : List Int) (w : Bool) : FP := (g.gone i b w).tk i b ws false
theorem brG_len (g : FP) (i : Nat) (b : Int) : (g.brG i b).sts.length = g.sts.length := by
  unfold FP.brG
  split <;> simp
theorem goS_len (g : FP) (i : Nat) (b : Int) (w : Bool) : (g.goS i b w).sts.length = g.sts.length := by
  unfold FP.goS
  generalize (if w = true then i + 1 else 1) = n
  have key : ∀ j s, (goL b i j s).sts.length = s.sts.length := by
    intro j s
    induction j with
    | zero => rfl
    | succ j ih =>
      unfold goL goStep
      split
      · split
        · simpa using ih
        · exact ih
      · exact ih
  exact key n _
theorem goes_len (g : FP) (i : Nat) (b : Int) (w : Bool) : (g.goes i b w).sts.length = g.sts.length := by
  unfold FP.goes
  split
  · rw [words_len]; exact goS_len g i b w
  · exact goS_len g i b w
theorem gone_len (g : FP) (i : Nat) (b : Int) (w : Bool) : (g.gone i b w).sts.length = g.sts.length := by
  unfold FP.gone
  split
  · rw [goes_len, brG_len]
  · exact brG_len g i b
theorem Bd.goes {N : Nat} {g : FP} (h : Bd N g) (i : Nat) (b : Int) (w : Bool) : Bd (N + 16) (g.goes i b w) := by
  have ok := goL_ok (N := N) b i ⟨g.sts, [], false, []⟩ h.sts (if w = true then i + 1 else 1)
  have hb : Bd N { g with sts := (g.goS i b w).sts } := ⟨ok.2.2, h.num, by have := goS_len g i b w; have := h.len; dsimp only; omega, h.size⟩
  unfold FP.goes
  split
  · exact hb.words _ _ _
  · exact hb.up (by omega)
theorem Bd.brG {N : Nat} {g : FP} (h : Bd N g) (i : Nat) {b : Int} (hb : 0 ≤ b ∧ b < 1073741824) : Bd (N + 1) (g.brG i b) := by
  unfold FP.brG
  split
  · rename_i x hx
    exact (h.up (by omega)).set ((h.sts x (List.mem_of_getElem? hx)).bring hb)
  · exact h.up (by omega)
theorem Bd.gone {N : Nat} {g : FP} (h : Bd N g) (i : Nat) {b : Int} (w : Bool) (hb : 0 ≤ b ∧ b < 1073741824) : Bd (N + 17) (g.gone i b w) := by
  unfold FP.gone
  split
  · exact (h.brG i hb).goes _ _ _
  · exact (h.brG i hb).up (by omega)
theorem Bd.tk {N : Nat} {g : FP} (h : Bd N g) (i : Nat) (b : Int) (ws : List Int) (m : Bool) : Bd (N + 1) (g.tk i b ws m) := by
  unfold FP.tk
  split
  · rename_i x hx
    exact (h.up (by omega)).set ((h.sts x (List.mem_of_getElem? hx)).take b ws m)
  · exact h.up (by omega)
theorem Bd.comes {N : Nat} {g : FP} (h : Bd N g) (i : Nat) {b : Int} (ws : List Int) (w : Bool) (hb : 0 ≤ b ∧ b < 1073741824) : Bd (N + 18) (g.comes i b ws w) := (h.gone i w hb).tk _ _ _ _
section
variable {st : Sto} {B e : Nat} {A : Nat → Prop} {g : FP} {l : List D} {b : Int} {ws : List Int} {Q : R × Sto → Prop}
end
end NV.LB

namespace NV.LB
open PySem PySem.Spec PyProof.Rows L2 NV
/-! ### stairs and their rooms: what lies is what's there -/
theorem drop_has' (rm : Rm) (o c : Int) : (rm.drop o).has c = if c = o then false else rm.has c := by
  show ((aDel rm.mks o).lookup c).isSome = _
  rw [look_aDel]
  split <;> rfl
def Al (x : SP) : Prop := ∀ c, x.holds c = x.rm.has c
theorem leave_holds (x : SP) (b c : Int) : (x.leave b).holds c = if c = b then false else x.holds c := by
  show ((aDel x.cop b).lookup c).isSome = _
  rw [look_aDel]
  split <;> rfl
theorem leave_has (x : SP) (b c : Int) : (x.leave b).rm.has c = if c = b then false else x.rm.has c := by
  unfold SP.leave
  dsimp only
  split
  · exact drop_has' _ _ _
  · rename_i h
    split
    · rename_i e; rw [e]; simpa using h
    · rfl
theorem take_holds (x : SP) (b c : Int) (ws : List Int) (m : Bool) : (x.take b ws m).holds c = if c = b then true else x.holds c := by
  show ((aSet x.cop b ws).lookup c).isSome = _
  rw [look_aSet]
  split <;> rfl
theorem Al.leave {x : SP} (h : Al x) (b : Int) : Al (x.leave b) := fun c => by
  rw [leave_holds, leave_has, h c]
theorem Al.retake {x : SP} (h : Al x) {b : Int} (hb : x.holds b = true) (ws : List Int) (m : Bool) : Al (x.take b ws m) := fun c => by
  rw [take_holds]
  show _ = x.rm.has c
  split
  · rename_i e; rw [e, ← h b, hb]
  · exact h c
/-- what words_on makes of a stair -/
def Tk (b : Int) (ws : List Int) (x y : SP) : Prop := y = x ∨ (x.holds b = true ∧ y = x.take b ws x.late)
theorem wOn_get (b : Int) (ws : List Int) : ∀ (k : Nat) (xs : List SP) (j : Nat) (y : SP), (wOn b ws k xs).1[j]? = some y → ∃ x, xs[j]? = some x ∧ Tk b ws x y
  | _, [], j, y, h => by simp [wOn] at h
  | k, x :: xs, j, y, h => by
    have ih := wOn_get b ws (k + 1) xs
    have triv : ∀ (j : Nat) (y : SP), (xs)[j]? = some y → ∃ x', xs[j]? = some x' ∧ Tk b ws x' y := fun j y h => ⟨y, h, .inl rfl⟩
    unfold wOn at h
    split at h
    · rename_i hb
      split at h
      · rename_i hl
        cases j with
        | zero =>
          simp at h
          subst h
          exact ⟨x, rfl, .inr ⟨hb, by rw [hl]⟩⟩
        | succ j =>
          simp at h ⊢
          exact triv j y h
      · rename_i hl
        have hl' : x.late = false := by simpa using hl
        cases j with
        | zero =>
          simp at h
          subst h
          exact ⟨x, rfl, .inr ⟨hb, by rw [hl']⟩⟩
        | succ j =>
          simp at h ⊢
          exact ih j y h
    · cases j with
      | zero =>
        simp at h
        subst h
        exact ⟨x, rfl, .inl rfl⟩
      | succ j =>
        simp at h ⊢
        exact ih j y h
theorem words_get {g : FP} {k : Nat} {b : Int} {ws : List Int} {j : Nat} {y : SP} (h : (g.wordsOn k b ws).sts[j]? = some y) : ∃ x, g.sts[j]? = some x ∧ (j < k → y = x) ∧ Tk b ws x y := by
  unfold FP.wordsOn at h
  dsimp only at h
  by_cases hj : j < (g.sts.take k).length
  · rw [List.getElem?_append_left hj] at h
    rw [List.length_take] at hj
    rw [List.getElem?_take_of_lt (by omega)] at h
    exact ⟨y, h, fun _ => rfl, .inl rfl⟩
  · rw [List.getElem?_append_right (by omega)] at h
    obtain ⟨x, hx, ht⟩ := wOn_get b ws k _ _ y h
    rw [List.getElem?_drop] at hx
    have hjl := lt_of hx
    rw [List.length_take] at hj hx hjl
    have e : k + (j - min k g.sts.length) = j := by omega
    rw [e] at hx
    exact ⟨x, hx, fun hk => by omega, ht⟩
/-- what going makes of a stair -/
def gV (b : Int) (lo i j : Nat) (x : SP) : SP := if (lo ≤ j ∧ j ≤ i) ∧ x.holds b = true then x.leave b else x
theorem goL_get (b : Int) (i : Nat) (s : Go) : ∀ (n : Nat), n ≤ i + 1 → ∀ j : Nat, (goL b i n s).sts[j]? = s.sts[j]?.map (gV b (i + 1 - n) i j)
  | 0, _, j => by
    show s.sts[j]? = _
    cases s.sts[j]? with
    | none => rfl
    | some x =>
      simp only [Option.map_some, gV]
      rw [if_neg (by omega)]
  | n + 1, hn, j => by
    have ih := goL_get b i s n (by omega)
    unfold goL goStep
    have hh := ih (i - n)
    have hsame : ∀ x, gV b (i + 1 - n) i (i - n) x = x := fun x => by unfold gV; rw [if_neg (by omega)]
    cases hx : s.sts[i - n]? with
    | none =>
      rw [hx] at hh
      rw [hh]
      dsimp only [Option.map_none]
      rw [ih j]
      cases hj : s.sts[j]? with
      | none => rfl
      | some y =>
        simp only [Option.map_some, gV]
        have : j ≠ i - n := fun e => by rw [e, hx] at hj; cases hj
        congr 1
        have e1 : (i + 1 - n ≤ j ∧ j ≤ i) ↔ (i + 1 - (n + 1) ≤ j ∧ j ≤ i) := by omega
        simp only [e1]
    | some x =>
      rw [hx] at hh
      simp only [Option.map_some, hsame] at hh
      rw [hh]
      dsimp only
      have hlt := lt_of hh
      by_cases hb : x.holds b = true
      · rw [if_pos hb]
        dsimp only
        by_cases hj : i - n = j
        · subst hj
          rw [List.getElem?_set_self hlt, hx]
          simp only [Option.map_some, gV]
          rw [if_pos ⟨by omega, hb⟩]
        · rw [List.getElem?_set_ne hj, ih j]
          cases s.sts[j]? with
          | none => rfl
          | some y =>
            simp only [Option.map_some, gV]
            congr 1
            have e1 : (i + 1 - n ≤ j ∧ j ≤ i) ↔ (i + 1 - (n + 1) ≤ j ∧ j ≤ i) := by omega
            simp only [e1]
      · rw [if_neg hb]
        rw [ih j]
        by_cases hj : i - n = j
        · subst hj
          rw [hx]
          simp only [Option.map_some, gV]
          rw [if_neg (by omega), if_neg (fun z => hb z.2)]
        · cases s.sts[j]? with
          | none => rfl
          | some y =>
            simp only [Option.map_some, gV]
            congr 1
            have e1 : (i + 1 - n ≤ j ∧ j ≤ i) ↔ (i + 1 - (n + 1) ≤ j ∧ j ≤ i) := by omega
            simp only [e1]
abbrev loW (i : Nat) (w : Bool) : Nat := if w = true then 0 else i
theorem goS_get (g : FP) (i : Nat) (b : Int) (w : Bool) (j : Nat) : (g.goS i b w).sts[j]? = g.sts[j]?.map (gV b (loW i w) i j) := by
  unfold FP.goS
  rw [goL_get b i _ _ (by split <;> omega)]
  have : i + 1 - (if w = true then i + 1 else 1) = loW i w := by
    unfold loW
    split <;> omega
  rw [this]
/-- a stair behind a board's going -/
theorem goes_get {g : FP} {i : Nat} {b : Int} {w : Bool} {j : Nat} {y : SP} (h : (g.goes i b w).sts[j]? = some y) : ∃ x, g.sts[j]? = some x ∧ (j ≤ i → y = gV b (loW i w) i j x) ∧ Tk b (g.goS i b w).ws (gV b (loW i w) i j x) y := by
  unfold FP.goes at h
  split at h
  · obtain ⟨x, hx, h1, h2⟩ := words_get h
    dsimp only at hx
    rw [goS_get] at hx
    obtain ⟨x0, hx0, rfl⟩ := Option.map_eq_some_iff.mp hx
    exact ⟨x0, hx0, fun hj => h1 (by omega), h2⟩
  · dsimp only at h
    rw [goS_get] at h
    obtain ⟨x0, hx0, rfl⟩ := Option.map_eq_some_iff.mp h
    exact ⟨x0, hx0, fun hj => rfl, .inl rfl⟩
theorem Tk.al {b : Int} {ws : List Int} {x y : SP} (t : Tk b ws x y) (h : Al x) : Al y := by
  rcases t with rfl | ⟨hb, rfl⟩
  · exact h
  · exact h.retake hb _ _
theorem Tk.rm {b : Int} {ws : List Int} {x y : SP} (t : Tk b ws x y) : y.rm = x.rm := by
  rcases t with rfl | ⟨hb, rfl⟩ <;> rfl
def AlF (g : FP) : Prop := ∀ x ∈ g.sts, Al x
def rmsOf (g : FP) : List Rm := g.sts.map (·.rm)
/-- each stair behind a board came into stair i -/
theorem comes_get {g : FP} {i : Nat} {b : Int} {ws : List Int} {w : Bool} (hi : i < g.sts.length) {j : Nat} {y : SP} (h : (g.comes i b ws w).sts[j]? = some y) : ∃ x, g.sts[j]? = some x ∧
    (j = i → y = (match x.rm.out b with
      | some o => gV o 0 0 0 { x with rm := x.rm.bring b }
      | none => { x with rm := x.rm.bring b }).take b ws false) ∧
    (j ≠ i → g.outA i b = none → y = x) ∧ (∀ o, j ≠ i → g.outA i b = some o → ∃ us, (j < i → y = gV o (loW i w) i j x) ∧ Tk o us (gV o (loW i w) i j x) y) := by
  have hgi : g.sts[i]? = some g.sts[i] := List.getElem?_eq_getElem hi
  have ebr : g.brG i b = { g with sts := g.sts.set i { g.sts[i] with rm := g.sts[i].rm.bring b } } := by unfold FP.brG; rw [hgi]
  have eout : g.outA i b = g.sts[i].rm.out b := by unfold FP.outA; rw [hgi]; rfl
  unfold FP.comes FP.tk at h
  have hgl := gone_len g i b w
  have hi2 : i < (g.gone i b w).sts.length := by rw [hgl]; exact hi
  rw [List.getElem?_eq_getElem hi2] at h
  dsimp only at h
  -- what stands behind going
  have mid : ∀ (j : Nat) (y : SP), (g.gone i b w).sts[j]? = some y → ∃ x, g.sts[j]? = some x ∧ (j = i → y = (match x.rm.out b with
      | some o => gV o 0 0 0 { x with rm := x.rm.bring b }
      | none => { x with rm := x.rm.bring b })) ∧ (j ≠ i → g.outA i b = none → y = x) ∧ (∀ o, j ≠ i → g.outA i b = some o → ∃ us, (j < i → y = gV o (loW i w) i j x) ∧ Tk o us (gV o (loW i w) i j x) y) := by
    intro j y hy
    unfold FP.gone at hy
    cases ho : g.outA i b with
    | none =>
      rw [ho] at hy
      dsimp only at hy
      rw [ebr] at hy
      dsimp only at hy
      by_cases hj : i = j
      · subst hj
        rw [List.getElem?_set_self hi] at hy
        cases hy
        refine ⟨_, hgi, fun _ => ?_, fun z => absurd rfl z, fun _ z => absurd rfl z⟩
        rw [eout] at ho
        rw [ho]
      · rw [List.getElem?_set_ne hj] at hy
        exact ⟨y, hy, fun z => absurd z.symm hj, fun _ _ => rfl, fun o _ z => (by cases z)⟩
    | some o =>
      rw [ho] at hy
      dsimp only at hy
      obtain ⟨x1, hx1, h1, h2⟩ := goes_get hy
      rw [ebr] at hx1
      dsimp only at hx1
      by_cases hj : i = j
      · subst hj
        rw [List.getElem?_set_self hi] at hx1
        cases hx1
        refine ⟨_, hgi, fun _ => ?_, fun z => absurd rfl z, fun _ z => absurd rfl z⟩
        rw [h1 (Nat.le_refl _)]
        rw [eout] at ho
        rw [ho]
        unfold gV loW
        have e1 : ((if w = true then 0 else i) ≤ i ∧ i ≤ i) := ⟨by split <;> omega, Nat.le_refl _⟩
        simp [e1]
      · rw [List.getElem?_set_ne hj] at hx1
        refine ⟨x1, hx1, fun z => absurd z.symm hj, fun _ z => (by cases z), fun o' _ z => ?_⟩
        cases z
        exact ⟨_, fun z => h1 (by omega), h2⟩
  by_cases hj : i = j
  · subst hj
    rw [List.getElem?_set_self hi2] at h
    cases h
    obtain ⟨x, hx, m1, m2, m3⟩ := mid i _ (List.getElem?_eq_getElem hi2)
    exact ⟨x, hx, fun _ => by rw [m1 rfl], fun z => absurd rfl z, fun _ z => absurd rfl z⟩
  · rw [List.getElem?_set_ne hj] at h
    obtain ⟨x, hx, m1, m2, m3⟩ := mid j y h
    exact ⟨x, hx, fun z => absurd z.symm hj, m2, m3⟩
end NV.LB

namespace NV.LB
open PySem PySem.Spec PyProof.Rows L2 NV
/-! ### a board is fetched, within one another or freely -/
def FP.useG (g : FP) (k : Nat) (b : Int) : FP := match g.sts[k]? with
  | some x => { g with sts := g.sts.set k { x with rm := x.rm.use b } }
  | none => g
def FP.wdG (g : FP) (k : Nat) (b : Int) : List Int := match g.sts[k]? with
  | some x => x.words b
  | none => g.bw b
def cmL (b : Int) (ws : List Int) (w : Bool) : Nat → FP → FP
  | 0, g => g
  | k + 1, g => cmL b ws w k (g.comes k b ws w)
def FP.fetchN (g : FP) (k : Nat) (b : Int) (w : Bool) : FP := cmL b (g.wdG k b) w k (g.useG k b)
/-- none of the nearer rooms has it -/
def NoB (g : FP) (k : Nat) (b : Int) : Prop := ∀ (j : Nat) (x : SP), j < k → g.sts[j]? = some x → x.rm.has b = false
theorem gV_no {o b : Int} {lo i j : Nat} {x : SP} (h : x.rm.has b = false) : (gV o lo i j x).rm.has b = false := by
  unfold gV
  split
  · rw [leave_has, h]; simp
  · exact h
theorem NoB.comes {g : FP} {k : Nat} {b : Int} {ws : List Int} {w : Bool} (hk : k < g.sts.length) (h : NoB g (k + 1) b) : NoB (g.comes k b ws w) k b := by
  intro j y hj hy
  obtain ⟨x, hx, h1, h2, h3⟩ := comes_get hk hy
  have hb := h j x (by omega) hx
  cases ho : g.outA k b with
  | none => rw [h2 (by omega) ho]; exact hb
  | some o =>
    obtain ⟨us, e, _⟩ := h3 o (by omega) ho
    rw [e hj]
    exact gV_no hb
theorem Bd.useG {N : Nat} {g : FP} (h : Bd N g) (k : Nat) {b : Int} (hb : 0 ≤ b ∧ b < 1073741824) : Bd (N + 1) (g.useG k b) := by
  unfold FP.useG
  split
  · rename_i x hx
    exact (h.up (by omega)).set ((h.sts x (List.mem_of_getElem? hx)).use hb)
  · exact h.up (by omega)
section
variable {st : Sto} {B e : Nat} {A : Nat → Prop} {g : FP} {l : List D} {b : Int} {ws : List Int} {Q : R × Sto → Prop}
end
end NV.LB

namespace NV.LB
open PySem PySem.Spec PyProof.Rows L2 NV
/-! ### a board is put in, apart -/
structure PI3 where
  sts : List SP
  num : List (Int × Int)
  ev : List D
def pLv (x : SP) (b : Int) : SP := match x.rm.out b with
  | some o => ({ x with rm := x.rm.bring b } : SP).leave o
  | none => { x with rm := x.rm.bring b }
def pE (i : Nat) (x : SP) (b : Int) : List D := match x.rm.out b with
  | some o => [evO i o]
  | none => []
def pNum (size : Int) (x : SP) (b : Int) (ws : List Int) (m : Bool) (num : List (Int × Int)) : List (Int × Int) := if x.late = false ∧ m = true then putB size b ws num else num
def pEW (r : Nat) (x : SP) (b : Int) (m : Bool) : List D := if x.late = false ∧ m = true then [evW r b] else []
def pIn (r : Nat) (size : Int) : Nat → Int → List Int → Bool → List SP → List (Int × Int) → PI3
  | _, b, ws, m, [], num => ⟨[], if m = true then putB size b ws num else num, if m = true then [evW r b] else []⟩
  | i, b, ws, m, x :: xs, num => match x.rm.out b with
    | none => ⟨(pLv x b).take b ws (x.late && m) :: xs, pNum size x b ws m num, pE i x b ++ evI i b :: pEW r x b m⟩
    | some o => ⟨(pLv x b).take b ws (x.late && m) :: (pIn r size (i + 1) o (x.words o) (x.marked o) xs (pNum size x b ws m num)).sts, (pIn r size (i + 1) o (x.words o) (x.marked o) xs (pNum size x b ws m num)).num, pE i x b ++ evI i b :: pEW r x b m ++ (pIn r size (i + 1) o (x.words o) (x.marked o) xs (pNum size x b ws m num)).ev⟩
def FP.putIn (g : FP) (b : Int) (ws : List Int) (m : Bool) : FP := { g with sts := (pIn g.sts.length g.size 0 b ws m g.sts g.num).sts, num := (pIn g.sts.length g.size 0 b ws m g.sts g.num).num }
theorem OkS.pLv {N : Nat} {x : SP} (h : OkS N x) {b : Int} (hb : 0 ≤ b ∧ b < 1073741824) : OkS (N + 1) (pLv x b) := by
  unfold NV.LB.pLv
  split
  · exact (h.bring hb).leave _
  · exact h.bring hb
section
variable {st : Sto} {B e : Nat} {A : Nat → Prop} {g : FP} {l : List D} {b : Int} {ws : List Int} {Q : R × Sto → Prop}
end
end NV.LB

namespace NV.LB
open PySem PySem.Spec PyProof.Rows L2 NV
section
variable {st : Sto} {B e : Nat} {A : Nat → Prop} {g : FP} {l : List D} {b : Int} {ws : List Int} {Q : R × Sto → Prop}
def FP.fetchA (g : FP) (k : Nat) (b : Int) : FP := if k = 0 then g.useG 0 b else match g.sts[k]? with
  | some x => ({ g with sts := g.sts.set k (x.leave b) } : FP).putIn b (x.words b) (x.marked b)
  | none => g.putIn b (g.bw b) false
end
end NV.LB

namespace NV.LB
open PySem PySem.Spec PyProof.Rows L2 NV
/-! ### what holds of each stair, whatever is fetched -/
structure StP (size : Int) (P : SP → Prop) : Prop where
  leave : ∀ x b, P x → P (x.leave b)
  take : ∀ x b (ws : List Int) m, P x → (ws.length : Int) = size → P (x.take b ws m)
  room : ∀ (x : SP) r, P x → P { x with rm := r }
  words : ∀ x b, P x → x.holds b = true → ((x.words b).length : Int) = size
section
variable {size : Int} {P : SP → Prop}
end
/-! ### apart: the rooms do what rooms alone do -/
end NV.LB

namespace NV.LB
open PySem PySem.Spec PyProof.Rows L2 NV
/-! ### a board is fetched -/
def FP.fetch (g : FP) (b : Int) : FP := if g.kind = "apart" then g.fetchA (g.near b) b else g.fetchN (g.near b) b (decide (g.kind = "within"))
def CopOk (size : Int) (x : SP) : Prop := (x.cop.map (·.1)).Nodup ∧ ∀ p ∈ x.cop, (p.2.length : Int) = size
theorem copok_p (size : Int) : StP size (CopOk size) where
  leave := fun x b h => ⟨aDel_nodup h.1, fun p hp => h.2 p (aDel_mem.mp hp).1⟩
  take := fun x b ws m h hw => ⟨aSet_nodup h.1, fun p hp => by
    rcases aSet_mem hp with rfl | ⟨hp, _⟩
    · exact hw
    · exact h.2 p hp⟩
  room := fun x r h => h
  words := fun x b h hb => by
    obtain ⟨ws, hl⟩ := Option.isSome_iff_exists.mp hb
    have := h.2 _ (look_mem hl)
    unfold SP.words
    rw [hl]
    exact this
structure Fok (N : Nat) (g : FP) : Prop where
  bd : Bd N g
  al : AlF g
  dis : g.kind = "apart" → Dis (rmsOf g)
  pos : 0 < g.sts.length
  cop : ∀ x ∈ g.sts, CopOk g.size x
end NV.LB

namespace NV.LB
open PySem PySem.Spec PyProof.Rows L2 NV
section
variable {st : Sto} {B e : Nat} {A : Nat → Prop} {g : FP} {l : List D} {b : Int} {ws : List Int} {Q : R × Sto → Prop}
/-- the word of a spot, its board being in stair 0 -/
def FP.wordAt (g : FP) (sp : Int) : Int := ((((g.sts[0]?.map fun x => x.words (sp / g.size)).getD [])[(sp % g.size).toNat]?).getD 0)
end
end NV.LB

namespace NV.LB
open PySem PySem.Spec PyProof.Rows L2 NV
/-! ### stairs of a plan -/
def stairsN (f : Nat) : Nd := .ins "Stairs" [("flight", .obj f)]
section
variable {B : W → Prop} {f : Nat}
@[simp ↓] theorem stairs_fl : FldK (stairsN f) "Stairs" "flight" B ↔ B (.obj f) := ⟨(fun ⟨fs, w, h1, h2, q⟩ => by cases h1; cases h2; exact q), fun q => ⟨_, _, rfl, rfl, q⟩⟩
@[simp] theorem ss_read : MethK (stairsN f) "Stairs" "read" := ⟨_, rfl, rfl⟩
@[simp] theorem ss_write : MethK (stairsN f) "Stairs" "write" := ⟨_, rfl, rfl⟩
@[simp] theorem ss_emptied : MethK (stairsN f) "Stairs" "emptied" := ⟨_, rfl, rfl⟩
@[simp] theorem ss_lies : MethK (stairsN f) "Stairs" "lies" := ⟨_, rfl, rfl⟩
@[simp] theorem ss_changed : MethK (stairsN f) "Stairs" "changed" := ⟨_, rfl, rfl⟩
@[simp] theorem ss_order : MethK (stairsN f) "Stairs" "order" := ⟨_, rfl, rfl⟩
@[simp] theorem ss_words : MethK (stairsN f) "Stairs" "words" := ⟨_, rfl, rfl⟩
@[simp] theorem ss_memory : MethK (stairsN f) "Stairs" "memory" := ⟨_, rfl, rfl⟩
end
/-- Stairs at n: its flight's things from n + 1 on, and words -/
structure SA (st : Sto) (n : Nat) (A : Nat → Prop) (g : FP) : Prop where
  top : st[n]? = some (some (stairsN (n + 1 + 5 * g.sts.length + 1)))
  fl : Fl st (n + 1) A g
theorem SA.ne {st : Sto} {n : Nat} {A : Nat → Prop} {g : FP} (h : SA st n A g) : ¬ A n := fun z => absurd (h.fl.ge z) (by omega)
theorem SA.frame {st st' : Sto} {n : Nat} {A : Nat → Prop} {g : FP} (h : SA st n A g) (e : ∀ a, a = n ∨ A a → st'[a]? = st[a]?) : SA st' n A g := ⟨by rw [e n (.inl rfl)]; exact h.top, h.fl.frame fun a ha => e a (.inr ha)⟩
theorem SA.lt {st : Sto} {n : Nat} {A : Nat → Prop} {g : FP} (h : SA st n A g) {a : Nat} (ha : a = n ∨ A a) : a < st.length := by
  rcases ha with rfl | ha
  · exact lt_of h.top
  · exact h.fl.lt ha
section
variable {st : Sto} {n : Nat} {A : Nat → Prop} {g : FP} {Q : R × Sto → Prop}
end
end NV.LB

namespace NV.LB
open PySem PySem.Spec PyProof.Rows L2 NV
theorem Fok.up {N M : Nat} {g : FP} (h : Fok N g) (l : N ≤ M) : Fok M g := ⟨h.bd.up l, h.al, h.dis, h.pos, h.cop⟩
theorem StB.le {n : Nat} {k : Int} {st : Sto} (h : StB n k st) : n ≤ st.length := by
  rcases Nat.eq_zero_or_pos n with rfl | hn
  · omega
  · obtain ⟨nd, h1, _⟩ := h (n - 1) (by omega)
    have := lt_of h1
    omega
end NV.LB

namespace NV.LB
open PySem PySem.Spec PyProof.Rows L2 NV
/-! ### a word is written -/
def FP.wr (g : FP) (b : Int) (i : Nat) (n : Int) : FP := match g.sts[0]? with
  | some x => if x.late = true then { g with sts := g.sts.set 0 ((x.setw b i n).mark b) } else if g.kind = "apart" then ({ g with sts := g.sts.set 0 (x.setw b i n) } : FP).putD b ((x.words b).set i n) true else ({ g with sts := g.sts.set 0 (x.setw b i n) } : FP).wordsOn 1 b ((x.words b).set i n)
  | none => g
def FP.write (g : FP) (sp n : Int) : FP := (g.fetch (sp / g.size)).wr (sp / g.size) (sp % g.size).toNat n
section
variable {st : Sto} {B e : Nat} {A : Nat → Prop} {g : FP} {l : List D} {b : Int} {ws : List Int} {Q : R × Sto → Prop}
end
end NV.LB

namespace NV.LB
open PySem PySem.Spec PyProof.Rows L2 NV
theorem setw_holds (x : SP) (b c : Int) (i : Nat) (n : Int) : (x.setw b i n).holds c = if c = b then true else x.holds c := by
  show ((aSet x.cop b _).lookup c).isSome = _
  rw [look_aSet]
  split <;> rfl
theorem Al.setw {x : SP} (h : Al x) {b : Int} (hb : x.holds b = true) (i : Nat) (n : Int) : Al (x.setw b i n) := fun c => by
  rw [setw_holds]
  show _ = x.rm.has c
  split
  · rename_i e; rw [e, ← h b, hb]
  · exact h c
theorem CopOk.setw {size : Int} {x : SP} (h : CopOk size x) {b : Int} (hb : x.holds b = true) (i : Nat) (n : Int) : CopOk size (x.setw b i n) := by
  have hw := (copok_p size).words x b h hb
  refine ⟨aSet_nodup h.1, fun p hp => ?_⟩
  rcases aSet_mem hp with rfl | ⟨hp, _⟩
  · rw [List.length_set]; exact hw
  · exact h.2 p hp
theorem OkS.setw {N : Nat} {x : SP} (h : OkS N x) (b : Int) (i : Nat) (n : Int) : OkS (N + 1) (x.setw b i n) := by
  have h5 := aSet_len x.cop b ((x.words b).set i n)
  exact ⟨h.good.up (by omega), by show (aSet x.cop b _).length ≤ _; have := h.cop; omega, Nat.le_succ_of_le h.chg, h.brd⟩
theorem OkS.mark {N : Nat} {x : SP} (h : OkS N x) (b : Int) : OkS (N + 1) (x.mark b) := by
  have h5 := aSet_len x.chg b ()
  exact ⟨h.good.up (by omega), Nat.le_succ_of_le h.cop, by show (aSet x.chg b ()).length ≤ _; have := h.chg; omega, h.brd⟩
section
variable {st : Sto} {B e : Nat} {A : Nat → Prop} {g : FP} {l : List D} {b : Int} {ws : List Int} {Q : R × Sto → Prop}
/-! ### what is asked -/
end
end NV.LB

namespace NV.LB
open PySem PySem.Spec PyProof.Rows L2 NV
/-! ### one stair, nothing ever written -/
structure One (g : FP) (x : SP) : Prop where
  sts : g.sts = [x]
  chg : x.chg = []
  num : g.num = []
  z : ∀ p ∈ x.cop, ∀ v ∈ p.2, v = 0
section
variable {g : FP} {x : SP} {N : Nat} {b : Int}
theorem One.bw (h : One g x) (b : Int) : ∀ v ∈ g.bw b, v = 0 := by
  intro v hv
  unfold FP.bw at hv
  rw [h.num] at hv
  obtain ⟨s, _, rfl⟩ := List.mem_map.mp hv
  rfl
theorem One.pLv (h : One g x) (b : Int) : (NV.LB.pLv x b).chg = [] ∧ (∀ p ∈ (NV.LB.pLv x b).cop, ∀ v ∈ p.2, v = 0) := by
  unfold NV.LB.pLv
  split
  · refine ⟨?_, fun p hp => h.z p (aDel_mem.mp hp).1⟩
    show aDel x.chg _ = []
    rw [h.chg]; rfl
  · exact ⟨h.chg, h.z⟩
theorem One.word (h : One g x) (sp : Int) : g.wordAt sp = 0 := by
  unfold FP.wordAt
  rw [h.sts]
  simp only [List.getElem?_cons_zero, Option.map_some, Option.getD_some]
  have : ∀ v ∈ x.words (sp / g.size), v = 0 := by
    unfold SP.words
    cases hl : x.cop.lookup (sp / g.size) with
    | none => simp
    | some ws => exact h.z _ (look_mem hl)
  cases hv : (x.words (sp / g.size))[(sp % g.size).toNat]? with
  | none => rfl
  | some v => exact this v (List.mem_of_getElem? hv)
/-! ### what lies there is what the room has -/
end
section
variable {st : Sto} {n : Nat} {A : Nat → Prop} {g : FP} {Q : R × Sto → Prop}
end
end NV.LB

namespace NV.LB
open PySem PySem.Spec PyProof.Rows L2 NV
/-! ### the frame of a law: all([right(box(cells, k)) for k in range(max(m, len(cells)))]) -/
end NV.LB

namespace NV.LB
open PySem PySem.Spec PyProof.Rows L2 NV
/-! ### no shelf has more boards than places -/
def shn (ks : List Int) (sh k : Int) : Nat := (ks.filter fun c => decide (c % sh = k)).length
def Cap (rm : Rm) : Prop := ∀ k, (shn (rm.mks.map (·.1)) rm.sh k : Int) ≤ rm.pl
theorem stand_shn (rm : Rm) (k : Int) : (rm.stand k).length = shn (rm.mks.map (·.1)) rm.sh k := by
  rw [(stand_perm rm k).length_eq, List.length_map]
  unfold shn
  rw [List.filter_map, List.length_map]
  rfl
theorem mDel_keys (mk : List (Int × (Int × Int × Int))) (b : Int) : (mDel mk b).map (·.1) = (mk.map (·.1)).filter fun c => decide (c ≠ b) := by
  unfold mDel
  rw [List.filter_map]
  rfl
theorem shn_filter (ks : List Int) (sh k o : Int) : shn (ks.filter fun c => decide (c ≠ o)) sh k ≤ shn ks sh k := by
  unfold shn
  exact (List.Sublist.filter _ List.filter_sublist).length_le
theorem shn_filter_lt (ks : List Int) (sh k o : Int) (ho : o ∈ ks) (hk : o % sh = k) : shn (ks.filter fun c => decide (c ≠ o)) sh k + 1 ≤ shn ks sh k := by
  induction ks with
  | nil => cases ho
  | cons a l ih =>
    by_cases h2 : a = o
    · subst h2
      have := shn_filter l sh k a
      unfold shn at this ⊢
      simp [hk]
      simpa using this
    · have := ih (by
        rcases List.mem_cons.mp ho with h | h
        · exact absurd h.symm h2
        · exact h)
      unfold shn at this ⊢
      simp [h2, List.filter_cons]
      split <;> simp at this ⊢ <;> omega
theorem shn_app (ks : List Int) (sh k b : Int) : shn (ks ++ [b]) sh k = shn ks sh k + if b % sh = k then 1 else 0 := by
  unfold shn
  rw [List.filter_append, List.length_append]
  by_cases h : b % sh = k <;> simp [h]
theorem Cap.drop {rm : Rm} (h : Cap rm) (b : Int) : Cap (rm.drop b) := by
  intro k
  show (shn ((mDel rm.mks b).map (·.1)) rm.sh k : Int) ≤ rm.pl
  rw [mDel_keys]
  have := shn_filter (rm.mks.map (·.1)) rm.sh k b
  have := h k
  omega
theorem Cap.use {rm : Rm} (h : Cap rm) (b : Int) : Cap (rm.use b) := by
  unfold Rm.use
  split
  · rename_i c x n hg
    intro k
    show (shn ((mSet rm.mks b _).map (·.1)) rm.sh k : Int) ≤ rm.pl
    rw [mSet_keys, if_pos]
    · exact h k
    · exact List.mem_map.mpr ⟨_, look_mem hg, rfl⟩
  · exact h
theorem Cap.bring {rm : Rm} (h : Cap rm) (hp : 0 < rm.pl) (b : Int) : Cap (rm.bring b) := by
  intro k
  show (shn ((mSet (rm.less b) b _).map (·.1)) rm.sh k : Int) ≤ rm.pl
  rw [mSet_keys]
  have hk := h k
  have hl : shn ((rm.less b).map (·.1)) rm.sh k + (if b % rm.sh = k then 1 else 0) ≤ rm.pl := by
    unfold Rm.less
    cases ho : rm.out b with
    | none =>
      dsimp only
      split
      · rename_i e
        unfold Rm.out at ho
        split at ho
        · rename_i e2
          exfalso
          cases hs : rm.stand (b % rm.sh) with
          | nil => rw [hs] at e2; simp at e2; omega
          | cons a l => rw [hs] at ho; cases ho
        · rename_i e2
          rw [stand_shn, e] at e2
          omega
      · omega
    | some o =>
      dsimp only
      rw [mDel_keys]
      have h1 := shn_filter (rm.mks.map (·.1)) rm.sh k o
      split
      · rename_i e
        unfold Rm.out at ho
        split at ho
        · obtain ⟨v, hv, he⟩ := stand_mem.mp (List.mem_of_mem_head? ho)
          have h2 := shn_filter_lt (rm.mks.map (·.1)) rm.sh k o (List.mem_map.mpr ⟨_, hv, rfl⟩) (he.trans e)
          omega
        · cases ho
      · omega
  split
  · split at hl <;> omega
  · rw [shn_app]
    push_cast
    split at hl <;> simp_all
def CapL (rs : List Rm) : Prop := ∀ rm ∈ rs, Cap rm ∧ 0 < rm.pl
theorem CapL.set {rs : List Rm} (h : CapL rs) {i : Nat} {rm : Rm} (h1 : Cap rm ∧ 0 < rm.pl) : CapL (rs.set i rm) := by
  intro x hx
  rcases List.mem_or_eq_of_mem_set hx with hx | rfl
  · exact h x hx
  · exact h1
theorem use_pl (rm : Rm) (b : Int) : (rm.use b).pl = rm.pl := by unfold Rm.use; split <;> rfl
theorem CapL.useA {rs : List Rm} (h : CapL rs) (k : Nat) (b : Int) : CapL (useA k b rs) := by
  unfold NV.LB.useA
  split
  · rename_i rm hr
    have := h rm (List.mem_of_getElem? hr)
    exact h.set ⟨this.1.use b, by rw [use_pl]; exact this.2⟩
  · exact h
theorem CapL.brg {rs : List Rm} (h : CapL rs) (i : Nat) (b : Int) : CapL (brg i b rs) := by
  unfold NV.LB.brg
  split
  · rename_i rm hr
    have := h rm (List.mem_of_getElem? hr)
    exact h.set ⟨this.1.bring this.2 b, this.2⟩
  · exact h
theorem CapL.drp {rs : List Rm} (h : CapL rs) (i : Nat) (b : Int) : CapL (drp i b rs) := by
  unfold NV.LB.drp
  split
  · rename_i rm hr
    have := h rm (List.mem_of_getElem? hr)
    exact h.set ⟨this.1.drop b, this.2⟩
  · exact h
theorem CapL.dropB {rs : List Rm} (h : CapL rs) (i : Nat) (b : Int) : CapL (dropB i b rs) := by
  intro x hx
  obtain ⟨j, hj⟩ := List.getElem?_of_mem hx
  rw [dropB_get] at hj
  obtain ⟨r, hr, rfl⟩ := Option.map_eq_some_iff.mp hj
  have := h r (List.mem_of_getElem? hr)
  split
  · exact ⟨this.1.drop b, this.2⟩
  · exact this
theorem CapL.cin {w : Bool} {b : Int} : ∀ (k : Nat) {rs : List Rm}, CapL rs → CapL (cin w b k rs)
  | 0, _, h => h
  | k + 1, rs, h => by
    refine CapL.cin k (rs := cin1 w b k rs) ?_
    unfold cin1
    split
    · split
      · exact (h.brg k b).dropB k _
      · exact h.brg k b
    · exact h.brg k b
theorem CapL.pas : ∀ (o : Option Int) {rs : List Rm}, CapL rs → CapL (pas o rs)
  | none, rs, h => by rw [pas_none]; exact h
  | some c, [], h => by simpa [NV.LB.pas] using h
  | some c, rm :: l, h => by
    intro x hx
    rw [NV.LB.pas] at hx
    rcases List.mem_cons.mp hx with rfl | hx
    · have := h rm (by simp)
      exact ⟨this.1.bring this.2 c, this.2⟩
    · exact CapL.pas (rm.out c) (rs := l) (fun y hy => h y (List.mem_cons_of_mem _ hy)) x hx
theorem CapL.fo1 {rs : List Rm} (h : CapL rs) (kd : Str) (b : Int) : CapL (fo1 kd b rs) := by
  unfold NV.LB.fo1
  split
  · split
    · exact h.useA 0 b
    · exact (h.drp _ b).pas (some b)
  · exact (h.useA _ b).cin _
/-! ### within one another; where the board lies -/
def Sub (rs : List Rm) : Prop := ∀ (i : Nat) (x y : Rm), rs[i]? = some x → rs[i + 1]? = some y → ∀ c, x.has c = true → y.has c = true
end NV.LB

namespace NV.LB
open PySem PySem.Spec PyProof.Rows L2 NV
/-- a deed: read a spot | write a word -/
inductive Dd2 where
  | rd (sp : Int)
  | wr (sp n : Int)
def Dd2.sp : Dd2 → Int
  | .rd s => s
  | .wr s _ => s
def Dd2.d : Dd2 → D
  | .rd s => .tup [.str "read", .int s]
  | .wr s n => .tup [.str "write", .int s, .int n]
theorem spot_min {sz b r : Int} (hz : 1 ≤ sz ∧ sz ≤ 16) (hb : 0 ≤ b ∧ b ≤ 9999 / sz) (hr : 0 ≤ r ∧ r < sz) : (0 ≤ min 9999 (b * sz + r) ∧ min 9999 (b * sz + r) ≤ 9999) ∧ (min 9999 (b * sz + r)) / sz = b := by
  have hbm : b * sz ≤ 9999 := by
    have e1 : b * sz ≤ 9999 / sz * sz := Int.mul_le_mul_of_nonneg_right hb.2 (by omega)
    have e2 : 9999 / sz * sz ≤ 9999 := Int.ediv_mul_le _ (by omega)
    omega
  have hbm0 : 0 ≤ b * sz := Int.mul_nonneg hb.1 (by omega)
  refine ⟨⟨by omega, by omega⟩, ?_⟩
  have e1 : (b + 1) * sz = b * sz + sz := by rw [Int.add_mul, Int.one_mul]
  refine Int.le_antisymm ?_ (Int.le_ediv_of_mul_le (by omega) (by omega))
  have := Int.ediv_lt_of_lt_mul (a := min 9999 (b * sz + r)) (b := b + 1) (c := sz) (by omega) (by omega)
  omega
end NV.LB

namespace NV.LB
open PySem PySem.Spec PyProof.Rows L2 NV
/-! ### a room that refuses -/
@[simp] theorem xs_There_There : exSub "There" "There" = true := by decide +kernel
@[simp] theorem xs_There_NotThere : exSub "There" "NotThere" = false := by decide +kernel
@[simp] theorem xs_There_NoShelf : exSub "There" "NoShelf" = false := by decide +kernel
@[simp] theorem xs_There_NoFit : exSub "There" "NoFit" = false := by decide +kernel
@[simp] theorem xs_There_NoStair : exSub "There" "NoStair" = false := by decide +kernel
@[simp] theorem xs_There_BadRow : exSub "There" "BadRow" = false := by decide +kernel
@[simp] theorem xs_There_StairError : exSub "There" "StairError" = true := by decide +kernel
@[simp] theorem xs_NotThere_There : exSub "NotThere" "There" = false := by decide +kernel
@[simp] theorem xs_NotThere_NotThere : exSub "NotThere" "NotThere" = true := by decide +kernel
@[simp] theorem xs_NotThere_NoShelf : exSub "NotThere" "NoShelf" = false := by decide +kernel
@[simp] theorem xs_NotThere_NoFit : exSub "NotThere" "NoFit" = false := by decide +kernel
@[simp] theorem xs_NotThere_NoStair : exSub "NotThere" "NoStair" = false := by decide +kernel
@[simp] theorem xs_NotThere_BadRow : exSub "NotThere" "BadRow" = false := by decide +kernel
@[simp] theorem xs_NotThere_StairError : exSub "NotThere" "StairError" = true := by decide +kernel
@[simp] theorem xs_NoShelf_There : exSub "NoShelf" "There" = false := by decide +kernel
@[simp] theorem xs_NoShelf_NotThere : exSub "NoShelf" "NotThere" = false := by decide +kernel
@[simp] theorem xs_NoShelf_NoShelf : exSub "NoShelf" "NoShelf" = true := by decide +kernel
@[simp] theorem xs_NoShelf_NoFit : exSub "NoShelf" "NoFit" = false := by decide +kernel
@[simp] theorem xs_NoShelf_NoStair : exSub "NoShelf" "NoStair" = false := by decide +kernel
@[simp] theorem xs_NoShelf_BadRow : exSub "NoShelf" "BadRow" = false := by decide +kernel
@[simp] theorem xs_NoShelf_StairError : exSub "NoShelf" "StairError" = true := by decide +kernel
@[simp] theorem xs_NoStair_There : exSub "NoStair" "There" = false := by decide +kernel
@[simp] theorem xs_NoStair_NotThere : exSub "NoStair" "NotThere" = false := by decide +kernel
@[simp] theorem xs_NoStair_NoShelf : exSub "NoStair" "NoShelf" = false := by decide +kernel
@[simp] theorem xs_NoStair_NoFit : exSub "NoStair" "NoFit" = false := by decide +kernel
@[simp] theorem xs_NoStair_NoStair : exSub "NoStair" "NoStair" = true := by decide +kernel
@[simp] theorem xs_NoStair_BadRow : exSub "NoStair" "BadRow" = false := by decide +kernel
@[simp] theorem xs_NoStair_StairError : exSub "NoStair" "StairError" = true := by decide +kernel
@[simp] theorem xm_There : ("There" : Str) ∈ csA := by decide +kernel
@[simp] theorem xm_NotThere : ("NotThere" : Str) ∈ csA := by decide +kernel
@[simp] theorem xm_NoShelf : ("NoShelf" : Str) ∈ csA := by decide +kernel
@[simp] theorem xm_NoStair : ("NoStair" : Str) ∈ csA := by decide +kernel
@[simp ↓] theorem lpy_b3 {st : Sto} {b1 b2 b3 : Bool} {B : List PyData → Prop} : LpyK st (.val (.d (.lst [.bl b1, .bl b2, .bl b3]))) B ↔ B [.bool b1, .bool b2, .bool b3] := ev_some'
@[simp ↓] theorem apy_b {b : Bool} {B : PyData → Prop} : ApyK [.d (.bl b)] B ↔ B (.bool b) := ev_some'
@[simp] theorem shaped_b3 {b1 b2 b3 : Bool} : SeqAt.shaped (.list [.bool b1, .bool b2, .bool b3]) = true := by cases b1 <;> cases b2 <;> cases b3 <;> decide
@[simp] theorem shaped_b {b : Bool} : SeqAt.shaped (.bool b) = true := by cases b <;> decide

section
variable {st : Sto} {n m : Nat} {rm : Rm} {b : Int} {Q : R → Sto → Prop} {Qx : Str → Sto → Prop}
/-- what a deed tells, the room behind it -/
def Rm.tells (rm : Rm) (way b : Int) : D × Rm :=
  if way = 0 then (if rm.has b = true then (.str "There", rm) else (.tup [.str "told", match rm.out b with | none => .non | some i => .int i], rm.bring b))
  else if rm.has b = true then (.tup [.str "told", .non], if way = 1 then rm.use b else rm.drop b) else (.str "NotThere", rm)
end
end NV.LB

namespace NV.LB
open PySem PySem.Spec PyProof.Rows L2 NV
/-! ### deeds of a room, without clocks -/
inductive TR where
  | th | nt | non | out (i : Int)
deriving DecidableEq
def TR.map (g : Int → Int) : TR → TR
  | .th => .th
  | .nt => .nt
  | .non => .non
  | .out i => .out (g i)
/-- what done_deed tells -/
def TR.d : TR → D
  | .th => .str "There"
  | .nt => .str "NotThere"
  | .non => .tup [.str "told", .non]
  | .out i => .tup [.str "told", .int i]
/-! ### other numbers for the boards -/
section
variable {g : Int → Int} {ru : Str} {pl : Int} {A : Sh}
end
/-! ### how a shelf stands -/
end NV.LB

namespace NV.LB
open PySem PySem.Spec PyProof.Rows L2 NV
/-! ### rooms in the store of a law -/
/-- the store from N on stays -/
structure Keep (N : Nat) (st st' : Sto) : Prop where
  len : st'.length = st.length
  at_ : ∀ j, N ≤ j → st'[j]? = st[j]?
theorem Keep.refl {N : Nat} {st : Sto} : Keep N st st := ⟨rfl, fun _ _ => rfl⟩
theorem Keep.trans {N : Nat} {a b c : Sto} (h : Keep N a b) (h' : Keep N b c) : Keep N a c := ⟨h'.len.trans h.len, fun j hj => (h'.at_ j hj).trans (h.at_ j hj)⟩
theorem Keep.room {N n m : Nat} {st st' : Sto} {rm : Rm} (h : Keep N st st') (r : RoomAt st n m rm) (hn : N ≤ n) (hm : N ≤ m) : RoomAt st' n m rm := ⟨(h.at_ n hn).trans r.room, (h.at_ m hm).trans r.marks, r.ne⟩
/-- a def on a box among others -/
theorem call_sk {F : FF} {ds : List W} {N : Nat} {k c : Int} {i : Nat} {st : Sto} {Post : R → Prop} {P : R × Nd → Sto → Prop} (h : StB N k st) (hi : i < N) (hc : 0 ≤ c)
    (hF : ∀ nd, Box k nd → ∀ Q : R × Nd → Prop, (∀ r nd', Post r → Box (k + c) nd' → Q (r, nd')) → Ev (callB F ds nd) Q) (q : ∀ r nd' st', Post r → StB N (k + c) st' → Keep N st st' → P (r, nd') st') :
    GetK st i fun o => SoK o fun nd => nd.dat.isSome = true ∧ Ev (callB F ds nd) fun r => SetK st i (some r.2) fun st' => P r st' := by
  obtain ⟨nd, h1, h2⟩ := h i hi
  refine ⟨_, h1, nd, rfl, h2.isd, hF nd h2 _ fun r nd' h3 h5 => q r _ _ h3 (fun j hj => ?_) ⟨by simp, fun j hj => ?_⟩⟩
  · by_cases e : i = j
    · subst e
      exact ⟨nd', List.getElem?_set_self (List.getElem?_eq_some_iff.mp h1).1, h5⟩
    · obtain ⟨nd2, h6, h7⟩ := h j hj
      exact ⟨nd2, by rw [List.getElem?_set_ne e]; exact h6, h7.mono (by omega)⟩
  · rw [List.getElem?_set_ne (by omega)]
theorem take_sk {N : Nat} {k n : Int} {i : Nat} {st : Sto} {P : R × Nd → Sto → Prop} (h : StB N k st) (hi : i < N) (hk : k < 2147483648) (hn : 0 < n) (hn' : n < 1073741824) (q : ∀ r nd' st', 0 ≤ r → r < n → StB N (k + 1) st' → Keep N st st' → P (iR r, nd') st') :
    GetK st i fun o => SoK o fun nd => nd.dat.isSome = true ∧ Ev (callB F_take [.obj 0, .d (.int n)] nd) fun r => SetK st i (some r.2) fun st' => P r st' :=
  call_sk (Post := fun r => ∃ x, r = iR x ∧ 0 ≤ x ∧ x < n) h hi (by decide) (fun nd hb Q q => take_ev hb hk hn hn' fun r nd' h1 h2 h3 => q _ _ ⟨r, rfl, h1, h2⟩ h3) fun r nd' st' ⟨x, e, h1, h2⟩ h3 h4 => by rw [e]; exact q x nd' st' h1 h2 h3 h4
theorem StB.setRoom {N n m : Nat} {k : Int} {st : Sto} (h : StB N k st) (hn : N ≤ n) (hm : N ≤ m) (rm : Rm) : StB N k (setRoom st n m rm) := h.keep fun i hi => setRoom_ne (by omega) (by omega)
theorem StB.apd {N : Nat} {k : Int} {st : Sto} (h : StB N k st) (l : Sto) : StB N k (st ++ l) := fun i hi => by
  obtain ⟨nd, h1, h2⟩ := h i hi
  exact ⟨nd, by rw [List.getElem?_append_left (List.getElem?_eq_some_iff.mp h1).1]; exact h1, h2⟩
theorem RoomAt.other {n m n' m' : Nat} {st : Sto} {rm : Rm} (h : RoomAt st n m rm) (rm' : Rm) (h1 : n ≠ n') (h2 : n ≠ m') (h3 : m ≠ n') (h4 : m ≠ m') : RoomAt (setRoom st n' m' rm') n m rm :=
  ⟨by rw [setRoom_ne h1 h2]; exact h.room, by rw [setRoom_ne h3 h4]; exact h.marks, h.ne⟩
/-! ### a room drawn -/
end NV.LB

namespace NV.LB
open PySem PySem.Spec PyProof.Rows L2 NV TL
/-! ### sheets: what is read of a row that was written -/
noncomputable def h_plan_rows : SF := sSeq (sAsg (eVar 0) (gT 3 (gCons' (gN 1) (gCons' (gN 2) (gCons' (gN 3) (gNil')))))) (sSeq (sAsg (eLst (aCons (eOp hAdd' (eC (.str "size ")) (eCa hStrX (aCons (eVar 1) (aNil)))) (aCons (eOp hAdd' (eC (.str "kind ")) (eVar 2)) (aNil)))) (gN 4)) (sRet (eOp hAdd' (eVar 4) (eLc (iSq (eVar 3)) (gN 5) (tYes') (eSm hJoin (eC (.str " ")) (aCons (eOp hAdd' (eLst (aCons (eC (.str "room")) (aNil))) (eLc (iSq (eVar 5)) (gN 6) (tYes') (eCa hStrX (aCons (eVar 6) (aNil))) [6])) (aNil))) [5]))))
noncomputable def F_plan_rows : FF := runF 7 h_plan_rows
noncomputable def h_order_row : SF := sRet (eSm hJoin (eC (.str " ")) (aCons (eLc (iSq (eVar 0)) (gN 1) (tYes') (eCa hStrX (aCons (eVar 1) (aNil))) [1]) (aNil)))
noncomputable def F_order_row : FF := runF 2 h_order_row
noncomputable def h_Sheet___init__ : SF := sSeq (sFld "Sheet" "size" (eC .non) (eVar 0)) (sSeq (sFld "Sheet" "kind" (eC .non) (eVar 0)) (sSeq (sFld "Sheet" "rooms" (eLst (aNil)) (eVar 0)) (sFld "Sheet" "orders" (eLst (aNil)) (eVar 0))))
noncomputable def F_Sheet___init__ : FF := runF 1 h_Sheet___init__
noncomputable def h_is_plain : SF := sSeq (sIf (tOrF (tNotF (tE (eChain hLe hLe (eC (.int 1)) (eCa hLen (aCons (eVar 0) (aNil))) (eC (.int 9))))) (tE (eCa hAny (aCons (eLc (iSg (eVar 0)) (gN 1) (tYes') (eOp hNotInX (eVar 1) (eC (.str "0123456789"))) [1]) (aNil))))) (sRet (eC (.bl false))) (sNext)) (sRet (eOr (eOp hEq (eVar 0) (eC (.str "0"))) (eOp hNe (eOp hIx (eVar 0) (eC (.int 0))) (eC (.str "0")))))
noncomputable def F_is_plain : FF := runF 2 h_is_plain
noncomputable def h_number_in : SF := sSeq (sIf (tOrF (tNotF (tE (eCallP F_is_plain (aCons (eVar 0) (aNil))))) (tNotF (tE (eChain hLe hLe (eVar 1) (eCa hIntX (aCons (eVar 0) (aNil))) (eVar 2))))) (sRet (eC .non)) (sNext)) (sRet (eCa hIntX (aCons (eVar 0) (aNil))))
noncomputable def F_number_in : FF := runF 3 h_number_in
noncomputable def h_Sheet_takes_size : SF := sSeq (sIf (tAndF (tE (eOp hEq (eCa hLen (aCons (eVar 1) (aNil))) (eC (.int 2)))) (tE (eOp hEq (eOp hIx (eVar 1) (eC (.int 0))) (eC (.str "size"))))) (sFld "Sheet" "size" (eCallP F_number_in (aCons (eOp hIx (eVar 1) (eC (.int 1))) (aCons (eC (.int 1)) (aCons (eC (.int 16)) (aNil))))) (eVar 0)) (sNext)) (sRet (eOp hIsNot (eFld "Sheet" "size" (eVar 0)) (eC .non)))
noncomputable def F_Sheet_takes_size : FF := runF 2 h_Sheet_takes_size
noncomputable def h_Sheet_takes_kind : SF := sSeq (sIf (tAndF (tE (eOp hEq (eCa hLen (aCons (eVar 1) (aNil))) (eC (.int 2)))) (tAndF (tE (eOp hEq (eOp hIx (eVar 1) (eC (.int 0))) (eC (.str "kind")))) (tE (eOp hIn (eOp hIx (eVar 1) (eC (.int 1))) (eC (.lsw [.str "within", .str "apart", .str "free"])))))) (sFld "Sheet" "kind" (eOp hIx (eVar 1) (eC (.int 1))) (eVar 0)) (sNext)) (sRet (eOp hIsNot (eFld "Sheet" "kind" (eVar 0)) (eC .non)))
noncomputable def F_Sheet_takes_kind : FF := runF 2 h_Sheet_takes_kind
noncomputable def h_room_in : SF := sSeq (sIf (tOrF (tE (eOp hNe (eCa hLen (aCons (eVar 0) (aNil))) (eC (.int 5)))) (tOrF (tE (eOp hNe (eOp hIx (eVar 0) (eC (.int 0))) (eC (.str "room")))) (tOrF (tE (eOp hNotIn (eOp hIx (eVar 0) (eC (.int 3))) (eC (.lsw [.str "old", .str "come", .str "few"])))) (tE (eOp hNotIn (eOp hIx (eVar 0) (eC (.int 4))) (eC (.lsw [.str "late", .str "through"]))))))) (sRet (eC .non)) (sNext)) (sSeq (sPar 1 2 (aCons (eCallP F_number_in (aCons (eOp hIx (eVar 0) (eC (.int 1))) (aCons (eC (.int 1)) (aCons (eC (.int 64)) (aNil))))) (aCons (eCallP F_number_in (aCons (eOp hIx (eVar 0) (eC (.int 2))) (aCons (eC (.int 1)) (aCons (eC (.int 16)) (aNil))))) (aNil)))) (sRet (eIf (tOrF (tE (eOp hIs (eVar 1) (eC .non))) (tE (eOp hIs (eVar 2) (eC .non)))) (eC .non) (eTup (aCons (eVar 1) (aCons (eVar 2) (aCons (eOp hIx (eVar 0) (eC (.int 3))) (aCons (eOp hIx (eVar 0) (eC (.int 4))) (aNil)))))))))
noncomputable def F_room_in : FF := runF 3 h_room_in
noncomputable def h_signed_in : SF := sSeq (sIf (tE (eOp hEq (eSl hSl (eVar 0) (oNone) (oSome (eC (.int 1)))) (eC (.str "-")))) (sSeq (sAsg (eCallP F_number_in (aCons (eSl hSl (eVar 0) (oSome (eC (.int 1))) (oNone)) (aCons (eC (.int 1)) (aCons (eC (.int 1000000000)) (aNil))))) (gN 1)) (sRet (eIf (tE (eOp hIs (eVar 1) (eC .non))) (eC .non) (eOp hSub (eC (.int 0)) (eVar 1))))) (sNext)) (sRet (eCallP F_number_in (aCons (eVar 0) (aCons (eC (.int 0)) (aCons (eC (.int 1000000000)) (aNil))))))
noncomputable def F_signed_in : FF := runF 2 h_signed_in
noncomputable def h_order_in : SF := sSeq (sAsg (eGetK [("read", [.int (9999)]), ("write", [.int (9999), .non]), ("empty", []), ("lies", [.int (4)]), ("changed", [.int (4)]), ("order", [.int (4), .int (63)]), ("words", [.int (4), .int (9999)]), ("memory", []), ("tally", [])] (eOp hIx (eVar 0) (eC (.int 0)))) (gN 1)) (sSeq (sIf (tOrF (tE (eOp hIs (eVar 1) (eC .non))) (tE (eOp hNe (eCa hLen (aCons (eVar 0) (aNil))) (eOp hAdd' (eCa hLen (aCons (eVar 1) (aNil))) (eC (.int 1)))))) (sRet (eC .non)) (sNext)) (sSeq (sAsgO (eLst (aNil)) (gN 2)) (sSeq (sFor (iZm (aCons (eSl hSl (eVar 0) (oSome (eC (.int 1))) (oNone)) (aCons (eVar 1) (aNil)))) (gT 2 (gCons' (gN 3) (gCons' (gN 4) (gNil')))) (sExpr (eLm lAppend (eVar 2) (aCons (eIf (tE (eOp hIs (eVar 4) (eC .non))) (eCallP F_signed_in (aCons (eVar 3) (aNil))) (eCallP F_number_in (aCons (eVar 3) (aCons (eC (.int 0)) (aCons (eVar 4) (aNil)))))) (aNil))))) (sRet (eIf (tE (eOp hIn (eC .non) (eVar 2))) (eC .non) (eCa hTuple (aCons (eOp hAdd' (eSl hSl (eVar 0) (oNone) (oSome (eC (.int 1)))) (eVar 2)) (aNil))))))))
noncomputable def F_order_in : FF := runF 5 h_order_in
noncomputable def h_Sheet_takes : SF := sSeq (sIf (tE (eOp hIs (eFld "Sheet" "size" (eVar 0)) (eC .non))) (sRet (eMeth "Sheet" "takes_size" F_Sheet_takes_size (eVar 0) (aCons (eVar 1) (aNil)))) (sNext)) (sSeq (sIf (tE (eOp hIs (eFld "Sheet" "kind" (eVar 0)) (eC .non))) (sRet (eMeth "Sheet" "takes_kind" F_Sheet_takes_kind (eVar 0) (aCons (eVar 1) (aNil)))) (sNext)) (sSeq (sIf (tAndF (tE (eOp hEq (eOp hIx (eVar 1) (eC (.int 0))) (eC (.str "room")))) (tAndF (tE (eOp hEq (eFld "Sheet" "orders" (eVar 0)) (eLst (aNil)))) (tE (eOp hLt (eCa hLen (aCons (eFld "Sheet" "rooms" (eVar 0)) (aNil))) (eC (.int 4)))))) (sSeq (sAsg (eCallP F_room_in (aCons (eVar 1) (aNil))) (gN 2)) (sExpr (eLm lAppend (eFld "Sheet" "rooms" (eVar 0)) (aCons (eVar 2) (aNil))))) (sSeq (sAsg (eIf (tE (eOp hGt (eCa hLen (aCons (eFld "Sheet" "rooms" (eVar 0)) (aNil))) (eC (.int 0)))) (eCallP F_order_in (aCons (eVar 1) (aNil))) (eC .non)) (gN 2)) (sExpr (eLm lAppend (eFld "Sheet" "orders" (eVar 0)) (aCons (eVar 2) (aNil)))))) (sRet (eOp hIsNot (eVar 2) (eC .non)))))
noncomputable def F_Sheet_takes : FF := runF 3 h_Sheet_takes
noncomputable def h_read_sheet : SF := sSeq (sAsg (eMake "Sheet" F_Sheet___init__ aNil) (gN 1)) (sSeq (sAsg (eSm hSplit (eVar 0) (aCons (eC (.str "\n")) (aNil))) (gN 2)) (sSeq (sFor (iEn (aCons (eVar 2) (aNil))) (gT 2 (gCons' (gN 3) (gCons' (gN 4) (gNil')))) (sIf (tAndF (tE (eOp hNe (eVar 4) (eC (.str "")))) (tNotF (tE (eMeth "Sheet" "takes" F_Sheet_takes (eVar 1) (aCons (eSm hSplit (eVar 4) (aCons (eC (.str " ")) (aNil))) (aNil)))))) (sNever) (sNext))) (sSeq (sIf (tE (eOp hEq (eCa hLen (aCons (eFld "Sheet" "rooms" (eVar 1)) (aNil))) (eC (.int 0)))) (sNever) (sNext)) (sRet (eTupL (aCons (eTup (aCons (eFld "Sheet" "size" (eVar 1)) (aCons (eFld "Sheet" "kind" (eVar 1)) (aCons (eCa hTuple (aCons (eFld "Sheet" "rooms" (eVar 1)) (aNil))) (aNil))))) (aCons (eFld "Sheet" "orders" (eVar 1)) (aNil))))))))
noncomputable def F_read_sheet : FF := runF 5 h_read_sheet

abbrev numS (i : Int) : Str := ((toString i : String) : Str)
theorem num_no {k : Nat} (hk : k ≠ 45 ∧ (k < 48 ∨ 57 < k)) (i : Int) : k ∉ tl (numS i) := PyProof.Rows.int_text_free' k hk i
theorem split_row {parts : List Str} (hne : parts ≠ []) (h : ∀ p ∈ parts, 32 ∉ tl p) : Txt.split (Txt.join " " parts) " " = parts := split_join (s := 32) (S := []) (by decide) (by rw [← Array.all_toList]; decide) hne h
theorem split_text {parts : List Str} (hne : parts ≠ []) (h : ∀ p ∈ parts, 10 ∉ tl p) : Txt.split (Txt.join "\n" parts) "\n" = parts := split_join (s := 10) (S := []) (by decide) (by rw [← Array.all_toList]; decide) hne h
theorem num_tl (n : Nat) : tl (numS (n : Int)) = numL n := tl_num n
theorem num_len {n : Nat} (h : n < 10 ^ 9) : (numS (n : Int)).length ≤ 9 := by
  rw [len_tl, num_tl]
  exact numL_len (by decide) h
theorem num_back {n : Nat} (h : n < 10 ^ 9) : intText? (numS (n : Int)) = some (n : Int) := int_num (by have := numL_len (k := 9) (by decide) h; omega)
theorem num_pos (n : Nat) : 1 ≤ (numS (n : Int)).length := by
  rw [len_tl, num_tl]
  have := numL_ne n
  cases h : numL n with
  | nil => exact absurd h this
  | cons _ _ => simp
theorem num_dig (n : Nat) : ∀ c ∈ tl (numS (n : Int)), 48 ≤ c ∧ c ≤ 57 := fun c hc => by
  rw [num_tl] at hc
  refine Classical.byContradiction fun z => ?_
  exact numL_free (s := c) (by omega) hc
theorem num_head : ∀ n : Nat, 0 < n → ∃ c r, numL n = c :: r ∧ c ≠ 48
  | n, h => by
    by_cases h10 : n < 10
    · exact ⟨48 + n, [], numL_lt h10, by omega⟩
    · obtain ⟨c, r, e, hc⟩ := num_head (n / 10) (by omega)
      exact ⟨c, r ++ [48 + n % 10], by rw [numL_step (by omega), e]; rfl, hc⟩
theorem fig_mem {c : Nat} (h : 48 ≤ c ∧ c ≤ 57) : c ∈ ("0123456789" : Str).cps.toList := by
  have e : ("0123456789" : Str).cps.toList = [48, 49, 50, 51, 52, 53, 54, 55, 56, 57] := by decide
  rw [e]
  simp
  omega
theorem is_plain_num {n : Nat} {Q : R → Prop} (h : n < 10 ^ 9) (q : Q (bR true)) : Ev (callP F_is_plain [.str (numS (n : Int))]) Q := by
  have h1 := num_len h
  have h2 := num_pos n
  rw [ev_callP]
  simp [F_is_plain, h_is_plain]
  refine ⟨by omega, ?_⟩
  rw [if_pos (by omega), if_pos (by omega)]
  unfold ySigns
  refine lc_m D.bl (fun _ => false) (by have := h1; rw [len_tl] at this; simpa using Nat.le_trans this (by decide)) (fun c hc => ?_) (fun l hl => ?_)
  · simp [LcS]
    refine notInX_sgn.mpr ?_
    simp [fig_mem (num_dig n c hc)]
  · have e : l.map (W.d ∘ D.bl) = (l.map D.bl).map W.d := by rw [List.map_map]
    rw [e]
    have hany : l.any id = false := by rw [hl]; simp
    simp [hany]
    by_cases h0 : numS (n : Int) = Str.ofString "0"
    · rw [if_pos h0]; exact q
    · rw [if_neg h0]
      refine ⟨by omega, ?_⟩
      have hn0 : 0 < n := by
        rcases Nat.eq_zero_or_pos n with rfl | hp
        · exact absurd rfl h0
        · exact hp
      obtain ⟨c, r, hc, hne⟩ := num_head n hn0
      have ht : (numS (n : Int)).cps.toList = c :: r := by rw [← hc]; exact num_tl n
      unfold CpK
      rw [ht, atI_nn (by omega)]
      refine ⟨c, rfl, ?_⟩
      have hd : ¬ (({ cps := #[c] } : Str) = Str.ofString "0") := fun z => by
        have := congrArg tl z
        have e0 : tl (Str.ofString "0") = [48] := by decide
        rw [e0] at this
        simp [tl] at this
        exact hne this
      show Q (R.val (W.d (D.bl !decide ({ cps := #[c] } = Str.ofString "0"))))
      rw [decide_eq_false hd]
      exact q
theorem number_in_num {n : Nat} {lo hi : Int} {Q : R → Prop} (h : n < 10 ^ 9) (hl : lo ≤ n) (hh : (n : Int) ≤ hi) (q : Q (iR n)) : Ev (callP F_number_in [.str (numS (n : Int)), .int lo, .int hi]) Q := by
  have h1 := num_len h
  rw [ev_callP]
  simp [F_number_in, h_number_in]
  refine is_plain_num h ?_
  simp
  refine ⟨by omega, _, num_back h, ?_⟩
  simp [hl, hh]
  exact ⟨by omega, _, num_back h, q⟩
theorem txt_to (z : Str) : cutS z none (some 1) = ⟨((tl z).take 1).toArray⟩ := by
  rw [C8.cutS_slice]
  conv => lhs; rw [← mk_tl z]
  exact SX.slice_to (a := tl z) (i := 1) (by decide)
theorem txt_from (z : Str) : cutS z (some 1) none = ⟨((tl z).drop 1).toArray⟩ := by
  rw [C8.cutS_slice]
  conv => lhs; rw [← mk_tl z]
  exact SX.slice_from (a := tl z) (i := 1) (by decide)
theorem signed_in_num {n : Nat} {Q : R → Prop} (h : n < 10 ^ 9) (q : Q (iR n)) : Ev (callP F_signed_in [.str (numS (n : Int))]) Q := by
  have h1 := num_len h
  have h2 := num_pos n
  rw [ev_callP]
  simp [F_signed_in, h_signed_in]
  refine ⟨by omega, ?_⟩
  have hne : ¬ (cutS (numS (n : Int)) none (some 1) = Str.ofString "-") := fun z => by
    rw [txt_to] at z
    have e := congrArg tl z
    have e0 : tl (Str.ofString "-") = [45] := by decide
    rw [e0] at e
    have e1 : (tl (numS (n : Int))).take 1 = [45] := e
    have hm : 45 ∈ tl (numS (n : Int)) := List.mem_of_mem_take (by rw [e1]; exact List.mem_cons_self)
    have := num_dig n 45 hm
    omega
  rw [if_neg hne]
  refine number_in_num h (by omega) (by omega) ?_
  simpa using q
theorem neg_tl {n : Nat} (h : 0 < n) : tl (numS (-(n : Int))) = 45 :: numL n := by
  obtain ⟨m, rfl⟩ : ∃ m, n = m + 1 := ⟨n - 1, by omega⟩
  have e : (-((m + 1 : Nat) : Int)) = Int.negSucc m := rfl
  rw [e]
  unfold numS tl
  rw [signs_ofString]
  show (toString (Int.negSucc m)).toList.map Char.toNat = _
  have e2 : toString (Int.negSucc m) = "-" ++ toString (m + 1) := rfl
  rw [e2, String.toList_append, List.map_append]
  show [45] ++ _ = _
  rw [← num_tl]
  unfold numS tl
  rw [signs_ofString]
  rfl
theorem signed_in_neg {n : Nat} {Q : R → Prop} (h0 : 0 < n) (h : n < 10 ^ 9) (q : Q (iR (-(n : Int)))) : Ev (callP F_signed_in [.str (numS (-(n : Int)))]) Q := by
  have ht := neg_tl h0
  have h1 := num_len h
  rw [len_tl, num_tl] at h1
  have hl : (numS (-(n : Int))).length ≤ 10 := by rw [len_tl, ht]; simp; omega
  rw [ev_callP]
  simp [F_signed_in, h_signed_in]
  refine ⟨by omega, ?_⟩
  have he : cutS (numS (-(n : Int))) none (some 1) = Str.ofString "-" := by
    rw [txt_to, ht]
    exact ext_tl (show [45] = tl (Str.ofString "-") by decide)
  rw [if_pos he]
  refine ⟨by omega, ?_⟩
  have hc : cutS (numS (-(n : Int))) (some 1) none = numS (n : Int) := by
    rw [txt_from, ht]
    refine ext_tl ?_
    rw [num_tl]
    rfl
  rw [hc]
  refine number_in_num h (by omega) (by omega) ?_
  simp
  simpa using q
end NV.LB

namespace NV.LB
open PySem PySem.Spec PyProof.Rows L2 NV TL
/-! ### sheets: rooms and orders read back -/
abbrev numD (i : Int) : D := .str (numS i)
theorem room_in_ev {sh pl : Nat} {ru wr : Str} {Q : R → Prop} (h1 : 1 ≤ sh ∧ sh ≤ 64) (h2 : 1 ≤ pl ∧ pl ≤ 16) (h3 : ru = "old" ∨ ru = "come" ∨ ru = "few") (h4 : wr = "late" ∨ wr = "through") (q : Q (.val (.d (.tup [.int sh, .int pl, .str ru, .str wr])))) : Ev (callP F_room_in [.lst [.str "room", numD sh, numD pl, .str ru, .str wr]]) Q := by
  rw [ev_callP]
  simp [F_room_in, h_room_in]
  refine ⟨⟨rfl, rfl, rfl⟩, ?_⟩
  have e1 : inW (W.d (D.str ru)) [W.d (D.str (Str.ofString "old")), W.d (D.str (Str.ofString "come")), W.d (D.str (Str.ofString "few"))] = true := by
    rcases h3 with rfl | rfl | rfl <;> decide
  have e2 : inW (W.d (D.str wr)) [W.d (D.str (Str.ofString "late")), W.d (D.str (Str.ofString "through"))] = true := by
    rcases h4 with rfl | rfl <;> decide
  rw [e1, e2]
  simp
  refine ⟨⟨rfl, rfl⟩, ?_⟩
  refine number_in_num (by omega) (by omega) (by omega) ?_
  simp
  refine number_in_num (by omega) (by omega) (by omega) ?_
  simp
  exact q
/-- the bound of a number in an order: none a signed word -/
def inB (a : Int) : D → Prop
  | .int m => 0 ≤ a ∧ a ≤ m ∧ m < 10 ^ 9
  | .non => a.natAbs < 10 ^ 9
  | _ => False
def bndT : List (Str × List D) := [("read", [.int (9999)]), ("write", [.int (9999), .non]), ("empty", []), ("lies", [.int (4)]), ("changed", [.int (4)]), ("order", [.int (4), .int (63)]), ("words", [.int (4), .int (9999)]), ("memory", []), ("tally", [])]
@[simp ↓] theorem view_tpw {l : List D} {st : Sto} {Q : Vu → Prop} : ViewK (.val (.d (.tpw l))) st Q ↔ Q (.at (.tpw l)) := ev_some'
@[simp ↓] theorem len_tpw {l : List D} {Q : R → Prop} : Ev (hLen [.at (.tpw l)]) Q ↔ Q (iR l.length) := ev_some'
@[simp ↓] theorem is_tpw {l : List D} {Q : R → Prop} : Ev (hIs (.at (.tpw l)) (.at .non)) Q ↔ Q (bR false) := ev_some'
@[simp ↓] theorem zim_kw {st : Sto} {w : W} {b : List D} {Q : List W → List W → List (Nat × Nd) → Prop} : ZimK st w (.d (.tpw b)) Q ↔ SeqK (.val w) st fun xs gd => Q xs (b.map .d) gd := by
  unfold ZimK zimR SeqK
  simp [W.tupd]
theorem cut_tl (x : W) (xs : List W) : cut (x :: xs) (some 1) none = xs := by
  unfold cut
  simp [HT.sIx]
theorem cut_hd (x : W) (xs : List W) : cut (x :: xs) none (some 1) = [x] := by
  unfold cut
  simp [HT.sIx]
theorem in_nl' {ws : List W} {P : R → Prop} : Ev (hIn (.at .non) (.lst ws)) P ↔ ws.all W.flat = true ∧ P (bR (inW (.d .non) ws)) := by
  have e : hIn (.at .non) (.lst ws) = if ws.all W.flat = true then some (bR (inW (.d .non) ws)) else none := by
    show (match hInS false (.at .non) (.lst ws) with
      | some r => some r
      | none => none) = _
    rw [hInS_seq (w := .d .non) rfl rfl]
    split <;> simp_all
  rw [e, ev_ite']
  by_cases h : ws.all W.flat = true
  · rw [if_pos h, ev_some']; exact ⟨fun q => ⟨h, q⟩, fun q => q.2⟩
  · rw [if_neg h, ev_none']; exact ⟨False.elim, fun q => h q.1⟩
theorem inW_non' {ns : List Int} : inW (.d .non) (ns.map (W.d ∘ D.int)) = false := by
  induction ns with
  | nil => rfl
  | cons a l ih =>
    show (eqW (W.d (D.int a)) (W.d D.non) || inW (.d .non) (l.map (W.d ∘ D.int))) = false
    rw [ih]; rfl
theorem pair_at {α β : Type} {r : α → β → Prop} : ∀ {as : List α} {bs : List β} {j : Nat} {a : α} {b : β}, Paired r as bs → as[j]? = some a → bs[j]? = some b → r a b
  | _, _, 0, _, _, .cons h _, ha, hb => by simp at ha hb; subst ha hb; exact h
  | _, _, j + 1, _, _, .cons _ t, ha, hb => by simp at ha hb; exact pair_at t ha hb
theorem order_in_ev {z : Str} {as : List Int} {ds : List D} {Q : R → Prop} (hz : bndT.lookup z = some ds) (hb : Paired inB as ds) (hl : as.length ≤ 4) (q : Q (.val (.d (.tup (.str z :: as.map .int))))) : Ev (callP F_order_in [.lst (.str z :: as.map numD)]) Q := by
  have hlen : as.length = ds.length := hb.length
  rw [ev_callP]
  simp [F_order_in]
  unfold h_order_in
  refine eo_cut (I := fun t => t = ⟨[some (W.d (D.lst (.str z :: as.map numD))), some (W.d (D.tpw ds)), none, none, none], []⟩) ?_ ?_
  · simp
    have hz' : List.lookup z bndT = some ds := hz
    unfold bndT at hz'
    rw [hz']
    simp
  rintro _ rfl
  refine eo_cut (I := fun t => t = ⟨[some (W.d (D.lst (.str z :: as.map numD))), some (W.d (D.tpw ds)), none, none, none], []⟩) ?_ ?_
  · simp [hlen, bR, iR]
  rintro _ rfl
  simp [cut_tl]
  have hmap : as.map (W.d ∘ numD) = (as.map numD).map W.d := by simp
  rw [hmap]
  simp
  refine forL_inv (fun j t => ∃ x3 x4 : Option W, t = ⟨[some (W.d (D.lst (.str z :: as.map numD))), some (W.d (D.tpw ds)), some (W.obj 0), x3, x4], [some (Nd.lst (((as.take j).map D.int).map W.d))]⟩) _ 0 _ ⟨none, none, by simp⟩ ?_ ?_
  · rintro j y _ - hy ⟨x3, x4, rfl⟩
    obtain ⟨w, w', hw, hw', rfl⟩ := yZip_get hy
    simp at hw hw'
    obtain ⟨a, ha, rfl⟩ := hw
    obtain ⟨d, hd, rfl⟩ := hw'
    have hi : inB a d := pair_at hb ha hd
    have hj : j < as.length := (List.getElem?_eq_some_iff.mp ha).1
    have htk : as.take (j + 1) = as.take j ++ [a] := by rw [List.take_add_one, ha]; rfl
    rw [htk]
    cases d with
    | int m =>
      obtain ⟨h0, h1, h2⟩ := hi
      obtain ⟨n, rfl⟩ := Int.eq_ofNat_of_zero_le h0
      simp
      refine number_in_num (by omega) h0 h1 ?_
      simp
      omega
    | non =>
      simp
      have hi' : a.natAbs < 10 ^ 9 := hi
      by_cases hs : 0 ≤ a
      · obtain ⟨n, rfl⟩ := Int.eq_ofNat_of_zero_le hs
        refine signed_in_num (by simpa using hi') ?_
        simp
        omega
      · obtain ⟨n, hn⟩ : ∃ n : Nat, a = -(n : Int) := ⟨a.natAbs, by omega⟩
        subst hn
        refine signed_in_neg (by omega) (by omega) ?_
        simp
        omega
    | _ => exact hi.elim
  rintro _ ⟨x3, x4, rfl⟩
  have hy : (yZip (List.map (W.d ∘ numD) as) (List.map W.d ds)).length = as.length := by simp [yZip, hlen]
  rw [hy]
  simp [cut_hd]
  rw [in_nl', inW_non']
  simp [bR]
  refine ⟨?_, by omega, q⟩
  intros; rfl
end NV.LB

namespace NV.LB
open PySem PySem.Spec PyProof.Rows L2 NV TL
/-- the words of an order -/
def ordW (z : Str) (as : List Int) : List Str := z :: as.map numS
@[simp ↓] theorem strX_t {z : Str} {P : R → Prop} : Ev (hStrX [.at (.str z)]) P ↔ P (.val (.d (.str z))) := ev_some'
@[simp ↓] theorem strX_i {i : Int} {P : R → Prop} : Ev (hStrX [.at (.int i)]) P ↔ i.natAbs.log2 < 1920 ∧ P (.val (.d (.str (toString i)))) := by
  show Ev (if i.natAbs.log2 < 1920 then some (.val (.d (.str (toString i)))) else none) P ↔ _
  rw [ev_ite']
  by_cases h : i.natAbs.log2 < 1920
  · rw [if_pos h, ev_some']; exact ⟨fun q => ⟨h, q⟩, fun q => q.2⟩
  · rw [if_neg h, ev_none']; exact ⟨False.elim, fun q => h q.1⟩
theorem log_lt {n : Nat} (h : n < 10 ^ 9) : n.log2 < 1920 := by
  by_cases h0 : n = 0
  · subst h0; decide
  · exact (Nat.log2_lt h0).mpr (Nat.lt_of_lt_of_le h (Nat.le_trans (by decide : 10 ^ 9 ≤ 2 ^ 30) (Nat.pow_le_pow_right (by decide) (by decide))))
def strD : D → D
  | .int i => .str (numS i)
  | d => d
theorem order_row_ev {z : Str} {as : List Int} {Q : R → Prop} (hz : z.length ≤ 100) (hn : as.length ≤ 4) (hb : ∀ a ∈ as, a.natAbs < 10 ^ 9) (hl : ∀ a ∈ as, (numS a).length ≤ 100) (q : Q (.val (.d (.str (Txt.join (Str.ofString " ") (ordW z as)))))) : Ev (callP F_order_row [.tup (.str z :: as.map .int)]) Q := by
  rw [ev_callP]
  simp [F_order_row]
  unfold h_order_row
  simp
  have e : (Y.one (W.d (D.str z)) :: List.map ((fun d => Y.one (W.d d)) ∘ D.int) as) = ((D.str z :: as.map D.int).map fun d => Y.one (W.d d)) := by simp
  rw [e]
  refine lc_w (W.d ∘ strD) (fun _ => true) (by simp; omega) ?_ ?_
  · intro d hd
    simp at hd
    rcases hd with rfl | ⟨a, ha, rfl⟩
    · simp [LcS]
      simp [strD]
    · simp [LcS, numS, strD, log_lt (hb a ha)]
  · have e2 : ((D.str z :: as.map D.int).filter fun _ => true).map (W.d ∘ strD) = (ordW z as).map (W.d ∘ D.str) := by
      rw [List.filter_eq_self.mpr (by simp)]
      simp [ordW, strD]
    rw [e2]
    simp
    refine ⟨?_, q⟩
    have hs : ∀ (l : List Str), (∀ s ∈ l, s.length ≤ 100) → (l.map fun x => x.length).sum ≤ 100 * l.length := by
      intro l
      induction l with
      | nil => intro _; simp
      | cons s l ih => intro h; have := ih fun x hx => h x (by simp [hx]); have := h s (by simp); simp; omega
    have h1 := hs (ordW z as) (by
      intro s hs
      simp [ordW] at hs
      rcases hs with rfl | ⟨a, ha, rfl⟩
      · exact hz
      · exact hl a ha)
    have h2 : (ordW z as).length ≤ 5 := by simp [ordW]; omega
    have h3 : (Str.ofString " ").length = 1 := rfl
    rw [h3]
    omega
end NV.LB

namespace NV.LB
open PySem PySem.Spec PyProof.Rows L2 NV TL
/-- a room of a sheet: share, place, rule, writing -/
structure ShR where
  sh : Nat
  pl : Nat
  ru : Str
  wr : Str
def ShR.d (r : ShR) : D := .tup [.int r.sh, .int r.pl, .str r.ru, .str r.wr]
def ShR.ws (r : ShR) : List Str := [Str.ofString "room", numS r.sh, numS r.pl, r.ru, r.wr]
def ShR.row (r : ShR) : Str := Txt.join (Str.ofString " ") r.ws
def ShR.ok (r : ShR) : Prop := r.sh < 10 ^ 9 ∧ r.pl < 10 ^ 9 ∧ (numS r.sh).length ≤ 100 ∧ (numS r.pl).length ≤ 100 ∧ r.ru.length ≤ 100 ∧ r.wr.length ≤ 100
def planW (sz : Nat) (kd : Str) (rs : List ShR) : List Str := [Str.ofString "size " ++ numS sz, Str.ofString "kind " ++ kd] ++ rs.map ShR.row
theorem plan_rows_ev {sz : Nat} {kd : Str} {rs : List ShR} {Q : R → Prop} (h0 : sz < 10 ^ 9) (hs : (numS sz).length ≤ 100) (hk : kd.length ≤ 100) (h1 : rs.length ≤ 4) (hr : ∀ r ∈ rs, r.ok) (q : Q (.new (.lst ((planW sz kd rs).map (W.d ∘ D.str))))) : Ev (callP F_plan_rows [.tup [.int sz, .str kd, .tup (rs.map ShR.d)]]) Q := by
  rw [ev_callP]
  simp [F_plan_rows]
  unfold h_plan_rows
  simp
  have l5 : (Str.ofString "size ").length = 5 := rfl
  have l6 : (Str.ofString "kind ").length = 5 := rfl
  have hs' : (Str.ofString (sz : Int).repr).length ≤ 100 := hs
  refine ⟨log_lt h0, by omega, by omega, ?_⟩
  have e : List.map ((fun d => Y.one (W.d d)) ∘ ShR.d) rs = rs.map fun r => Y.one (W.d r.d) := rfl
  rw [e]
  refine lc_w (fun r => W.d (.str r.row)) (fun _ => true) (by omega) ?_ ?_
  · intro r hrr
    obtain ⟨a1, a2, a3, a4, a5, a6⟩ := hr r hrr
    simp [LcS, ShR.d]
    have e1 : [Y.one (W.d (D.int r.sh)), Y.one (W.d (D.int r.pl)), Y.one (W.d (D.str r.ru)), Y.one (W.d (D.str r.wr))] = ([D.int r.sh, D.int r.pl, D.str r.ru, D.str r.wr].map fun d => Y.one (W.d d)) := rfl
    try rw [e1]
    refine lc_w (W.d ∘ strD) (fun _ => true) (by simp) ?_ ?_
    · intro d hd
      simp at hd
      rcases hd with rfl | rfl | rfl | rfl <;> simp [LcS, numS, strD, log_lt a1, log_lt a2]
    · simp [strD]
      have l7 : (Str.ofString "room").length = 4 := rfl
      have l8 : (Str.ofString " ").length = 1 := rfl
      exact ⟨by omega, rfl⟩
  · rw [List.filter_eq_self.mpr (by simp)]
    have e3 : rs.map (fun r => W.d (D.str r.row)) = (rs.map fun r => D.str r.row).map W.d := by simp
    refine ⟨by simp; omega, ?_, ?_⟩
    · show (Nd.dat (.lst (rs.map fun r => W.d (D.str r.row)))).isSome = true
      rw [e3]
      show (Option.map D.lst (dats ((rs.map fun r => D.str r.row).map W.d))).isSome = true
      rw [dats_map]
      rfl
    · have e4 : (planW sz kd rs).map (W.d ∘ D.str) = W.d (D.str (Str.ofString "size " ++ Str.ofString (sz : Int).repr)) :: W.d (D.str (Str.ofString "kind " ++ kd)) :: rs.map (fun r => W.d (D.str r.row)) := by
        simp [planW, numS]
      rw [← e4]
      exact q
end NV.LB

namespace NV.LB
open PySem PySem.Spec PyProof.Rows L2 NV TL
/-- the sheet's node -/
def shN (si ki : D) (a b : Nat) : Nd := .ins "Sheet" [("size", .d si), ("kind", .d ki), ("rooms", .obj a), ("orders", .obj b)]
/-- what a sheet has: size, kind, rooms, orders -/
structure ShS where
  si : D
  ki : D
  rs : List D
  os : List D
/-- the sheet in the store -/
structure ShAt (st : Sto) (n a b : Nat) (s : ShS) : Prop where
  top : st[n]? = some (some (shN s.si s.ki a b))
  rm : st[a]? = some (some (.lst (s.rs.map W.d)))
  od : st[b]? = some (some (.lst (s.os.map W.d)))
  na : n ≠ a
  nb : n ≠ b
  ab : a ≠ b
theorem lt_of' {α : Type} {l : List α} {i : Nat} {x : α} (h : l[i]? = some x) : i < l.length := (List.getElem?_eq_some_iff.mp h).1
/-- what stays -/
def ShK (st st' : Sto) (n a b : Nat) : Prop := st'.length = st.length ∧ ∀ i, i ≠ n → i ≠ a → i ≠ b → st'[i]? = st[i]?
theorem ShAt.setN {st : Sto} {n a b : Nat} {s : ShS} (h : ShAt st n a b s) (si ki : D) : ShAt (st.set n (some (shN si ki a b))) n a b { s with si := si, ki := ki } ∧ ShK st (st.set n (some (shN si ki a b))) n a b :=
  ⟨⟨List.getElem?_set_self (lt_of' h.top), by rw [List.getElem?_set_ne h.na]; exact h.rm, by rw [List.getElem?_set_ne h.nb]; exact h.od, h.na, h.nb, h.ab⟩, by simp, fun i h1 h2 h3 => List.getElem?_set_ne (Ne.symm h1)⟩
theorem ShAt.setA {st : Sto} {n a b : Nat} {s : ShS} (h : ShAt st n a b s) (rs : List D) : ShAt (st.set a (some (.lst (rs.map W.d)))) n a b { s with rs := rs } ∧ ShK st (st.set a (some (.lst (rs.map W.d)))) n a b :=
  ⟨⟨by rw [List.getElem?_set_ne (Ne.symm h.na)]; exact h.top, List.getElem?_set_self (lt_of' h.rm), by rw [List.getElem?_set_ne h.ab]; exact h.od, h.na, h.nb, h.ab⟩, by simp, fun i h1 h2 h3 => List.getElem?_set_ne (Ne.symm h2)⟩
theorem ShAt.setB {st : Sto} {n a b : Nat} {s : ShS} (h : ShAt st n a b s) (os : List D) : ShAt (st.set b (some (.lst (os.map W.d)))) n a b { s with os := os } ∧ ShK st (st.set b (some (.lst (os.map W.d)))) n a b :=
  ⟨⟨by rw [List.getElem?_set_ne (Ne.symm h.nb)]; exact h.top, by rw [List.getElem?_set_ne (Ne.symm h.ab)]; exact h.rm, List.getElem?_set_self (lt_of' h.od), h.na, h.nb, h.ab⟩, by simp, fun i h1 h2 h3 => List.getElem?_set_ne (Ne.symm h3)⟩
theorem takes_size_ev {n a b m : Nat} {s : ShS} {Q : R × Sto → Prop} {st : Sto} (h : ShAt st n a b s) (h0 : 1 ≤ m) (h1 : m ≤ 16) (q : Q (.val (.d (.bl true)), st.set n (some (shN (.int m) s.ki a b)))) : Ev (F_Sheet_takes_size [.obj n, .d (.lst [.str "size", numD m])] st) Q := by
  unfold F_Sheet_takes_size
  simp
  unfold h_Sheet_takes_size
  simp
  refine number_in_num (by omega) (by omega) (by omega) ?_
  simp
  refine ⟨_, h.top, _, rfl, ?_⟩
  unfold shN
  refine ⟨_, rfl, by simp, ?_⟩
  unfold SetK
  refine ⟨_, List.getElem?_set_self (lt_of' h.top), _, rfl, ?_⟩
  refine ⟨_, _, rfl, rfl, ?_⟩
  simp
  exact q
theorem takes_kind_ev {n a b : Nat} {kd : Str} {s : ShS} {Q : R × Sto → Prop} {st : Sto} (h : ShAt st n a b s) (hk : kd = "within" ∨ kd = "apart" ∨ kd = "free") (q : Q (.val (.d (.bl true)), st.set n (some (shN s.si (.str kd) a b)))) : Ev (F_Sheet_takes_kind [.obj n, .d (.lst [.str "kind", .str kd])] st) Q := by
  unfold F_Sheet_takes_kind
  simp
  unfold h_Sheet_takes_kind
  simp
  have e1 : inW (W.d (D.str kd)) [W.d (D.str (Str.ofString "within")), W.d (D.str (Str.ofString "apart")), W.d (D.str (Str.ofString "free"))] = true := by
    rcases hk with rfl | rfl | rfl <;> decide
  rw [e1]
  simp
  refine ⟨⟨rfl, rfl, rfl⟩, ?_⟩
  refine ⟨_, h.top, _, rfl, ?_⟩
  unfold shN
  refine ⟨_, rfl, by simp, ?_⟩
  unfold SetK
  refine ⟨_, List.getElem?_set_self (lt_of' h.top), _, rfl, ?_⟩
  refine ⟨_, _, rfl, rfl, ?_⟩
  simp
  exact q
/-- an order of a sheet -/
structure Od where
  z : Str
  as : List Int
def Od.d (o : Od) : D := .tup (.str o.z :: o.as.map .int)
def Od.ok (o : Od) : Prop := ∃ ds, bndT.lookup o.z = some ds ∧ Paired inB o.as ds
theorem bnd_mem {z : Str} {ds : List D} (h : bndT.lookup z = some ds) : (z, ds) ∈ bndT := by
  have : ∀ (l : List (Str × List D)), l.lookup z = some ds → (z, ds) ∈ l := by
    intro l
    induction l with
    | nil => intro h; cases h
    | cons x l ih =>
      intro h
      rw [List.lookup_cons] at h
      split at h
      · rename_i hx
        cases h
        have : z = x.1 := by simpa using hx
        rw [this]
        exact List.mem_cons_self
      · exact List.mem_cons_of_mem _ (ih h)
  exact this _ h
theorem Od.len {o : Od} (h : o.ok) : o.as.length ≤ 2 := by
  obtain ⟨ds, h1, h2⟩ := h
  rw [h2.length]
  have := bnd_mem h1
  simp [bndT] at this
  rcases this with ⟨-, rfl⟩ | ⟨-, rfl⟩ | ⟨-, rfl⟩ | ⟨-, rfl⟩ | ⟨-, rfl⟩ | ⟨-, rfl⟩ | ⟨-, rfl⟩ | ⟨-, rfl⟩ | ⟨-, rfl⟩ <;> simp
theorem Od.key {o : Od} (h : o.ok) : o.z ∈ (["read", "write", "empty", "lies", "changed", "order", "words", "memory", "tally"] : List Str) := by
  obtain ⟨ds, h1, h2⟩ := h
  have := bnd_mem h1
  simp [bndT] at this
  rcases this with ⟨e, -⟩ | ⟨e, -⟩ | ⟨e, -⟩ | ⟨e, -⟩ | ⟨e, -⟩ | ⟨e, -⟩ | ⟨e, -⟩ | ⟨e, -⟩ | ⟨e, -⟩ <;> simp [e]
/-- one row of a sheet taken -/
inductive ShGo : ShS → List Str → ShS → Prop
  | size {m : Nat} (h0 : 1 ≤ m) (h1 : m ≤ 16) : ShGo ⟨.non, .non, [], []⟩ ["size", numS m] ⟨.int m, .non, [], []⟩
  | kind {m : Int} {kd : Str} (hk : kd = "within" ∨ kd = "apart" ∨ kd = "free") : ShGo ⟨.int m, .non, [], []⟩ ["kind", kd] ⟨.int m, .str kd, [], []⟩
  | room {m : Int} {kd : Str} {rs : List D} {r : ShR} (hl : rs.length < 4) (h1 : 1 ≤ r.sh ∧ r.sh ≤ 64) (h2 : 1 ≤ r.pl ∧ r.pl ≤ 16) (h3 : r.ru = "old" ∨ r.ru = "come" ∨ r.ru = "few") (h4 : r.wr = "late" ∨ r.wr = "through") : ShGo ⟨.int m, .str kd, rs, []⟩ r.ws ⟨.int m, .str kd, rs ++ [r.d], []⟩
  | order {m : Int} {kd : Str} {rs os : List D} {o : Od} (hl : rs ≠ []) (hr : rs.length ≤ 4) (ho : o.ok) (hn : os.length < 1000) : ShGo ⟨.int m, .str kd, rs, os⟩ (ordW o.z o.as) ⟨.int m, .str kd, rs, os ++ [o.d]⟩
theorem takes_ev {n a b : Nat} {s s' : ShS} {ps : List Str} {Q : R × Sto → Prop} {st : Sto} (go : ShGo s ps s') (h : ShAt st n a b s) (q : ∀ st', ShAt st' n a b s' → ShK st st' n a b → Q (.val (.d (.bl true)), st')) : Ev (F_Sheet_takes [.obj n, .d (.lst (ps.map .str))] st) Q := by
  unfold F_Sheet_takes
  simp
  unfold h_Sheet_takes
  cases go with
  | size h0 h1 =>
    simp
    refine ⟨_, h.top, _, rfl, ⟨_, _, rfl, rfl, ?_⟩⟩
    simp
    refine ⟨_, h.top, _, rfl, ⟨_, rfl, rfl⟩, ?_⟩
    refine takes_size_ev h h0 h1 ?_
    obtain ⟨h2, h3⟩ := h.setN (.int _) .non
    exact q _ h2 h3
  | kind hk =>
    simp
    refine ⟨_, h.top, _, rfl, ⟨_, _, rfl, rfl, ?_⟩⟩
    simp
    refine ⟨_, h.top, _, rfl, ⟨_, _, rfl, rfl, ?_⟩⟩
    simp
    refine ⟨_, h.top, _, rfl, ⟨_, rfl, rfl⟩, ?_⟩
    refine takes_kind_ev h hk ?_
    obtain ⟨h2, h3⟩ := h.setN (.int _) (.str _)
    exact q _ h2 h3
  | @room m kd rs r hl h1 h2 h3 h4 =>
    simp [ShR.ws]
    refine ⟨_, h.top, _, rfl, ⟨_, _, rfl, rfl, ?_⟩⟩
    simp
    refine ⟨_, h.top, _, rfl, ⟨_, _, rfl, rfl, ?_⟩⟩
    simp
    refine ⟨_, h.top, _, rfl, ⟨_, _, rfl, rfl, ?_⟩⟩
    simp
    refine ⟨_, h.od, _, rfl, ?_⟩
    simp
    refine (eq_ints_nil (l := [])).mpr ?_
    simp
    refine ⟨_, h.top, _, rfl, ⟨_, _, rfl, rfl, ?_⟩⟩
    simp
    refine ⟨_, h.rm, _, rfl, ?_⟩
    simp
    rw [if_pos (by omega)]
    refine room_in_ev h1 h2 h3 h4 ?_
    simp
    refine ⟨_, h.top, _, rfl, ⟨_, _, rfl, rfl, ?_⟩⟩
    simp
    refine ⟨_, h.rm, _, rfl, ?_⟩
    simp
    refine ⟨_, h.rm, _, rfl, ?_⟩
    simp
    refine ⟨by omega, ?_⟩
    unfold SetK
    have hA := h.setA (rs ++ [r.d])
    simp at hA
    exact q _ hA.1 hA.2
  | @order m kd rs os o hl hr ho hn =>
    simp [ordW]
    refine ⟨_, h.top, _, rfl, ⟨_, _, rfl, rfl, ?_⟩⟩
    simp
    refine ⟨_, h.top, _, rfl, ⟨_, _, rfl, rfl, ?_⟩⟩
    simp
    have hz : ¬ (o.z = Str.ofString "room") := fun e => by
      have := Od.key ho
      rw [e] at this
      revert this
      decide
    rw [if_neg hz]
    refine ⟨_, h.top, _, rfl, ⟨_, _, rfl, rfl, ?_⟩⟩
    simp
    refine ⟨_, h.rm, _, rfl, ?_⟩
    simp
    rw [if_pos (by exact List.length_pos_iff.mpr hl)]
    obtain ⟨ds, ho1, ho2⟩ := id ho
    have hle := Od.len ho
    have e9 : ∀ as : List Int, as.map (D.str ∘ numS) = as.map numD := fun as => rfl
    rw [e9]
    refine order_in_ev ho1 ho2 (by omega) ?_
    simp
    refine ⟨_, h.top, _, rfl, ⟨_, _, rfl, rfl, ?_⟩⟩
    simp
    refine ⟨_, h.od, _, rfl, ?_⟩
    simp
    refine ⟨_, h.od, _, rfl, ?_⟩
    simp
    refine ⟨by omega, ?_⟩
    unfold SetK
    have hB := h.setB (os ++ [o.d])
    simp at hB
    exact q _ hB.1 hB.2
end NV.LB

namespace NV.LB
open PySem PySem.Spec PyProof.Rows L2 NV TL
/-! ### sheets: written rows, split again -/
theorem join_free {y : Str} {c : Nat} (hy : c ∉ tl y) : ∀ {ps : List Str}, (∀ p ∈ ps, c ∉ tl p) → c ∉ tl (Str.join y ps)
  | [], _ => by
    show c ∉ tl (Str.empty)
    have e : tl Str.empty = [] := by decide
    rw [e]; simp
  | [x], h => h x (by simp)
  | x :: z :: r, h => by
    show c ∉ tl (x ++ y ++ Str.join y (z :: r))
    rw [tl_append, tl_append]
    have h1 := h x (by simp)
    have h2 := join_free hy (ps := z :: r) fun p hp => h p (by simp at hp ⊢; rcases hp with hp | hp <;> simp [hp])
    simp only [List.mem_append]
    exact fun q => q.elim (fun q => q.elim h1 hy) h2
theorem join_len {y : Str} : ∀ {ps : List Str}, (Str.join y ps).length ≤ (ps.map fun x => x.length).sum + ps.length * y.length
  | [] => by
    have e : (Str.empty).length = 0 := by decide
    show (Str.empty).length ≤ _
    rw [e]; omega
  | [x] => by simp [Str.join]
  | x :: z :: r => by
    show (x ++ y ++ Str.join y (z :: r)).length ≤ _
    have h := join_len (y := y) (ps := z :: r)
    have e : (x ++ y ++ Str.join y (z :: r)).length = x.length + y.length + (Str.join y (z :: r)).length := by
      rw [len_tl, tl_append, tl_append, List.length_append, List.length_append, ← len_tl, ← len_tl, ← len_tl]
    rw [e]
    simp only [List.map_cons, List.sum_cons, List.length_cons] at h ⊢
    have : (r.length + 1 + 1) * y.length = (r.length + 1) * y.length + y.length := by rw [Nat.add_mul, Nat.one_mul]
    omega
theorem split_nil : Txt.split "" " " = ([""] : List Str) := by
  have h := split_row (parts := ([""] : List Str)) (by simp) (by intro p hp; simp at hp; subst hp; decide)
  rw [join_eq] at h
  exact h
theorem row_ne {row : Str} {ps : List Str} (h : Txt.split row " " = ps) (hp : ps ≠ ([""] : List Str)) : row ≠ "" := fun e => hp (by rw [← h, e]; exact split_nil)
theorem num_free (n : Int) : 32 ∉ tl (numS n) ∧ 10 ∉ tl (numS n) := ⟨num_no (by decide) n, num_no (by decide) n⟩
theorem str_free {l : List Str} (h : (l.all fun z => !(tl z).contains 32 && !(tl z).contains 10) = true) {z : Str} (hz : z ∈ l) : 32 ∉ tl z ∧ 10 ∉ tl z := by
  have := List.all_eq_true.mp h z hz
  simpa using this
theorem kd_free {kd : Str} (hk : kd = "within" ∨ kd = "apart" ∨ kd = "free") : 32 ∉ tl kd ∧ 10 ∉ tl kd := str_free (l := ["within", "apart", "free"]) (by decide) (by rcases hk with rfl | rfl | rfl <;> simp)
theorem size_row (n : Int) : Str.ofString "size " ++ numS n = Txt.join " " ["size", numS n] := by
  rw [join_eq]
  show _ = Str.ofString "size" ++ Str.ofString " " ++ numS n
  refine ext_tl ?_
  rw [tl_append, tl_append, tl_append]
  rfl
theorem kind_row (kd : Str) : Str.ofString "kind " ++ kd = Txt.join " " ["kind", kd] := by
  rw [join_eq]
  show _ = Str.ofString "kind" ++ Str.ofString " " ++ kd
  refine ext_tl ?_
  rw [tl_append, tl_append, tl_append]
  rfl
/-- the words of a row of a sheet -/
inductive RowW : List Str → Prop
  | size (m : Nat) : RowW ["size", numS m]
  | kind {kd : Str} (hk : kd = "within" ∨ kd = "apart" ∨ kd = "free") : RowW ["kind", kd]
  | room {r : ShR} (h3 : r.ru = "old" ∨ r.ru = "come" ∨ r.ru = "few") (h4 : r.wr = "late" ∨ r.wr = "through") : RowW r.ws
  | order {o : Od} (ho : o.ok) : RowW (ordW o.z o.as)
theorem RowW.free {ps : List Str} (h : RowW ps) : ∀ p ∈ ps, 32 ∉ tl p ∧ 10 ∉ tl p := by
  cases h with
  | size m =>
    intro p hp
    simp at hp
    rcases hp with rfl | rfl
    · exact str_free (l := ["size"]) (by decide) (by simp)
    · exact num_free _
  | kind hk =>
    intro p hp
    simp at hp
    rcases hp with rfl | rfl
    · exact str_free (l := ["kind"]) (by decide) (by simp)
    · exact kd_free hk
  | room h3 h4 =>
    intro p hp
    simp [ShR.ws] at hp
    rcases hp with rfl | rfl | rfl | rfl | rfl
    · exact str_free (l := ["room"]) (by decide) (by simp)
    · exact num_free _
    · exact num_free _
    · exact str_free (l := ["old", "come", "few"]) (by decide) (by rcases h3 with h | h | h <;> simp [h])
    · exact str_free (l := ["late", "through"]) (by decide) (by rcases h4 with h | h <;> simp [h])
  | order ho =>
    intro p hp
    simp [ordW] at hp
    rcases hp with rfl | ⟨a, _, rfl⟩
    · exact str_free (l := ["read", "write", "empty", "lies", "changed", "order", "words", "memory", "tally"]) (by decide) (Od.key ho)
    · exact num_free _
theorem RowW.ne {ps : List Str} (h : RowW ps) : ps ≠ [] ∧ ps ≠ ([""] : List Str) := by
  cases h with
  | size m => simp
  | kind hk => simp
  | room h3 h4 => simp [ShR.ws]
  | @order o ho =>
    refine ⟨by simp [ordW], fun e => ?_⟩
    have hz : o.z = "" := by simp [ordW] at e; exact e.1
    have := Od.key ho
    rw [hz] at this
    revert this
    decide
abbrev rowT (ps : List Str) : Str := Txt.join " " ps
theorem RowW.split {ps : List Str} (h : RowW ps) : Txt.split (rowT ps) " " = ps := split_row h.ne.1 fun p hp => (h.free p hp).1
theorem RowW.no {ps : List Str} (h : RowW ps) : 10 ∉ tl (rowT ps) := by
  unfold rowT
  rw [join_eq]
  exact join_free (by decide) fun p hp => (h.free p hp).2
theorem RowW.rowne {ps : List Str} (h : RowW ps) : rowT ps ≠ "" := row_ne h.split h.ne.2
/-! ### rows taken one behind the other -/
inductive ShRun : ShS → List (List Str) → ShS → Prop
  | nil {s : ShS} : ShRun s [] s
  | cons {s s1 s2 : ShS} {p : List Str} {l : List (List Str)} (h : ShGo s p s1) (r : ShRun s1 l s2) : ShRun s (p :: l) s2
def ShR.fit (r : ShR) : Prop := (1 ≤ r.sh ∧ r.sh ≤ 64) ∧ (1 ≤ r.pl ∧ r.pl ≤ 16) ∧ (r.ru = "old" ∨ r.ru = "come" ∨ r.ru = "few") ∧ (r.wr = "late" ∨ r.wr = "through")
theorem rooms_run {m : Int} {kd : Str} {l : List (List Str)} {e : ShS} : ∀ (rs : List ShR) (acc : List D), acc.length + rs.length ≤ 4 → (∀ r ∈ rs, r.fit) → ShRun ⟨.int m, .str kd, acc ++ rs.map ShR.d, []⟩ l e → ShRun ⟨.int m, .str kd, acc, []⟩ (rs.map ShR.ws ++ l) e
  | [], acc, _, _, h => by simpa using h
  | r :: rs, acc, hl, hr, h => by
    obtain ⟨h1, h2, h3, h4⟩ := hr r (by simp)
    simp at hl
    refine .cons (.room (by omega) h1 h2 h3 h4) (rooms_run rs (acc ++ [r.d]) (by simp; omega) (fun x hx => hr x (by simp [hx])) ?_)
    simpa using h
theorem orders_run {m : Int} {kd : Str} {rs : List D} (hl : rs ≠ []) (h4 : rs.length ≤ 4) : ∀ (os : List Od) (acc : List D), acc.length + os.length ≤ 1000 → (∀ o ∈ os, o.ok) → ShRun ⟨.int m, .str kd, rs, acc⟩ (os.map fun o => ordW o.z o.as) ⟨.int m, .str kd, rs, acc ++ os.map Od.d⟩
  | [], acc, _, _ => by simpa using ShRun.nil
  | o :: os, acc, hn, ho => by
    simp at hn
    have h := orders_run (m := m) (kd := kd) hl h4 os (acc ++ [o.d]) (by simp; omega) (fun x hx => ho x (by simp [hx]))
    simp at h
    exact .cons (.order hl h4 (ho o (by simp)) (by omega)) (by simpa using h)
/-- the words of the rows of a sheet -/
def sheetW (sz : Nat) (kd : Str) (rs : List ShR) (os : List Od) : List (List Str) := ["size", numS sz] :: ["kind", kd] :: (rs.map ShR.ws ++ os.map fun o => ordW o.z o.as)
theorem sheet_run {sz : Nat} {kd : Str} {rs : List ShR} {os : List Od} (h0 : 1 ≤ sz ∧ sz ≤ 16) (hk : kd = "within" ∨ kd = "apart" ∨ kd = "free") (h1 : 1 ≤ rs.length ∧ rs.length ≤ 4) (hr : ∀ r ∈ rs, r.fit) (hn : os.length ≤ 1000) (ho : ∀ o ∈ os, o.ok) : ShRun ⟨.non, .non, [], []⟩ (sheetW sz kd rs os) ⟨.int sz, .str kd, rs.map ShR.d, os.map Od.d⟩ := by
  refine .cons (.size h0.1 h0.2) (.cons (.kind hk) (rooms_run rs [] (by simp; exact h1.2) hr ?_))
  have h := orders_run (m := sz) (kd := kd) (rs := [] ++ rs.map ShR.d) (by simp; intro z; rw [z] at h1; simp at h1) (by simpa using h1.2) os [] (by simpa using hn) ho
  simpa using h
theorem sheet_rows {sz : Nat} {kd : Str} {rs : List ShR} {os : List Od} (hk : kd = "within" ∨ kd = "apart" ∨ kd = "free") (hr : ∀ r ∈ rs, r.fit) (ho : ∀ o ∈ os, o.ok) : ∀ p ∈ sheetW sz kd rs os, RowW p := by
  intro p hp
  simp [sheetW] at hp
  rcases hp with rfl | rfl | ⟨r, hr', rfl⟩ | ⟨o, ho', rfl⟩
  · exact .size sz
  · exact .kind hk
  · exact .room (hr r hr').2.2.1 (hr r hr').2.2.2
  · exact .order (ho o ho')
end NV.LB

namespace NV.LB
open PySem PySem.Spec PyProof.Rows L2 NV TL
/-! ### a sheet read -/
def rowsOf (z : Str) : List Str := Txt.split z "\n"
def partsOf (rows : List Str) : List (List Str) := (rows.filter fun r : Str => !decide (r = "")).map fun r => Txt.split r " "
theorem read_sheet_ev {z : Str} {sz : Int} {kd : Str} {rs os : List D} {st : Sto} {Q : R × Sto → Prop} (hz : z.length + 2 ≤ sizeLine) (hl : ∀ r ∈ rowsOf z, r.length + 2 ≤ sizeLine)
    (hrun : ShRun ⟨.non, .non, [], []⟩ (partsOf (rowsOf z)) ⟨.int sz, .str kd, rs, os⟩) (h1 : 1 ≤ rs.length ∧ rs.length ≤ 4) (hrows : (rowsOf z).length ≤ 1000)
    (q : ∀ st', (∀ i, i < st.length → st'[i]? = st[i]?) → st'[st.length + 2]? = some (some (.lst (os.map W.d))) → st'.length = st.length + 3 → Q (.val (.tp [.inl (.tup [.int sz, .str kd, .tup rs]), .inr (st.length + 2)]), st')) : Ev (F_read_sheet [.d (.str z)] st) Q := by
  unfold F_read_sheet
  simp
  unfold h_read_sheet
  obtain ⟨n, hn⟩ : ∃ n, n = st.length := ⟨_, rfl⟩
  refine eo_cut (I := fun s => ∃ st1, s = ⟨[some (W.d (.str z)), some (W.obj n), none, none, none], st1⟩ ∧ ShAt st1 n (n + 1) (n + 2) ⟨.non, .non, [], []⟩ ∧ (∀ i, i < n → st1[i]? = st[i]?) ∧ st1.length = n + 3) ?_ ?_
  · simp
    rw [lenk_v, appk_v]
    unfold F_Sheet___init__
    simp
    unfold h_Sheet___init__
    simp
    refine ⟨_, rfl, by simp, ?_⟩
    refine ⟨_, rfl, by decide, ?_⟩
    refine ⟨_, rfl, by decide, ?_⟩
    dsimp only
    rw [lenk_v, appk_v]
    refine ⟨_, by simp; rfl, _, rfl, ?_⟩
    refine ⟨_, rfl, (show (3 : Nat) < 1000 by decide), ?_⟩
    unfold SetK
    refine ⟨_, ⟨hn.symm, rfl⟩, ⟨?_, ?_, ?_, by omega, by omega, by omega⟩, fun i hi => ?_, ?_⟩
    · subst hn
      simp
      rfl
    · subst hn
      simp
    · subst hn
      simp
    · subst hn
      rw [List.getElem?_set_ne (by omega), List.append_assoc, List.getElem?_append_left hi]
    · subst hn
      simp
  rintro _ ⟨st1, rfl, ha, hold, hlen⟩
  obtain ⟨rows, hrw⟩ : ∃ rows, rows = rowsOf z := ⟨_, rfl⟩
  refine eo_cut (I := fun s => s = ⟨[some (W.d (.str z)), some (W.obj n), some (W.d (.lst (rows.map .str))), none, none], st1⟩) ?_ ?_
  · simp
    exact ⟨⟨by decide, by rw [sizeLine_eq] at hz; omega⟩, by rw [hrw]; rfl⟩
  rintro _ rfl
  rw [← hrw] at hl hrun hrows
  refine eo_cut (I := fun s => ∃ c3 c4 st2, s = ⟨[some (W.d (.str z)), some (W.obj n), some (W.d (.lst (rows.map .str))), c3, c4], st2⟩ ∧ ShAt st2 n (n + 1) (n + 2) ⟨.int sz, .str kd, rs, os⟩ ∧ (∀ i, i < n → st2[i]? = st[i]?) ∧ st2.length = n + 3) ?_ ?_
  · simp
    refine forL_inv (fun i s => ∃ c3 c4 st2 s1, s = ⟨[some (W.d (.str z)), some (W.obj n), some (W.d (.lst (rows.map .str))), c3, c4], st2⟩ ∧ ShAt st2 n (n + 1) (n + 2) s1 ∧ ShRun s1 (partsOf (rows.drop i)) ⟨.int sz, .str kd, rs, os⟩ ∧ (∀ i, i < n → st2[i]? = st[i]?) ∧ st2.length = n + 3) _ 0 _ ⟨_, _, _, _, rfl, ha, by simpa using hrun, hold, hlen⟩ ?_ ?_
    · rintro i y s - hy ⟨c3, c4, st2, s1, rfl, h2, hr2, ho2, hl2⟩
      rw [Nat.sub_zero] at hy
      obtain ⟨w, hw, rfl⟩ := yEnum_get hy
      rw [List.getElem?_map] at hw
      obtain ⟨r, hr, rfl⟩ := Option.map_eq_some_iff.mp hw
      have hd : rows.drop i = r :: rows.drop (i + 1) := by
        obtain ⟨hi, e⟩ := List.getElem?_eq_some_iff.mp hr
        rw [← e]
        exact List.drop_eq_getElem_cons hi
      rw [hd] at hr2
      by_cases h0 : r = ""
      · have e : partsOf (r :: rows.drop (i + 1)) = partsOf (rows.drop (i + 1)) := by simp [partsOf, h0]
        rw [e] at hr2
        simp [h0]
        exact ⟨_, _, _, ⟨⟨rfl, rfl⟩, rfl⟩, s1, h2, hr2, ho2, hl2⟩
      · have e : partsOf (r :: rows.drop (i + 1)) = Txt.split r " " :: partsOf (rows.drop (i + 1)) := by simp [partsOf, h0]
        rw [e] at hr2
        cases hr2 with
        | cons go hr3 =>
          simp [h0]
          have hrl := hl r (List.mem_of_getElem? hr)
          rw [sizeLine_eq] at hrl
          refine ⟨_, h2.top, _, rfl, ⟨_, rfl, rfl⟩, ⟨by decide, by omega⟩, ?_⟩
          refine takes_ev go h2 fun st3 h3 k3 => ?_
          simp
          exact ⟨_, _, _, ⟨⟨rfl, rfl⟩, rfl⟩, _, h3, hr3, fun j hj => by rw [k3.2 j (by omega) (by omega) (by omega)]; exact ho2 j hj, by rw [k3.1]; exact hl2⟩
    · rintro s ⟨c3, c4, st2, s1, rfl, h2, hr2, ho2, hl2⟩
      have e0 : rows.drop (0 + (yEnum (List.map (W.d ∘ D.str) rows)).length) = [] := List.drop_eq_nil_of_le (by simp [yEnum])
      rw [e0] at hr2
      cases hr2 with
      | nil => exact ⟨_, _, _, rfl, h2, ho2, hl2⟩
  rintro _ ⟨c3, c4, st2, rfl, h2, ho2, hl2⟩
  simp
  refine ⟨_, h2.top, _, rfl, ⟨_, _, rfl, rfl, ?_⟩⟩
  simp
  refine ⟨_, h2.rm, _, rfl, ?_⟩
  simp
  rw [if_neg (by intro z; rw [z] at h1; simp at h1)]
  refine ⟨_, h2.top, _, rfl, ⟨_, _, rfl, rfl, ?_⟩⟩
  refine ⟨_, h2.top, _, rfl, ⟨_, _, rfl, rfl, ?_⟩⟩
  refine ⟨_, h2.top, _, rfl, ⟨_, _, rfl, rfl, ?_⟩⟩
  simp
  refine ⟨_, h2.rm, _, rfl, ?_⟩
  simp
  refine ⟨_, h2.top, _, rfl, ⟨_, _, rfl, rfl, ?_⟩⟩
  refine ⟨_, rfl, ?_⟩
  dsimp only
  rw [lenk_v]
  refine ⟨by simp, ?_⟩
  subst hn
  exact q st2 ho2 h2.od hl2
end NV.LB

namespace NV.LB
open PySem PySem.Spec PyProof.Rows L2 NV TL
/-! ### sheets: what is drawn -/
noncomputable def h_sheet_word : SF := sSeq (sAsg (eCallB F_take (aConsO (eVar 0) (aCons (eC (.int 4)) (aNil)))) (gN 1)) (sSeq (sAsg (eCallB F_take (aConsO (eVar 0) (aCons (eOp hIx (eLst (aCons (eC (.int 9)) (aCons (eC (.int 99)) (aCons (eC (.int 999)) (aCons (eOp hPow (eC (.int 10)) (eC (.int 9))) (aNil)))))) (eVar 1)) (aNil)))) (gN 2)) (sRet (eOp hIx (eLst (aCons (eVar 2) (aCons (eOp hAdd' (eC (.int 1)) (eVar 2)) (aCons (eOp hSub (eNeg (eC (.int 1))) (eVar 2)) (aCons (eVar 2) (aNil)))))) (eVar 1))))
noncomputable def F_sheet_word : FF := runF 3 h_sheet_word
noncomputable def h_sheet_deed : SF := sSeq (sAsg (eCallB F_take (aConsO (eVar 0) (aCons (eC (.int 9)) (aNil)))) (gN 3)) (sSeq (sAsg (eCa hMin (aCons (eC (.int 9999)) (aCons (eOp hAdd' (eOp hMul (eOp hIx (eVar 2) (eCallB F_take (aConsO (eVar 0) (aCons (eCa hLen (aCons (eVar 2) (aNil))) (aNil))))) (eVar 1)) (eCallB F_take (aConsO (eVar 0) (aCons (eVar 1) (aNil))))) (aNil)))) (gN 4)) (sSeq (sIf (tE (eOp hLt (eVar 3) (eC (.int 4)))) (sRet (eTup (aCons (eC (.str "read")) (aCons (eVar 4) (aNil))))) (sNext)) (sRet (eIf (tE (eOp hLt (eVar 3) (eC (.int 8)))) (eTup (aCons (eC (.str "write")) (aCons (eVar 4) (aCons (eCallB F_sheet_word (aConsO (eVar 0) (aNil))) (aNil))))) (eTup (aCons (eC (.str "empty")) (aNil)))))))
noncomputable def F_sheet_deed : FF := runF 5 h_sheet_deed
noncomputable def h_ask : SF := sSeq (sAsg (eOp hIx (eLst (aCons (eC (.str "lies")) (aCons (eC (.str "changed")) (aCons (eC (.str "order")) (aCons (eC (.str "words")) (aCons (eC (.str "memory")) (aCons (eC (.str "tally")) (aNil)))))))) (eCallB F_take (aConsO (eVar 0) (aCons (eC (.int 6)) (aNil))))) (gN 3)) (sSeq (sAsg (eCa hLen (aCons (eOp hIx (eVar 1) (eC (.int 2))) (aNil))) (gN 4)) (sSeq (sAsg (eOp hIx (eLst (aCons (eCallB F_take (aConsO (eVar 0) (aCons (eVar 4) (aNil)))) (aCons (eCallB F_take (aConsO (eVar 0) (aCons (eVar 4) (aNil)))) (aCons (eVar 4) (aCons (eCallB F_take (aConsO (eVar 0) (aCons (eC (.int 5)) (aNil)))) (aNil)))))) (eCallB F_take (aConsO (eVar 0) (aCons (eC (.int 4)) (aNil))))) (gN 5)) (sSeq (sIf (tE (eOp hEq (eVar 3) (eC (.str "order")))) (sSeq (sAsg (eOp hIx (eOp hIx (eOp hIx (eVar 1) (eC (.int 2))) (eCa hMin (aCons (eVar 5) (aCons (eOp hSub (eVar 4) (eC (.int 1))) (aNil))))) (eC (.int 0))) (gN 6)) (sSeq (sAsg (eLst (aCons (eCallB F_take (aConsO (eVar 0) (aCons (eVar 6) (aNil)))) (aCons (eCa hMin (aCons (eC (.int 63)) (aCons (eVar 6) (aNil)))) (aCons (eC (.int 63)) (aNil))))) (gN 2)) (sRet (eTup (aCons (eVar 3) (aCons (eVar 5) (aCons (eOp hIx (eVar 2) (eCa hMax (aCons (eC (.int 0)) (aCons (eOp hSub (eCallB F_take (aConsO (eVar 0) (aCons (eC (.int 4)) (aNil)))) (eC (.int 1))) (aNil))))) (aNil)))))))) (sNext)) (sSeq (sIf (tE (eOp hEq (eVar 3) (eC (.str "words")))) (sRet (eTup (aCons (eVar 3) (aCons (eVar 5) (aCons (eOp hIx (eLst (aCons (eOp hIx (eVar 2) (eCallB F_take (aConsO (eVar 0) (aCons (eCa hLen (aCons (eVar 2) (aNil))) (aNil))))) (aCons (eOp hIx (eVar 2) (eC (.int 0))) (aCons (eCallB F_take (aConsO (eVar 0) (aCons (eC (.int 10000)) (aNil)))) (aCons (eC (.int 9999)) (aNil)))))) (eCallB F_take (aConsO (eVar 0) (aCons (eC (.int 4)) (aNil))))) (aNil)))))) (sNext)) (sRet (eIf (tE (eOp hIn (eVar 3) (eTup (aCons (eC (.str "lies")) (aCons (eC (.str "changed")) (aNil)))))) (eTup (aCons (eVar 3) (aCons (eVar 5) (aNil)))) (eTup (aCons (eVar 3) (aNil)))))))))
noncomputable def F_ask : FF := runF 7 h_ask
noncomputable def h_orders : SF := sSeq (sPar 3 4 (aCons (eCallB F_some_boards (aConsO (eVar 0) (aCons (eOp hIx (eVar 1) (eC (.int 0))) (aNil)))) (aConsO (eLst (aNil)) (aNil)))) (sSeq (sFor (iR1 (aCons (eCallB F_many (aConsO (eVar 0) (aCons (eC (.int 30)) (aCons (eVar 2) (aNil))))) (aNil))) (gN 5) (sExpr (eLm lAppend (eVar 4) (aCons (eIf (tE (eOp hEq (eCallB F_take (aConsO (eVar 0) (aCons (eC (.int 2)) (aNil)))) (eC (.int 0)))) (eCallB F_sheet_deed (aConsO (eVar 0) (aCons (eOp hIx (eVar 1) (eC (.int 0))) (aCons (eVar 3) (aNil))))) (eCallB F_ask (aConsO (eVar 0) (aCons (eVar 1) (aCons (eVar 3) (aNil)))))) (aNil))))) (sRet (eVar 4)))
noncomputable def F_orders : FF := runF 6 h_orders
noncomputable def h_spaced : SF := sSeq (sAsgO (eCa hList (aCons (eVar 1) (aNil))) (gN 2)) (sSeq (sFor (iR1 (aCons (eOp hIx (eLst (aCons (eC (.int 0)) (aCons (eC (.int 0)) (aCons (eC (.int 1)) (aCons (eCallB F_take (aConsO (eVar 0) (aCons (eC (.int 6)) (aNil)))) (aNil)))))) (eCallB F_take (aConsO (eVar 0) (aCons (eC (.int 4)) (aNil))))) (aNil))) (gN 3) (sExpr (eLm lInsert (eVar 2) (aCons (eCallB F_take (aConsO (eVar 0) (aCons (eOp hAdd' (eCa hLen (aCons (eVar 2) (aNil))) (eC (.int 1))) (aNil)))) (aCons (eC (.str "")) (aNil)))))) (sRet (eVar 2)))
noncomputable def F_spaced : FF := runF 4 h_spaced
theorem sheet_word_b {k : Int} {nd : Nd} {Q : R × Nd → Prop} (hb : Box k nd) (hk : k < 2147480000) (q : ∀ (i : Int) nd', i.natAbs < 10 ^ 9 → Box (k + 2) nd' → Q (iR i, nd')) : Ev (callB F_sheet_word [.obj 0] nd) Q := by
  rw [ev_callB]
  simp [F_sheet_word, h_sheet_word]
  refine take_b hb (by omega) (by omega) (by omega) fun w nd1 h1 h1' hb1 => ?_
  have hw : w = 0 ∨ w = 1 ∨ w = 2 ∨ w = 3 := by omega
  rcases hw with rfl | rfl | rfl | rfl
  · simp
    refine ⟨by decide, ?_⟩
    refine take_b hb1 (by omega) (by omega) (by omega) fun r nd2 h2 h2' hb2 => ?_
    simp
    exact ⟨hb2.isd, q _ _ (by omega) (hb2.mono (by omega))⟩
  · simp
    refine ⟨by decide, ?_⟩
    refine take_b hb1 (by omega) (by omega) (by omega) fun r nd2 h2 h2' hb2 => ?_
    simp
    exact ⟨hb2.isd, q _ _ (by omega) (hb2.mono (by omega))⟩
  · simp
    refine ⟨by decide, ?_⟩
    refine take_b hb1 (by omega) (by omega) (by omega) fun r nd2 h2 h2' hb2 => ?_
    simp
    exact ⟨hb2.isd, q _ _ (by omega) (hb2.mono (by omega))⟩
  · simp
    refine ⟨by decide, ?_⟩
    refine take_b hb1 (by omega) (by omega) (by omega) fun r nd2 h2 h2' hb2 => ?_
    simp
    exact ⟨hb2.isd, q _ _ (by omega) (hb2.mono (by omega))⟩
/-- an order: what it does or asks -/
inductive Rq where
  | rd (sp : Int) | wr (sp v : Int) | em | lies (k : Int) | chg (k : Int) | ord (k m : Int) | wds (k b : Int) | mem | tly
def Rq.od : Rq → Od
  | .rd sp => ⟨"read", [sp]⟩
  | .wr sp v => ⟨"write", [sp, v]⟩
  | .em => ⟨"empty", []⟩
  | .lies k => ⟨"lies", [k]⟩
  | .chg k => ⟨"changed", [k]⟩
  | .ord k m => ⟨"order", [k, m]⟩
  | .wds k b => ⟨"words", [k, b]⟩
  | .mem => ⟨"memory", []⟩
  | .tly => ⟨"tally", []⟩
/-- its numbers are in bounds -/
def Rq.fit : Rq → Prop
  | .rd sp => 0 ≤ sp ∧ sp ≤ 9999
  | .wr sp v => (0 ≤ sp ∧ sp ≤ 9999) ∧ v.natAbs < 10 ^ 9
  | .em => True
  | .lies k => 0 ≤ k ∧ k ≤ 4
  | .chg k => 0 ≤ k ∧ k ≤ 4
  | .ord k m => (0 ≤ k ∧ k ≤ 4) ∧ (0 ≤ m ∧ m ≤ 63)
  | .wds k b => (0 ≤ k ∧ k ≤ 4) ∧ (0 ≤ b ∧ b ≤ 9999)
  | .mem => True
  | .tly => True
def Rq.deed : Rq → Bool
  | .rd _ => true
  | .wr _ _ => true
  | .em => true
  | _ => false
/-- the boards of reads and writes -/
def Rq.on (sz : Int) (S : List Int) : Rq → Prop
  | .rd sp => sp / sz ∈ S
  | .wr sp _ => sp / sz ∈ S
  | _ => True
theorem Rq.ok {x : Rq} (h : x.fit) : x.od.ok := by
  cases x with
  | rd sp => exact ⟨[.int 9999], rfl, .cons ⟨h.1, h.2, by decide⟩ .nil⟩
  | wr sp v => exact ⟨[.int 9999, .non], rfl, .cons ⟨h.1.1, h.1.2, by decide⟩ (.cons h.2 .nil)⟩
  | em => exact ⟨[], rfl, .nil⟩
  | lies k => exact ⟨[.int 4], rfl, .cons ⟨h.1, h.2, by decide⟩ .nil⟩
  | chg k => exact ⟨[.int 4], rfl, .cons ⟨h.1, h.2, by decide⟩ .nil⟩
  | ord k m => exact ⟨[.int 4, .int 63], rfl, .cons ⟨h.1.1, h.1.2, by decide⟩ (.cons ⟨h.2.1, h.2.2, by decide⟩ .nil)⟩
  | wds k b => exact ⟨[.int 4, .int 9999], rfl, .cons ⟨h.1.1, h.1.2, by decide⟩ (.cons ⟨h.2.1, h.2.2, by decide⟩ .nil)⟩
  | mem => exact ⟨[], rfl, .nil⟩
  | tly => exact ⟨[], rfl, .nil⟩
abbrev Rq.d (x : Rq) : D := x.od.d
theorem sheet_deed_b {k sz : Int} {l : List Int} {nd : Nd} {Q : R × Nd → Prop} (hz : 1 ≤ sz ∧ sz ≤ 16) (hl : Brds sz l) (hll : 1 ≤ l.length ∧ l.length ≤ 100) (hb : Box k nd) (hk : k < 2147470000) (q : ∀ (x : Rq) nd', x.fit → x.on sz l → x.deed = true → Box (k + 5) nd' → Q (.val (.d x.d), nd')) : Ev (callB F_sheet_deed [.obj 0, .d (.int sz), .d (.lst (l.map .int))] nd) Q := by
  rw [ev_callB]
  simp [F_sheet_deed, h_sheet_deed]
  refine take_b hb (by omega) (by omega) (by omega) fun w nd1 h1 h1' hb1 => ?_
  try simp
  refine take_b hb1 (by omega) (by omega) (by omega) fun r2 nd2 h2 h2' hb2 => ?_
  try simp
  refine at_ints h2 (by omega) fun b hbm => ?_
  try simp
  refine ⟨cMul_r (by omega) (by omega), ?_⟩
  refine take_b hb2 (by omega) (by omega) (by omega) fun r3 nd3 h3 h3' hb3 => ?_
  try simp
  obtain ⟨hs1, hs2⟩ := spot_min hz (hl b hbm) ⟨h3, h3'⟩
  split
  · exact ⟨hb3.isd, q (.rd (min 9999 (b * sz + r3))) _ hs1 (by show _ / sz ∈ l; rw [hs2]; exact hbm) rfl (hb3.mono (by omega))⟩
  · split
    · refine ⟨hb3.isd, sheet_word_b hb3 (by omega) fun i nd4 hi hb4 => ?_⟩
      simp
      exact ⟨hb4.isd, q (.wr (min 9999 (b * sz + r3)) i) _ ⟨hs1, hi⟩ (by show _ / sz ∈ l; rw [hs2]; exact hbm) rfl (hb4.mono (by omega))⟩
    · exact ⟨hb3.isd, q .em _ trivial trivial rfl (hb3.mono (by omega))⟩
end NV.LB

namespace NV.LB
open PySem PySem.Spec PyProof.Rows L2 NV TL
/-! ### sheets: asks, orders and empty rows drawn -/
abbrev askL : List Str := ["lies", "changed", "order", "words", "memory", "tally"]
theorem ask_b {k sz : Int} {kd : Str} {rooms : List D} {l : List Int} {nd : Nd} {Q : R × Nd → Prop} (hz : 1 ≤ sz ∧ sz ≤ 16) (hr : ∀ r ∈ rooms, RP r) (hrl : 1 ≤ rooms.length ∧ rooms.length ≤ 4) (hl : Brds sz l) (hll : 1 ≤ l.length ∧ l.length ≤ 100) (hb : Box k nd) (hk : k < 2147470000) (q : ∀ (x : Rq) nd', x.fit → x.deed = false → Box (k + 12) nd' → Q (.val (.d x.d), nd')) : Ev (callB F_ask [.obj 0, .d (.tup [.int sz, .str kd, .tup rooms]), .d (.lst (l.map .int))] nd) Q := by
  rw [ev_callB]
  simp [F_ask]
  unfold h_ask
  have hlb : ∀ b ∈ l, 0 ≤ b ∧ b ≤ 9999 := fun b hb9 => by
    obtain ⟨h1, h2⟩ := hl b hb9
    exact ⟨h1, Int.le_trans h2 (Int.ediv_le_self _ (by omega))⟩
  obtain ⟨P, hP⟩ : ∃ P : D, P = .tup [.int sz, .str kd, .tup rooms] := ⟨_, rfl⟩
  rw [← hP]
  refine eo_cut (I := fun s => ∃ z nd', s = ⟨[some (W.obj 0), some (W.d P), some (W.d (.lst (l.map .int))), some (W.d (.str z)), none, none, none], [some nd']⟩ ∧ z ∈ askL ∧ Box (k + 1) nd') ?_ ?_
  · simp
    refine take_b hb (by omega) (by omega) (by omega) fun r nd1 h1 h1' hb1 => ?_
    try simp
    refine at_or (by omega) (by simp; omega) (Z := fun w => ∃ z, w = .d (.str z) ∧ z ∈ askL) (by simp) ?_
    rintro w1 ⟨z1, rfl, hz1⟩
    simp
    exact ⟨_, _, ⟨rfl, rfl⟩, by simpa using hz1, hb1⟩
  rintro _ ⟨z, nd1, rfl, hz1, hb1⟩
  refine eo_cut (I := fun s => s = ⟨[some (W.obj 0), some (W.d P), some (W.d (.lst (l.map .int))), some (W.d (.str z)), some (W.d (.int rooms.length)), none, none], [some nd1]⟩) ?_ ?_
  · rw [hP]
    simp
  rintro _ rfl
  refine eo_cut (I := fun s => ∃ (m : Int) (nd' : Nd), s = ⟨[some (W.obj 0), some (W.d P), some (W.d (.lst (l.map .int))), some (W.d (.str z)), some (W.d (.int rooms.length)), some (W.d (.int m)), none], [some nd']⟩ ∧ (0 ≤ m ∧ m ≤ 4) ∧ Box (k + 5) nd') ?_ ?_
  · simp
    refine take_b hb1 (by omega) (by omega) (by omega) fun r1 nd2 h1 h1' hb2 => ?_
    simp
    refine take_b hb2 (by omega) (by omega) (by omega) fun r2 nd3 h2 h2' hb3 => ?_
    simp
    refine take_b hb3 (by omega) (by omega) (by omega) fun r3 nd4 h3 h3' hb4 => ?_
    simp
    refine take_b hb4 (by omega) (by omega) (by omega) fun r4 nd5 h4 h4' hb5 => ?_
    simp
    refine at_or (by omega) (by simp; omega) (Z := fun w => ∃ z : Int, w = .d (.int z) ∧ 0 ≤ z ∧ z ≤ 4) (by simp; omega) ?_
    rintro w1 ⟨z1, rfl, hz1⟩
    simp
    exact ⟨_, _, ⟨rfl, rfl⟩, ⟨hz1.1, hz1.2⟩, hb5.mono (by omega)⟩
  rintro _ ⟨m, nd2, rfl, hm, hb2⟩
  simp at hz1
  rcases hz1 with rfl | rfl | rfl | rfl | rfl | rfl
  · simp
    rw [if_neg (by decide), if_neg (by decide)]
    refine ⟨⟨rfl, rfl⟩, ?_⟩
    rw [show inW (W.d (D.str (Str.ofString "lies"))) [W.d (D.str (Str.ofString "lies")), W.d (D.str (Str.ofString "changed"))] = true from by decide]
    simp
    exact ⟨hb2.isd, q (.lies m) _ hm rfl (hb2.mono (by omega))⟩
  · simp
    rw [if_neg (by decide), if_neg (by decide)]
    refine ⟨⟨rfl, rfl⟩, ?_⟩
    rw [show inW (W.d (D.str (Str.ofString "changed"))) [W.d (D.str (Str.ofString "lies")), W.d (D.str (Str.ofString "changed"))] = true from by decide]
    simp
    exact ⟨hb2.isd, q (.chg m) _ hm rfl (hb2.mono (by omega))⟩
  · simp
    rw [hP]
    simp
    refine at_or (by omega) (by simp; omega) (Z := fun w => ∃ d, w = .d d ∧ RP d) (by intro w hw; obtain ⟨d, hd, rfl⟩ := List.mem_map.mp hw; exact ⟨d, rfl, hr d hd⟩) ?_
    rintro w1 ⟨_, rfl, sh, pl, ru, wr, rfl, h1, h2, h3, h4⟩
    simp
    refine take_b hb2 (by omega) (by omega) (by omega) fun r1 nd3 h5 h5' hb3 => ?_
    simp
    refine take_b hb3 (by omega) (by omega) (by omega) fun r2 nd4 h6 h6' hb4 => ?_
    simp
    refine at_or (by omega) (by simp; omega) (Z := fun w => ∃ z : Int, w = .d (.int z) ∧ 0 ≤ z ∧ z ≤ 63) (by simp; omega) ?_
    rintro w2 ⟨z2, rfl, hz2⟩
    simp
    exact ⟨hb4.isd, q (.ord m z2) _ ⟨hm, hz2⟩ rfl (hb4.mono (by omega))⟩
  · simp
    rw [if_neg (by decide)]
    refine take_b hb2 (by omega) (by omega) (by omega) fun r1 nd3 h5 h5' hb3 => ?_
    simp
    refine at_ints h5 (by omega) fun b hbm => ?_
    refine at_ints (by omega) (by omega) fun b2 hbm2 => ?_
    refine take_b hb3 (by omega) (by omega) (by omega) fun r2 nd4 h6 h6' hb4 => ?_
    simp
    refine take_b hb4 (by omega) (by omega) (by omega) fun r3 nd5 h7 h7' hb5 => ?_
    simp
    have hb6 := hlb b hbm
    have hb7 := hlb b2 hbm2
    refine at_or (by omega) (by simp; omega) (Z := fun w => ∃ z : Int, w = .d (.int z) ∧ 0 ≤ z ∧ z ≤ 9999) (by simp; omega) ?_
    rintro w2 ⟨z2, rfl, hz2⟩
    simp
    exact ⟨hb5.isd, q (.wds m z2) _ ⟨hm, hz2⟩ rfl (hb5.mono (by omega))⟩
  · simp
    rw [if_neg (by decide), if_neg (by decide)]
    refine ⟨⟨rfl, rfl⟩, ?_⟩
    rw [show inW (W.d (D.str (Str.ofString "memory"))) [W.d (D.str (Str.ofString "lies")), W.d (D.str (Str.ofString "changed"))] = false from by decide]
    simp
    exact ⟨hb2.isd, q .mem _ trivial rfl (hb2.mono (by omega))⟩
  · simp
    rw [if_neg (by decide), if_neg (by decide)]
    refine ⟨⟨rfl, rfl⟩, ?_⟩
    rw [show inW (W.d (D.str (Str.ofString "tally"))) [W.d (D.str (Str.ofString "lies")), W.d (D.str (Str.ofString "changed"))] = false from by decide]
    simp
    exact ⟨hb2.isd, q .tly _ trivial rfl (hb2.mono (by omega))⟩
end NV.LB

namespace NV.LB
open PySem PySem.Spec PyProof.Rows L2 NV TL
def SOrd (sz : Int) (S : List Int) (x : Rq) : Prop := x.fit ∧ x.on sz S
theorem on_ask {sz : Int} {S : List Int} {x : Rq} (h : x.deed = false) : x.on sz S := by cases x <;> first | exact trivial | cases h
theorem orders_b {k sz mo : Int} {kd : Str} {rooms : List D} {nd : Nd} {Q : R × Nd → Prop} (hz : 1 ≤ sz ∧ sz ≤ 16) (hr : ∀ r ∈ rooms, RP r) (hrl : 1 ≤ rooms.length ∧ rooms.length ≤ 4) (hm : 1 ≤ mo ∧ mo ≤ 300) (hb : Box k nd) (hk : k < 2147400000)
    (q : ∀ (S : List Int) (os : List Rq) nd', Brds sz S → (3 ≤ S.length ∧ S.length ≤ 20) → (∀ o ∈ os, SOrd sz S o) → (1 ≤ os.length ∧ (os.length : Int) ≤ max 30 mo) → Box (k + 5000) nd' → Q (.new (.lst (os.map (W.d ∘ Rq.d))), nd')) :
    Ev (callB F_orders [.obj 0, .d (.tup [.int sz, .str kd, .tup rooms]), .d (.int mo)] nd) Q := by
  rw [ev_callB]
  simp [F_orders]
  unfold h_orders
  obtain ⟨P, hP⟩ : ∃ P : D, P = .tup [.int sz, .str kd, .tup rooms] := ⟨_, rfl⟩
  refine eo_cut (I := fun s => ∃ (S : List Int) (nd1 : Nd), s = ⟨[some (W.obj 0), some (W.d P), some (W.d (.int mo)), some (W.d (.lst (S.map .int))), some (W.obj 1), none], [some nd1, some (.lst [])]⟩ ∧ Brds sz S ∧ (3 ≤ S.length ∧ S.length ≤ 20) ∧ Box (k + 30) nd1) ?_ ?_
  · rw [hP]
    simp
    refine ⟨hb.isd, some_boards_b hz hb (by omega) fun S nd1 h1 h2 hb1 => ?_⟩
    simp
    exact ⟨S, nd1, ⟨rfl, rfl⟩, h1, ⟨h2.1, h2.2⟩, hb1⟩
  rintro _ ⟨S, nd1, rfl, hS, hSl, hb1⟩
  refine eo_cut (I := fun s => ∃ (c5 : Option W) (os : List Rq) (nd' : Nd), s = ⟨[some (W.obj 0), some (W.d P), some (W.d (.int mo)), some (W.d (.lst (S.map .int))), some (W.obj 1), c5], [some nd', some (.lst (os.map (W.d ∘ Rq.d)))]⟩ ∧ (∀ o ∈ os, SOrd sz S o) ∧ (1 ≤ os.length ∧ (os.length : Int) ≤ max 30 mo) ∧ Box (k + 5000) nd') ?_ ?_
  · simp
    refine ⟨hb1.isd, many_b (by decide) (by omega) hb1 (by omega) fun n nd2 hn1 hn2 hb2 => ?_⟩
    simp
    refine ⟨small_nn (by omega) (by omega), ?_⟩
    refine forL_inv (fun i s => ∃ (c5 : Option W) (os : List Rq) (nd' : Nd), s = ⟨[some (W.obj 0), some (W.d P), some (W.d (.int mo)), some (W.d (.lst (S.map .int))), some (W.obj 1), c5], [some nd', some (.lst (os.map (W.d ∘ Rq.d)))]⟩ ∧ (∀ o ∈ os, SOrd sz S o) ∧ os.length = i ∧ Box (k + 32 + 15 * i) nd') _ 0 _ ⟨_, [], nd2, rfl, (fun o h => by cases h), rfl, hb2.mono (by omega)⟩ ?_ ?_
    · rintro i y s - hy ⟨c5, os, nd', rfl, hos, rfl, hb'⟩
      rw [Nat.sub_zero] at hy
      obtain ⟨hi, rfl⟩ := yInts_get hy
      simp
      refine take_b hb' (by omega) (by omega) (by omega) fun r1 nd3 h1 h1' hb3 => ?_
      simp
      split
      · rw [hP]
        simp
        refine ⟨hb3.isd, sheet_deed_b hz hS (by omega) hb3 (by omega) fun x nd4 h2 h3 h4 hb4 => ?_⟩
        simp
        exact ⟨by omega, _, os ++ [x], nd4, ⟨rfl, rfl, by simp⟩, fun y hy => (List.mem_append.mp hy).elim (hos y) fun z => by rw [List.mem_singleton.mp z]; exact ⟨h2, h3⟩, by simp, hb4.mono (by omega)⟩
      · rw [hP]
        refine ⟨hb3.isd, ask_b hz hr hrl hS (by omega) hb3 (by omega) fun x nd4 h2 h4 hb4 => ?_⟩
        simp
        exact ⟨by omega, _, os ++ [x], nd4, ⟨rfl, rfl, by simp⟩, fun y hy => (List.mem_append.mp hy).elim (hos y) fun z => by rw [List.mem_singleton.mp z]; exact ⟨h2, on_ask h4⟩, by simp, hb4.mono (by omega)⟩
    · rintro s ⟨c5, os, nd', rfl, hos, hol, hb'⟩
      rw [yInts_len] at hol hb'
      exact ⟨_, os, nd', rfl, hos, by omega, hb'.mono (by omega)⟩
  rintro _ ⟨c5, os, nd', rfl, hos, hol, hb'⟩
  simp
  exact ⟨hb'.isd, q S os nd' hS hSl hos hol hb'⟩
end NV.LB

namespace NV.LB
open PySem PySem.Spec PyProof.Rows L2 NV TL
/-! ### sheets: empty rows put in; the text -/
def Spaced (rows rows' : List Str) : Prop := (rows'.filter fun r : Str => !decide (r = "")) = (rows.filter fun r : Str => !decide (r = "")) ∧ ∀ r ∈ rows', r ∈ rows ∨ r = ""
theorem Spaced.ins {rows rows' : List Str} (h : Spaced rows rows') (i : Nat) : Spaced rows (rows'.take i ++ [("" : Str)] ++ rows'.drop i) := by
  refine ⟨?_, fun r hr => ?_⟩
  · rw [← h.1]
    have e : (rows'.filter fun r : Str => !decide (r = "")) = ((rows'.take i ++ rows'.drop i).filter fun r : Str => !decide (r = "")) := by rw [List.take_append_drop]
    rw [e, List.filter_append, List.filter_append, List.filter_append]
    simp
  · simp at hr
    rcases hr with hr | rfl | hr
    · exact h.2 r (List.mem_of_mem_take hr)
    · exact .inr rfl
    · exact h.2 r (List.mem_of_mem_drop hr)
theorem spaced_b {k : Int} {rows : List Str} {nd : Nd} {Q : R × Nd → Prop} (hr : rows.length ≤ 1000) (hb : Box k nd) (hk : k < 2147400000) (q : ∀ (rows' : List Str) nd', Spaced rows rows' → rows'.length ≤ rows.length + 6 → Box (k + 10) nd' → Q (.new (.lst (rows'.map (W.d ∘ D.str))), nd')) : Ev (callB F_spaced [.obj 0, .d (.lst (rows.map .str))] nd) Q := by
  rw [ev_callB]
  simp [F_spaced]
  unfold h_spaced
  refine eo_cut (I := fun s => s = ⟨[some (W.obj 0), some (W.d (.lst (rows.map .str))), some (W.obj 1), none], [some nd, some (.lst (rows.map (W.d ∘ D.str)))]⟩) ?_ ?_
  · simp
  rintro _ rfl
  refine eo_cut (I := fun s => ∃ (c3 : Option W) (rows' : List Str) (nd' : Nd), s = ⟨[some (W.obj 0), some (W.d (.lst (rows.map .str))), some (W.obj 1), c3], [some nd', some (.lst (rows'.map (W.d ∘ D.str)))]⟩ ∧ Spaced rows rows' ∧ rows'.length ≤ rows.length + 6 ∧ Box (k + 10) nd') ?_ ?_
  · simp
    refine take_b hb (by omega) (by omega) (by omega) fun r1 nd1 h1 h1' hb1 => ?_
    simp
    refine take_b hb1 (by omega) (by omega) (by omega) fun r2 nd2 h2 h2' hb2 => ?_
    simp
    refine at_or (by omega) (by simp; omega) (Z := fun w => ∃ z : Int, w = .d (.int z) ∧ 0 ≤ z ∧ z ≤ 6) (by simp; omega) ?_
    rintro w2 ⟨z2, rfl, hz2⟩
    simp
    refine ⟨small_nn (by omega) (by omega), ?_⟩
    refine forL_inv (fun i s => ∃ (c3 : Option W) (rows' : List Str) (nd' : Nd), s = ⟨[some (W.obj 0), some (W.d (.lst (rows.map .str))), some (W.obj 1), c3], [some nd', some (.lst (rows'.map (W.d ∘ D.str)))]⟩ ∧ Spaced rows rows' ∧ rows'.length = rows.length + i ∧ Box (k + 3 + i) nd') _ 0 _ ⟨_, rows, nd2, rfl, ⟨rfl, fun r hr => .inl hr⟩, rfl, hb2.mono (by omega)⟩ ?_ ?_
    · rintro i y s - hy ⟨c3, rows', nd', rfl, hs, hl, hb'⟩
      rw [Nat.sub_zero] at hy
      obtain ⟨hi, rfl⟩ := yInts_get hy
      simp
      refine take_b hb' (by omega) (by omega) (by omega) fun r3 nd3 h3 h3' hb3 => ?_
      simp
      refine ⟨⟨by omega, by omega, by omega⟩, ?_⟩
      exact ⟨_, _, _, ⟨rfl, rfl, by simp [List.map_take, List.map_drop]⟩, hs.ins r3.toNat, by simp; omega, hb3.mono (by omega)⟩
    · rintro s ⟨c3, rows', nd', rfl, hs, hl, hb'⟩
      rw [yInts_len] at hl hb'
      exact ⟨_, rows', nd', rfl, hs, by omega, hb'.mono (by omega)⟩
  rintro _ ⟨c3, rows', nd', rfl, hs, hl, hb'⟩
  simp
  exact ⟨hb'.isd, q rows' nd' hs hl hb'⟩
/-- a sheet's text is read again -/
theorem plan_words {sz : Nat} {kd : Str} {rs : List ShR} : planW sz kd rs = (["size", numS sz] :: ["kind", kd] :: rs.map ShR.ws : List (List Str)).map rowT := by
  unfold planW
  rw [size_row, kind_row]
  simp [ShR.row, rowT]
theorem sheet_words {sz : Nat} {kd : Str} {rs : List ShR} {os : List Od} : planW sz kd rs ++ os.map (fun o => rowT (ordW o.z o.as)) = (sheetW sz kd rs os).map rowT := by
  rw [plan_words]
  simp [sheetW]
theorem parts_of {ws : List (List Str)} {rows' : List Str} (hw : ∀ p ∈ ws, RowW p) (hs : Spaced (ws.map rowT) rows') (hne : rows' ≠ []) : partsOf (rowsOf (Txt.join "\n" rows')) = ws := by
  have hno : ∀ r ∈ rows', 10 ∉ tl r := fun r hr => by
    rcases hs.2 r hr with h | rfl
    · obtain ⟨p, hp, rfl⟩ := List.mem_map.mp h
      exact (hw p hp).no
    · decide
  unfold rowsOf
  rw [split_text hne hno]
  unfold partsOf
  rw [hs.1]
  have e : ((ws.map rowT).filter fun r : Str => !decide (r = "")) = ws.map rowT := by
    rw [List.filter_eq_self]
    intro r hr
    obtain ⟨p, hp, rfl⟩ := List.mem_map.mp hr
    simpa using (hw p hp).rowne
  rw [e, List.map_map]
  have : ∀ p ∈ ws, ((fun r => Txt.split r " ") ∘ rowT) p = p := fun p hp => (hw p hp).split
  exact (List.map_congr_left this).trans (List.map_id ws)
theorem rows_of {ws : List (List Str)} {rows' : List Str} (hw : ∀ p ∈ ws, RowW p) (hs : Spaced (ws.map rowT) rows') (hne : rows' ≠ []) : rowsOf (Txt.join "\n" rows') = rows' := by
  have hno : ∀ r ∈ rows', 10 ∉ tl r := fun r hr => by
    rcases hs.2 r hr with h | rfl
    · obtain ⟨p, hp, rfl⟩ := List.mem_map.mp h
      exact (hw p hp).no
    · decide
  unfold rowsOf
  exact split_text hne hno
theorem sum_le {l : List Str} {m : Nat} (h : ∀ s ∈ l, s.length ≤ m) : (l.map fun x => x.length).sum ≤ m * l.length := by
  induction l with
  | nil => simp
  | cons s l ih => have := ih fun x hx => h x (by simp [hx]); have := h s (by simp); simp only [List.map_cons, List.sum_cons, List.length_cons, Nat.mul_add, Nat.mul_one]; omega
/-- the words of a row are short -/
def Shrt (p : List Str) : Prop := p.length ≤ 5 ∧ ∀ s ∈ p, s.length ≤ 100
theorem Shrt.row {p : List Str} (h : Shrt p) : (rowT p).length ≤ 600 := by
  unfold rowT
  rw [join_eq]
  have h1 := join_len (y := " ") (ps := p)
  have h2 := sum_le h.2
  have h3 : ((" " : Str)).length = 1 := rfl
  rw [h3] at h1
  have := h.1
  omega
theorem num_short {a : Int} (h : a.natAbs < 10 ^ 9) : (numS a).length ≤ 100 := by
  by_cases hs : 0 ≤ a
  · obtain ⟨n, rfl⟩ := Int.eq_ofNat_of_zero_le hs
    have := num_len (n := n) (by simpa using h)
    omega
  · obtain ⟨n, hn⟩ : ∃ n : Nat, a = -(n : Int) := ⟨a.natAbs, by omega⟩
    subst hn
    have h1 := num_len (n := n) (by omega)
    rw [len_tl, num_tl] at h1
    rw [len_tl, neg_tl (by omega)]
    simp
    omega
theorem all_short {l : List Str} (h : (l.all fun z => decide (z.length ≤ 100)) = true) {z : Str} (hz : z ∈ l) : z.length ≤ 100 := by
  simpa using List.all_eq_true.mp h z hz
theorem Od.small {o : Od} (h : o.ok) : ∀ a ∈ o.as, a.natAbs < 10 ^ 9 := by
  obtain ⟨ds, _, hp⟩ := h
  intro a ha
  obtain ⟨j, hj⟩ := List.getElem?_of_mem ha
  have hjl : j < ds.length := by rw [← hp.length]; exact lt_of' hj
  have hb := pair_at hp hj (List.getElem?_eq_getElem hjl)
  cases hd : ds[j] with
  | int m => rw [hd] at hb; obtain ⟨h1, h2, h3⟩ := hb; omega
  | non => rw [hd] at hb; exact hb
  | _ => rw [hd] at hb; exact hb.elim
theorem Od.shrt {o : Od} (h : o.ok) : Shrt (ordW o.z o.as) := by
  refine ⟨by have := Od.len h; simp [ordW]; omega, fun s hs => ?_⟩
  simp [ordW] at hs
  rcases hs with rfl | ⟨a, ha, rfl⟩
  · exact all_short (l := ["read", "write", "empty", "lies", "changed", "order", "words", "memory", "tally"]) (by decide) (Od.key h)
  · exact num_short (Od.small h a ha)
theorem ShR.shrt {r : ShR} (h : r.fit) : Shrt r.ws := by
  obtain ⟨h1, h2, h3, h4⟩ := h
  refine ⟨by simp [ShR.ws], fun s hs => ?_⟩
  simp [ShR.ws] at hs
  rcases hs with rfl | rfl | rfl | rfl | rfl
  · decide
  · exact num_short (by omega)
  · exact num_short (by omega)
  · exact all_short (l := ["old", "come", "few"]) (by decide) (by rcases h3 with h | h | h <;> simp [h])
  · exact all_short (l := ["late", "through"]) (by decide) (by rcases h4 with h | h <;> simp [h])
theorem ShR.okf {r : ShR} (h : r.fit) : r.ok := by
  have hs := (ShR.shrt h).2
  obtain ⟨h1, h2, h3, h4⟩ := h
  exact ⟨by omega, by omega, hs _ (by simp [ShR.ws]), hs _ (by simp [ShR.ws]), hs _ (by simp [ShR.ws]), hs _ (by simp [ShR.ws])⟩
theorem sheet_shrt {sz : Nat} {kd : Str} {rs : List ShR} {os : List Od} (hz : 1 ≤ sz ∧ sz ≤ 16) (hk : kd = "within" ∨ kd = "apart" ∨ kd = "free") (hr : ∀ r ∈ rs, r.fit) (ho : ∀ o ∈ os, o.ok) : ∀ p ∈ sheetW sz kd rs os, Shrt p := by
  intro p hp
  simp [sheetW] at hp
  rcases hp with rfl | rfl | ⟨r, hr', rfl⟩ | ⟨o, ho', rfl⟩
  · refine ⟨by simp, fun s hs => ?_⟩
    simp at hs
    rcases hs with rfl | rfl
    · decide
    · exact num_short (by omega)
  · refine ⟨by simp, fun s hs => ?_⟩
    simp at hs
    rcases hs with rfl | rfl
    · decide
    · exact all_short (l := ["within", "apart", "free"]) (by decide) (by rcases hk with h | h | h <;> simp [h])
  · exact ShR.shrt (hr r hr')
  · exact Od.shrt (ho o ho')
end NV.LB

namespace NV.LB
open PySem PySem.Spec PyProof.Rows L2 NV TL
/-! ### sheets: a drawn plan as rooms of a sheet; the text read -/
abbrev KdOk (kd : Str) : Prop := kd = "within" ∨ kd = "apart" ∨ kd = "free"
def shP (sz : Nat) (kd : Str) (rs : List ShR) : D := .tup [.int sz, .str kd, .tup (rs.map ShR.d)]
theorem rp_sh {d : D} (h : RP d) : ∃ r : ShR, d = r.d ∧ r.fit := by
  obtain ⟨sh, pl, ru, wr, rfl, h1, h2, h3, h4⟩ := h
  obtain ⟨a, rfl⟩ := Int.eq_ofNat_of_zero_le (show 0 ≤ sh by omega)
  obtain ⟨b, rfl⟩ := Int.eq_ofNat_of_zero_le (show 0 ≤ pl by omega)
  exact ⟨⟨a, b, ru, wr⟩, rfl, ⟨by show 1 ≤ a; omega, by show a ≤ 64; omega⟩, ⟨by show 1 ≤ b; omega, by show b ≤ 16; omega⟩, by simpa [rules] using h3, by simpa [writings] using h4⟩
theorem rps_sh {ds : List D} (h : ∀ d ∈ ds, RP d) : ∃ rs : List ShR, ds = rs.map ShR.d ∧ ∀ r ∈ rs, r.fit := by
  induction ds with
  | nil => exact ⟨[], rfl, by simp⟩
  | cons d ds ih =>
    obtain ⟨s, h1, h2⟩ := rp_sh (h d (by simp))
    obtain ⟨ss, h3, h4⟩ := ih fun x hx => h x (by simp [hx])
    exact ⟨s :: ss, by rw [h1, h3]; rfl, fun x hx => by rcases List.mem_cons.mp hx with rfl | hx; exact h2; exact h4 x hx⟩
theorem plan_sh {d : D} (h : PlanD d) : ∃ (sz : Nat) (kd : Str) (rs : List ShR), d = shP sz kd rs ∧ (1 ≤ sz ∧ sz ≤ 16) ∧ KdOk kd ∧ (1 ≤ rs.length ∧ rs.length ≤ 4) ∧ (∀ r ∈ rs, r.fit) ∧ ∀ r ∈ rs.map ShR.d, RP r := by
  obtain ⟨size, kind, rooms, rfl, h1, h2, h3, h4⟩ := h
  obtain ⟨a, rfl⟩ := Int.eq_ofNat_of_zero_le (show 0 ≤ size by omega)
  obtain ⟨rs, rfl, hr⟩ := rps_sh h4
  exact ⟨a, kind, rs, rfl, ⟨by omega, by omega⟩, by simpa [kinds] using h2, by simpa using h3, hr, h4⟩
theorem rows_short {ws : List (List Str)} {rows' : List Str} (hw : ∀ p ∈ ws, Shrt p) (hs : Spaced (ws.map rowT) rows') : ∀ r ∈ rows', r.length ≤ 600 := fun r hr => by
  rcases hs.2 r hr with h | rfl
  · obtain ⟨p, hp, rfl⟩ := List.mem_map.mp h
    exact (hw p hp).row
  · decide
theorem join_ok {rows' : List Str} (h : ∀ r ∈ rows', r.length ≤ 600) (hl : rows'.length ≤ 1000) : (rows'.map fun x => x.length).sum + rows'.length * (Str.ofString "\n").length ≤ 1000000 := by
  have h1 := sum_le h
  have h3 : (Str.ofString "\n").length = 1 := rfl
  rw [h3]
  have : 600 * rows'.length ≤ 600 * 1000 := Nat.mul_le_mul_left _ hl
  omega
theorem read_text {sz : Nat} {kd : Str} {rs : List ShR} {os : List Od} {rows' : List Str} {st : Sto} {Q : R × Sto → Prop} (hz : 1 ≤ sz ∧ sz ≤ 16) (hk : KdOk kd) (h1 : 1 ≤ rs.length ∧ rs.length ≤ 4) (hr : ∀ r ∈ rs, r.fit) (hn : os.length ≤ 1000) (ho : ∀ o ∈ os, o.ok)
    (hs : Spaced ((sheetW sz kd rs os).map rowT) rows') (hl : rows'.length ≤ 1000)
    (q : ∀ st', (∀ i, i < st.length → st'[i]? = st[i]?) → st'[st.length + 2]? = some (some (.lst ((os.map Od.d).map W.d))) → st'.length = st.length + 3 → Q (.val (.tp [.inl (shP sz kd rs), .inr (st.length + 2)]), st')) :
    Ev (F_read_sheet [.d (.str (Txt.join "\n" rows'))] st) Q := by
  have hw := sheet_rows (sz := sz) hk hr ho
  have hsh := sheet_shrt hz hk hr ho
  have hne : rows' ≠ [] := by
    intro z
    have e := hs.1
    rw [z] at e
    have e2 : (((sheetW sz kd rs os).map rowT).filter fun r : Str => !decide (r = "")) = (sheetW sz kd rs os).map rowT := by
      rw [List.filter_eq_self]
      intro r hr'
      obtain ⟨p, hp, rfl⟩ := List.mem_map.mp hr'
      simpa using (hw p hp).rowne
    rw [e2] at e
    simp [sheetW] at e
  have hro := rows_of hw hs hne
  have hpo := parts_of hw hs hne
  have hro600 := rows_short hsh hs
  have hj : (Txt.join "\n" rows').length ≤ 1000000 := by
    rw [join_eq]
    exact Nat.le_trans join_len (join_ok hro600 hl)
  refine read_sheet_ev (sz := sz) (kd := kd) (rs := rs.map ShR.d) (os := os.map Od.d) (by rw [sizeLine_eq]; omega) ?_ ?_ (by simpa using h1) (by rw [hro]; exact hl) q
  · intro r hr'
    rw [hro] at hr'
    have := hro600 r hr'
    rw [sizeLine_eq]
    omega
  · rw [hpo]
    exact sheet_run hz hk h1 hr hn ho
end NV.LB

namespace NV.K50
open PySem PySem.Spec PyProof.Rows L2 NV NV.LB
def top (i : Nat) : Stmt := PySem.Challenge.pw_nearstairs_k50_sheets_read.main.body.getD i (.Pass ⟨0, 0, 0, 0⟩)
structure Txt (w : World) (K : PySem.W.Frag) (mg : Str → Option Value) : Prop where
  f_folded : ∃ fd, FunD K "_law_folded" "_law_folded" (defArgs (top 25)) (defBody (top 25)) (defScope (top 25)) [] [] (He.ga K "_law_folded") fd
  m_folded : mg "_law_folded" = some (.ref (He.ga K "_law_folded"))
  f_box : ∃ fd, FunD K "_law_box" "_law_box" (defArgs (top 23)) (defBody (top 23)) (defScope (top 23)) [] [] (He.ga K "_law_box") fd
  m_box : mg "_law_box" = some (.ref (He.ga K "_law_box"))
  f_boxes : ∃ fd, FunD K "_law_boxes" "_law_boxes" (defArgs (top 31)) (defBody (top 31)) (defScope (top 31)) [] [] (He.ga K "_law_boxes") fd
  m_boxes : mg "_law_boxes" = some (.ref (He.ga K "_law_boxes"))
  f_take : ∃ fd, FunD K "_law_take" "_law_take" (defArgs (top 24)) (defBody (top 24)) (defScope (top 24)) [] [] (He.ga K "_law_take") fd
  m_take : mg "_law_take" = some (.ref (He.ga K "_law_take"))
  f_room_plan : ∃ fd, FunD K "_law_room_plan" "_law_room_plan" (defArgs (top 27)) (defBody (top 27)) (defScope (top 27)) [] [] (He.ga K "_law_room_plan") fd
  m_room_plan : mg "_law_room_plan" = some (.ref (He.ga K "_law_room_plan"))
  f_plan : ∃ fd, FunD K "_law_plan" "_law_plan" (defArgs (top 28)) (defBody (top 28)) (defScope (top 28)) [] [] (He.ga K "_law_plan") fd
  m_plan : mg "_law_plan" = some (.ref (He.ga K "_law_plan"))
  f_edge : ∃ fd, FunD K "_law_edge" "_law_edge" (defArgs (top 39)) (defBody (top 39)) (defScope (top 39)) [] [] (He.ga K "_law_edge") fd
  m_edge : mg "_law_edge" = some (.ref (He.ga K "_law_edge"))
  f_some_boards : ∃ fd, FunD K "_law_some_boards" "_law_some_boards" (defArgs (top 29)) (defBody (top 29)) (defScope (top 29)) [] [] (He.ga K "_law_some_boards") fd
  m_some_boards : mg "_law_some_boards" = some (.ref (He.ga K "_law_some_boards"))
  f_many : ∃ fd, FunD K "_law_many" "_law_many" (defArgs (top 30)) (defBody (top 30)) (defScope (top 30)) [] [] (He.ga K "_law_many") fd
  m_many : mg "_law_many" = some (.ref (He.ga K "_law_many"))
  f_sheet_word : ∃ fd, FunD K "_law_sheet_word" "_law_sheet_word" (defArgs (top 32)) (defBody (top 32)) (defScope (top 32)) [] [] (He.ga K "_law_sheet_word") fd
  m_sheet_word : mg "_law_sheet_word" = some (.ref (He.ga K "_law_sheet_word"))
  f_sheet_deed : ∃ fd, FunD K "_law_sheet_deed" "_law_sheet_deed" (defArgs (top 33)) (defBody (top 33)) (defScope (top 33)) [] [] (He.ga K "_law_sheet_deed") fd
  m_sheet_deed : mg "_law_sheet_deed" = some (.ref (He.ga K "_law_sheet_deed"))
  f_ask : ∃ fd, FunD K "_law_ask" "_law_ask" (defArgs (top 34)) (defBody (top 34)) (defScope (top 34)) [] [] (He.ga K "_law_ask") fd
  m_ask : mg "_law_ask" = some (.ref (He.ga K "_law_ask"))
  f_orders : ∃ fd, FunD K "_law_orders" "_law_orders" (defArgs (top 38)) (defBody (top 38)) (defScope (top 38)) [] [] (He.ga K "_law_orders") fd
  m_orders : mg "_law_orders" = some (.ref (He.ga K "_law_orders"))
  f_far_order : ∃ fd, FunD K "_law_far_order" "_law_far_order" (defArgs (top 40)) (defBody (top 40)) (defScope (top 40)) [] [] (He.ga K "_law_far_order") fd
  m_far_order : mg "_law_far_order" = some (.ref (He.ga K "_law_far_order"))
  f_plan_rows : ∃ fd, FunD K "_law_plan_rows" "_law_plan_rows" (defArgs (top 35)) (defBody (top 35)) (defScope (top 35)) [] [] (He.ga K "_law_plan_rows") fd
  m_plan_rows : mg "_law_plan_rows" = some (.ref (He.ga K "_law_plan_rows"))
  f_order_row : ∃ fd, FunD K "_law_order_row" "_law_order_row" (defArgs (top 36)) (defBody (top 36)) (defScope (top 36)) [] [] (He.ga K "_law_order_row") fd
  m_order_row : mg "_law_order_row" = some (.ref (He.ga K "_law_order_row"))
  f_spaced : ∃ fd, FunD K "_law_spaced" "_law_spaced" (defArgs (top 37)) (defBody (top 37)) (defScope (top 37)) [] [] (He.ga K "_law_spaced") fd
  m_spaced : mg "_law_spaced" = some (.ref (He.ga K "_law_spaced"))
  f_Sheet___init__ : ∃ fd, FunD K "__init__" "Sheet.__init__" (defArgs (inClass (top 20) 0)) (defBody (inClass (top 20) 0)) (defScope (inClass (top 20) 0)) [] [] (He.ma K (He.ga K "Sheet") "__init__") fd
  f_is_plain : ∃ fd, FunD K "is_plain" "is_plain" (defArgs (top 15)) (defBody (top 15)) (defScope (top 15)) [] [] (He.ga K "is_plain") fd
  m_is_plain : mg "is_plain" = some (.ref (He.ga K "is_plain"))
  f_number_in : ∃ fd, FunD K "number_in" "number_in" (defArgs (top 16)) (defBody (top 16)) (defScope (top 16)) [] [] (He.ga K "number_in") fd
  m_number_in : mg "number_in" = some (.ref (He.ga K "number_in"))
  f_Sheet_takes_size : ∃ fd, FunD K "takes_size" "Sheet.takes_size" (defArgs (inClass (top 20) 2)) (defBody (inClass (top 20) 2)) (defScope (inClass (top 20) 2)) [] [] (He.ma K (He.ga K "Sheet") "takes_size") fd
  f_Sheet_takes_kind : ∃ fd, FunD K "takes_kind" "Sheet.takes_kind" (defArgs (inClass (top 20) 3)) (defBody (inClass (top 20) 3)) (defScope (inClass (top 20) 3)) [] [] (He.ma K (He.ga K "Sheet") "takes_kind") fd
  f_room_in : ∃ fd, FunD K "room_in" "room_in" (defArgs (top 19)) (defBody (top 19)) (defScope (top 19)) [] [] (He.ga K "room_in") fd
  m_room_in : mg "room_in" = some (.ref (He.ga K "room_in"))
  f_signed_in : ∃ fd, FunD K "signed_in" "signed_in" (defArgs (top 17)) (defBody (top 17)) (defScope (top 17)) [] [] (He.ga K "signed_in") fd
  m_signed_in : mg "signed_in" = some (.ref (He.ga K "signed_in"))
  f_order_in : ∃ fd, FunD K "order_in" "order_in" (defArgs (top 18)) (defBody (top 18)) (defScope (top 18)) [] [] (He.ga K "order_in") fd
  m_order_in : mg "order_in" = some (.ref (He.ga K "order_in"))
  f_Sheet_takes : ∃ fd, FunD K "takes" "Sheet.takes" (defArgs (inClass (top 20) 1)) (defBody (inClass (top 20) 1)) (defScope (inClass (top 20) 1)) [] [] (He.ma K (He.ga K "Sheet") "takes") fd
  f_read_sheet : ∃ fd, FunD K "read_sheet" "read_sheet" (defArgs (top 21)) (defBody (top 21)) (defScope (top 21)) [] [] (He.ga K "read_sheet") fd
  m_read_sheet : mg "read_sheet" = some (.ref (He.ga K "read_sheet"))
  f_same : ∃ fd, FunD K "_law_same" "_law_same" (defArgs (top 26)) (defBody (top 26)) (defScope (top 26)) [] [] (He.ga K "_law_same") fd
  m_same : mg "_law_same" = some (.ref (He.ga K "_law_same"))
  f_law : ∃ fd, FunD K "law" "law" (defArgs (top 41)) (defBody (top 41)) (defScope (top 41)) [] [] (He.ga K "law") fd
  m_law : mg "law" = some (.ref (He.ga K "law"))
  c_Sheet : Cls K (He.ga K "Sheet")
  m_BOUNDS : mg "BOUNDS" = some (.ref (He.ga K "BOUNDS"))
  m_Sheet : mg "Sheet" = some (.ref (He.ga K "Sheet"))
  x_Sheet_takes : Meth K (He.ga K "Sheet") "takes" (He.ma K (He.ga K "Sheet") "takes")
  x_Sheet_takes_kind : Meth K (He.ga K "Sheet") "takes_kind" (He.ma K (He.ga K "Sheet") "takes_kind")
  x_Sheet_takes_size : Meth K (He.ga K "Sheet") "takes_size" (He.ma K (He.ga K "Sheet") "takes_size")
  k_Sheet : Mk K (He.ga K "Sheet") (He.ma K (He.ga K "Sheet") "__init__")
  n_Sheet_kind : NoAttr K (He.ga K "Sheet") "kind"
  n_Sheet_orders : NoAttr K (He.ga K "Sheet") "orders"
  n_Sheet_rooms : NoAttr K (He.ga K "Sheet") "rooms"
  n_Sheet_size : NoAttr K (He.ga K "Sheet") "size"
  z_abs : mg "abs" = none
  z_all : mg "all" = none
  z_any : mg "any" = none
  z_bool : mg "bool" = none
  z_divmod : mg "divmod" = none
  z_enumerate : mg "enumerate" = none
  z_int : mg "int" = none
  z_isinstance : mg "isinstance" = none
  z_len : mg "len" = none
  z_list : mg "list" = none
  z_max : mg "max" = none
  z_min : mg "min" = none
  z_range : mg "range" = none
  z_str : mg "str" = none
  z_tuple : mg "tuple" = none
  z_zip : mg "zip" = none
  g_FIGURES : Gcon K mg "FIGURES" (.str "0123456789")
  g_KINDS : Gcon K mg "KINDS" (.lsw [.str "within", .str "apart", .str "free"])
  g_MOST_FIGURES : Gcon K mg "MOST_FIGURES" (.int 9)
  g_MOST_NUMBER : Gcon K mg "MOST_NUMBER" (.int 1000000000)
  g_MOST_ROOMS : Gcon K mg "MOST_ROOMS" (.int 4)
  g_RULES : Gcon K mg "RULES" (.lsw [.str "old", .str "come", .str "few"])
  g_WRITINGS : Gcon K mg "WRITINGS" (.lsw [.str "late", .str "through"])
  kt_BOUNDS : KTab K w mg "BOUNDS" [("read", [.int (9999)]), ("write", [.int (9999), .non]), ("empty", []), ("lies", [.int (4)]), ("changed", [.int (4)]), ("order", [.int (4), .int (63)]), ("words", [.int (4), .int (9999)]), ("memory", []), ("tally", [])]
section
variable {P : Program} {w : World} {K : PySem.W.Frag} {mg : Str → Option Value}
abbrev s_folded : Stmt := top 25
abbrev N_folded : List PySem.Str := ["_law_script", "_law_size", "_law_cells", "_law_k", "_law_cell"]
theorem sc_folded : FnScope N_folded ["_law_script", "_law_size"] (defScope s_folded) := ⟨rfl, rfl, rfl, by decide +kernel, rfl, by decide +kernel, by decide +kernel⟩
noncomputable abbrev h_folded : SF := NV.LB.h_folded
noncomputable abbrev F_folded : FF := NV.LB.F_folded
theorem ok_folded (T : Txt w K mg) : Okf P w K mg "_law_folded" 1 ["_law_script", "_law_size"] (spF K 2 F_folded) :=
  ok_mk (N := N_folded) (h := h_folded) T.f_folded T.m_folded sc_folded (fun _ _ _ _ _ _ us hl => match us, hl with | [_, _], _ => rfl) fun base cdv A outer s H E hr =>
    vss_cons (v_asgO (v_callTy c_list rfl T.z_list bt_list (va_cons (v_sl s_any (vn 0) (vo_none) (vo_some (vn 1))) (va_nil))) (vg_name (i := 2) sc_folded.nd rfl (by first | exact Or.inl rfl | exact Or.inr rfl)))
      (vss_cons (v_for PassesOwn.never rfl (vi_enum rfl T.z_enumerate (va_cons (v_sl s_any (vn 0) (vo_some (vn 1)) (vo_some (v_int))) (va_nil))) (vg_tup rfl (vgs_cons (vg_name (i := 3) sc_folded.nd rfl (by first | exact Or.inl rfl | exact Or.inr rfl)) (vgs_cons (vg_name (i := 4) sc_folded.nd rfl (by first | exact Or.inl rfl | exact Or.inr rfl)) (vgs_nil))))
      (vss_one (v_asg (v_op o_add' (v_ix (i_any hr.units) (vn 2) (v_op o_mod (vn 3) (vn 1)) (fun _ _ => rfl)) (v_op o_mul (vn 4) (v_op o_add' (vn 3) (v_int)))) (vg_sub hr.units (vn 2) (v_op o_mod (vn 3) (vn 1))))))
      (vss_one (v_ret (vn 2))))
abbrev s_box : Stmt := top 23
abbrev N_box : List PySem.Str := ["_law_script", "_law_k", "_law_cell"]
theorem sc_box : FnScope N_box ["_law_script", "_law_k"] (defScope s_box) := ⟨rfl, rfl, rfl, by decide +kernel, rfl, by decide +kernel, by decide +kernel⟩
noncomputable abbrev h_box : SF := NV.LB.h_box
noncomputable abbrev F_box : FF := NV.LB.F_box
theorem ok_box (T : Txt w K mg) : Okf P w K mg "_law_box" 1 ["_law_script", "_law_k"] (spF K 2 F_box) :=
  ok_mk (N := N_box) (h := h_box) T.f_box T.m_box sc_box (fun _ _ _ _ _ _ us hl => match us, hl with | [_, _], _ => rfl) fun base cdv A outer s H E hr =>
    vss_cons (v_asg (v_if (vt_cmp o_lt (vn 1) (v_callB c_len rfl T.z_len bt_len (va_cons (vn 0) (va_nil))) (nomark _)) (v_ix (i_any hr.units) (vn 0) (vn 1) (fun _ _ => rfl)) (v_int)) (vg_name (i := 2) sc_box.nd rfl (by first | exact Or.inl rfl | exact Or.inr rfl)))
      (vss_one (v_ret (v_lst (va_cons (v_op o_mul (v_callB c_abs rfl T.z_abs bt_abs (va_cons (vn 2) (va_nil))) (v_callTy c_int rfl T.z_int bt_int (va_cons (v_cmp o_ge (v_callB c_abs rfl T.z_abs bt_abs (va_cons (vn 2) (va_nil))) (v_op o_pow (v_int) (v_int)) (nomark _)) (va_nil)))) (va_cons (v_op o_mod (v_op o_mul (v_op o_add' (v_op o_add' (v_op o_mod (vn 2) (v_int)) (v_op o_mul (v_int) (vn 1))) (v_int)) (v_int)) (v_int)) (va_cons (v_int) (va_nil)))))))
abbrev s_boxes : Stmt := top 31
abbrev N_boxes : List PySem.Str := ["_law_script", "_law_size", "_law_cells", "_law_k"]
theorem sc_boxes : FnScope N_boxes ["_law_script", "_law_size"] (defScope s_boxes) := ⟨rfl, rfl, rfl, by decide +kernel, rfl, by decide +kernel, by decide +kernel⟩
noncomputable abbrev h_boxes : SF := NV.LB.h_boxes
noncomputable abbrev F_boxes : FF := NV.LB.F_boxes
theorem ok_boxes (T : Txt w K mg) : Okf P w K mg "_law_boxes" 2 ["_law_script", "_law_size"] (spF K 2 F_boxes) :=
  ok_mk (N := N_boxes) (h := h_boxes) T.f_boxes T.m_boxes sc_boxes (fun _ _ _ _ _ _ us hl => match us, hl with | [_, _], _ => rfl) fun base cdv A outer s H E hr =>
    vss_cons (v_asg (v_cP (ok_folded T) (hr.mono (by omega)) rfl (va_cons (vn 0) (va_cons (vn 1) (va_nil))) (aCons_len (aCons_len (aNil_len))) rfl) (vg_name (i := 2) sc_boxes.nd rfl (by first | exact Or.inl rfl | exact Or.inr rfl)))
      (vss_one (v_ret (v_lcC cvO_ok (own := [("_law_k", 3)]) rfl sc_boxes.nd (vi_range1 rfl T.z_range (va_cons (v_callB (c_max rfl) rfl T.z_max bt_max (va_cons (v_int) (va_cons (v_callB c_len rfl T.z_len bt_len (va_cons (vn 2) (va_nil))) (va_nil)))) (va_nil))) (blkOk_by (own := [("_law_k", 3)]) (N := N_boxes) (sc := defScope s_boxes) (by decide +kernel)) (fun _ _ _ _ _ => vgo_name (i := 3) sc_boxes.nd rfl (by first | exact Or.inl rfl | exact Or.inr rfl) (by decide)) (fun _ _ _ _ _ => vts_nil) (fun _ _ _ _ _ => v_cP (ok_box T) (hr.mono (by omega)) rfl (va_cons (vn 2) (va_cons (vn 3) (va_nil))) (aCons_len (aCons_len (aNil_len))) rfl))))
abbrev s_take : Stmt := top 24
abbrev N_take : List PySem.Str := ["_law_box_here", "_law_size", "_law_found", "_law_step", "_law_once", "_law_twice"]
theorem sc_take : FnScope N_take ["_law_box_here", "_law_size"] (defScope s_take) := ⟨rfl, rfl, rfl, by decide +kernel, rfl, by decide +kernel, by decide +kernel⟩
noncomputable abbrev h_take : SF := NV.LB.h_take
noncomputable abbrev F_take : FF := NV.LB.F_take
theorem ok_take (T : Txt w K mg) : Okf P w K mg "_law_take" 1 ["_law_box_here", "_law_size"] (spF K 2 F_take) :=
  ok_mk (N := N_take) (h := h_take) T.f_take T.m_take sc_take (fun _ _ _ _ _ _ us hl => match us, hl with | [_, _], _ => rfl) fun base cdv A outer s H E hr =>
    vss_cons (v_ifS (vt_cmp o_gt (v_ix (i_any hr.units) (vn 0) (v_int) (fun _ _ => rfl)) (v_int) (nomark _)) (vss_cons (v_asg (v_callB c_divmod rfl T.z_divmod bt_divmod (va_cons (v_ix (i_any hr.units) (vn 0) (v_int) (fun _ _ => rfl)) (va_cons (vn 1) (va_nil)))) (vg_tup rfl (vgs_cons (vg_sub hr.units (vn 0) (v_int)) (vgs_cons (vg_name (i := 2) sc_take.nd rfl (by first | exact Or.inl rfl | exact Or.inr rfl)) (vgs_nil)))))
      (vss_one (v_ret (vn 2)))) (vss_nil))
      (vss_cons (v_asg (v_op o_add' (v_ix (i_any hr.units) (vn 0) (v_int) (fun _ _ => rfl)) (v_int)) (vg_sub hr.units (vn 0) (v_int)))
      (vss_cons (v_asg (v_op o_add' (v_int) (v_op o_mul (v_ix (i_any hr.units) (vn 0) (v_int) (fun _ _ => rfl)) (v_ix (i_any hr.units) (vn 0) (v_int) (fun _ _ => rfl)))) (vg_name (i := 3) sc_take.nd rfl (by first | exact Or.inl rfl | exact Or.inr rfl)))
      (vss_cons (v_asg (v_op o_mod (v_op o_mul (v_op o_add' (v_ix (i_any hr.units) (vn 0) (v_int) (fun _ _ => rfl)) (v_op o_mul (v_int) (v_ix (i_any hr.units) (vn 0) (v_int) (fun _ _ => rfl)))) (vn 3)) (v_int)) (vg_name (i := 4) sc_take.nd rfl (by first | exact Or.inl rfl | exact Or.inr rfl)))
      (vss_cons (v_asg (v_op o_mod (v_op o_add' (v_op o_mul (vn 4) (v_op o_add' (v_op o_mod (vn 4) (v_int)) (v_int))) (v_ix (i_any hr.units) (vn 0) (v_int) (fun _ _ => rfl))) (v_int)) (vg_name (i := 5) sc_take.nd rfl (by first | exact Or.inl rfl | exact Or.inr rfl)))
      (vss_one (v_ret (v_op o_mod (v_op o_div (v_op o_mod (v_op o_mul (vn 5) (v_op o_add' (v_op o_mod (vn 5) (v_int)) (v_int))) (v_int)) (v_int)) (vn 1))))))))
abbrev s_room_plan : Stmt := top 27
abbrev N_room_plan : List PySem.Str := ["_law_box_here", "_law_far", "_law_shelves", "_law_places", "_law_rule"]
theorem sc_room_plan : FnScope N_room_plan ["_law_box_here"] (defScope s_room_plan) := ⟨rfl, rfl, rfl, by decide +kernel, rfl, by decide +kernel, by decide +kernel⟩
noncomputable abbrev h_room_plan : SF := NV.LB.h_room_plan
noncomputable abbrev F_room_plan : FF := NV.LB.F_room_plan
theorem ok_room_plan (T : Txt w K mg) : Okf P w K mg "_law_room_plan" 2 ["_law_box_here"] (spF K 1 F_room_plan) :=
  ok_mk (N := N_room_plan) (h := h_room_plan) T.f_room_plan T.m_room_plan sc_room_plan (fun _ _ _ _ _ _ us hl => match us, hl with | [_], _ => rfl) fun base cdv A outer s H E hr =>
    vss_cons (v_asg (v_cmp (o_eq hr.units) (v_cB (ok_take T) (hr.mono (by omega)) rfl (va_consO (vn 0) (va_cons (v_int) (va_nil))) (aConsO_len (aCons_len (aNil_len))) rfl) (v_int) (nomark _)) (vg_name (i := 1) sc_room_plan.nd rfl (by first | exact Or.inl rfl | exact Or.inr rfl)))
      (vss_cons (v_asg (v_if (vt_val (vn 1)) (v_op o_add' (v_int) (v_cB (ok_take T) (hr.mono (by omega)) rfl (va_consO (vn 0) (va_cons (v_int) (va_nil))) (aConsO_len (aCons_len (aNil_len))) rfl)) (v_ix (i_any hr.units) (v_lst (va_cons (v_int) (va_cons (v_int) (va_cons (v_int) (va_cons (v_int) (va_cons (v_int) (va_nil))))))) (v_cB (ok_take T) (hr.mono (by omega)) rfl (va_consO (vn 0) (va_cons (v_int) (va_nil))) (aConsO_len (aCons_len (aNil_len))) rfl) (fun _ _ => rfl))) (vg_name (i := 2) sc_room_plan.nd rfl (by first | exact Or.inl rfl | exact Or.inr rfl)))
      (vss_cons (v_asg (v_op o_add' (v_int) (v_cB (ok_take T) (hr.mono (by omega)) rfl (va_consO (vn 0) (va_cons (v_if (vt_val (vn 1)) (v_int) (v_int)) (va_nil))) (aConsO_len (aCons_len (aNil_len))) rfl)) (vg_name (i := 3) sc_room_plan.nd rfl (by first | exact Or.inl rfl | exact Or.inr rfl)))
      (vss_cons (v_asg (v_ix (i_any hr.units) (v_lst (va_cons (v_str) (va_cons (v_str) (va_cons (v_str) (va_nil))))) (v_cB (ok_take T) (hr.mono (by omega)) rfl (va_consO (vn 0) (va_cons (v_int) (va_nil))) (aConsO_len (aCons_len (aNil_len))) rfl) (fun _ _ => rfl)) (vg_name (i := 4) sc_room_plan.nd rfl (by first | exact Or.inl rfl | exact Or.inr rfl)))
      (vss_one (v_ret (v_tup (va_cons (vn 2) (va_cons (vn 3) (va_cons (vn 4) (va_cons (v_ix (i_any hr.units) (v_lst (va_cons (v_str) (va_cons (v_str) (va_nil)))) (v_cB (ok_take T) (hr.mono (by omega)) rfl (va_consO (vn 0) (va_cons (v_int) (va_nil))) (aConsO_len (aCons_len (aNil_len))) rfl) (fun _ _ => rfl)) (va_nil)))))))))))
abbrev s_plan : Stmt := top 28
abbrev N_plan : List PySem.Str := ["_law_box_here", "_law_kind", "_law_size", "_law_k"]
theorem sc_plan : FnScope N_plan ["_law_box_here"] (defScope s_plan) := ⟨rfl, rfl, rfl, by decide +kernel, rfl, by decide +kernel, by decide +kernel⟩
noncomputable abbrev h_plan : SF := NV.LB.h_plan
noncomputable abbrev F_plan : FF := NV.LB.F_plan
theorem ok_plan (T : Txt w K mg) : Okf P w K mg "_law_plan" 3 ["_law_box_here"] (spF K 1 F_plan) :=
  ok_mk (N := N_plan) (h := h_plan) T.f_plan T.m_plan sc_plan (fun _ _ _ _ _ _ us hl => match us, hl with | [_], _ => rfl) fun base cdv A outer s H E hr =>
    vss_cons (v_asg (v_ix (i_any hr.units) (v_lst (va_cons (v_str) (va_cons (v_str) (va_cons (v_str) (va_nil))))) (v_cB (ok_take T) (hr.mono (by omega)) rfl (va_consO (vn 0) (va_cons (v_int) (va_nil))) (aConsO_len (aCons_len (aNil_len))) rfl) (fun _ _ => rfl)) (vg_name (i := 1) sc_plan.nd rfl (by first | exact Or.inl rfl | exact Or.inr rfl)))
      (vss_cons (v_asg (v_op o_add' (v_int) (v_cB (ok_take T) (hr.mono (by omega)) rfl (va_consO (vn 0) (va_cons (v_ix (i_any hr.units) (v_lst (va_cons (v_int) (va_cons (v_int) (va_nil)))) (v_callTy c_int rfl T.z_int bt_int (va_cons (v_cmp (o_eq hr.units) (v_cB (ok_take T) (hr.mono (by omega)) rfl (va_consO (vn 0) (va_cons (v_int) (va_nil))) (aConsO_len (aCons_len (aNil_len))) rfl) (v_int) (nomark _)) (va_nil))) (fun _ _ => rfl)) (va_nil))) (aConsO_len (aCons_len (aNil_len))) rfl)) (vg_name (i := 2) sc_plan.nd rfl (by first | exact Or.inl rfl | exact Or.inr rfl)))
      (vss_one (v_ret (v_tup (va_cons (vn 2) (va_cons (vn 1) (va_cons (v_callTy c_tuple rfl T.z_tuple bt_tuple (va_cons (v_lcC cvF_ok (own := [("_law_k", 3)]) rfl sc_plan.nd (vi_range1 rfl T.z_range (va_cons (v_op o_add' (v_int) (v_cB (ok_take T) (hr.mono (by omega)) rfl (va_consO (vn 0) (va_cons (v_int) (va_nil))) (aConsO_len (aCons_len (aNil_len))) rfl)) (va_nil))) (blkOk_by (own := [("_law_k", 3)]) (N := N_plan) (sc := defScope s_plan) (by decide +kernel)) (fun _ _ _ _ _ => vgo_name (i := 3) sc_plan.nd rfl (by first | exact Or.inl rfl | exact Or.inr rfl) (by decide)) (fun _ _ _ _ _ => vts_nil) (fun _ _ _ _ _ => v_cB (ok_room_plan T) (hr.mono (by omega)) rfl (va_consO (vn 0) (va_nil)) (aConsO_len (aNil_len)) rfl)) (va_nil))) (va_nil))))))))
abbrev s_edge : Stmt := top 39
abbrev N_edge : List PySem.Str := ["_law_box_here", "_law_plan_here", "_law_size", "_law_kind", "_law_rooms", "_law_at", "_law_room"]
theorem sc_edge : FnScope N_edge ["_law_box_here", "_law_plan_here"] (defScope s_edge) := ⟨rfl, rfl, rfl, by decide +kernel, rfl, by decide +kernel, by decide +kernel⟩
noncomputable def h_edge : SF := sSeq (sAsg (eVar 1) (gT 3 (gCons' (gN 2) (gCons' (gN 3) (gCons' (gN 4) (gNil')))))) (sSeq (sAsg (eCallB F_take (aConsO (eVar 0) (aCons (eCa hLen (aCons (eVar 4) (aNil))) (aNil)))) (gN 5)) (sSeq (sAsg (eOp hAdd' (eTup (aCons (eOp hIx (eLst (aCons (eC (.int 1)) (aCons (eC (.int 64)) (aNil)))) (eCallB F_take (aConsO (eVar 0) (aCons (eC (.int 2)) (aNil))))) (aCons (eOp hIx (eLst (aCons (eC (.int 1)) (aCons (eC (.int 16)) (aNil)))) (eCallB F_take (aConsO (eVar 0) (aCons (eC (.int 2)) (aNil))))) (aNil)))) (eSl hSl (eOp hIx (eVar 4) (eVar 5)) (oSome (eC (.int 2))) (oNone))) (gN 6)) (sRet (eTup (aCons (eOp hIx (eLst (aCons (eC (.int 1)) (aCons (eC (.int 16)) (aCons (eVar 2) (aNil))))) (eCallB F_take (aConsO (eVar 0) (aCons (eC (.int 3)) (aNil))))) (aCons (eVar 3) (aCons (eOp hAdd' (eOp hAdd' (eSl hSl (eVar 4) (oNone) (oSome (eVar 5))) (eTup (aCons (eVar 6) (aNil)))) (eSl hSl (eVar 4) (oSome (eOp hAdd' (eVar 5) (eC (.int 1)))) (oNone))) (aNil))))))))
noncomputable def F_edge : FF := runF 7 h_edge
theorem ok_edge (T : Txt w K mg) : Okf P w K mg "_law_edge" 2 ["_law_box_here", "_law_plan_here"] (spF K 2 F_edge) :=
  ok_mk (N := N_edge) (h := h_edge) T.f_edge T.m_edge sc_edge (fun _ _ _ _ _ _ us hl => match us, hl with | [_, _], _ => rfl) fun base cdv A outer s H E hr =>
    vss_cons (v_asg (vn 1) (vg_tup rfl (vgs_cons (vg_name (i := 2) sc_edge.nd rfl (by first | exact Or.inl rfl | exact Or.inr rfl)) (vgs_cons (vg_name (i := 3) sc_edge.nd rfl (by first | exact Or.inl rfl | exact Or.inr rfl)) (vgs_cons (vg_name (i := 4) sc_edge.nd rfl (by first | exact Or.inl rfl | exact Or.inr rfl)) (vgs_nil))))))
      (vss_cons (v_asg (v_cB (ok_take T) (hr.mono (by omega)) rfl (va_consO (vn 0) (va_cons (v_callB c_len rfl T.z_len bt_len (va_cons (vn 4) (va_nil))) (va_nil))) (aConsO_len (aCons_len (aNil_len))) rfl) (vg_name (i := 5) sc_edge.nd rfl (by first | exact Or.inl rfl | exact Or.inr rfl)))
      (vss_cons (v_asg (v_op o_add' (v_tup (va_cons (v_ix (i_any hr.units) (v_lst (va_cons (v_int) (va_cons (v_int) (va_nil)))) (v_cB (ok_take T) (hr.mono (by omega)) rfl (va_consO (vn 0) (va_cons (v_int) (va_nil))) (aConsO_len (aCons_len (aNil_len))) rfl) (fun _ _ => rfl)) (va_cons (v_ix (i_any hr.units) (v_lst (va_cons (v_int) (va_cons (v_int) (va_nil)))) (v_cB (ok_take T) (hr.mono (by omega)) rfl (va_consO (vn 0) (va_cons (v_int) (va_nil))) (aConsO_len (aCons_len (aNil_len))) rfl) (fun _ _ => rfl)) (va_nil)))) (v_sl s_any (v_ix (i_any hr.units) (vn 4) (vn 5) (fun _ _ => rfl)) (vo_some (v_int)) (vo_none))) (vg_name (i := 6) sc_edge.nd rfl (by first | exact Or.inl rfl | exact Or.inr rfl)))
      (vss_one (v_ret (v_tup (va_cons (v_ix (i_any hr.units) (v_lst (va_cons (v_int) (va_cons (v_int) (va_cons (vn 2) (va_nil))))) (v_cB (ok_take T) (hr.mono (by omega)) rfl (va_consO (vn 0) (va_cons (v_int) (va_nil))) (aConsO_len (aCons_len (aNil_len))) rfl) (fun _ _ => rfl)) (va_cons (vn 3) (va_cons (v_op o_add' (v_op o_add' (v_sl s_any (vn 4) (vo_none) (vo_some (vn 5))) (v_tup (va_cons (vn 6) (va_nil)))) (v_sl s_any (vn 4) (vo_some (v_op o_add' (vn 5) (v_int))) (vo_none))) (va_nil)))))))))
abbrev s_some_boards : Stmt := top 29
abbrev N_some_boards : List PySem.Str := ["_law_box_here", "_law_size", "_law_many_here", "_law_way", "_law_begin", "_law_first", "_law_k", "_law_found", "_law_far", "_law_at"]
theorem sc_some_boards : FnScope N_some_boards ["_law_box_here", "_law_size"] (defScope s_some_boards) := ⟨rfl, rfl, rfl, by decide +kernel, rfl, by decide +kernel, by decide +kernel⟩
noncomputable abbrev h_some_boards : SF := NV.LB.h_some_boards
noncomputable abbrev F_some_boards : FF := NV.LB.F_some_boards
theorem ok_some_boards (T : Txt w K mg) : Okf P w K mg "_law_some_boards" 2 ["_law_box_here", "_law_size"] (spF K 2 F_some_boards) :=
  ok_mk (N := N_some_boards) (h := h_some_boards) T.f_some_boards T.m_some_boards sc_some_boards (fun _ _ _ _ _ _ us hl => match us, hl with | [_, _], _ => rfl) fun base cdv A outer s H E hr =>
    vss_cons (v_asg (v_op o_add' (v_int) (v_cB (ok_take T) (hr.mono (by omega)) rfl (va_consO (vn 0) (va_cons (v_ix (i_any hr.units) (v_lst (va_cons (v_int) (va_cons (v_int) (va_nil)))) (v_callTy c_int rfl T.z_int bt_int (va_cons (v_cmp (o_eq hr.units) (v_cB (ok_take T) (hr.mono (by omega)) rfl (va_consO (vn 0) (va_cons (v_int) (va_nil))) (aConsO_len (aCons_len (aNil_len))) rfl) (v_int) (nomark _)) (va_nil))) (fun _ _ => rfl)) (va_nil))) (aConsO_len (aCons_len (aNil_len))) rfl)) (vg_name (i := 2) sc_some_boards.nd rfl (by first | exact Or.inl rfl | exact Or.inr rfl)))
      (vss_cons (v_asg (v_tup (va_cons (v_cB (ok_take T) (hr.mono (by omega)) rfl (va_consO (vn 0) (va_cons (v_int) (va_nil))) (aConsO_len (aCons_len (aNil_len))) rfl) (va_cons (v_cB (ok_take T) (hr.mono (by omega)) rfl (va_consO (vn 0) (va_cons (v_int) (va_nil))) (aConsO_len (aCons_len (aNil_len))) rfl) (va_nil)))) (vg_tup rfl (vgs_cons (vg_name (i := 3) sc_some_boards.nd rfl (by first | exact Or.inl rfl | exact Or.inr rfl)) (vgs_cons (vg_name (i := 4) sc_some_boards.nd rfl (by first | exact Or.inl rfl | exact Or.inr rfl)) (vgs_nil)))))
      (vss_cons (v_asg (v_if (vt_cmp o_lt (vn 4) (v_int) (nomark _)) (vn 4) (v_cB (ok_take T) (hr.mono (by omega)) rfl (va_consO (vn 0) (va_cons (v_ix (i_any hr.units) (v_lst (va_cons (v_int) (va_cons (v_callB (c_max rfl) rfl T.z_max bt_max (va_cons (v_int) (va_cons (v_op o_sub (v_op o_div (v_int) (vn 1)) (v_int)) (va_nil)))) (va_nil)))) (v_op o_sub (vn 4) (v_int)) (fun _ _ => rfl)) (va_nil))) (aConsO_len (aCons_len (aNil_len))) rfl)) (vg_name (i := 5) sc_some_boards.nd rfl (by first | exact Or.inl rfl | exact Or.inr rfl)))
      (vss_cons (v_asgLcO (i := 7) (own := [("_law_k", 6)]) rfl sc_some_boards.nd rfl rfl (sw_true rfl rfl rfl (by decide +kernel)) (vi_range1 rfl T.z_range (va_cons (vn 2) (va_nil))) (blkOk_by (own := [("_law_k", 6)]) (N := N_some_boards) (sc := defScope s_some_boards) (by decide +kernel)) (fun _ _ _ _ _ => vgo_name (i := 6) sc_some_boards.nd rfl (by first | exact Or.inl rfl | exact Or.inr rfl) (by decide)) (fun _ _ _ _ _ => vts_nil) (fun _ _ _ _ _ => v_op o_add' (vn 5) (v_op o_mul (v_ix (i_any hr.units) (v_lst (va_cons (v_int) (va_cons (v_int) (va_cons (v_int) (va_cons (v_int) (va_nil)))))) (vn 3) (fun _ _ => rfl)) (vn 6))))
      (vss_cons (v_asg (v_if (vt_cmp (o_eq hr.units) (v_cB (ok_take T) (hr.mono (by omega)) rfl (va_consO (vn 0) (va_cons (v_int) (va_nil))) (aConsO_len (aCons_len (aNil_len))) rfl) (v_int) (nomark _)) (v_op o_div (v_int) (vn 1)) (v_cB (ok_take T) (hr.mono (by omega)) rfl (va_consO (vn 0) (va_cons (v_op o_add' (v_int) (v_op o_div (v_int) (vn 1))) (va_nil))) (aConsO_len (aCons_len (aNil_len))) rfl)) (vg_name (i := 8) sc_some_boards.nd rfl (by first | exact Or.inl rfl | exact Or.inr rfl)))
      (vss_cons (v_ifS (VWt.t (vw_or (VWt.t (vw_and (vt_cmp (o_eq hr.units) (vn 3) (v_int) (nomark _)) (vw_and1 (vt_cmp (o_notIn hr.units) (vn 8) (vn 7) (by first | exact nomark _ | rfl))))) (vw_or1 (VWt.t (vw_and (vt_cmp (o_eq hr.units) (vn 8) (v_op o_div (v_int) (vn 1)) (nomark _)) (vw_and1 (vt_cmp (o_notIn hr.units) (vn 8) (vn 7) (by first | exact nomark _ | rfl)))))))) (vss_one (v_asg (vn 8) (vg_sub hr.units (vn 7) (v_neg (v_int))))) (vss_nil))
      (vss_cons (v_for PassesOwn.never rfl (vi_range1 rfl T.z_range (va_cons (v_op o_sub (vn 2) (v_int)) (va_nil))) (vg_name (i := 6) sc_some_boards.nd rfl (by first | exact Or.inl rfl | exact Or.inr rfl))
      (vss_cons (v_asg (v_op o_add' (vn 6) (v_cB (ok_take T) (hr.mono (by omega)) rfl (va_consO (vn 0) (va_cons (v_op o_sub (vn 2) (vn 6)) (va_nil))) (aConsO_len (aCons_len (aNil_len))) rfl)) (vg_name (i := 9) sc_some_boards.nd rfl (by first | exact Or.inl rfl | exact Or.inr rfl)))
      (vss_one (v_asg (v_tup (va_cons (v_ix (i_any hr.units) (vn 7) (vn 9) (fun _ _ => rfl)) (va_cons (v_ix (i_any hr.units) (vn 7) (vn 6) (fun _ _ => rfl)) (va_nil)))) (vg_tup rfl (vgs_cons (vg_sub hr.units (vn 7) (vn 6)) (vgs_cons (vg_sub hr.units (vn 7) (vn 9)) (vgs_nil))))))))
      (vss_one (v_ret (vn 7)))))))))
abbrev s_many : Stmt := top 30
abbrev N_many : List PySem.Str := ["_law_box_here", "_law_few", "_law_most", "_law_great"]
theorem sc_many : FnScope N_many ["_law_box_here", "_law_few", "_law_most"] (defScope s_many) := ⟨rfl, rfl, rfl, by decide +kernel, rfl, by decide +kernel, by decide +kernel⟩
noncomputable abbrev h_many : SF := NV.LB.h_many
noncomputable abbrev F_many : FF := NV.LB.F_many
theorem ok_many (T : Txt w K mg) : Okf P w K mg "_law_many" 2 ["_law_box_here", "_law_few", "_law_most"] (spF K 3 F_many) :=
  ok_mk (N := N_many) (h := h_many) T.f_many T.m_many sc_many (fun _ _ _ _ _ _ us hl => match us, hl with | [_, _, _], _ => rfl) fun base cdv A outer s H E hr =>
    vss_cons (v_asg (v_cmp (o_eq hr.units) (v_cB (ok_take T) (hr.mono (by omega)) rfl (va_consO (vn 0) (va_cons (v_int) (va_nil))) (aConsO_len (aCons_len (aNil_len))) rfl) (v_int) (nomark _)) (vg_name (i := 3) sc_many.nd rfl (by first | exact Or.inl rfl | exact Or.inr rfl)))
      (vss_one (v_ret (v_op o_add' (v_int) (v_cB (ok_take T) (hr.mono (by omega)) rfl (va_consO (vn 0) (va_cons (v_if (vt_val (vn 3)) (vn 2) (vn 1)) (va_nil))) (aConsO_len (aCons_len (aNil_len))) rfl))))
abbrev s_sheet_word : Stmt := top 32
abbrev N_sheet_word : List PySem.Str := ["_law_box_here", "_law_way", "_law_number"]
theorem sc_sheet_word : FnScope N_sheet_word ["_law_box_here"] (defScope s_sheet_word) := ⟨rfl, rfl, rfl, by decide +kernel, rfl, by decide +kernel, by decide +kernel⟩
noncomputable abbrev h_sheet_word : SF := NV.LB.h_sheet_word
noncomputable abbrev F_sheet_word : FF := NV.LB.F_sheet_word
theorem ok_sheet_word (T : Txt w K mg) : Okf P w K mg "_law_sheet_word" 2 ["_law_box_here"] (spF K 1 F_sheet_word) :=
  ok_mk (N := N_sheet_word) (h := h_sheet_word) T.f_sheet_word T.m_sheet_word sc_sheet_word (fun _ _ _ _ _ _ us hl => match us, hl with | [_], _ => rfl) fun base cdv A outer s H E hr =>
    vss_cons (v_asg (v_cB (ok_take T) (hr.mono (by omega)) rfl (va_consO (vn 0) (va_cons (v_int) (va_nil))) (aConsO_len (aCons_len (aNil_len))) rfl) (vg_name (i := 1) sc_sheet_word.nd rfl (by first | exact Or.inl rfl | exact Or.inr rfl)))
      (vss_cons (v_asg (v_cB (ok_take T) (hr.mono (by omega)) rfl (va_consO (vn 0) (va_cons (v_ix (i_any hr.units) (v_lst (va_cons (v_int) (va_cons (v_int) (va_cons (v_int) (va_cons (v_op o_pow (v_int) (v_int)) (va_nil)))))) (vn 1) (fun _ _ => rfl)) (va_nil))) (aConsO_len (aCons_len (aNil_len))) rfl) (vg_name (i := 2) sc_sheet_word.nd rfl (by first | exact Or.inl rfl | exact Or.inr rfl)))
      (vss_one (v_ret (v_ix (i_any hr.units) (v_lst (va_cons (vn 2) (va_cons (v_op o_add' (v_int) (vn 2)) (va_cons (v_op o_sub (v_neg (v_int)) (vn 2)) (va_cons (vn 2) (va_nil)))))) (vn 1) (fun _ _ => rfl)))))
abbrev s_sheet_deed : Stmt := top 33
abbrev N_sheet_deed : List PySem.Str := ["_law_box_here", "_law_size", "_law_some", "_law_way", "_law_spot"]
theorem sc_sheet_deed : FnScope N_sheet_deed ["_law_box_here", "_law_size", "_law_some"] (defScope s_sheet_deed) := ⟨rfl, rfl, rfl, by decide +kernel, rfl, by decide +kernel, by decide +kernel⟩
noncomputable abbrev h_sheet_deed : SF := NV.LB.h_sheet_deed
noncomputable abbrev F_sheet_deed : FF := NV.LB.F_sheet_deed
theorem ok_sheet_deed (T : Txt w K mg) : Okf P w K mg "_law_sheet_deed" 3 ["_law_box_here", "_law_size", "_law_some"] (spF K 3 F_sheet_deed) :=
  ok_mk (N := N_sheet_deed) (h := h_sheet_deed) T.f_sheet_deed T.m_sheet_deed sc_sheet_deed (fun _ _ _ _ _ _ us hl => match us, hl with | [_, _, _], _ => rfl) fun base cdv A outer s H E hr =>
    vss_cons (v_asg (v_cB (ok_take T) (hr.mono (by omega)) rfl (va_consO (vn 0) (va_cons (v_int) (va_nil))) (aConsO_len (aCons_len (aNil_len))) rfl) (vg_name (i := 3) sc_sheet_deed.nd rfl (by first | exact Or.inl rfl | exact Or.inr rfl)))
      (vss_cons (v_asg (v_callB (c_min rfl) rfl T.z_min bt_min (va_cons (v_int) (va_cons (v_op o_add' (v_op o_mul (v_ix (i_any hr.units) (vn 2) (v_cB (ok_take T) (hr.mono (by omega)) rfl (va_consO (vn 0) (va_cons (v_callB c_len rfl T.z_len bt_len (va_cons (vn 2) (va_nil))) (va_nil))) (aConsO_len (aCons_len (aNil_len))) rfl) (fun _ _ => rfl)) (vn 1)) (v_cB (ok_take T) (hr.mono (by omega)) rfl (va_consO (vn 0) (va_cons (vn 1) (va_nil))) (aConsO_len (aCons_len (aNil_len))) rfl)) (va_nil)))) (vg_name (i := 4) sc_sheet_deed.nd rfl (by first | exact Or.inl rfl | exact Or.inr rfl)))
      (vss_cons (v_ifS (vt_cmp o_lt (vn 3) (v_int) (nomark _)) (vss_one (v_ret (v_tup (va_cons (v_str) (va_cons (vn 4) (va_nil)))))) (vss_nil))
      (vss_one (v_ret (v_if (vt_cmp o_lt (vn 3) (v_int) (nomark _)) (v_tup (va_cons (v_str) (va_cons (vn 4) (va_cons (v_cB (ok_sheet_word T) (hr.mono (by omega)) rfl (va_consO (vn 0) (va_nil)) (aConsO_len (aNil_len)) rfl) (va_nil))))) (v_tup (va_cons (v_str) (va_nil))))))))
abbrev s_ask : Stmt := top 34
abbrev N_ask : List PySem.Str := ["_law_box_here", "_law_plan_here", "_law_some", "_law_word", "_law_wide", "_law_k", "_law_shelves"]
theorem sc_ask : FnScope N_ask ["_law_box_here", "_law_plan_here", "_law_some"] (defScope s_ask) := ⟨rfl, rfl, rfl, by decide +kernel, rfl, by decide +kernel, by decide +kernel⟩
noncomputable abbrev h_ask : SF := NV.LB.h_ask
noncomputable abbrev F_ask : FF := NV.LB.F_ask
theorem ok_ask (T : Txt w K mg) : Okf P w K mg "_law_ask" 2 ["_law_box_here", "_law_plan_here", "_law_some"] (spF K 3 F_ask) :=
  ok_mk (N := N_ask) (h := h_ask) T.f_ask T.m_ask sc_ask (fun _ _ _ _ _ _ us hl => match us, hl with | [_, _, _], _ => rfl) fun base cdv A outer s H E hr =>
    vss_cons (v_asg (v_ix (i_any hr.units) (v_lst (va_cons (v_str) (va_cons (v_str) (va_cons (v_str) (va_cons (v_str) (va_cons (v_str) (va_cons (v_str) (va_nil)))))))) (v_cB (ok_take T) (hr.mono (by omega)) rfl (va_consO (vn 0) (va_cons (v_int) (va_nil))) (aConsO_len (aCons_len (aNil_len))) rfl) (fun _ _ => rfl)) (vg_name (i := 3) sc_ask.nd rfl (by first | exact Or.inl rfl | exact Or.inr rfl)))
      (vss_cons (v_asg (v_callB c_len rfl T.z_len bt_len (va_cons (v_ix (i_any hr.units) (vn 1) (v_int) (fun _ _ => rfl)) (va_nil))) (vg_name (i := 4) sc_ask.nd rfl (by first | exact Or.inl rfl | exact Or.inr rfl)))
      (vss_cons (v_asg (v_ix (i_any hr.units) (v_lst (va_cons (v_cB (ok_take T) (hr.mono (by omega)) rfl (va_consO (vn 0) (va_cons (vn 4) (va_nil))) (aConsO_len (aCons_len (aNil_len))) rfl) (va_cons (v_cB (ok_take T) (hr.mono (by omega)) rfl (va_consO (vn 0) (va_cons (vn 4) (va_nil))) (aConsO_len (aCons_len (aNil_len))) rfl) (va_cons (vn 4) (va_cons (v_cB (ok_take T) (hr.mono (by omega)) rfl (va_consO (vn 0) (va_cons (v_int) (va_nil))) (aConsO_len (aCons_len (aNil_len))) rfl) (va_nil)))))) (v_cB (ok_take T) (hr.mono (by omega)) rfl (va_consO (vn 0) (va_cons (v_int) (va_nil))) (aConsO_len (aCons_len (aNil_len))) rfl) (fun _ _ => rfl)) (vg_name (i := 5) sc_ask.nd rfl (by first | exact Or.inl rfl | exact Or.inr rfl)))
      (vss_cons (v_ifS (vt_cmp (o_eq hr.units) (vn 3) (v_str) (nomark _)) (vss_cons (v_asg (v_ix (i_any hr.units) (v_ix (i_any hr.units) (v_ix (i_any hr.units) (vn 1) (v_int) (fun _ _ => rfl)) (v_callB (c_min rfl) rfl T.z_min bt_min (va_cons (vn 5) (va_cons (v_op o_sub (vn 4) (v_int)) (va_nil)))) (fun _ _ => rfl)) (v_int) (fun _ _ => rfl)) (vg_name (i := 6) sc_ask.nd rfl (by first | exact Or.inl rfl | exact Or.inr rfl)))
      (vss_cons (v_asg (v_lst (va_cons (v_cB (ok_take T) (hr.mono (by omega)) rfl (va_consO (vn 0) (va_cons (vn 6) (va_nil))) (aConsO_len (aCons_len (aNil_len))) rfl) (va_cons (v_callB (c_min rfl) rfl T.z_min bt_min (va_cons (v_int) (va_cons (vn 6) (va_nil)))) (va_cons (v_int) (va_nil))))) (vg_name (i := 2) sc_ask.nd rfl (by first | exact Or.inl rfl | exact Or.inr rfl)))
      (vss_one (v_ret (v_tup (va_cons (vn 3) (va_cons (vn 5) (va_cons (v_ix (i_any hr.units) (vn 2) (v_callB (c_max rfl) rfl T.z_max bt_max (va_cons (v_int) (va_cons (v_op o_sub (v_cB (ok_take T) (hr.mono (by omega)) rfl (va_consO (vn 0) (va_cons (v_int) (va_nil))) (aConsO_len (aCons_len (aNil_len))) rfl) (v_int)) (va_nil)))) (fun _ _ => rfl)) (va_nil))))))))) (vss_nil))
      (vss_cons (v_ifS (vt_cmp (o_eq hr.units) (vn 3) (v_str) (nomark _)) (vss_one (v_ret (v_tup (va_cons (vn 3) (va_cons (vn 5) (va_cons (v_ix (i_any hr.units) (v_lst (va_cons (v_ix (i_any hr.units) (vn 2) (v_cB (ok_take T) (hr.mono (by omega)) rfl (va_consO (vn 0) (va_cons (v_callB c_len rfl T.z_len bt_len (va_cons (vn 2) (va_nil))) (va_nil))) (aConsO_len (aCons_len (aNil_len))) rfl) (fun _ _ => rfl)) (va_cons (v_ix (i_any hr.units) (vn 2) (v_int) (fun _ _ => rfl)) (va_cons (v_cB (ok_take T) (hr.mono (by omega)) rfl (va_consO (vn 0) (va_cons (v_int) (va_nil))) (aConsO_len (aCons_len (aNil_len))) rfl) (va_cons (v_int) (va_nil)))))) (v_cB (ok_take T) (hr.mono (by omega)) rfl (va_consO (vn 0) (va_cons (v_int) (va_nil))) (aConsO_len (aCons_len (aNil_len))) rfl) (fun _ _ => rfl)) (va_nil))))))) (vss_nil))
      (vss_one (v_ret (v_if (vt_cmp (o_in hr.units) (vn 3) (v_tup (va_cons (v_str) (va_cons (v_str) (va_nil)))) (by first | exact nomark _ | rfl)) (v_tup (va_cons (vn 3) (va_cons (vn 5) (va_nil)))) (v_tup (va_cons (vn 3) (va_nil))))))))))
abbrev s_orders : Stmt := top 38
abbrev N_orders : List PySem.Str := ["_law_box_here", "_law_plan_here", "_law_most", "_law_some", "_law_found", "_law_turn"]
theorem sc_orders : FnScope N_orders ["_law_box_here", "_law_plan_here", "_law_most"] (defScope s_orders) := ⟨rfl, rfl, rfl, by decide +kernel, rfl, by decide +kernel, by decide +kernel⟩
noncomputable abbrev h_orders : SF := NV.LB.h_orders
noncomputable abbrev F_orders : FF := NV.LB.F_orders
theorem ok_orders (T : Txt w K mg) : Okf P w K mg "_law_orders" 4 ["_law_box_here", "_law_plan_here", "_law_most"] (spF K 3 F_orders) :=
  ok_mk (N := N_orders) (h := h_orders) T.f_orders T.m_orders sc_orders (fun _ _ _ _ _ _ us hl => match us, hl with | [_, _, _], _ => rfl) fun base cdv A outer s H E hr =>
    vss_cons (v_par (i := 3) (j := 4) rfl sc_orders.nd rfl rfl (by decide) rfl rfl (va_cons (v_cB (ok_some_boards T) (hr.mono (by omega)) rfl (va_consO (vn 0) (va_cons (v_ix (i_any hr.units) (vn 1) (v_int) (fun _ _ => rfl)) (va_nil))) (aConsO_len (aCons_len (aNil_len))) rfl) (va_consO (v_lst (va_nil)) (va_nil))) (by rfl))
      (vss_cons (v_for PassesOwn.never rfl (vi_range1 rfl T.z_range (va_cons (v_cB (ok_many T) (hr.mono (by omega)) rfl (va_consO (vn 0) (va_cons (v_int) (va_cons (vn 2) (va_nil)))) (aConsO_len (aCons_len (aCons_len (aNil_len)))) rfl) (va_nil))) (vg_name (i := 5) sc_orders.nd rfl (by first | exact Or.inl rfl | exact Or.inr rfl))
      (vss_one (v_expr (v_lm PySem.F.slot_list_append PySem.F.type_list_append l_append (vn 4) (va_cons (v_if (vt_cmp (o_eq hr.units) (v_cB (ok_take T) (hr.mono (by omega)) rfl (va_consO (vn 0) (va_cons (v_int) (va_nil))) (aConsO_len (aCons_len (aNil_len))) rfl) (v_int) (nomark _)) (v_cB (ok_sheet_deed T) (hr.mono (by omega)) rfl (va_consO (vn 0) (va_cons (v_ix (i_any hr.units) (vn 1) (v_int) (fun _ _ => rfl)) (va_cons (vn 3) (va_nil)))) (aConsO_len (aCons_len (aCons_len (aNil_len)))) rfl) (v_cB (ok_ask T) (hr.mono (by omega)) rfl (va_consO (vn 0) (va_cons (vn 1) (va_cons (vn 3) (va_nil)))) (aConsO_len (aCons_len (aCons_len (aNil_len)))) rfl)) (va_nil))))))
      (vss_one (v_ret (vn 4))))
abbrev s_far_order : Stmt := top 40
abbrev N_far_order : List PySem.Str := ["_law_box_here", "_law_some"]
theorem sc_far_order : FnScope N_far_order ["_law_box_here"] (defScope s_far_order) := ⟨rfl, rfl, rfl, by decide +kernel, rfl, by decide +kernel, by decide +kernel⟩
noncomputable def h_far_order : SF := sSeq (sAsg (eLst (aCons (eTup (aCons (eC (.str "read")) (aCons (eC (.int 0)) (aNil)))) (aCons (eTup (aCons (eC (.str "read")) (aCons (eC (.int 9999)) (aNil)))) (aCons (eTup (aCons (eC (.str "write")) (aCons (eC (.int 9999)) (aCons (eC (.int 999999999)) (aNil))))) (aCons (eTup (aCons (eC (.str "write")) (aCons (eC (.int 0)) (aCons (eNeg (eC (.int 999999999))) (aNil))))) (aCons (eTup (aCons (eC (.str "write")) (aCons (eC (.int 7)) (aCons (eC (.int 0)) (aNil))))) (aNil))))))) (gN 1)) (sSeq (sAsg (eOp hAdd' (eVar 1) (eLst (aCons (eTup (aCons (eC (.str "lies")) (aCons (eC (.int 4)) (aNil)))) (aCons (eTup (aCons (eC (.str "changed")) (aCons (eC (.int 0)) (aNil)))) (aCons (eTup (aCons (eC (.str "order")) (aCons (eC (.int 4)) (aCons (eC (.int 63)) (aNil))))) (aCons (eTup (aCons (eC (.str "words")) (aCons (eC (.int 4)) (aCons (eC (.int 9999)) (aNil))))) (aCons (eTup (aCons (eC (.str "words")) (aCons (eC (.int 0)) (aCons (eC (.int 0)) (aNil))))) (aCons (eTup (aCons (eC (.str "empty")) (aNil))) (aNil))))))))) (gN 1)) (sRet (eOp hIx (eVar 1) (eCallB F_take (aConsO (eVar 0) (aCons (eC (.int 11)) (aNil)))))))
noncomputable def F_far_order : FF := runF 2 h_far_order
theorem ok_far_order (T : Txt w K mg) : Okf P w K mg "_law_far_order" 2 ["_law_box_here"] (spF K 1 F_far_order) :=
  ok_mk (N := N_far_order) (h := h_far_order) T.f_far_order T.m_far_order sc_far_order (fun _ _ _ _ _ _ us hl => match us, hl with | [_], _ => rfl) fun base cdv A outer s H E hr =>
    vss_cons (v_asg (v_lst (va_cons (v_tup (va_cons (v_str) (va_cons (v_int) (va_nil)))) (va_cons (v_tup (va_cons (v_str) (va_cons (v_int) (va_nil)))) (va_cons (v_tup (va_cons (v_str) (va_cons (v_int) (va_cons (v_int) (va_nil))))) (va_cons (v_tup (va_cons (v_str) (va_cons (v_int) (va_cons (v_neg (v_int)) (va_nil))))) (va_cons (v_tup (va_cons (v_str) (va_cons (v_int) (va_cons (v_int) (va_nil))))) (va_nil))))))) (vg_name (i := 1) sc_far_order.nd rfl (by first | exact Or.inl rfl | exact Or.inr rfl)))
      (vss_cons (v_asg (v_op o_add' (vn 1) (v_lst (va_cons (v_tup (va_cons (v_str) (va_cons (v_int) (va_nil)))) (va_cons (v_tup (va_cons (v_str) (va_cons (v_int) (va_nil)))) (va_cons (v_tup (va_cons (v_str) (va_cons (v_int) (va_cons (v_int) (va_nil))))) (va_cons (v_tup (va_cons (v_str) (va_cons (v_int) (va_cons (v_int) (va_nil))))) (va_cons (v_tup (va_cons (v_str) (va_cons (v_int) (va_cons (v_int) (va_nil))))) (va_cons (v_tup (va_cons (v_str) (va_nil))) (va_nil))))))))) (vg_name (i := 1) sc_far_order.nd rfl (by first | exact Or.inl rfl | exact Or.inr rfl)))
      (vss_one (v_ret (v_ix (i_any hr.units) (vn 1) (v_cB (ok_take T) (hr.mono (by omega)) rfl (va_consO (vn 0) (va_cons (v_int) (va_nil))) (aConsO_len (aCons_len (aNil_len))) rfl) (fun _ _ => rfl)))))
abbrev s_plan_rows : Stmt := top 35
abbrev N_plan_rows : List PySem.Str := ["_law_plan_here", "_law_size", "_law_kind", "_law_rooms", "_law_found", "_law_one", "_law_part"]
theorem sc_plan_rows : FnScope N_plan_rows ["_law_plan_here"] (defScope s_plan_rows) := ⟨rfl, rfl, rfl, by decide +kernel, rfl, by decide +kernel, by decide +kernel⟩
noncomputable abbrev h_plan_rows : SF := NV.LB.h_plan_rows
noncomputable abbrev F_plan_rows : FF := NV.LB.F_plan_rows
theorem ok_plan_rows (T : Txt w K mg) : Okf P w K mg "_law_plan_rows" 1 ["_law_plan_here"] (spF K 1 F_plan_rows) :=
  ok_mk (N := N_plan_rows) (h := h_plan_rows) T.f_plan_rows T.m_plan_rows sc_plan_rows (fun _ _ _ _ _ _ us hl => match us, hl with | [_], _ => rfl) fun base cdv A outer s H E hr =>
    vss_cons (v_asg (vn 0) (vg_tup rfl (vgs_cons (vg_name (i := 1) sc_plan_rows.nd rfl (by first | exact Or.inl rfl | exact Or.inr rfl)) (vgs_cons (vg_name (i := 2) sc_plan_rows.nd rfl (by first | exact Or.inl rfl | exact Or.inr rfl)) (vgs_cons (vg_name (i := 3) sc_plan_rows.nd rfl (by first | exact Or.inl rfl | exact Or.inr rfl)) (vgs_nil))))))
      (vss_cons (v_asg (v_lst (va_cons (v_op o_add' (v_str) (v_callTy c_strX rfl T.z_str bt_str (va_cons (vn 1) (va_nil)))) (va_cons (v_op o_add' (v_str) (vn 2)) (va_nil)))) (vg_name (i := 4) sc_plan_rows.nd rfl (by first | exact Or.inl rfl | exact Or.inr rfl)))
      (vss_one (v_ret (v_op o_add' (vn 4) (v_lcC cvF_ok (own := [("_law_one", 5)]) rfl sc_plan_rows.nd (vi_sq (vn 3)) (blkOk_by (own := [("_law_one", 5)]) (N := N_plan_rows) (sc := defScope s_plan_rows) (by decide +kernel)) (fun _ _ _ _ _ => vgo_name (i := 5) sc_plan_rows.nd rfl (by first | exact Or.inl rfl | exact Or.inr rfl) (by decide)) (fun _ _ _ _ _ => vts_nil) (fun _ _ _ _ _ => v_sm PySem.F.slot_str_join PySem.F.type_str_join s_join (v_str) (va_cons (v_op o_add' (v_lst (va_cons (v_str) (va_nil))) (v_lcC cvF_ok (own := [("_law_part", 6)]) rfl sc_plan_rows.nd (vi_sq (vn 5)) (by dsimp only [Cx.blk, compEnvC, cxOf, Cx.nox]; exact blkOk_by (own := [("_law_part", 6)]) (N := N_plan_rows) (by kernel_rfl)) (fun _ _ _ _ _ => vgo_name (i := 6) sc_plan_rows.nd rfl (by first | exact Or.inl rfl | exact Or.inr rfl) (by decide)) (fun _ _ _ _ _ => vts_nil) (fun _ _ _ _ _ => v_callTy c_strX rfl T.z_str bt_str (va_cons (vn 6) (va_nil))))) (va_nil))))))))
abbrev s_order_row : Stmt := top 36
abbrev N_order_row : List PySem.Str := ["_law_told", "_law_part"]
theorem sc_order_row : FnScope N_order_row ["_law_told"] (defScope s_order_row) := ⟨rfl, rfl, rfl, by decide +kernel, rfl, by decide +kernel, by decide +kernel⟩
noncomputable abbrev h_order_row : SF := NV.LB.h_order_row
noncomputable abbrev F_order_row : FF := NV.LB.F_order_row
theorem ok_order_row (T : Txt w K mg) : Okf P w K mg "_law_order_row" 1 ["_law_told"] (spF K 1 F_order_row) :=
  ok_mk (N := N_order_row) (h := h_order_row) T.f_order_row T.m_order_row sc_order_row (fun _ _ _ _ _ _ us hl => match us, hl with | [_], _ => rfl) fun base cdv A outer s H E hr =>
    vss_one (v_ret (v_sm PySem.F.slot_str_join PySem.F.type_str_join s_join (v_str) (va_cons (v_lcC cvF_ok (own := [("_law_part", 1)]) rfl sc_order_row.nd (vi_sq (vn 0)) (blkOk_by (own := [("_law_part", 1)]) (N := N_order_row) (sc := defScope s_order_row) (by decide +kernel)) (fun _ _ _ _ _ => vgo_name (i := 1) sc_order_row.nd rfl (by first | exact Or.inl rfl | exact Or.inr rfl) (by decide)) (fun _ _ _ _ _ => vts_nil) (fun _ _ _ _ _ => v_callTy c_strX rfl T.z_str bt_str (va_cons (vn 1) (va_nil)))) (va_nil))))
abbrev s_spaced : Stmt := top 37
abbrev N_spaced : List PySem.Str := ["_law_box_here", "_law_rows", "_law_found", "_law_turn"]
theorem sc_spaced : FnScope N_spaced ["_law_box_here", "_law_rows"] (defScope s_spaced) := ⟨rfl, rfl, rfl, by decide +kernel, rfl, by decide +kernel, by decide +kernel⟩
noncomputable abbrev h_spaced : SF := NV.LB.h_spaced
noncomputable abbrev F_spaced : FF := NV.LB.F_spaced
theorem ok_spaced (T : Txt w K mg) : Okf P w K mg "_law_spaced" 2 ["_law_box_here", "_law_rows"] (spF K 2 F_spaced) :=
  ok_mk (N := N_spaced) (h := h_spaced) T.f_spaced T.m_spaced sc_spaced (fun _ _ _ _ _ _ us hl => match us, hl with | [_, _], _ => rfl) fun base cdv A outer s H E hr =>
    vss_cons (v_asgO (v_callTy c_list rfl T.z_list bt_list (va_cons (vn 1) (va_nil))) (vg_name (i := 2) sc_spaced.nd rfl (by first | exact Or.inl rfl | exact Or.inr rfl)))
      (vss_cons (v_for PassesOwn.never rfl (vi_range1 rfl T.z_range (va_cons (v_ix (i_any hr.units) (v_lst (va_cons (v_int) (va_cons (v_int) (va_cons (v_int) (va_cons (v_cB (ok_take T) (hr.mono (by omega)) rfl (va_consO (vn 0) (va_cons (v_int) (va_nil))) (aConsO_len (aCons_len (aNil_len))) rfl) (va_nil)))))) (v_cB (ok_take T) (hr.mono (by omega)) rfl (va_consO (vn 0) (va_cons (v_int) (va_nil))) (aConsO_len (aCons_len (aNil_len))) rfl) (fun _ _ => rfl)) (va_nil))) (vg_name (i := 3) sc_spaced.nd rfl (by first | exact Or.inl rfl | exact Or.inr rfl))
      (vss_one (v_expr (v_lm PySem.F.slot_list_insert PySem.F.type_list_insert l_insert (vn 2) (va_cons (v_cB (ok_take T) (hr.mono (by omega)) rfl (va_consO (vn 0) (va_cons (v_op o_add' (v_callB c_len rfl T.z_len bt_len (va_cons (vn 2) (va_nil))) (v_int)) (va_nil))) (aConsO_len (aCons_len (aNil_len))) rfl) (va_cons (v_str) (va_nil)))))))
      (vss_one (v_ret (vn 2))))
abbrev s_Sheet___init__ : Stmt := inClass (top 20) 0
abbrev N_Sheet___init__ : List PySem.Str := ["self"]
theorem sc_Sheet___init__ : FnScope N_Sheet___init__ ["self"] (defScope s_Sheet___init__) := ⟨rfl, rfl, rfl, by decide +kernel, rfl, by decide +kernel, by decide +kernel⟩
noncomputable abbrev h_Sheet___init__ : SF := NV.LB.h_Sheet___init__
noncomputable abbrev F_Sheet___init__ : FF := NV.LB.F_Sheet___init__
theorem ok_Sheet___init__ (T : Txt w K mg) : Okm P w K mg "Sheet" "__init__" 1 ["self"] (spF K 1 F_Sheet___init__) :=
  okm_mk (N := N_Sheet___init__) (h := h_Sheet___init__) T.f_Sheet___init__ sc_Sheet___init__ (fun _ _ _ _ _ _ us hl => match us, hl with | [_], _ => rfl) fun base cdv A outer s H E hr =>
    vss_cons (v_sfld T.c_Sheet T.n_Sheet_size (v_non) (vn 0))
      (vss_cons (v_sfld T.c_Sheet T.n_Sheet_kind (v_non) (vn 0))
      (vss_cons (v_sfld T.c_Sheet T.n_Sheet_rooms (v_lst (va_nil)) (vn 0))
      (vss_one (v_sfld T.c_Sheet T.n_Sheet_orders (v_lst (va_nil)) (vn 0)))))
abbrev s_is_plain : Stmt := top 15
abbrev N_is_plain : List PySem.Str := ["part", "sign"]
theorem sc_is_plain : FnScope N_is_plain ["part"] (defScope s_is_plain) := ⟨rfl, rfl, rfl, by decide +kernel, rfl, by decide +kernel, by decide +kernel⟩
noncomputable abbrev h_is_plain : SF := NV.LB.h_is_plain
noncomputable abbrev F_is_plain : FF := NV.LB.F_is_plain
theorem ok_is_plain (T : Txt w K mg) : Okf P w K mg "is_plain" 1 ["part"] (spF K 1 F_is_plain) :=
  ok_mk (N := N_is_plain) (h := h_is_plain) T.f_is_plain T.m_is_plain sc_is_plain (fun _ _ _ _ _ _ us hl => match us, hl with | [_], _ => rfl) fun base cdv A outer s H E hr =>
    vss_cons (v_ifS (VWt.t (vw_or (vt_not (vt_chain o_le o_le (v_int) (v_callB c_len rfl T.z_len bt_len (va_cons (vn 0) (va_nil))) (v_gc rfl T.g_MOST_FIGURES))) (vw_or1 (vt_val (v_callB (c_any rfl) rfl T.z_any bt_any (va_cons (v_lcC cvF_ok (own := [("sign", 1)]) rfl sc_is_plain.nd (vi_sg (vn 0)) (blkOk_by (own := [("sign", 1)]) (N := N_is_plain) (sc := defScope s_is_plain) (by decide +kernel)) (fun _ _ _ _ _ => vgo_name (i := 1) sc_is_plain.nd rfl (by first | exact Or.inl rfl | exact Or.inr rfl) (by decide)) (fun _ _ _ _ _ => vts_nil) (fun _ _ _ _ _ => v_cmp (o_notInX hr.units) (vn 1) (v_gc rfl T.g_FIGURES) (by first | exact nomark _ | rfl))) (va_nil))))))) (vss_one (v_ret (v_bl))) (vss_nil))
      (vss_one (v_ret (v_or (v_cmp (o_eq hr.units) (vn 0) (v_str) (nomark _)) (v_one (v_cmp (o_ne hr.units) (v_ix (i_any hr.units) (vn 0) (v_int) (fun _ _ => rfl)) (v_str) (nomark _))))))
abbrev s_number_in : Stmt := top 16
abbrev N_number_in : List PySem.Str := ["part", "least", "most"]
theorem sc_number_in : FnScope N_number_in ["part", "least", "most"] (defScope s_number_in) := ⟨rfl, rfl, rfl, by decide +kernel, rfl, by decide +kernel, by decide +kernel⟩
noncomputable abbrev h_number_in : SF := NV.LB.h_number_in
noncomputable abbrev F_number_in : FF := NV.LB.F_number_in
theorem ok_number_in (T : Txt w K mg) : Okf P w K mg "number_in" 2 ["part", "least", "most"] (spF K 3 F_number_in) :=
  ok_mk (N := N_number_in) (h := h_number_in) T.f_number_in T.m_number_in sc_number_in (fun _ _ _ _ _ _ us hl => match us, hl with | [_, _, _], _ => rfl) fun base cdv A outer s H E hr =>
    vss_cons (v_ifS (VWt.t (vw_or (vt_not (vt_val (v_cP (ok_is_plain T) (hr.mono (by omega)) rfl (va_cons (vn 0) (va_nil)) (aCons_len (aNil_len)) rfl))) (vw_or1 (vt_not (vt_chain o_le o_le (vn 1) (v_callTy c_intX rfl T.z_int bt_int (va_cons (vn 0) (va_nil))) (vn 2)))))) (vss_one (v_ret (v_non))) (vss_nil))
      (vss_one (v_ret (v_callTy c_intX rfl T.z_int bt_int (va_cons (vn 0) (va_nil)))))
abbrev s_Sheet_takes_size : Stmt := inClass (top 20) 2
abbrev N_Sheet_takes_size : List PySem.Str := ["self", "parts"]
theorem sc_Sheet_takes_size : FnScope N_Sheet_takes_size ["self", "parts"] (defScope s_Sheet_takes_size) := ⟨rfl, rfl, rfl, by decide +kernel, rfl, by decide +kernel, by decide +kernel⟩
noncomputable abbrev h_Sheet_takes_size : SF := NV.LB.h_Sheet_takes_size
noncomputable abbrev F_Sheet_takes_size : FF := NV.LB.F_Sheet_takes_size
theorem ok_Sheet_takes_size (T : Txt w K mg) : Okm P w K mg "Sheet" "takes_size" 3 ["self", "parts"] (spF K 2 F_Sheet_takes_size) :=
  okm_mk (N := N_Sheet_takes_size) (h := h_Sheet_takes_size) T.f_Sheet_takes_size sc_Sheet_takes_size (fun _ _ _ _ _ _ us hl => match us, hl with | [_, _], _ => rfl) fun base cdv A outer s H E hr =>
    vss_cons (v_ifS (VWt.t (vw_and (vt_cmp (o_eq hr.units) (v_callB c_len rfl T.z_len bt_len (va_cons (vn 1) (va_nil))) (v_int) (nomark _)) (vw_and1 (vt_cmp (o_eq hr.units) (v_ix (i_any hr.units) (vn 1) (v_int) (fun _ _ => rfl)) (v_str) (nomark _))))) (vss_one (v_sfld T.c_Sheet T.n_Sheet_size (v_cP (ok_number_in T) (hr.mono (by omega)) rfl (va_cons (v_ix (i_any hr.units) (vn 1) (v_int) (fun _ _ => rfl)) (va_cons (v_int) (va_cons (v_int) (va_nil)))) (aCons_len (aCons_len (aCons_len (aNil_len)))) rfl) (vn 0))) (vss_nil))
      (vss_one (v_ret (v_cmp o_isNot (v_fld T.c_Sheet T.n_Sheet_size (vn 0)) (v_non) (nomark _))))
abbrev s_Sheet_takes_kind : Stmt := inClass (top 20) 3
abbrev N_Sheet_takes_kind : List PySem.Str := ["self", "parts"]
theorem sc_Sheet_takes_kind : FnScope N_Sheet_takes_kind ["self", "parts"] (defScope s_Sheet_takes_kind) := ⟨rfl, rfl, rfl, by decide +kernel, rfl, by decide +kernel, by decide +kernel⟩
noncomputable abbrev h_Sheet_takes_kind : SF := NV.LB.h_Sheet_takes_kind
noncomputable abbrev F_Sheet_takes_kind : FF := NV.LB.F_Sheet_takes_kind
theorem ok_Sheet_takes_kind (T : Txt w K mg) : Okm P w K mg "Sheet" "takes_kind" 1 ["self", "parts"] (spF K 2 F_Sheet_takes_kind) :=
  okm_mk (N := N_Sheet_takes_kind) (h := h_Sheet_takes_kind) T.f_Sheet_takes_kind sc_Sheet_takes_kind (fun _ _ _ _ _ _ us hl => match us, hl with | [_, _], _ => rfl) fun base cdv A outer s H E hr =>
    vss_cons (v_ifS (VWt.t (vw_and (vt_cmp (o_eq hr.units) (v_callB c_len rfl T.z_len bt_len (va_cons (vn 1) (va_nil))) (v_int) (nomark _)) (vw_and (vt_cmp (o_eq hr.units) (v_ix (i_any hr.units) (vn 1) (v_int) (fun _ _ => rfl)) (v_str) (nomark _)) (vw_and1 (vt_cmp (o_in hr.units) (v_ix (i_any hr.units) (vn 1) (v_int) (fun _ _ => rfl)) (v_gc rfl T.g_KINDS) (by first | exact nomark _ | rfl)))))) (vss_one (v_sfld T.c_Sheet T.n_Sheet_kind (v_ix (i_any hr.units) (vn 1) (v_int) (fun _ _ => rfl)) (vn 0))) (vss_nil))
      (vss_one (v_ret (v_cmp o_isNot (v_fld T.c_Sheet T.n_Sheet_kind (vn 0)) (v_non) (nomark _))))
abbrev s_room_in : Stmt := top 19
abbrev N_room_in : List PySem.Str := ["parts", "shelves", "places"]
theorem sc_room_in : FnScope N_room_in ["parts"] (defScope s_room_in) := ⟨rfl, rfl, rfl, by decide +kernel, rfl, by decide +kernel, by decide +kernel⟩
noncomputable abbrev h_room_in : SF := NV.LB.h_room_in
noncomputable abbrev F_room_in : FF := NV.LB.F_room_in
theorem ok_room_in (T : Txt w K mg) : Okf P w K mg "room_in" 3 ["parts"] (spF K 1 F_room_in) :=
  ok_mk (N := N_room_in) (h := h_room_in) T.f_room_in T.m_room_in sc_room_in (fun _ _ _ _ _ _ us hl => match us, hl with | [_], _ => rfl) fun base cdv A outer s H E hr =>
    vss_cons (v_ifS (VWt.t (vw_or (vt_cmp (o_ne hr.units) (v_callB c_len rfl T.z_len bt_len (va_cons (vn 0) (va_nil))) (v_int) (nomark _)) (vw_or (vt_cmp (o_ne hr.units) (v_ix (i_any hr.units) (vn 0) (v_int) (fun _ _ => rfl)) (v_str) (nomark _)) (vw_or (vt_cmp (o_notIn hr.units) (v_ix (i_any hr.units) (vn 0) (v_int) (fun _ _ => rfl)) (v_gc rfl T.g_RULES) (by first | exact nomark _ | rfl)) (vw_or1 (vt_cmp (o_notIn hr.units) (v_ix (i_any hr.units) (vn 0) (v_int) (fun _ _ => rfl)) (v_gc rfl T.g_WRITINGS) (by first | exact nomark _ | rfl))))))) (vss_one (v_ret (v_non))) (vss_nil))
      (vss_cons (v_par (i := 1) (j := 2) rfl sc_room_in.nd rfl rfl (by decide) rfl rfl (va_cons (v_cP (ok_number_in T) (hr.mono (by omega)) rfl (va_cons (v_ix (i_any hr.units) (vn 0) (v_int) (fun _ _ => rfl)) (va_cons (v_int) (va_cons (v_int) (va_nil)))) (aCons_len (aCons_len (aCons_len (aNil_len)))) rfl) (va_cons (v_cP (ok_number_in T) (hr.mono (by omega)) rfl (va_cons (v_ix (i_any hr.units) (vn 0) (v_int) (fun _ _ => rfl)) (va_cons (v_int) (va_cons (v_int) (va_nil)))) (aCons_len (aCons_len (aCons_len (aNil_len)))) rfl) (va_nil))) (by rfl))
      (vss_one (v_ret (v_if (VWt.t (vw_or (vt_cmp o_is (vn 1) (v_non) (nomark _)) (vw_or1 (vt_cmp o_is (vn 2) (v_non) (nomark _))))) (v_non) (v_tup (va_cons (vn 1) (va_cons (vn 2) (va_cons (v_ix (i_any hr.units) (vn 0) (v_int) (fun _ _ => rfl)) (va_cons (v_ix (i_any hr.units) (vn 0) (v_int) (fun _ _ => rfl)) (va_nil))))))))))
abbrev s_signed_in : Stmt := top 17
abbrev N_signed_in : List PySem.Str := ["part", "found"]
theorem sc_signed_in : FnScope N_signed_in ["part"] (defScope s_signed_in) := ⟨rfl, rfl, rfl, by decide +kernel, rfl, by decide +kernel, by decide +kernel⟩
noncomputable abbrev h_signed_in : SF := NV.LB.h_signed_in
noncomputable abbrev F_signed_in : FF := NV.LB.F_signed_in
theorem ok_signed_in (T : Txt w K mg) : Okf P w K mg "signed_in" 3 ["part"] (spF K 1 F_signed_in) :=
  ok_mk (N := N_signed_in) (h := h_signed_in) T.f_signed_in T.m_signed_in sc_signed_in (fun _ _ _ _ _ _ us hl => match us, hl with | [_], _ => rfl) fun base cdv A outer s H E hr =>
    vss_cons (v_ifS (vt_cmp (o_eq hr.units) (v_sl s_any (vn 0) (vo_none) (vo_some (v_int))) (v_str) (nomark _)) (vss_cons (v_asg (v_cP (ok_number_in T) (hr.mono (by omega)) rfl (va_cons (v_sl s_any (vn 0) (vo_some (v_int)) (vo_none)) (va_cons (v_int) (va_cons (v_gc rfl T.g_MOST_NUMBER) (va_nil)))) (aCons_len (aCons_len (aCons_len (aNil_len)))) rfl) (vg_name (i := 1) sc_signed_in.nd rfl (by first | exact Or.inl rfl | exact Or.inr rfl)))
      (vss_one (v_ret (v_if (vt_cmp o_is (vn 1) (v_non) (nomark _)) (v_non) (v_op o_sub (v_int) (vn 1)))))) (vss_nil))
      (vss_one (v_ret (v_cP (ok_number_in T) (hr.mono (by omega)) rfl (va_cons (vn 0) (va_cons (v_int) (va_cons (v_gc rfl T.g_MOST_NUMBER) (va_nil)))) (aCons_len (aCons_len (aCons_len (aNil_len)))) rfl)))
abbrev s_order_in : Stmt := top 18
abbrev N_order_in : List PySem.Str := ["parts", "bounds", "numbers", "part", "most"]
theorem sc_order_in : FnScope N_order_in ["parts"] (defScope s_order_in) := ⟨rfl, rfl, rfl, by decide +kernel, rfl, by decide +kernel, by decide +kernel⟩
noncomputable abbrev h_order_in : SF := NV.LB.h_order_in
noncomputable abbrev F_order_in : FF := NV.LB.F_order_in
theorem ok_order_in (T : Txt w K mg) : Okf P w K mg "order_in" 4 ["parts"] (spF K 1 F_order_in) :=
  ok_mk (N := N_order_in) (h := h_order_in) T.f_order_in T.m_order_in sc_order_in (fun _ _ _ _ _ _ us hl => match us, hl with | [_], _ => rfl) fun base cdv A outer s H E hr =>
    vss_cons (v_asg (v_getK T.kt_BOUNDS rfl (v_ix (i_any hr.units) (vn 0) (v_int) (fun _ _ => rfl))) (vg_name (i := 1) sc_order_in.nd rfl (by first | exact Or.inl rfl | exact Or.inr rfl)))
      (vss_cons (v_ifS (VWt.t (vw_or (vt_cmp o_is (vn 1) (v_non) (nomark _)) (vw_or1 (vt_cmp (o_ne hr.units) (v_callB c_len rfl T.z_len bt_len (va_cons (vn 0) (va_nil))) (v_op o_add' (v_callB c_len rfl T.z_len bt_len (va_cons (vn 1) (va_nil))) (v_int)) (nomark _))))) (vss_one (v_ret (v_non))) (vss_nil))
      (vss_cons (v_asgO (v_lst (va_nil)) (vg_name (i := 2) sc_order_in.nd rfl (by first | exact Or.inl rfl | exact Or.inr rfl)))
      (vss_cons (v_for PassesOwn.never rfl (vi_zm rfl T.z_zip (va_cons (v_sl s_any (vn 0) (vo_some (v_int)) (vo_none)) (va_cons (vn 1) (va_nil)))) (vg_tup rfl (vgs_cons (vg_name (i := 3) sc_order_in.nd rfl (by first | exact Or.inl rfl | exact Or.inr rfl)) (vgs_cons (vg_name (i := 4) sc_order_in.nd rfl (by first | exact Or.inl rfl | exact Or.inr rfl)) (vgs_nil))))
      (vss_one (v_expr (v_lm PySem.F.slot_list_append PySem.F.type_list_append l_append (vn 2) (va_cons (v_if (vt_cmp o_is (vn 4) (v_non) (nomark _)) (v_cP (ok_signed_in T) (hr.mono (by omega)) rfl (va_cons (vn 3) (va_nil)) (aCons_len (aNil_len)) rfl) (v_cP (ok_number_in T) (hr.mono (by omega)) rfl (va_cons (vn 3) (va_cons (v_int) (va_cons (vn 4) (va_nil)))) (aCons_len (aCons_len (aCons_len (aNil_len)))) rfl)) (va_nil))))))
      (vss_one (v_ret (v_if (vt_cmp (o_in hr.units) (v_non) (vn 2) (by first | exact nomark _ | rfl)) (v_non) (v_callTy c_tuple rfl T.z_tuple bt_tuple (va_cons (v_op o_add' (v_sl s_any (vn 0) (vo_none) (vo_some (v_int))) (vn 2)) (va_nil)))))))))
abbrev s_Sheet_takes : Stmt := inClass (top 20) 1
abbrev N_Sheet_takes : List PySem.Str := ["self", "parts", "told"]
theorem sc_Sheet_takes : FnScope N_Sheet_takes ["self", "parts"] (defScope s_Sheet_takes) := ⟨rfl, rfl, rfl, by decide +kernel, rfl, by decide +kernel, by decide +kernel⟩
noncomputable abbrev h_Sheet_takes : SF := NV.LB.h_Sheet_takes
noncomputable abbrev F_Sheet_takes : FF := NV.LB.F_Sheet_takes
theorem ok_Sheet_takes (T : Txt w K mg) : Okm P w K mg "Sheet" "takes" 5 ["self", "parts"] (spF K 2 F_Sheet_takes) :=
  okm_mk (N := N_Sheet_takes) (h := h_Sheet_takes) T.f_Sheet_takes sc_Sheet_takes (fun _ _ _ _ _ _ us hl => match us, hl with | [_, _], _ => rfl) fun base cdv A outer s H E hr =>
    vss_cons (v_ifS (vt_cmp o_is (v_fld T.c_Sheet T.n_Sheet_size (vn 0)) (v_non) (nomark _)) (vss_one (v_ret (v_cM T.c_Sheet T.x_Sheet_takes_size (ok_Sheet_takes_size T) (hr.mono (by omega)) (vn 0) (va_cons (vn 1) (va_nil)) (aCons_len (aNil_len)) rfl))) (vss_nil))
      (vss_cons (v_ifS (vt_cmp o_is (v_fld T.c_Sheet T.n_Sheet_kind (vn 0)) (v_non) (nomark _)) (vss_one (v_ret (v_cM T.c_Sheet T.x_Sheet_takes_kind (ok_Sheet_takes_kind T) (hr.mono (by omega)) (vn 0) (va_cons (vn 1) (va_nil)) (aCons_len (aNil_len)) rfl))) (vss_nil))
      (vss_cons (v_ifS (VWt.t (vw_and (vt_cmp (o_eq hr.units) (v_ix (i_any hr.units) (vn 1) (v_int) (fun _ _ => rfl)) (v_str) (nomark _)) (vw_and (vt_cmp (o_eq hr.units) (v_fld T.c_Sheet T.n_Sheet_orders (vn 0)) (v_lst (va_nil)) (nomark _)) (vw_and1 (vt_cmp o_lt (v_callB c_len rfl T.z_len bt_len (va_cons (v_fld T.c_Sheet T.n_Sheet_rooms (vn 0)) (va_nil))) (v_gc rfl T.g_MOST_ROOMS) (nomark _)))))) (vss_cons (v_asg (v_cP (ok_room_in T) (hr.mono (by omega)) rfl (va_cons (vn 1) (va_nil)) (aCons_len (aNil_len)) rfl) (vg_name (i := 2) sc_Sheet_takes.nd rfl (by first | exact Or.inl rfl | exact Or.inr rfl)))
      (vss_one (v_expr (v_lm PySem.F.slot_list_append PySem.F.type_list_append l_append (v_fld T.c_Sheet T.n_Sheet_rooms (vn 0)) (va_cons (vn 2) (va_nil)))))) (vss_cons (v_asg (v_if (vt_cmp o_gt (v_callB c_len rfl T.z_len bt_len (va_cons (v_fld T.c_Sheet T.n_Sheet_rooms (vn 0)) (va_nil))) (v_int) (nomark _)) (v_cP (ok_order_in T) (hr.mono (by omega)) rfl (va_cons (vn 1) (va_nil)) (aCons_len (aNil_len)) rfl) (v_non)) (vg_name (i := 2) sc_Sheet_takes.nd rfl (by first | exact Or.inl rfl | exact Or.inr rfl)))
      (vss_one (v_expr (v_lm PySem.F.slot_list_append PySem.F.type_list_append l_append (v_fld T.c_Sheet T.n_Sheet_orders (vn 0)) (va_cons (vn 2) (va_nil)))))))
      (vss_one (v_ret (v_cmp o_isNot (vn 2) (v_non) (nomark _))))))
abbrev s_read_sheet : Stmt := top 21
abbrev N_read_sheet : List PySem.Str := ["text", "sheet", "rows", "number", "row"]
theorem sc_read_sheet : FnScope N_read_sheet ["text"] (defScope s_read_sheet) := ⟨rfl, rfl, rfl, by decide +kernel, rfl, by decide +kernel, by decide +kernel⟩
noncomputable abbrev h_read_sheet : SF := NV.LB.h_read_sheet
noncomputable abbrev F_read_sheet : FF := NV.LB.F_read_sheet
theorem ok_read_sheet (T : Txt w K mg) : Okf P w K mg "read_sheet" 6 ["text"] (spF K 1 F_read_sheet) :=
  ok_mk (N := N_read_sheet) (h := h_read_sheet) T.f_read_sheet T.m_read_sheet sc_read_sheet (fun _ _ _ _ _ _ us hl => match us, hl with | [_], _ => rfl) fun base cdv A outer s H E hr =>
    vss_cons (v_asg (v_cN0 T.k_Sheet (ok_Sheet___init__ T) (hr.mono (by omega)) rfl T.m_Sheet) (vg_name (i := 1) sc_read_sheet.nd rfl (by first | exact Or.inl rfl | exact Or.inr rfl)))
      (vss_cons (v_asg (v_sm PySem.F.slot_str_split PySem.F.type_str_split s_split (vn 0) (va_cons (v_str) (va_nil))) (vg_name (i := 2) sc_read_sheet.nd rfl (by first | exact Or.inl rfl | exact Or.inr rfl)))
      (vss_cons (v_for PassesOwn.never rfl (vi_enum rfl T.z_enumerate (va_cons (vn 2) (va_nil))) (vg_tup rfl (vgs_cons (vg_name (i := 3) sc_read_sheet.nd rfl (by first | exact Or.inl rfl | exact Or.inr rfl)) (vgs_cons (vg_name (i := 4) sc_read_sheet.nd rfl (by first | exact Or.inl rfl | exact Or.inr rfl)) (vgs_nil))))
      (vss_one (v_ifS (VWt.t (vw_and (vt_cmp (o_ne hr.units) (vn 4) (v_str) (nomark _)) (vw_and1 (vt_not (vt_val (v_cM T.c_Sheet T.x_Sheet_takes (ok_Sheet_takes T) (hr.mono (by omega)) (vn 1) (va_cons (v_sm PySem.F.slot_str_split PySem.F.type_str_split s_split (vn 4) (va_cons (v_str) (va_nil))) (va_nil)) (aCons_len (aNil_len)) rfl)))))) (vss_one (v_never)) (vss_nil))))
      (vss_cons (v_ifS (vt_cmp (o_eq hr.units) (v_callB c_len rfl T.z_len bt_len (va_cons (v_fld T.c_Sheet T.n_Sheet_rooms (vn 1)) (va_nil))) (v_int) (nomark _)) (vss_one (v_never)) (vss_nil))
      (vss_one (v_ret (v_tupL (va_cons (v_tup (va_cons (v_fld T.c_Sheet T.n_Sheet_size (vn 1)) (va_cons (v_fld T.c_Sheet T.n_Sheet_kind (vn 1)) (va_cons (v_callTy c_tuple rfl T.z_tuple bt_tuple (va_cons (v_fld T.c_Sheet T.n_Sheet_rooms (vn 1)) (va_nil))) (va_nil))))) (va_cons (v_fld T.c_Sheet T.n_Sheet_orders (vn 1)) (va_nil)))))))))
abbrev s_same : Stmt := top 26
abbrev N_same : List PySem.Str := ["_law_found", "_law_due", "_law_one", "_law_other"]
theorem sc_same : FnScope N_same ["_law_found", "_law_due"] (defScope s_same) := ⟨rfl, rfl, rfl, by decide +kernel, rfl, by decide +kernel, by decide +kernel⟩
noncomputable abbrev h_same : FF → SF := NV.LB.h_same
noncomputable abbrev F_same : Nat → FF := NV.LB.F_same
theorem ok_same (T : Txt w K mg) : ∀ n, Okf P w K mg "_law_same" (n + 1) ["_law_found", "_law_due"] (spF K 2 (F_same n))
  | 0 => ok_zero T.f_same T.m_same (fun _ _ _ _ _ _ us hl => match us, hl with | [_, _], _ => rfl)
  | n + 1 => ok_mk (N := N_same) (h := h_same (F_same n)) T.f_same T.m_same sc_same (fun _ _ _ _ _ _ us hl => match us, hl with | [_, _], _ => rfl) fun base cdv A outer s H E hr => by
    have G := ok_same T n
    have hr0 := hr
    exact vss_cons (v_ifS (vt_val (v_callB c_is1 rfl T.z_isinstance bt_isinstance (va_cons (vn 1) (va_cons (v_tup (va_cons (v_bltn rfl T.z_list bt_list) (va_cons (v_bltn rfl T.z_tuple bt_tuple) (va_nil)))) (va_nil))))) (vss_cons (v_ifS (VWt.t (vw_or (vt_not (vt_val (v_callB c_is1 rfl T.z_isinstance bt_isinstance (va_cons (vn 0) (va_cons (v_tup (va_cons (v_bltn rfl T.z_list bt_list) (va_cons (v_bltn rfl T.z_tuple bt_tuple) (va_nil)))) (va_nil)))))) (vw_or1 (vt_cmp (o_ne hr.units) (v_callB c_is1 rfl T.z_isinstance bt_isinstance (va_cons (vn 0) (va_cons (v_bltn rfl T.z_list bt_list) (va_nil)))) (v_callB c_is1 rfl T.z_isinstance bt_isinstance (va_cons (vn 1) (va_cons (v_bltn rfl T.z_list bt_list) (va_nil)))) (nomark _))))) (vss_one (v_ret (v_bl))) (vss_nil))
      (vss_one (v_ret (v_and (v_cmp (o_eq hr.units) (v_callB c_len rfl T.z_len bt_len (va_cons (vn 0) (va_nil))) (v_callB c_len rfl T.z_len bt_len (va_cons (vn 1) (va_nil))) (nomark _)) (v_one (v_callB (c_all rfl) rfl T.z_all bt_all (va_cons (v_lcC cvF_ok (own := [("_law_one", 2), ("_law_other", 3)]) rfl sc_same.nd (vi_zip rfl T.z_zip (va_cons (vn 0) (va_cons (vn 1) (va_nil)))) (blkOk_by (own := [("_law_one", 2), ("_law_other", 3)]) (N := N_same) (sc := defScope s_same) (by decide +kernel)) (fun _ _ _ _ _ => vgo_tup rfl (vgso_cons (vgo_name (i := 2) sc_same.nd rfl (by first | exact Or.inl rfl | exact Or.inr rfl) (by decide)) (vgso_cons (vgo_name (i := 3) sc_same.nd rfl (by first | exact Or.inl rfl | exact Or.inr rfl) (by decide)) (vgso_nil)))) (fun _ _ _ _ _ => vts_nil) (fun _ _ _ _ _ => v_cP G hr0 rfl (va_cons (vn 2) (va_cons (vn 3) (va_nil))) (aCons_len (aCons_len (aNil_len))) rfl)) (va_nil)))))))) (vss_nil))
      (vss_cons (v_ifS (VWt.t (vw_or (vt_cmp o_is (vn 1) (v_non) (nomark _)) (vw_or1 (vt_val (v_callB c_is1 rfl T.z_isinstance bt_isinstance (va_cons (vn 1) (va_cons (v_bltn rfl T.z_str bt_str) (va_nil)))))))) (vss_one (v_ret (v_and (v_cmp (o_eq hr.units) (vn 0) (vn 1) (nomark _)) (v_one (v_cmp (o_eq hr.units) (v_callB c_is1 rfl T.z_isinstance bt_isinstance (va_cons (vn 0) (va_cons (v_bltn rfl T.z_str bt_str) (va_nil)))) (v_callB c_is1 rfl T.z_isinstance bt_isinstance (va_cons (vn 1) (va_cons (v_bltn rfl T.z_str bt_str) (va_nil)))) (nomark _)))))) (vss_nil))
      (vss_one (v_ret (v_and (v_callB c_is1 rfl T.z_isinstance bt_isinstance (va_cons (vn 0) (va_cons (v_bltn rfl T.z_int bt_int) (va_nil)))) (v_and (v_cmp (o_eq hr.units) (v_callB c_is1 rfl T.z_isinstance bt_isinstance (va_cons (vn 0) (va_cons (v_bltn rfl T.z_bool bt_bool) (va_nil)))) (v_callB c_is1 rfl T.z_isinstance bt_isinstance (va_cons (vn 1) (va_cons (v_bltn rfl T.z_bool bt_bool) (va_nil)))) (nomark _)) (v_one (v_cmp (o_eq hr.units) (vn 0) (vn 1) (nomark _))))))))
abbrev s_law : Stmt := top 41
abbrev N_law : List PySem.Str := ["_law_script", "_law_box_here", "_law_plan_here", "_law_orders_here", "_law_turn", "_law_rows", "_law_due", "_law_some", "_law_text", "_law_echo", "_law_found", "_law_told"]
theorem sc_law : FnScope N_law ["_law_script"] (defScope s_law) := ⟨rfl, rfl, rfl, by decide +kernel, rfl, by decide +kernel, by decide +kernel⟩
noncomputable def h_law : SF := sSeq (sFor (iSq (eCallG F_boxes (aCons (eVar 0) (aCons (eC (.int 4)) (aNil))))) (gN 1) (sSeq (sAsg (eCallB F_plan (aConsO (eVar 1) (aNil))) (gN 2)) (sSeq (sIf (tE (eOp hEq (eCallB F_take (aConsO (eVar 1) (aCons (eC (.int 2)) (aNil)))) (eC (.int 0)))) (sAsg (eCallB F_edge (aConsO (eVar 1) (aCons (eVar 2) (aNil)))) (gN 2)) (sNext)) (sSeq (sAsgO (eCallB F_orders (aConsO (eVar 1) (aCons (eVar 2) (aCons (eC (.int 280)) (aNil))))) (gN 3)) (sSeq (sFor (iR1 (aCons (eCallB F_take (aConsO (eVar 1) (aCons (eC (.int 4)) (aNil)))) (aNil))) (gN 4) (sExpr (eLm lInsert (eVar 3) (aCons (eCallB F_take (aConsO (eVar 1) (aCons (eOp hAdd' (eCa hLen (aCons (eVar 3) (aNil))) (eC (.int 1))) (aNil)))) (aCons (eCallB F_far_order (aConsO (eVar 1) (aNil))) (aNil)))))) (sSeq (sAsg (eOp hAdd' (eCallP F_plan_rows (aCons (eVar 2) (aNil))) (eLc (iSq (eVar 3)) (gN 11) (tYes') (eCallP F_order_row (aCons (eVar 11) (aNil))) [11])) (gN 5)) (sFor (iSq (eTup (aCons (eTup (aCons (eVar 3) (aCons (eVar 5) (aNil)))) (aCons (eTup (aCons (eLst (aNil)) (aCons (eCallP F_plan_rows (aCons (eVar 2) (aNil))) (aNil)))) (aNil))))) (gT 2 (gCons' (gN 6) (gCons' (gN 7) (gNil')))) (sSeq (sAsg (eSm hJoin (eC (.str "\n")) (aCons (eCallB F_spaced (aConsO (eVar 1) (aCons (eVar 7) (aNil)))) (aNil))) (gN 8)) (sFor (iR1 (aCons (eC (.int 2)) (aNil))) (gN 9) (sSeq (sAsg (eCallG F_read_sheet (aCons (eVar 8) (aNil))) (gN 10)) (sSeq (sIf (tNotF (tE (eCallD (F_same 8) (aCons (eVar 10) (aCons (eTup (aCons (eVar 2) (aCons (eVar 6) (aNil)))) (aNil)))))) (sRet (eC (.bl false))) (sNext)) (sExpr (eLm lAppend (eOp hIx (eVar 10) (eC (.int 1))) (aCons (eTup (aCons (eC (.str "empty")) (aNil))) (aNil))))))))))))))) (sRet (eC (.bl true)))
noncomputable def F_law : FF := runF 12 h_law
theorem ok_law (T : Txt w K mg) : Okf P w K mg "law" 10 ["_law_script"] (spF K 1 F_law) :=
  ok_mk (N := N_law) (h := h_law) T.f_law T.m_law sc_law (fun _ _ _ _ _ _ us hl => match us, hl with | [_], _ => rfl) fun base cdv A outer s H E hr =>
    vss_cons (v_for PassesOwn.never rfl (vi_sq (v_cG (ok_boxes T) (hr.mono (by omega)) rfl (va_cons (vn 0) (va_cons (v_int) (va_nil))) (aCons_len (aCons_len (aNil_len))) rfl)) (vg_name (i := 1) sc_law.nd rfl (by first | exact Or.inl rfl | exact Or.inr rfl))
      (vss_cons (v_asg (v_cB (ok_plan T) (hr.mono (by omega)) rfl (va_consO (vn 1) (va_nil)) (aConsO_len (aNil_len)) rfl) (vg_name (i := 2) sc_law.nd rfl (by first | exact Or.inl rfl | exact Or.inr rfl)))
      (vss_cons (v_ifS (vt_cmp (o_eq hr.units) (v_cB (ok_take T) (hr.mono (by omega)) rfl (va_consO (vn 1) (va_cons (v_int) (va_nil))) (aConsO_len (aCons_len (aNil_len))) rfl) (v_int) (nomark _)) (vss_one (v_asg (v_cB (ok_edge T) (hr.mono (by omega)) rfl (va_consO (vn 1) (va_cons (vn 2) (va_nil))) (aConsO_len (aCons_len (aNil_len))) rfl) (vg_name (i := 2) sc_law.nd rfl (by first | exact Or.inl rfl | exact Or.inr rfl)))) (vss_nil))
      (vss_cons (v_asgO (v_cB (ok_orders T) (hr.mono (by omega)) rfl (va_consO (vn 1) (va_cons (vn 2) (va_cons (v_int) (va_nil)))) (aConsO_len (aCons_len (aCons_len (aNil_len)))) rfl) (vg_name (i := 3) sc_law.nd rfl (by first | exact Or.inl rfl | exact Or.inr rfl)))
      (vss_cons (v_for PassesOwn.never rfl (vi_range1 rfl T.z_range (va_cons (v_cB (ok_take T) (hr.mono (by omega)) rfl (va_consO (vn 1) (va_cons (v_int) (va_nil))) (aConsO_len (aCons_len (aNil_len))) rfl) (va_nil))) (vg_name (i := 4) sc_law.nd rfl (by first | exact Or.inl rfl | exact Or.inr rfl))
      (vss_one (v_expr (v_lm PySem.F.slot_list_insert PySem.F.type_list_insert l_insert (vn 3) (va_cons (v_cB (ok_take T) (hr.mono (by omega)) rfl (va_consO (vn 1) (va_cons (v_op o_add' (v_callB c_len rfl T.z_len bt_len (va_cons (vn 3) (va_nil))) (v_int)) (va_nil))) (aConsO_len (aCons_len (aNil_len))) rfl) (va_cons (v_cB (ok_far_order T) (hr.mono (by omega)) rfl (va_consO (vn 1) (va_nil)) (aConsO_len (aNil_len)) rfl) (va_nil)))))))
      (vss_cons (v_asg (v_op o_add' (v_cP (ok_plan_rows T) (hr.mono (by omega)) rfl (va_cons (vn 2) (va_nil)) (aCons_len (aNil_len)) rfl) (v_lcC cvF_ok (own := [("_law_told", 11)]) rfl sc_law.nd (vi_sq (vn 3)) (blkOk_by (own := [("_law_told", 11)]) (N := N_law) (sc := defScope s_law) (by decide +kernel)) (fun _ _ _ _ _ => vgo_name (i := 11) sc_law.nd rfl (by first | exact Or.inl rfl | exact Or.inr rfl) (by decide)) (fun _ _ _ _ _ => vts_nil) (fun _ _ _ _ _ => v_cP (ok_order_row T) (hr.mono (by omega)) rfl (va_cons (vn 11) (va_nil)) (aCons_len (aNil_len)) rfl))) (vg_name (i := 5) sc_law.nd rfl (by first | exact Or.inl rfl | exact Or.inr rfl)))
      (vss_one (v_for PassesOwn.never rfl (vi_sq (v_tup (va_cons (v_tup (va_cons (vn 3) (va_cons (vn 5) (va_nil)))) (va_cons (v_tup (va_cons (v_lst (va_nil)) (va_cons (v_cP (ok_plan_rows T) (hr.mono (by omega)) rfl (va_cons (vn 2) (va_nil)) (aCons_len (aNil_len)) rfl) (va_nil)))) (va_nil))))) (vg_tup rfl (vgs_cons (vg_name (i := 6) sc_law.nd rfl (by first | exact Or.inl rfl | exact Or.inr rfl)) (vgs_cons (vg_name (i := 7) sc_law.nd rfl (by first | exact Or.inl rfl | exact Or.inr rfl)) (vgs_nil))))
      (vss_cons (v_asg (v_sm PySem.F.slot_str_join PySem.F.type_str_join s_join (v_str) (va_cons (v_cB (ok_spaced T) (hr.mono (by omega)) rfl (va_consO (vn 1) (va_cons (vn 7) (va_nil))) (aConsO_len (aCons_len (aNil_len))) rfl) (va_nil))) (vg_name (i := 8) sc_law.nd rfl (by first | exact Or.inl rfl | exact Or.inr rfl)))
      (vss_one (v_for PassesOwn.never rfl (vi_range1 rfl T.z_range (va_cons (v_int) (va_nil))) (vg_name (i := 9) sc_law.nd rfl (by first | exact Or.inl rfl | exact Or.inr rfl))
      (vss_cons (v_asg (v_cG (ok_read_sheet T) (hr.mono (by omega)) rfl (va_cons (vn 8) (va_nil)) (aCons_len (aNil_len)) rfl) (vg_name (i := 10) sc_law.nd rfl (by first | exact Or.inl rfl | exact Or.inr rfl)))
      (vss_cons (v_ifS (vt_not (vt_val (v_cD (ok_same T 8) (hr.mono (by omega)) rfl (va_cons (vn 10) (va_cons (v_tup (va_cons (vn 2) (va_cons (vn 6) (va_nil)))) (va_nil))) (aCons_len (aCons_len (aNil_len))) rfl))) (vss_one (v_ret (v_bl))) (vss_nil))
      (vss_one (v_expr (v_lm PySem.F.slot_list_append PySem.F.type_list_append l_append (v_ix (i_any hr.units) (vn 10) (v_int) (fun _ _ => rfl)) (va_cons (v_tup (va_cons (v_str) (va_nil))) (va_nil))))))))))))))))))
      (vss_one (v_ret (v_bl)))
end
/-! ### the head -/
def d_folded : He.DefD := ⟨("_law_folded", none), "_law_folded", "_law_folded", defArgs (top 25), defBody (top 25), defScope (top 25), [], []⟩
def d_box : He.DefD := ⟨("_law_box", none), "_law_box", "_law_box", defArgs (top 23), defBody (top 23), defScope (top 23), [], []⟩
def d_boxes : He.DefD := ⟨("_law_boxes", none), "_law_boxes", "_law_boxes", defArgs (top 31), defBody (top 31), defScope (top 31), [], []⟩
def d_take : He.DefD := ⟨("_law_take", none), "_law_take", "_law_take", defArgs (top 24), defBody (top 24), defScope (top 24), [], []⟩
def d_room_plan : He.DefD := ⟨("_law_room_plan", none), "_law_room_plan", "_law_room_plan", defArgs (top 27), defBody (top 27), defScope (top 27), [], []⟩
def d_plan : He.DefD := ⟨("_law_plan", none), "_law_plan", "_law_plan", defArgs (top 28), defBody (top 28), defScope (top 28), [], []⟩
def d_edge : He.DefD := ⟨("_law_edge", none), "_law_edge", "_law_edge", defArgs (top 39), defBody (top 39), defScope (top 39), [], []⟩
def d_some_boards : He.DefD := ⟨("_law_some_boards", none), "_law_some_boards", "_law_some_boards", defArgs (top 29), defBody (top 29), defScope (top 29), [], []⟩
def d_many : He.DefD := ⟨("_law_many", none), "_law_many", "_law_many", defArgs (top 30), defBody (top 30), defScope (top 30), [], []⟩
def d_sheet_word : He.DefD := ⟨("_law_sheet_word", none), "_law_sheet_word", "_law_sheet_word", defArgs (top 32), defBody (top 32), defScope (top 32), [], []⟩
def d_sheet_deed : He.DefD := ⟨("_law_sheet_deed", none), "_law_sheet_deed", "_law_sheet_deed", defArgs (top 33), defBody (top 33), defScope (top 33), [], []⟩
def d_ask : He.DefD := ⟨("_law_ask", none), "_law_ask", "_law_ask", defArgs (top 34), defBody (top 34), defScope (top 34), [], []⟩
def d_orders : He.DefD := ⟨("_law_orders", none), "_law_orders", "_law_orders", defArgs (top 38), defBody (top 38), defScope (top 38), [], []⟩
def d_far_order : He.DefD := ⟨("_law_far_order", none), "_law_far_order", "_law_far_order", defArgs (top 40), defBody (top 40), defScope (top 40), [], []⟩
def d_plan_rows : He.DefD := ⟨("_law_plan_rows", none), "_law_plan_rows", "_law_plan_rows", defArgs (top 35), defBody (top 35), defScope (top 35), [], []⟩
def d_order_row : He.DefD := ⟨("_law_order_row", none), "_law_order_row", "_law_order_row", defArgs (top 36), defBody (top 36), defScope (top 36), [], []⟩
def d_spaced : He.DefD := ⟨("_law_spaced", none), "_law_spaced", "_law_spaced", defArgs (top 37), defBody (top 37), defScope (top 37), [], []⟩
def d_Sheet___init__ : He.DefD := ⟨("Sheet", some "__init__"), "__init__", "Sheet.__init__", defArgs (inClass (top 20) 0), defBody (inClass (top 20) 0), defScope (inClass (top 20) 0), [], []⟩
def d_is_plain : He.DefD := ⟨("is_plain", none), "is_plain", "is_plain", defArgs (top 15), defBody (top 15), defScope (top 15), [], []⟩
def d_number_in : He.DefD := ⟨("number_in", none), "number_in", "number_in", defArgs (top 16), defBody (top 16), defScope (top 16), [], []⟩
def d_Sheet_takes_size : He.DefD := ⟨("Sheet", some "takes_size"), "takes_size", "Sheet.takes_size", defArgs (inClass (top 20) 2), defBody (inClass (top 20) 2), defScope (inClass (top 20) 2), [], []⟩
def d_Sheet_takes_kind : He.DefD := ⟨("Sheet", some "takes_kind"), "takes_kind", "Sheet.takes_kind", defArgs (inClass (top 20) 3), defBody (inClass (top 20) 3), defScope (inClass (top 20) 3), [], []⟩
def d_room_in : He.DefD := ⟨("room_in", none), "room_in", "room_in", defArgs (top 19), defBody (top 19), defScope (top 19), [], []⟩
def d_signed_in : He.DefD := ⟨("signed_in", none), "signed_in", "signed_in", defArgs (top 17), defBody (top 17), defScope (top 17), [], []⟩
def d_order_in : He.DefD := ⟨("order_in", none), "order_in", "order_in", defArgs (top 18), defBody (top 18), defScope (top 18), [], []⟩
def d_Sheet_takes : He.DefD := ⟨("Sheet", some "takes"), "takes", "Sheet.takes", defArgs (inClass (top 20) 1), defBody (inClass (top 20) 1), defScope (inClass (top 20) 1), [], []⟩
def d_read_sheet : He.DefD := ⟨("read_sheet", none), "read_sheet", "read_sheet", defArgs (top 21), defBody (top 21), defScope (top 21), [], []⟩
def d_same : He.DefD := ⟨("_law_same", none), "_law_same", "_law_same", defArgs (top 26), defBody (top 26), defScope (top 26), [], []⟩
def d_law : He.DefD := ⟨("law", none), "law", "law", defArgs (top 41), defBody (top 41), defScope (top 41), [], []⟩
def fn : List He.DefD := [d_folded, d_box, d_boxes, d_take, d_room_plan, d_plan, d_edge, d_some_boards, d_many, d_sheet_word, d_sheet_deed, d_ask, d_orders, d_far_order, d_plan_rows, d_order_row, d_spaced, d_Sheet___init__, d_is_plain, d_number_in, d_Sheet_takes_size, d_Sheet_takes_kind, d_room_in, d_signed_in, d_order_in, d_Sheet_takes, d_read_sheet, d_same, d_law]
def fa : List He.Fa := [.cls "Sheet", .glo "BOUNDS", .glo "Sheet", .meth "Sheet" "takes", .meth "Sheet" "takes_kind", .meth "Sheet" "takes_size", .mkr "Sheet", .noat "Sheet" "kind", .noat "Sheet" "orders", .noat "Sheet" "rooms", .noat "Sheet" "size", .glo "_law_folded", .glo "_law_box", .glo "_law_boxes", .glo "_law_take", .glo "_law_room_plan", .glo "_law_plan", .glo "_law_edge", .glo "_law_some_boards", .glo "_law_many", .glo "_law_sheet_word", .glo "_law_sheet_deed", .glo "_law_ask", .glo "_law_orders", .glo "_law_far_order", .glo "_law_plan_rows", .glo "_law_order_row", .glo "_law_spaced", .glo "is_plain", .glo "number_in", .glo "room_in", .glo "signed_in", .glo "order_in", .glo "read_sheet", .glo "_law_same", .glo "law", .free "abs", .free "all", .free "any", .free "bool", .free "divmod", .free "enumerate", .free "int", .free "isinstance", .free "len", .free "list", .free "max", .free "min", .free "range", .free "str", .free "tuple", .free "zip", .str "FIGURES" "0123456789", .glo "KINDS", .int "MOST_FIGURES" (9), .int "MOST_NUMBER" (1000000000), .int "MOST_ROOMS" (4), .glo "RULES", .glo "WRITINGS"]
abbrev Rw : PySem.W.OpenRow := PySem.W.OpenLaw.row PySem.Challenge.rw_nearstairs_k50_sheets_read
def ts : List He.Tab := [(fun K => He.ga K "BOUNDS", ["read", "write", "empty", "lies", "changed", "order", "words", "memory", "tally"])]
def ex (K : PySem.W.Frag) : Bool := He.lstB K "KINDS" [.str "within", .str "apart", .str "free"] && (He.lstB K "RULES" [.str "old", .str "come", .str "few"] && (He.lstB K "WRITINGS" [.str "late", .str "through"] && (kdB K "BOUNDS" [("read", [.int (9999)]), ("write", [.int (9999), .non]), ("empty", []), ("lies", [.int (4)]), ("changed", [.int (4)]), ("order", [.int (4), .int (63)]), ("words", [.int (4), .int (9999)]), ("memory", []), ("tally", [])] && (true))))
abbrev hk : PySem.W.Hook := hookW fa fn ts ex
def ob (s : PySem.W.SharedT) : AlV := obsWG fa fn ts ex (HandSHeadRun.getT s)
theorem ob_eq (s : PySem.W.SharedT) : ob s = hk.obs s.abs := obsWG_eq (HandSHeadRun.getT_eq s)
def loose0 : List PySem.Str := ["StairError", "BadRow", "is_plain", "number_in", "signed_in", "order_in", "room_in", "Sheet", "read_sheet", "_law_box", "_law_take", "_law_folded", "_law_same", "_law_room_plan", "_law_plan", "_law_some_boards", "_law_many", "_law_boxes", "_law_sheet_word", "_law_sheet_deed", "_law_ask", "_law_plan_rows", "_law_order_row", "_law_spaced", "_law_orders", "_law_edge", "_law_far_order", "BOUNDS", "FIGURES", "KINDS"]
def loose1 : List PySem.Str := ["MOST_FIGURES", "MOST_NUMBER", "MOST_ROOMS", "MOST_SHELF", "MOST_SPOT", "MOST_STAIR", "RULES", "WRITINGS"]
def loose : List PySem.Str := loose0 ++ loose1
theorem run_false (w : World) : HandSHeadRun.RunEq Rw (PySem.W.view Rw.prog [41]) hk ob 20000 loose (setF w false) := by
  intro os
  kernel_rfl
theorem run_true (w : World) : HandSHeadRun.RunEq Rw (PySem.W.view Rw.prog [41]) hk ob 20000 loose (setF w true) := by
  intro os
  kernel_rfl
theorem run (w : World) : HandSHeadRun.RunEq Rw (PySem.W.view Rw.prog [41]) hk ob 20000 loose w := run_any (P := fun w => HandSHeadRun.RunEq Rw (PySem.W.view Rw.prog [41]) hk ob 20000 loose w) run_false run_true w
theorem facts {K : PySem.W.Frag} {h : Heap} {mg : Str → Option Value} {w : World} (X : K.In h) (G : h.Ns mainGlobals mg) (cv : SaysV fa fn ts ex w K) : Txt w K mg :=
  have c := cv.t.d
  have x0 := cv.ex
  have x1 := (He.ba x0).2
  have y0 := (He.ba x0).1
  have x2 := (He.ba x1).2
  have y1 := (He.ba x1).1
  have x3 := (He.ba x2).2
  have y2 := (He.ba x2).1
  have x4 := (He.ba x3).2
  have y3 := (He.ba x3).1
  {
  f_folded := c.def_ 0 (d := d_folded) rfl
  f_box := c.def_ 1 (d := d_box) rfl
  f_boxes := c.def_ 2 (d := d_boxes) rfl
  f_take := c.def_ 3 (d := d_take) rfl
  f_room_plan := c.def_ 4 (d := d_room_plan) rfl
  f_plan := c.def_ 5 (d := d_plan) rfl
  f_edge := c.def_ 6 (d := d_edge) rfl
  f_some_boards := c.def_ 7 (d := d_some_boards) rfl
  f_many := c.def_ 8 (d := d_many) rfl
  f_sheet_word := c.def_ 9 (d := d_sheet_word) rfl
  f_sheet_deed := c.def_ 10 (d := d_sheet_deed) rfl
  f_ask := c.def_ 11 (d := d_ask) rfl
  f_orders := c.def_ 12 (d := d_orders) rfl
  f_far_order := c.def_ 13 (d := d_far_order) rfl
  f_plan_rows := c.def_ 14 (d := d_plan_rows) rfl
  f_order_row := c.def_ 15 (d := d_order_row) rfl
  f_spaced := c.def_ 16 (d := d_spaced) rfl
  f_Sheet___init__ := c.def_ 17 (d := d_Sheet___init__) rfl
  f_is_plain := c.def_ 18 (d := d_is_plain) rfl
  f_number_in := c.def_ 19 (d := d_number_in) rfl
  f_Sheet_takes_size := c.def_ 20 (d := d_Sheet_takes_size) rfl
  f_Sheet_takes_kind := c.def_ 21 (d := d_Sheet_takes_kind) rfl
  f_room_in := c.def_ 22 (d := d_room_in) rfl
  f_signed_in := c.def_ 23 (d := d_signed_in) rfl
  f_order_in := c.def_ 24 (d := d_order_in) rfl
  f_Sheet_takes := c.def_ 25 (d := d_Sheet_takes) rfl
  f_read_sheet := c.def_ 26 (d := d_read_sheet) rfl
  f_same := c.def_ 27 (d := d_same) rfl
  f_law := c.def_ 28 (d := d_law) rfl
  c_Sheet := He.cls_ok (c.fact 0 (f := .cls "Sheet") rfl)
  m_BOUNDS := He.glo_ok X G (c.fact 1 (f := .glo "BOUNDS") rfl)
  m_Sheet := He.glo_ok X G (c.fact 2 (f := .glo "Sheet") rfl)
  x_Sheet_takes := He.meth_ok (c.fact 3 (f := .meth "Sheet" "takes") rfl)
  x_Sheet_takes_kind := He.meth_ok (c.fact 4 (f := .meth "Sheet" "takes_kind") rfl)
  x_Sheet_takes_size := He.meth_ok (c.fact 5 (f := .meth "Sheet" "takes_size") rfl)
  k_Sheet := He.mkr_ok (c.fact 6 (f := .mkr "Sheet") rfl)
  n_Sheet_kind := He.noat_ok (c.fact 7 (f := .noat "Sheet" "kind") rfl)
  n_Sheet_orders := He.noat_ok (c.fact 8 (f := .noat "Sheet" "orders") rfl)
  n_Sheet_rooms := He.noat_ok (c.fact 9 (f := .noat "Sheet" "rooms") rfl)
  n_Sheet_size := He.noat_ok (c.fact 10 (f := .noat "Sheet" "size") rfl)
  m_folded := He.glo_ok X G (c.fact 11 (f := .glo "_law_folded") rfl)
  m_box := He.glo_ok X G (c.fact 12 (f := .glo "_law_box") rfl)
  m_boxes := He.glo_ok X G (c.fact 13 (f := .glo "_law_boxes") rfl)
  m_take := He.glo_ok X G (c.fact 14 (f := .glo "_law_take") rfl)
  m_room_plan := He.glo_ok X G (c.fact 15 (f := .glo "_law_room_plan") rfl)
  m_plan := He.glo_ok X G (c.fact 16 (f := .glo "_law_plan") rfl)
  m_edge := He.glo_ok X G (c.fact 17 (f := .glo "_law_edge") rfl)
  m_some_boards := He.glo_ok X G (c.fact 18 (f := .glo "_law_some_boards") rfl)
  m_many := He.glo_ok X G (c.fact 19 (f := .glo "_law_many") rfl)
  m_sheet_word := He.glo_ok X G (c.fact 20 (f := .glo "_law_sheet_word") rfl)
  m_sheet_deed := He.glo_ok X G (c.fact 21 (f := .glo "_law_sheet_deed") rfl)
  m_ask := He.glo_ok X G (c.fact 22 (f := .glo "_law_ask") rfl)
  m_orders := He.glo_ok X G (c.fact 23 (f := .glo "_law_orders") rfl)
  m_far_order := He.glo_ok X G (c.fact 24 (f := .glo "_law_far_order") rfl)
  m_plan_rows := He.glo_ok X G (c.fact 25 (f := .glo "_law_plan_rows") rfl)
  m_order_row := He.glo_ok X G (c.fact 26 (f := .glo "_law_order_row") rfl)
  m_spaced := He.glo_ok X G (c.fact 27 (f := .glo "_law_spaced") rfl)
  m_is_plain := He.glo_ok X G (c.fact 28 (f := .glo "is_plain") rfl)
  m_number_in := He.glo_ok X G (c.fact 29 (f := .glo "number_in") rfl)
  m_room_in := He.glo_ok X G (c.fact 30 (f := .glo "room_in") rfl)
  m_signed_in := He.glo_ok X G (c.fact 31 (f := .glo "signed_in") rfl)
  m_order_in := He.glo_ok X G (c.fact 32 (f := .glo "order_in") rfl)
  m_read_sheet := He.glo_ok X G (c.fact 33 (f := .glo "read_sheet") rfl)
  m_same := He.glo_ok X G (c.fact 34 (f := .glo "_law_same") rfl)
  m_law := He.glo_ok X G (c.fact 35 (f := .glo "law") rfl)
  z_abs := He.free_ok X G (c.fact 36 (f := .free "abs") rfl)
  z_all := He.free_ok X G (c.fact 37 (f := .free "all") rfl)
  z_any := He.free_ok X G (c.fact 38 (f := .free "any") rfl)
  z_bool := He.free_ok X G (c.fact 39 (f := .free "bool") rfl)
  z_divmod := He.free_ok X G (c.fact 40 (f := .free "divmod") rfl)
  z_enumerate := He.free_ok X G (c.fact 41 (f := .free "enumerate") rfl)
  z_int := He.free_ok X G (c.fact 42 (f := .free "int") rfl)
  z_isinstance := He.free_ok X G (c.fact 43 (f := .free "isinstance") rfl)
  z_len := He.free_ok X G (c.fact 44 (f := .free "len") rfl)
  z_list := He.free_ok X G (c.fact 45 (f := .free "list") rfl)
  z_max := He.free_ok X G (c.fact 46 (f := .free "max") rfl)
  z_min := He.free_ok X G (c.fact 47 (f := .free "min") rfl)
  z_range := He.free_ok X G (c.fact 48 (f := .free "range") rfl)
  z_str := He.free_ok X G (c.fact 49 (f := .free "str") rfl)
  z_tuple := He.free_ok X G (c.fact 50 (f := .free "tuple") rfl)
  z_zip := He.free_ok X G (c.fact 51 (f := .free "zip") rfl)
  g_FIGURES := gc_str X G (c.fact 52 (f := .str "FIGURES" "0123456789") rfl)
  g_KINDS := gc_lst X G (c.fact 53 (f := .glo "KINDS") rfl) y0 rfl
  g_MOST_FIGURES := gc_int X G (c.fact 54 (f := .int "MOST_FIGURES" (9)) rfl)
  g_MOST_NUMBER := gc_int X G (c.fact 55 (f := .int "MOST_NUMBER" (1000000000)) rfl)
  g_MOST_ROOMS := gc_int X G (c.fact 56 (f := .int "MOST_ROOMS" (4)) rfl)
  g_RULES := gc_lst X G (c.fact 57 (f := .glo "RULES") rfl) y1 rfl
  g_WRITINGS := gc_lst X G (c.fact 58 (f := .glo "WRITINGS") rfl) y2 rfl
  kt_BOUNDS := ktab_ok X G (c.fact 1 (f := .glo "BOUNDS") rfl) (cv.t.tab 0 rfl) y3 rfl
  }
/-! ### plans with a room at the bounds, orders with numbers at theirs -/
theorem edge_b {k : Int} {d : D} {nd : Nd} {Q : R × Nd → Prop} (hd : PlanD d) (hb : Box k nd) (hk : k < 2147480000) (q : ∀ d' nd', PlanD d' → Box (k + 4) nd' → Q (.val (.d d'), nd')) : Ev (callB F_edge [.obj 0, .d d] nd) Q := by
  obtain ⟨sz, kd, rooms, rfl, h1, h2, h3, h4⟩ := hd
  rw [ev_callB]
  simp [F_edge]
  unfold h_edge
  refine eo_cut (I := fun s => s = ⟨[some (W.obj 0), some (W.d (.tup [.int sz, .str kd, .tup rooms])), some (W.d (.int sz)), some (W.d (.str kd)), some (W.d (.tup rooms)), none, none], [some nd]⟩) ?_ ?_
  · simp
  rintro _ rfl
  refine eo_cut (I := fun s => ∃ (a : Nat) (nd' : Nd), s = ⟨[some (W.obj 0), some (W.d (.tup [.int sz, .str kd, .tup rooms])), some (W.d (.int sz)), some (W.d (.str kd)), some (W.d (.tup rooms)), some (W.d (.int a)), none], [some nd']⟩ ∧ a < rooms.length ∧ Box (k + 1) nd') ?_ ?_
  · simp
    refine take_b hb (by omega) (by omega) (by omega) fun r1 nd1 h5 h5' hb1 => ?_
    simp
    exact ⟨r1.toNat, nd1, ⟨by rw [Int.toNat_of_nonneg h5], rfl⟩, by omega, hb1⟩
  rintro _ ⟨a, nd1, rfl, ha, hb1⟩
  refine eo_cut (I := fun s => ∃ (r : D) (nd' : Nd), s = ⟨[some (W.obj 0), some (W.d (.tup [.int sz, .str kd, .tup rooms])), some (W.d (.int sz)), some (W.d (.str kd)), some (W.d (.tup rooms)), some (W.d (.int a)), some (W.d r)], [some nd']⟩ ∧ RP r ∧ Box (k + 3) nd') ?_ ?_
  · simp
    refine take_b hb1 (by omega) (by omega) (by omega) fun r1 nd2 h5 h5' hb2 => ?_
    simp
    refine at_or (by omega) (by simp; omega) (Z := fun w => ∃ z : Int, w = .d (.int z) ∧ 1 ≤ z ∧ z ≤ 64) (by simp) ?_
    rintro w1 ⟨z1, rfl, hz1⟩
    simp
    refine take_b hb2 (by omega) (by omega) (by omega) fun r2 nd3 h6 h6' hb3 => ?_
    simp
    refine at_or (by omega) (by simp; omega) (Z := fun w => ∃ z : Int, w = .d (.int z) ∧ 1 ≤ z ∧ z ≤ 16) (by simp) ?_
    rintro w2 ⟨z2, rfl, hz2⟩
    simp
    refine at_or (by omega) (by simp; omega) (Z := fun w => ∃ d, w = .d d ∧ RP d) (by intro w hw; obtain ⟨d, hd, rfl⟩ := List.mem_map.mp hw; exact ⟨d, rfl, h4 d hd⟩) ?_
    rintro w3 ⟨_, rfl, sh, pl, ru, wr, rfl, h7, h8, h9, h10⟩
    simp
    rw [show cut [D.int sh, D.int pl, D.str ru, D.str wr] (some 2) none = [D.str ru, D.str wr] from rfl]
    exact ⟨by simp, _, _, ⟨rfl, rfl⟩, ⟨z1, z2, ru, wr, rfl, hz1, hz2, h9, h10⟩, hb3.mono (by omega)⟩
  rintro _ ⟨r, nd2, rfl, hr, hb2⟩
  simp
  refine take_b hb2 (by omega) (by omega) (by omega) fun r1 nd3 h5 h5' hb3 => ?_
  simp
  refine at_or (by omega) (by simp; omega) (Z := fun w => ∃ z : Int, w = .d (.int z) ∧ 1 ≤ z ∧ z ≤ 16) (by simp; omega) ?_
  rintro w1 ⟨z1, rfl, hz1⟩
  simp
  have c1 : cut rooms none (some (a : Int)) = rooms.take a := by rw [cut_to (by omega)]; simp
  have c2 : cut rooms (some ((a : Int) + 1)) none = rooms.drop (a + 1) := by rw [cut_from (by omega)]; congr 1
  rw [c1, c2]
  refine ⟨by simp; omega, by simp; omega, hb3.isd, q _ _ ⟨_, _, _, rfl, hz1, h2, ⟨by simp; omega, by simp; omega⟩, fun x hx => ?_⟩ (hb3.mono (by omega))⟩
  simp at hx
  rcases hx with hx | rfl | hx
  · exact h4 x (List.mem_of_mem_take hx)
  · exact hr
  · exact h4 x (List.mem_of_mem_drop hx)
theorem far_order_b {k : Int} {nd : Nd} {Q : R × Nd → Prop} (hb : Box k nd) (hk : k < 2147480000) (q : ∀ (x : Rq) nd', x.fit → Box (k + 1) nd' → Q (.val (.d x.d), nd')) : Ev (callB F_far_order [.obj 0] nd) Q := by
  rw [ev_callB]
  simp [F_far_order]
  unfold h_far_order
  obtain ⟨L, hL⟩ : ∃ L : List Rq, L = [.rd 0, .rd 9999, .wr 9999 999999999, .wr 0 (-999999999), .wr 7 0, .lies 4, .chg 0, .ord 4 63, .wds 4 9999, .wds 0 0, .em] := ⟨_, rfl⟩
  refine eo_cut (I := fun s => s = ⟨[some (W.obj 0), some (W.d (.lst ((L.take 5).map Rq.d)))], [some nd]⟩) ?_ ?_
  · simp [hL]
    exact ⟨rfl, rfl, rfl, rfl, rfl⟩
  rintro _ rfl
  refine eo_cut (I := fun s => s = ⟨[some (W.obj 0), some (W.d (.lst (L.map Rq.d)))], [some nd]⟩) ?_ ?_
  · simp [hL]
    exact ⟨rfl, rfl, rfl, rfl, rfl, rfl⟩
  rintro _ rfl
  simp
  refine take_b hb (by omega) (by omega) (by omega) fun r1 nd1 h1 h1' hb1 => ?_
  simp
  refine at_or (by omega) (by rw [hL]; simp; omega) (Z := fun w => ∃ x : Rq, w = .d x.d ∧ x.fit) ?_ ?_
  · intro w hw
    obtain ⟨x, hx, rfl⟩ := List.mem_map.mp hw
    refine ⟨x, rfl, ?_⟩
    rw [hL] at hx
    simp at hx
    rcases hx with rfl | rfl | rfl | rfl | rfl | rfl | rfl | rfl | rfl | rfl | rfl <;> simp [Rq.fit]
  rintro w ⟨x, rfl, hx⟩
  simp
  exact ⟨hb1.isd, q x nd1 hx (hb1.mono (by omega))⟩
theorem frz_obj1k {n : Nat} {ws : List W} {st : Sto} {ds : List D} {P : List D × Sto → Prop} (h : st[n]? = some (some (.lst (ds.map W.d)))) (q : Ev (frzWs ws (st.set n none)) fun q => P (.lst ds :: q.1, q.2)) : Ev (frzWs (.obj n :: ws) st) P := by
  have e : frzW (.obj n) st = some (.lst ds, st.set n none) := by
    show (match st[n]? with
      | some (some nd) => nd.dat.map fun d => (d, st.set n none)
      | _ => none) = _
    rw [h]
    simp [Nd.dat, dats_map]
  have e2 : frzWs (.obj n :: ws) st = (frzWs ws (st.set n none)).map fun q => (.lst ds :: q.1, q.2) := by
    show ((frzW (.obj n) st).bind _) = _
    rw [e]
    rfl
  rw [e2, ev_map']
  exact q
theorem rq_pl {x : Rq} (h : x.fit) (n : Nat) : Pl (n + 2) x.d := by
  refine ⟨by have := Od.len (Rq.ok h); rw [sizeLine_eq]; simp; omega, fun w hw => ?_⟩
  simp at hw
  rcases hw with rfl | ⟨a, _, rfl⟩ <;> trivial
theorem law_true (ns : List Int) (hl : ns.length ≤ 63) : ∃ st', F_law [.d (.lsw (ns.map .int))] [] = some (.val (.d (.bl true)), st') := by
  have : Ev (F_law [.d (.lsw (ns.map .int))] []) fun q => q.1 = .val (.d (.bl true)) := by
    simp [F_law]
    unfold h_law
    simp
    refine boxes_ev (by decide) (by decide) hl fun nds h1 h2 hb => ?_
    simp
    obtain ⟨NS, hNS⟩ : ∃ NS : W, NS = W.d (D.lsw (List.map D.int ns)) := ⟨_, rfl⟩
    rw [← hNS]
    refine forL_inv (fun j s => ∃ (sl : List (Option W)) (st : Sto), sl.length = 11 ∧ s = ⟨some NS :: sl, st⟩ ∧ StB nds.length (7000 * j) st) _ 0 _ ?_ ?_ ?_
    · exact ⟨_, _, rfl, rfl, fun i hi => ⟨nds[i], by simp [hi], (hb _ (List.getElem_mem _)).mono (by omega)⟩⟩
    · rintro j y s - hy ⟨sl, st, hsl, rfl, hst⟩
      obtain ⟨hj, hy⟩ : j < nds.length ∧ y = .one (.obj j) := by
        rw [Nat.sub_zero, List.getElem?_map] at hy
        obtain ⟨i, hi, rfl⟩ := Option.map_eq_some_iff.mp hy
        obtain ⟨h3, h4⟩ := List.getElem?_eq_some_iff.mp hi
        simp at h3 h4
        subst h4
        exact ⟨h3, rfl⟩
      subst hy
      match sl, hsl with
      | [c1, c2, c3, c4, c5, c6, c7, c8, c9, c10, c11], _ =>
      refine Ev.imp (Q := fun s => s = ⟨[some NS, some (W.obj j), c2, c3, c4, c5, c6, c7, c8, c9, c10, c11], st⟩) (by simp) ?_
      rintro _ rfl
      refine eo_cut (I := fun s => ∃ (d : D) (st' : Sto), s = ⟨[some NS, some (W.obj j), some (W.d d), c3, c4, c5, c6, c7, c8, c9, c10, c11], st'⟩ ∧ StB nds.length (7000 * j + 24) st' ∧ PlanD d) ?_ ?_
      · simp
        refine call_sb (Good := fun r => ∃ d, r = .val (.d d) ∧ PlanD d) (k' := 7000 * j + 24) hst hj (by omega) (fun nd hnd Q hQ => plan_b hnd (by omega) fun d nd' h3 h4 => hQ _ nd' ⟨d, rfl, h3⟩ h4) fun r1 nd1 st1 hr1 hst1 => ?_
        obtain ⟨d, rfl, hd⟩ := hr1
        simp
        exact ⟨_, _, ⟨rfl, rfl⟩, hst1, hd⟩
      clear hst st
      rintro _ ⟨d, st, rfl, hst, hd⟩
      refine eo_cut (I := fun s => ∃ (d : D) (st' : Sto), s = ⟨[some NS, some (W.obj j), some (W.d d), c3, c4, c5, c6, c7, c8, c9, c10, c11], st'⟩ ∧ StB nds.length (7000 * j + 30) st' ∧ PlanD d) ?_ ?_
      · simp
        refine take_sb hst hj (by omega) (by omega) (by omega) fun r nd1 st1 h3 h4 hst1 => ?_
        simp
        split
        · refine call_sb (Good := fun r => ∃ d, r = .val (.d d) ∧ PlanD d) (k' := 7000 * j + 30) hst1 hj (by omega) (fun nd hnd Q hQ => edge_b hd hnd (by omega) fun d nd' h3 h4 => hQ _ nd' ⟨d, rfl, h3⟩ (h4.mono (by omega))) fun r1 nd1 st1 hr1 hst1 => ?_
          obtain ⟨d, rfl, hd⟩ := hr1
          simp
          exact ⟨_, _, ⟨rfl, rfl⟩, hst1, hd⟩
        · exact ⟨_, _, ⟨rfl, rfl⟩, hst1.mono (by omega), hd⟩
      clear hst st hd d
      rintro _ ⟨d, st, rfl, hst, hd⟩
      obtain ⟨sz, kd, rs, rfl, hz, hk, hrl, hrf, hrp⟩ := plan_sh hd
      have hle := hst.le
      -- the orders
      refine eo_cut (I := fun s => ∃ (a : Nat) (os : List Rq) (st' : Sto), s = ⟨[some NS, some (W.obj j), some (W.d (shP sz kd rs)), some (W.obj a), c4, c5, c6, c7, c8, c9, c10, c11], st'⟩ ∧ StB nds.length (7000 * j + 5030) st' ∧ nds.length ≤ a ∧ st'[a]? = some (some (.lst (os.map (W.d ∘ Rq.d)))) ∧ (∀ x ∈ os, x.fit) ∧ os.length ≤ 300) ?_ ?_
      · simp
        refine call_sk (c := 5000) (Post := fun r => ∃ os : List Rq, r = .new (.lst (os.map (W.d ∘ Rq.d))) ∧ (∀ x ∈ os, x.fit) ∧ os.length ≤ 300) hst hj (by omega) (fun nd hnd Q hQ => orders_b (k := 7000 * j + 30) ⟨by omega, by omega⟩ hrp (by simpa using hrl) (by decide) hnd (by omega) fun S os nd' h3 h4 h5 h6 h7 => hQ _ nd' ⟨os, rfl, fun x hx => (h5 x hx).1, by omega⟩ h7) fun r1 nd1 st1 ⟨os, hr1, hos, hol⟩ hst1 hk1 => ?_
        subst hr1
        simp
        rw [lenk_v, appk_v]
        refine ⟨_, _, _, ⟨rfl, rfl⟩, (hst1.apd _).mono (by omega), ?_, ?_, hos, hol⟩
        · rw [hk1.len]; exact hle
        · simp
      clear hst st hle
      rintro _ ⟨a, os, st, rfl, hst, hna, ha, hos, hol⟩
      refine eo_cut (I := fun s => ∃ (c4 : Option W) (os : List Rq) (st' : Sto), s = ⟨[some NS, some (W.obj j), some (W.d (shP sz kd rs)), some (W.obj a), c4, c5, c6, c7, c8, c9, c10, c11], st'⟩ ∧ StB nds.length (7000 * j + 5100) st' ∧ st'[a]? = some (some (.lst (os.map (W.d ∘ Rq.d)))) ∧ (∀ x ∈ os, x.fit) ∧ os.length ≤ 310) ?_ ?_
      · simp
        refine take_sk hst hj (by omega) (by omega) (by omega) fun r1 nd1 st1 h3 h4 hst1 hk1 => ?_
        simp
        refine ⟨small_nn (by omega) (by omega), ?_⟩
        have ha1 : st1[a]? = some (some (.lst (os.map (W.d ∘ Rq.d)))) := by rw [hk1.at_ a hna]; exact ha
        refine forL_inv (fun i s => ∃ (c4 : Option W) (os : List Rq) (st' : Sto), s = ⟨[some NS, some (W.obj j), some (W.d (shP sz kd rs)), some (W.obj a), c4, c5, c6, c7, c8, c9, c10, c11], st'⟩ ∧ StB nds.length (7000 * j + 5032 + 2 * i) st' ∧ st'[a]? = some (some (.lst (os.map (W.d ∘ Rq.d)))) ∧ (∀ x ∈ os, x.fit) ∧ os.length ≤ 300 + i) _ 0 _ ⟨_, os, st1, rfl, hst1.mono (by omega), ha1, hos, by omega⟩ ?_ ?_
        · rintro i y s - hy ⟨c4, os, st, rfl, hst, ha, hos, hol⟩
          rw [Nat.sub_zero] at hy
          obtain ⟨hi, rfl⟩ := yInts_get hy
          simp
          refine ⟨_, ha, _, rfl, ?_⟩
          simp
          refine ⟨_, ha, _, rfl, ?_⟩
          simp
          refine take_sk hst hj (by omega) (by omega) (by omega) fun r2 nd2 st2 h5 h6 hst2 hk2 => ?_
          simp
          refine call_sk (c := 1) (Post := fun r => ∃ x : Rq, r = .val (.d x.d) ∧ x.fit) hst2 hj (by omega) (fun nd hnd Q hQ => far_order_b (k := 7000 * j + 5032 + 2 * i + 1) hnd (by omega) fun x nd' h7 h8 => hQ _ nd' ⟨x, rfl, h7⟩ h8) fun r3 nd3 st3 ⟨x, hr3, hx⟩ hst3 hk3 => ?_
          subst hr3
          simp
          refine ⟨_, by rw [hk3.at_ a hna, hk2.at_ a hna]; exact ha, _, rfl, ?_⟩
          simp
          refine ⟨⟨by omega, by omega, by omega⟩, ?_⟩
          unfold SetK
          have hal := lt_of' ha
          refine ⟨_, os.take r2.toNat ++ [x] ++ os.drop r2.toNat, _, ⟨rfl, rfl⟩, ?_, ?_, ?_, by simp; omega⟩
          · exact (hst3.keep fun i hi => List.getElem?_set_ne (by omega)).mono (by omega)
          · rw [List.getElem?_set_self (by rw [hk3.len, hk2.len]; exact hal)]
            simp [List.map_take, List.map_drop]
          · intro y hy
            simp at hy
            rcases hy with hy | rfl | hy
            · exact hos y (List.mem_of_mem_take hy)
            · exact hx
            · exact hos y (List.mem_of_mem_drop hy)
        · rintro s ⟨c4, os, st, rfl, hst, ha, hos, hol⟩
          rw [yInts_len] at hol hst
          exact ⟨_, os, st, rfl, hst.mono (by omega), ha, hos, by omega⟩
      clear hst ha hos hol os st
      rintro _ ⟨c4, os, st, rfl, hst, ha, hos, hol⟩
      -- the rows
      refine eo_cut (I := fun s => ∃ (c11 : Option W), s = ⟨[some NS, some (W.obj j), some (W.d (shP sz kd rs)), some (W.obj a), c4, some (W.d (.lst (((sheetW sz kd rs (os.map Rq.od)).map rowT).map .str))), c6, c7, c8, c9, c10, c11], st⟩) ?_ ?_
      · simp
        have hsm := num_short (a := (sz : Int)) (by omega)
        refine plan_rows_ev (by omega) hsm (by rcases hk with h | h | h <;> rw [h] <;> decide) hrl.2 (fun r hr => ShR.okf (hrf r hr)) ?_
        refine ⟨_, ha, _, rfl, ?_⟩
        simp
        have e : List.map (Y.one ∘ W.d ∘ Rq.d) os = os.map fun x => Y.one (W.d x.d) := rfl
        try rw [e]
        refine lc_m D.str (fun x : Rq => rowT (ordW x.od.z x.od.as)) (by omega) (fun x hx => ?_) (fun l hl => ?_) (fun p hp => by cases List.mem_singleton.mp hp; exact ha)
        · simp [LcS]
          have hok := Rq.ok (hos x hx)
          have hsh := Od.shrt hok
          refine order_row_ev (z := x.od.z) (as := x.od.as) (hsh.2 _ (by simp [ordW])) (by have := Od.len hok; omega) (Od.small hok) (fun a ha => hsh.2 _ (by simp [ordW]; exact .inr ⟨a, ha, rfl⟩)) ?_
          simp
        · simp
          have e1 := congrArg (List.map D.str) (sheet_words (sz := sz) (kd := kd) (rs := rs) (os := os.map Rq.od))
          rw [List.map_append] at e1
          refine ⟨by rw [hl]; simp [planW]; omega, ?_⟩
          rw [← List.map_map, ← e1, hl]
          simp
      rintro _ ⟨c11', rfl⟩
      simp
      have ha' : st[a]? = some (some (.lst ((os.map Rq.d).map W.d))) := by rw [ha]; simp
      refine frz_obj1k ha' ?_
      simp
      have hsm := num_short (a := (sz : Int)) (by omega)
      refine plan_rows_ev (by omega) hsm (by rcases hk with h | h | h <;> rw [h] <;> decide) hrl.2 (fun r hr => ShR.okf (hrf r hr)) ?_
      simp
      have e1 := congrArg (List.map D.str) (sheet_words (sz := sz) (kd := kd) (rs := rs) (os := []))
      simp at e1
      rw [e1]
      have hst0 : StB nds.length (7000 * j + 5100) (st.set a none) := hst.keep fun i hi => List.getElem?_set_ne (by omega)
      have hle : nds.length ≤ (st.set a none).length := by simpa using hst.le
      generalize st.set a none = st0 at hst0 hle
      refine forL_inv (fun i s => ∃ (c6 c7 c8 c9 c10 : Option W) (st' : Sto), s = ⟨[some NS, some (W.obj j), some (W.d (shP sz kd rs)), some (W.obj a), c4, some (W.d (.lst ((sheetW sz kd rs (os.map Rq.od)).map (D.str ∘ rowT)))), c6, c7, c8, c9, c10, c11'], st'⟩ ∧ StB nds.length (7000 * j + 5100 + 20 * i) st') _ 0 _ ⟨_, _, _, _, _, _, rfl, hst0.mono (by omega)⟩ ?_ ?_
      · rintro i y s - hy ⟨c6, c7, c8, c9, c10, st, rfl, hst⟩
        rw [Nat.sub_zero] at hy
        obtain ⟨xs, rfl, hxs, hxl⟩ : ∃ xs : List Rq, y = Y.one (W.d (.tup [.lst (xs.map Rq.d), .lst (((sheetW sz kd rs (xs.map Rq.od)).map rowT).map .str)])) ∧ (∀ x ∈ xs, x.fit) ∧ xs.length ≤ 310 := by
          match i, hy with
          | 0, hy => simp at hy; exact ⟨os, by rw [← hy]; simp, hos, hol⟩
          | 1, hy => simp at hy; exact ⟨[], by rw [← hy]; simp, by simp, by simp⟩
          | i + 2, hy => simp at hy
        have hi2 : i < 2 := by have := lt_of' hy; simpa using this
        obtain ⟨rows, hrows⟩ : ∃ rows, rows = (sheetW sz kd rs (xs.map Rq.od)).map rowT := ⟨_, rfl⟩
        have hrl2 : rows.length ≤ 320 := by rw [hrows]; simp [sheetW]; omega
        rw [← hrows]
        obtain ⟨V5, hV5⟩ : ∃ V5, V5 = some (W.d (.lst ((sheetW sz kd rs (os.map Rq.od)).map (D.str ∘ rowT)))) := ⟨_, rfl⟩
        rw [← hV5]
        have hoks : ∀ o ∈ xs.map Rq.od, o.ok := fun o ho => by
          obtain ⟨x, hx, rfl⟩ := List.mem_map.mp ho
          exact Rq.ok (hxs x hx)
        refine Ev.imp (Q := fun s => s = ⟨[some NS, some (W.obj j), some (W.d (shP sz kd rs)), some (W.obj a), c4, V5, some (W.d (.lst (xs.map Rq.d))), some (W.d (.lst (rows.map .str))), c8, c9, c10, c11'], st⟩) (by simp) ?_
        rintro _ rfl
        refine eo_cut (I := fun s => ∃ (rows' : List Str) (st' : Sto), s = ⟨[some NS, some (W.obj j), some (W.d (shP sz kd rs)), some (W.obj a), c4, V5, some (W.d (.lst (xs.map Rq.d))), some (W.d (.lst (rows.map .str))), some (W.d (.str (Txt.join "\n" rows'))), c9, c10, c11'], st'⟩ ∧ Spaced rows rows' ∧ rows'.length ≤ 330 ∧ StB nds.length (7000 * j + 5100 + 20 * i + 10) st') ?_ ?_
        · simp
          refine call_sk (c := 10) (Post := fun r => ∃ rows' : List Str, r = .new (.lst (rows'.map (W.d ∘ D.str))) ∧ Spaced rows rows' ∧ rows'.length ≤ 330) hst hj (by omega) (fun nd hnd Q hQ => spaced_b (k := 7000 * j + 5100 + 20 * i) (by omega) hnd (by omega) fun rows' nd' h3 h4 h5 => hQ _ nd' ⟨rows', rfl, h3, by omega⟩ h5) fun r1 nd1 st1 ⟨rows', hr1, hsp, hrl'⟩ hst1 hk1 => ?_
          subst hr1
          have hsh : ∀ r ∈ rows', r.length ≤ 600 := rows_short (sheet_shrt hz hk hrf hoks) (hrows ▸ hsp)
          have hjo := join_ok hsh (by omega)
          simp
          exact ⟨by omega, rows', _, ⟨rfl, rfl⟩, hsp, hrl', hst1.mono (by omega)⟩
        clear hst st
        rintro _ ⟨rows', st, rfl, hsp, hrl', hst⟩
        simp
        refine ⟨by decide, ?_⟩
        refine forL_inv (fun i2 s => ∃ (c9 c10 : Option W) (st' : Sto), s = ⟨[some NS, some (W.obj j), some (W.d (shP sz kd rs)), some (W.obj a), c4, V5, some (W.d (.lst (xs.map Rq.d))), some (W.d (.lst (rows.map .str))), some (W.d (.str (Txt.join "\n" rows'))), c9, c10, c11'], st'⟩ ∧ StB nds.length (7000 * j + 5100 + 20 * i + 10) st') _ 0 _ ⟨_, _, _, rfl, hst⟩ ?_ ?_
        · rintro i2 y s - hy ⟨c9, c10, st, rfl, hst⟩
          rw [Nat.sub_zero] at hy
          obtain ⟨hi, rfl⟩ := yInts_get hy
          simp
          refine read_text (os := xs.map Rq.od) hz hk hrl hrf (by simp; omega) hoks (hrows ▸ hsp) (by omega) fun st1 ho1 hb1 hl1 => ?_
          simp
          have hle := hst.le
          refine lendD_tp ?_
          simp [e1W]
          refine lendD_o hb1 ?_
          refine lendD_map.mpr ?_
          simp
          refine same_ev (n := 8) ?_ ?_
          · refine ⟨by rw [sizeLine_eq]; simp, fun w hw => ?_⟩
            simp at hw
            rcases hw with rfl | rfl
            · exact (hd.th.up (by decide : 4 ≤ 7)).pl
            · refine ⟨by rw [sizeLine_eq]; simp; omega, fun w hw => ?_⟩
              obtain ⟨x, hx, rfl⟩ := List.mem_map.mp hw
              exact rq_pl (hxs x hx) 4
          simp
          refine ⟨_, hb1, _, rfl, ?_⟩
          simp
          refine ⟨_, hb1, _, rfl, ?_⟩
          simp
          refine ⟨by omega, ?_⟩
          unfold SetK
          refine ⟨_, _, _, ⟨⟨rfl, rfl⟩, rfl⟩, hst.keep fun b hb => ?_⟩
          rw [List.getElem?_set_ne (by omega), ho1 b (by omega)]
        · rintro s ⟨c9, c10, st, rfl, hst⟩
          exact ⟨_, _, _, _, _, _, rfl, hst.mono (by omega)⟩
      · rintro s ⟨c6, c7, c8, c9, c10, st, rfl, hst⟩
        simp at hst
        exact ⟨_, rfl, _, rfl, hst.mono (by omega)⟩
    · rintro s ⟨sl, st, hsl, rfl, hst⟩
      trivial
  obtain ⟨⟨r, st'⟩, h1, h2⟩ := this
  cases h2
  exact ⟨st', h1⟩

end NV.K50
open PySem PySem.W PySem.Calls PyProof.Rows
theorem PySem.Challenge.cw_nearstairs_k50_sheets_read_holds : PySem.Challenge.rw_nearstairs_k50_sheets_read.Holds := by
  w_on; o_law
  refine HandSHeadRun.head_any (r := OpenLaw.row PySem.Challenge.rw_nearstairs_k50_sheets_read) (q := view (OpenLaw.row PySem.Challenge.rw_nearstairs_k50_sheets_read).prog [41]) (H := NV.K50.hk) (ob := NV.K50.ob) (M := 20000) (loose := NV.K50.loose) (d := HandSHeadRun.topDef (OpenLaw.row PySem.Challenge.rw_nearstairs_k50_sheets_read).prog 41) (kwd := []) NV.K50.ob_eq
    (by kernel_rfl) (fun s => by kernel_rfl) NV.K50.run (by kernel_rfl) (by kernel_rfl) (by kernel_rfl) (by rfl) (by first | assumption | decide +kernel) (by decide +kernel) ⟨rfl, rfl, rfl, rfl, rfl, by decide +kernel⟩ ?hw ?hc
  case hw => w_witness2
  case hc =>
    refine L2.walk_ofE (l := PySem.Challenge.rw_nearstairs_k50_sheets_read) (n := 63) (k := 10) (x := "_law_script") (CX := L2.CX0) rfl (by decide) (by kernel_rfl) ⟨rfl, by decide, by decide⟩ ?F (fun _ _ _ _ z => z)
    intro w mg fa h Y G hmg0
    obtain ⟨K, KX, c⟩ := Y
    have hmg : mg ("law" : PySem.Str) = some (.ref fa) := by
      have e : (HandSHeadRun.topDef (OpenLaw.row PySem.Challenge.rw_nearstairs_k50_sheets_read).prog 41).name = ("law" : PySem.Str) := by kernel_rfl
      rw [← e]
      exact hmg0
    have T := NV.K50.facts KX G c
    have e := hmg.symm.trans T.m_law
    cases e
    exact NV.law_end KX (NV.K50.ok_law T) NV.K50.law_true
