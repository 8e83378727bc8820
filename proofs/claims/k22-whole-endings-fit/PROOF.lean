import PyProof.Rows.All
import HandS.ForMost
import HandS.TupAny
import HandS.Conv
import HandS.AnyAll
import HandS.GenOver
import KE.KDictKeyed
import KE.KDictDisplayH
import KE.SortData
import HandS.SetFor
import HandS.Strs
import HandS.SetIn
import KE.KSetDisp
import KE.GoesEnum
import KE.KDictZip
import HandS.Walk
import HandS.Codes
import HandS.Small
import HandS.IsInst
import PyProof.P3Eq
import HandS.EndTab
import HandS.EndOwn
import PySem.Challenge.RW_ordershown_k22_whole_endings_fit
set_option Elab.async false
set_option linter.all false
set_option maxRecDepth 100000
-- A
set_option maxHeartbeats 2000000
/-! Layer A: how heaps grow while code tables may grow too; nested data by the heap. -/
namespace K22
open PySem PySem.Spec PyProof.Rows L2

/-- all that was tracked is as it was, but tables of code objects may have grown -/
def Ext (H H' : Hp) : Prop := ∀ b o, H b = some o → H' b = some o ∨ ∃ ps ps' : Array Value, o = .tbl ps ∧ H' b = some (.tbl ps') ∧ (TriplesOk ps.toList → TriplesOk ps'.toList)
theorem Ext.refl (H : Hp) : Ext H H := fun _ _ h => .inl h
theorem Ext.trans {H H1 H2 : Hp} (a : Ext H H1) (b : Ext H1 H2) : Ext H H2 := fun c o h => by
  rcases a c o h with h1 | ⟨ps, ps', e, h1, t1⟩
  · exact b c o h1
  · rcases b c _ h1 with h2 | ⟨qs, qs', e2, h2, t2⟩
    · exact .inr ⟨ps, ps', e, h2, t1⟩
    · cases e2
      exact .inr ⟨ps, qs', e, h2, fun z => t2 (t1 z)⟩
theorem Ext.same {H H' : Hp} (a : Same H H') : Ext H H' := fun b o h => .inl (a b o h)
theorem Ext.new {H : Hp} {p : Addr} {o : HO} (h : H p = none) : Ext H (upd H p o) := fun b x e => .inl (by
  rw [upd_ne (ne_of_none e h)]
  exact e)
/-- what H does not know may change -/
theorem Ext.mut {H H' : Hp} {p : Addr} {o : HO} (e : Ext H H') (h : H p = none) : Ext H (upd H' p o) := fun b x hx => by
  rw [upd_ne (ne_of_none hx h)]
  exact e b x hx
theorem Ext.free {H H' : Hp} (e : Ext H H') {p : Addr} (h : H' p = none) : H p = none := by
  cases q : H p with
  | none => rfl
  | some o =>
    rcases e p o q with z | ⟨_, _, _, z, _⟩
    · rw [h] at z; cases z
    · rw [h] at z; cases z
theorem Ext.at {H H' : Hp} (e : Ext H H') {b : Addr} {o : HO} (h : H b = some o) (n : ∀ ps, o ≠ .tbl ps) : H' b = some o := by
  rcases e b o h with z | ⟨ps, _, z, _, _⟩
  · exact z
  · exact absurd z (n ps)
theorem Ext.lst {H H' : Hp} (e : Ext H H') {b : Addr} {xs : List V} (h : H b = some (.lst xs)) : H' b = some (.lst xs) := e.at h fun _ z => by cases z
theorem Ext.tup {H H' : Hp} (e : Ext H H') {b : Addr} {xs : List V} (h : H b = some (.tup xs)) : H' b = some (.tup xs) := e.at h fun _ z => by cases z
theorem Ext.dK {H H' : Hp} (e : Ext H H') {b : Addr} {xs : List (Key × V)} (h : H b = some (.dK xs)) : H' b = some (.dK xs) := e.at h fun _ z => by cases z
theorem Ext.rdL {H H' : Hp} (e : Ext H H') {b : Addr} {xs : List V} (h : Rd H b (.lst xs)) : Rd H' b (.lst xs) := by
  rcases h with h | ⟨o, h⟩
  · exact .inl (e.lst h)
  · exact .inr ⟨o, e.at h fun _ z => by cases z⟩
theorem Ext.rdT {H H' : Hp} (e : Ext H H') {b : Addr} {xs : List V} (h : Rd H b (.tup xs)) : Rd H' b (.tup xs) := by
  rcases h with h | ⟨o, h⟩
  · exact .inl (e.tup h)
  · exact .inr ⟨o, e.at h fun _ z => by cases z⟩
theorem Ext.seqL {K : PySem.W.Frag} {H H' : Hp} {a : Addr} {xs : List V} (e : Ext H H') (h : SqL K H a xs) : SqL K H' a xs := by
  rcases h with h | h
  · exact .inl (e.rdL h)
  · exact .inr h
theorem Ext.seqT {K : PySem.W.Frag} {H H' : Hp} {a : Addr} {xs : List V} (e : Ext H H') (h : SqT K H a xs) : SqT K H' a xs := by
  rcases h with h | h
  · exact .inl (e.rdT h)
  · exact .inr h
/-- a table of code objects -/
def TabG (H : Hp) (P : Addr) : Prop := ∃ ps : Array Value, H P = some (.tbl ps) ∧ TriplesOk ps.toList
theorem TabG.ext {H H' : Hp} {P : Addr} (t : TabG H P) (e : Ext H H') : TabG H' P := by
  obtain ⟨ps, h, t⟩ := t
  rcases e P _ h with z | ⟨qs, qs', z, h2, t2⟩
  · exact ⟨ps, z, t⟩
  · cases z
    exact ⟨qs', h2, t2 t⟩

/-! ### data -/
section
variable {K : PySem.W.Frag} {H H' : Hp}
mutual
theorem dp_mono (e : Ext H H') : ∀ (d : PyData) (v : V), Dp K H v d → Dp K H' v d
  | .none, _, h => by cases h; exact .non
  | .bool _, _, h => by cases h; exact .bl _
  | .int _, _, h => by cases h; exact .int _
  | .str _, _, h => by cases h; exact .str _
  | .list ds, _, h => by
    cases h with
    | lst h1 h2 => exact .lst (e.seqL h1) (dpAll_mono e ds _ h2)
  | .tuple ds, _, h => by
    cases h with
    | tup h1 h2 => exact .tup (e.seqT h1) (dpAll_mono e ds _ h2)
  | .dict _, _, h => by cases h
theorem dpAll_mono (e : Ext H H') : ∀ (ds : List PyData) (vs : List V), DpAll K H vs ds → DpAll K H' vs ds
  | [], _, h => by cases h; exact .nil
  | d :: ds, _, h => by
    cases h with
    | cons h1 h2 => exact .cons (dp_mono e d _ h1) (dpAll_mono e ds _ h2)
end
theorem _root_.L2.Dp.ext {d : PyData} {v : V} (h : Dp K H v d) (e : Ext H H') : Dp K H' v d := dp_mono e d v h
theorem _root_.L2.DpAll.ext {d : List PyData} {v : List V} (h : DpAll K H v d) (e : Ext H H') : DpAll K H' v d := dpAll_mono e d v h
theorem dp_int {v : V} {i : Int} (h : Dp K H v (.int i)) : v = .int i := by cases h; rfl
theorem dp_str {v : V} {x : Str} (h : Dp K H v (.str x)) : v = .str x := by cases h; rfl
theorem dp_non {v : V} (h : Dp K H v .none) : v = .non := by cases h; rfl
theorem dp_list {v : V} {ds : List PyData} (h : Dp K H v (.list ds)) : ∃ a xs, v = .ref a ∧ SqL K H a xs ∧ DpAll K H xs ds := by
  cases h with
  | lst h1 h2 => exact ⟨_, _, rfl, h1, h2⟩
theorem dp_tup {v : V} {ds : List PyData} (h : Dp K H v (.tuple ds)) : ∃ a xs, v = .ref a ∧ SqT K H a xs ∧ DpAll K H xs ds := by
  cases h with
  | tup h1 h2 => exact ⟨_, _, rfl, h1, h2⟩
theorem da_len : ∀ {vs : List V} {ds : List PyData}, DpAll K H vs ds → vs.length = ds.length
  | _, _, .nil => rfl
  | _, _, .cons _ t => by rw [List.length_cons, List.length_cons, da_len t]
theorem da_nil {vs : List V} (h : DpAll K H vs []) : vs = [] := by cases h; rfl
theorem da_cons {vs : List V} {d : PyData} {ds : List PyData} (h : DpAll K H vs (d :: ds)) : ∃ x xs, vs = x :: xs ∧ Dp K H x d ∧ DpAll K H xs ds := by
  cases h with
  | cons h1 h2 => exact ⟨_, _, rfl, h1, h2⟩
theorem da_get : ∀ {vs : List V} {ds : List PyData} {i : Nat} {d : PyData}, DpAll K H vs ds → ds[i]? = some d → ∃ v, vs[i]? = some v ∧ Dp K H v d
  | _, _, _, _, .nil, e => by simp at e
  | _, _, 0, _, .cons r _, e => by simp at e; subst e; exact ⟨_, rfl, r⟩
  | _, _, i + 1, d, .cons _ t, e => by
    obtain ⟨u, h1, h2⟩ := da_get (i := i) (d := d) t (by simpa using e)
    exact ⟨u, by simpa using h1, h2⟩
theorem da_at : ∀ {vs : List V} {ds : List PyData} {i : Nat} {v : V}, DpAll K H vs ds → vs[i]? = some v → ∃ d, ds[i]? = some d ∧ Dp K H v d
  | _, _, _, _, .nil, e => by simp at e
  | _, _, 0, _, .cons r _, e => by simp at e; subst e; exact ⟨_, rfl, r⟩
  | _, _, i + 1, d, .cons _ t, e => by
    obtain ⟨u, h1, h2⟩ := da_at (i := i) (v := d) t (by simpa using e)
    exact ⟨u, by simpa using h1, h2⟩
theorem da_append : ∀ {xs ys : List V} {ds es : List PyData}, DpAll K H xs ds → DpAll K H ys es → DpAll K H (xs ++ ys) (ds ++ es)
  | _, _, _, _, .nil, s => s
  | _, _, _, _, .cons r t, s => .cons r (da_append t s)
theorem da_one {v : V} {d : PyData} (h : Dp K H v d) : DpAll K H [v] [d] := .cons h .nil
theorem da_take : ∀ {xs : List V} {ds : List PyData} (n : Nat), DpAll K H xs ds → DpAll K H (xs.take n) (ds.take n)
  | _, _, 0, _ => .nil
  | _, _, _ + 1, .nil => .nil
  | _, _, n + 1, .cons r t => .cons r (da_take n t)
theorem da_drop : ∀ {xs : List V} {ds : List PyData} (n : Nat), DpAll K H xs ds → DpAll K H (xs.drop n) (ds.drop n)
  | _, _, 0, r => r
  | _, _, _ + 1, .nil => .nil
  | _, _, n + 1, .cons _ t => da_drop n t
theorem da_set {v : V} {d : PyData} (h : Dp K H v d) : ∀ {xs : List V} {ds : List PyData} (n : Nat), DpAll K H xs ds → DpAll K H (xs.set n v) (ds.set n d)
  | _, _, _, .nil => .nil
  | _, _, 0, .cons _ t => .cons h t
  | _, _, n + 1, .cons r t => .cons r (da_set h n t)
theorem da_ints : ∀ ns : List Int, DpAll K H (ns.map V.int) (ns.map PyData.int)
  | [] => .nil
  | n :: ns => .cons (.int n) (da_ints ns)
theorem da_ofInts : ∀ {ns : List Int} {vs : List V}, DpAll K H vs (ns.map PyData.int) → vs = ns.map V.int
  | [], _, h => da_nil h
  | n :: ns, _, h => by
    obtain ⟨x, xs, rfl, h1, h2⟩ := da_cons h
    rw [dp_int h1, da_ofInts h2]
    rfl
theorem dp_tupNew {p : Addr} {xs : List V} {ds : List PyData} (h : H p = some (.tup xs)) (a : DpAll K H xs ds) : Dp K H (.ref p) (.tuple ds) := .tup (.of h) a
theorem dp_lstNew {p : Addr} {xs : List V} {ds : List PyData} (h : H p = some (.lst xs)) (a : DpAll K H xs ds) : Dp K H (.ref p) (.list ds) := .lst (.of h) a
theorem dp_ints {v : V} {ns : List Int} (h : Dp K H v (.tuple (ns.map PyData.int))) : ∃ a, v = .ref a ∧ SqT K H a (ns.map V.int) := by
  obtain ⟨a, xs, rfl, h1, h2⟩ := dp_tup h
  rw [da_ofInts h2] at h1
  exact ⟨a, rfl, h1⟩
theorem dp_intsL {v : V} {ns : List Int} (h : Dp K H v (.list (ns.map PyData.int))) : ∃ a, v = .ref a ∧ SqL K H a (ns.map V.int) := by
  obtain ⟨a, xs, rfl, h1, h2⟩ := dp_list h
  rw [da_ofInts h2] at h1
  exact ⟨a, rfl, h1⟩
/-- items that are all told by one function -/
theorem da_map {α : Type} {f : α → PyData} : ∀ {l : List α} {vs : List V}, DpAll K H vs (l.map f) → ∀ (i : Nat) (a : α), l[i]? = some a → ∃ v, vs[i]? = some v ∧ Dp K H v (f a) := fun {l vs} h i a e =>
  da_get h (by rw [List.getElem?_map, e]; rfl)
end
/-- what a promise of a def that leaves all as it was says of its end -/
def Ret (K : PySem.W.Frag) (d : PyData) (H : Hp) (Q : VK) : Prop := ∀ v H', Ext H H' → Dp K H' v d → Q v H'
theorem Ret.go {K : PySem.W.Frag} {d : PyData} {H H1 H2 : Hp} {Q : VK} {v : V} (q : Ret K d H Q) (e : Ext H H2) (h : Dp K H2 v d) : Q v H2 := q v H2 e h
/-- an Int's remainder below 2 ^ 63 and so on: sizes -/
theorem line_of {n : Nat} (h : n ≤ 1000000) : n ≤ sizeLine := Nat.le_trans h (by rw [sizeLine_eq]; decide)
theorem line_lt {n : Nat} (h : n ≤ 1000000) : n < sizeLine := Nat.lt_of_le_of_lt h (by rw [sizeLine_eq]; decide)
end K22

-- B
set_option maxHeartbeats 4000000
/-! Layer B: all(elt for x in it if ..) as a rule, its element and its test run in a frame of their own. -/
namespace K22
open PySem PySem.Spec PyProof.Rows L2
open Sem (wp)

/-- the context of a generator expression's frame -/
abbrev gblk (X : Cx) (s : Shared) (H : Hp) (cenv : Env) (fp : List Addr) (A : Around) : Cx :=
  { X with s_0 := s, H_0 := H, env := cenv, outer := X.stack, stack := cenv :: X.stack, A := A, ex := fp, fn := fun _ => false, pn := [], xe := fun _ _ => False }
section
variable {X : Cx} {pins : List (Addr × Obj)} {σ : L2.St} {H : Hp} {s : Shared}
theorem gen_start {scope : Scope} {own : List (Str × Nat)} {fp : List Addr} {code : Value} {A : Around} {m : Str → Option Value} {s5 : Shared} (I : Inv X pins σ H s) (ok : BlkOk X.N X.env.scope scope own) (hN : X.N.Nodup) (hcell : ∀ y ∈ scope.names, y.2 ≠ .cell)
    (hfp : ∀ b ∈ fp, FpOk X pins H b ∧ b < s.heap.objs.size) (hns : s5.heap.Ns s.heap.objs.size m) (kp : ∀ b o, s.heap.get? b = some o → s5.heap.get? b = some o) (hos : s5.os = s.os) (hb : AllBare s5.gens)
    (hh : A.handled = none) (hf : A.frames = some (genEnv scope (cloFrom X.env.cells scope.names []) s.heap.objs.size code builtinsNs X.env :: X.stack)) :
    Inv (gblk X s H (genEnv scope (cloFrom X.env.cells scope.names []) s.heap.objs.size code builtinsNs X.env) fp A) [] (wipe σ (own.map (·.2))) H s5 := by
  have hfree : ∀ y ∈ scope.names, y.2 = .free → ∃ c, X.env.cells.lookup y.1 = some c := fun y hy e => by
    rcases ok.free y hy e with k | k
    · exact I.ok.has _ (.inl k)
    · exact I.ok.has _ (.inr k)
  have cm : ∀ {y c}, (y, c) ∈ cloFrom X.env.cells scope.names [] → X.env.cells.lookup y = some c := fun {y c} hm => by
    rcases cloFrom_mem hm with hm | ⟨h1, rfl⟩
    · cases hm
    · obtain ⟨c, hc⟩ := hfree _ h1 rfl
      rw [hc]
      rfl
  have cl : ∀ {y c}, (cloFrom X.env.cells scope.names []).lookup y = some c → X.env.cells.lookup y = some c := fun {y c} h => cm (PySem.mem_of_lookup h)
  have look : ∀ {y}, scope.names.lookup y = some .free → ∃ c, (cloFrom X.env.cells scope.names []).lookup y = some c ∧ X.env.cells.lookup y = some c := fun {y} hl => by
    obtain ⟨c', e'⟩ := mem_lookup (cloFrom_has (cells := X.env.cells) (acc := []) (PySem.mem_of_lookup hl))
    exact ⟨c', e', cl e'⟩
  have nocell : ∀ {y}, scope.names.lookup y ≠ some .cell := fun {y} h => hcell _ (PySem.mem_of_lookup h) rfl
  generalize hcenv : genEnv scope (cloFrom X.env.cells scope.names []) s.heap.objs.size code builtinsNs X.env = cenv at hf ⊢
  have hL : cenv.locals = s.heap.objs.size := by rw [← hcenv]; rfl
  have hcl : cenv.cells = cloFrom X.env.cells scope.names [] := by rw [← hcenv]; rfl
  have hsc : cenv.scope = scope := by rw [← hcenv]; rfl
  have hfr : cenv.frame = some cenv.locals := by rw [← hcenv]; rfl
  have celt : ∀ {y c}, cenv.cells.lookup y = some c → c < s.heap.objs.size := fun {y c} e => by
    rw [hcl] at e
    obtain ⟨w, z⟩ := I.cell _ _ (cl e)
    exact z.lt
  have okB : (gblk X s H cenv fp A).Ok := by
    refine ⟨I.ok.mod, by show cenv.scope.kind = _; rw [hsc]; exact ok.kind, by show cenv.globals = _; rw [← hcenv]; exact I.ok.glob, by show cenv.builtins = _; rw [← hcenv]; rfl, by show s.heap.objs.size ≤ cenv.locals; rw [hL]; exact Nat.le_refl _,
      fun y z c e1 e2 => ?_, fun y hy => ?_, fun y c z _ => absurd (show false = true from z) Bool.false_ne_true, fun _ => hh, hf, .inr ⟨rfl, hfr⟩, fun b hb => ⟨?_, fun y c e z => ?_⟩, I.bs, Nat.le_trans I.ok.bsz I.sz, fun b o e hb => ?_, fun b hb z => ?_, I.stack, I.stkFree⟩
    · have e1 : cenv.cells.lookup y = some c := e1
      have e2 : cenv.cells.lookup z = some c := e2
      rw [hcl] at e1 e2
      exact I.ok.inj y z c (cl e1) (cl e2)
    · show ∃ c, cenv.cells.lookup y = some c
      have hy : cenv.scope.names.lookup y = some .cell ∨ cenv.scope.names.lookup y = some .free := hy
      rw [hsc] at hy
      rcases hy with hy | hy
      · exact absurd hy nocell
      · obtain ⟨c, h1, _⟩ := look hy
        exact ⟨c, by rw [hcl]; exact h1⟩
    · show b ≠ cenv.locals
      rw [hL]; exact Nat.ne_of_lt (hfp b hb).2
    · have e : cenv.cells.lookup y = some c := e
      rw [hcl] at e
      exact (hfp b hb).1.2.2.2.2.1 y c (cl e) z
    · rcases (hfp b hb).1.2.2.2.1 with z | z
      · exact I.ok.noex b o e z
      · exact absurd (Nat.lt_of_lt_of_le (Heap.lt_size e) (Nat.le_trans I.ok.bsz z)) (Nat.lt_irrefl _)
    · rcases List.mem_cons.mp (I.stkSub b z) with z | z
      · exact (hfp b hb).1.2.1 z
      · exact (hfp b hb).1.2.2.1 z
  refine ⟨okB, hos, hb, Un.kept kp, ⟨m, ?_, fun i y av e1 e2 e3 => ?_⟩, fun y c e => ?_, ?_, fun y c e => ?_, fun p hp => absurd (show p ∈ ([] : List (Addr × Obj)) ++ [] from hp) (by simp), I.hok.kept kp, by rw [wipe_length]; exact I.len⟩
  · show Heap.Ns _ cenv.locals _
    rw [hL]
    exact hns
  · obtain ⟨e2, hne⟩ := wipe_some e2
    have e3 : Vis cenv.scope y := e3
    rw [hsc] at e3
    have hfr : scope.names.lookup y = some .free := by
      rcases e3 with e3 | e3 | e3
      · rcases ok.own _ (PySem.mem_of_lookup e3) (.inl rfl) with e' | e'
        · obtain ⟨p, hp, hpy⟩ := List.mem_map.mp e'
          have e4 := ok.ix p hp
          have : p.1 = y := hpy
          rw [this] at e4
          exact absurd (List.mem_map.mpr ⟨p, hp, nodup_ix hN e4 e1⟩) hne
        · exact absurd (List.mem_of_getElem? e1) e'
      · exact absurd e3 nocell
      · exact e3
    obtain ⟨m', hn, hl⟩ := I.loc
    have hvis : Vis X.env.scope y := (ok.free _ (PySem.mem_of_lookup hfr) rfl).elim (fun k => .inr (.inl k)) (fun k => .inr (.inr k))
    obtain ⟨w, r, q⟩ := hl i y av e1 e2 hvis
    refine ⟨w, r, .inr ⟨.inr (by show cenv.scope.names.lookup y = _; rw [hsc]; exact hfr), ?_⟩⟩
    obtain ⟨c, h1, h2⟩ := look hfr
    rcases q with ⟨k, _⟩ | ⟨_, c', e', z⟩
    · have k : X.env.scope.names.lookup y = some .local := k
      rcases ok.free _ (PySem.mem_of_lookup hfr) rfl with k' | k' <;> rw [show X.env.scope.names.lookup y = _ from k'] at k <;> cases k
    · rw [h2] at e'; cases e'
      exact ⟨c, by show cenv.cells.lookup y = _; rw [hcl]; exact h1, z.keeps kp⟩
  · have e : cenv.cells.lookup y = some c := e
    rw [hcl] at e
    obtain ⟨w, z⟩ := I.cell y c (cl e)
    exact ⟨w, z.keeps kp⟩
  · show H cenv.locals = none
    rw [hL]; exact I.hok.fresh (Nat.le_refl _)
  · have e : cenv.cells.lookup y = some c := e
    rw [hcl] at e
    exact I.freeC y c (cl e)
end

/-- a sleeping generator's own object -/
structure GenO (go : Obj) (g : Nat) : Prop where
  cls : go.cls = .type "generator"
  data : ∃ nm qn : Value, go.data = .fields #[.int g 0, nm, qn]
  slots : go.slots = #[]
theorem GenO.is {go : Obj} {g : Nat} {h : Heap} {a : Addr} (o : GenO go g) (e : h.get? a = some go) : h.IsGen a g := by
  obtain ⟨nm, qn, d⟩ := o.data
  exact ⟨go, nm, qn, e, o.cls, d, o.slots⟩
theorem over_gexp {A : Around} {elt target iter : Expr} {ifs : List Expr} {scope : Scope} {pos : Pos} {it acc : Value} {env : Env} : A.over (.compLoop (.GeneratorExp elt [⟨target, iter, ifs, 0⟩] scope pos) 0 it acc env) [] = A.deeper env := by
  first
    | rfl
    | (obtain ⟨hd, d, fr, gs, u⟩ := A; simp [Around.over, Around.deeper, marksOver, frameCount, unitsOf, envsOf, guardsOf, pushEnvs, pushGuards, Code.envs, Code.env?, Code.isFrame, Code.guards, Code.isGuard, Code.weight, Code.frames, Code.isCreation, Code.isCaller, Code.cUnits])
theorem over_gst {A : Around} {elt target iter : Expr} {ifs : List Expr} {scope : Scope} {pos : Pos} {it acc : Value} {env : Env} : A.over (.compStart (.GeneratorExp elt [⟨target, iter, ifs, 0⟩] scope pos) 0 it acc env) [] = A.deeper env := by
  first
    | rfl
    | (obtain ⟨hd, d, fr, gs, u⟩ := A; simp [Around.over, Around.deeper, marksOver, frameCount, unitsOf, envsOf, guardsOf, pushEnvs, pushGuards, Code.envs, Code.env?, Code.isFrame, Code.guards, Code.isGuard, Code.weight, Code.frames, Code.isCreation, Code.isCaller, Code.cUnits])
/-- what the generator hands out: a truth value; what is known then -/
def gxY (X : Cx) (ip : List (Addr × Obj)) (σ0 : L2.St) (fp : List Addr) (tn : Nat → Heap → Prop) (N : Nat) (Qf : Hp → Prop) : Protocol := fun n s₀ v s kap =>
  ∃ i k H, v = .bool k ∧ Inv X ip σ0 H s ∧ tn (i + 1) s.heap ∧ (∀ b ∈ fp, H b = none) ∧ N - (i + 1) ≤ n ∧ i < N ∧ (k = false → Qf H) ∧ (k = true → ∀ s', Inv X ip σ0 H s' → s'.heap = s.heap → kap (.send .none) s')
def gxP (X : Cx) (ip : List (Addr × Obj)) (σ0 : L2.St) (Qt : Hp → Prop) : Nat → Shared → Shared → Prop := fun n s₀ s => ∃ H, Inv X ip σ0 H s ∧ Qt H
section
variable {X : Cx} {elt iter : Expr} {x : Str} {px pos : Pos} {ifs : List Expr} {scope : Scope} {it : Addr} {ip : List (Addr × Obj)} {fp : List Addr} {tn : Nat → Heap → Prop} {J : It} {N j : Nat} {W : Nat → Hp → Prop} {Qt Qf : Hp → Prop} {σ0 : L2.St} {tt : TT} {te : TE} {Aw : Around}
theorem gx_loop (T : Turn X.prog X.w X.K (.Name x px) J fp it tn) (hc : X.calm = true) (hco : X.env.scope.isCoroutine = false) (pg : PG X (.Name x px) (gName j)) (pt : PTs X ifs tt) (pe : PE X elt te) (hxe : X.xe = fun _ _ => False)
    (hA : Aw.deeper X.env = X.A) (hex : ∀ b ∈ fp, b ∈ X.ex) (hj : ∀ v, σ0[j]? ≠ some (some v)) (hip : ∀ p ∈ X.pn ++ ip, p.1 ∉ fp)
    (turn : ∀ i H, W i H → (J.stop i H ∧ Qt H) ∨ (i < N ∧ J.go i H ∧ ∀ v H', J.yld i H v H' → tt (σ0.set j (some v)) H' fun b H3 => if b = true then te (σ0.set j (some v)) H3 fun y H4 => ∃ k, y = .bl k ∧ (if k = true then W (i + 1) H4 else Qf H4) else W (i + 1) H3)) :
    ∀ (r i n : Nat) (s₀ s : Shared) (H : Hp), N - i ≤ r → N - i ≤ n → Inv X ip σ0 H s → tn i s.heap → (∀ b ∈ fp, H b = none) → W i H →
      Seg (model X.prog X.w) Aw (fun n s₀ r s₁ => r = .ok .next ∧ gxP X ip σ0 Qt n s₀ s₁) (gxY X ip σ0 fp tn N Qf) n s₀
        (.compLoop (.GeneratorExp elt [⟨.Name x px, iter, ifs, 0⟩] scope pos) 0 (.ref it) .none X.env)
        ((model X.prog X.w).den (.compLoop (.GeneratorExp elt [⟨.Name x px, iter, ifs, 0⟩] scope pos) 0 (.ref it) .none X.env)) [] s := by
  have hover : Aw.over (.compLoop (.GeneratorExp elt [⟨.Name x px, iter, ifs, 0⟩] scope pos) 0 (.ref it) .none X.env) [] = X.A := over_gexp.trans hA
  have stat : ∀ {H' : Hp} {s' : Shared} {σ' : L2.St}, Inv X ip σ' H' s' → (∀ b ∈ fp, H' b = none) → ∀ b ∈ fp, FpOk X ip H' b := fun {H' s' σ'} I hn b hb =>
    ⟨hn b hb, (I.ok.exf b (hex b hb)).1, I.ok.exfs b (hex b hb), .inl (hex b hb), fun y c e => (I.ok.exf b (hex b hb)).2 y c e, fun p hp e => hip p hp (by rw [e]; exact hb)⟩
  intro r
  induction r with
  | zero =>
    intro i n s₀ s H hr hn I st nf w
    rcases turn i H w with ⟨stop, q⟩ | ⟨hlt, _⟩
    · show Seg _ Aw _ _ _ s₀ _ ((compTurn (.GeneratorExp elt [⟨.Name x px, iter, ifs, 0⟩] scope pos) 0 (.ref it) .none X.env).onRaise (leaving X.env)) [] s
      rw [compTurn_gen, Sem.onRaise_eq_wrap]
      refine seg_bind_wrap (wpAny_standAt ?_)
      refine seg_bind_wrap ?_
      rw [hover]
      refine thn (T.done X rfl rfl rfl hc i ip s σ0 H _ I (stat I nf) st stop) fun r s1 ⟨hr, I1⟩ => ?_
      subst hr
      exact seg_end (.ok .next) ⟨rfl, H, I1, q⟩
    · omega
  | succ r ih =>
    intro i n s₀ s H hr hn I st nf w
    rcases turn i H w with ⟨stop, q⟩ | ⟨hlt, go, step⟩
    · show Seg _ Aw _ _ _ s₀ _ ((compTurn (.GeneratorExp elt [⟨.Name x px, iter, ifs, 0⟩] scope pos) 0 (.ref it) .none X.env).onRaise (leaving X.env)) [] s
      rw [compTurn_gen, Sem.onRaise_eq_wrap]
      refine seg_bind_wrap (wpAny_standAt ?_)
      refine seg_bind_wrap ?_
      rw [hover]
      refine thn (T.done X rfl rfl rfl hc i ip s σ0 H _ I (stat I nf) st stop) fun r s1 ⟨hr, I1⟩ => ?_
      subst hr
      exact seg_end (.ok .next) ⟨rfl, H, I1, q⟩
    · show Seg _ Aw _ _ _ s₀ _ ((compTurn (.GeneratorExp elt [⟨.Name x px, iter, ifs, 0⟩] scope pos) 0 (.ref it) .none X.env).onRaise (leaving X.env)) [] s
      rw [compTurn_gen, Sem.onRaise_eq_wrap]
      refine seg_bind_wrap (wpAny_standAt ?_)
      refine seg_bind_wrap ?_
      rw [hover]
      refine thn (T.item X rfl rfl rfl hc i ip s σ0 H _ I (stat I nf) st go) fun r s1 ⟨u, hr, h1⟩ => ?_
      subst hr
      refine seg_bind_wrap ?_
      rw [hover]
      refine thn h1 fun _ s2 ⟨v, H2, I2, rv, yv, st2, nf2⟩ => ?_
      have I2' := I2.pinned (stat I2 nf2) (T.obj _ _ st2)
      have noE : ∀ {α : Type} {t : Sem α} {Q Q' : α → Shared → Prop} {E : Value → Shared → Prop} {s : Shared}, wpAny (model X.prog X.w) X.A t Q X.xe s → (∀ a s, Q a s → Q' a s) → wpAny (model X.prog X.w) X.A t Q' E s := fun h hq => wpAny_mono h hq fun e s z => by
        rw [hxe] at z
        exact z.elim
      refine seg_bind_wrap ?_
      rw [hover]
      refine noE (pg.run _ s2 σ0 H2 v u (fun σ' H' => σ' = σ0.set j (some v) ∧ H' = H2) I2' rv ⟨rfl, rfl⟩) fun _ s3 ⟨σ3, H3, I3, e3, e3'⟩ => ?_
      subst e3
      subst e3'
      refine seg_bind_wrap ?_
      rw [hover]
      refine noE (pt.run _ s3 _ H3 _ I3 (step v H3 yv)) fun b s4 ⟨H4, I4, q4⟩ => ?_
      -- the turn's end
      have fin : ∀ {s' : Shared} {H' : Hp}, Inv X (ip ++ pinsAt fp s2.heap) (σ0.set j (some v)) H' s' → Inv X ip σ0 H' s' ∧ tn (i + 1) s'.heap ∧ ∀ b ∈ fp, H' b = none := fun {s' H'} I' => by
        have pin' : ∀ b ∈ fp, ∀ o, s2.heap.get? b = some o → s'.heap.get? b = some o ∧ H' b = none := fun b hb o e =>
          let z := I'.pin (b, o) (List.mem_append_right _ (List.mem_append_right _ (mem_pinsAt hb e)))
          ⟨z.1, z.2.1⟩
        refine ⟨(I'.unpinned).weak (by rw [List.length_set]) (fun k w e => ?_), T.keep _ _ _ st2 fun b hb o e => (pin' b hb o e).1, fun b hb => ?_⟩
        · by_cases hk : j = k
          · subst hk
            exact absurd e (hj w)
          · rw [List.getElem?_set_ne hk]
            exact e
        · obtain ⟨o, e, _⟩ := T.obj _ _ st2 b hb
          exact (pin' b hb o e).2
      cases b with
      | false =>
        simp only [Bool.false_eq_true, if_false] at q4 ⊢
        obtain ⟨I5, st5, nf5⟩ := fin I4
        exact seg_again rfl (ih (i + 1) n s₀ s4 H4 (by omega) (by omega) I5 st5 nf5 q4)
      | true =>
        simp only [if_true] at q4 ⊢
        have hy : ∀ v, yieldOut X.env v = yieldValue v := fun v => by simp only [yieldOut, hco, Bool.false_eq_true, if_false]
        simp only [hy]
        rw [Sem.bind_eq_wrap', Sem.bind_eq_wrap', Sem.wrap_wrap, Sem.wrap_wrap]
        refine seg_wrap ?_
        rw [hover]
        refine noE (pe.run _ s4 _ H4 _ I4 q4) fun y s5 ⟨yv, H5, I5, ry, k, ek, q5⟩ => ?_
        subst ek
        obtain rfl : y = Value.bool k := ry
        obtain ⟨I6, st6, nf6⟩ := fin I5
        obtain ⟨m, rfl⟩ : ∃ m, n = m + 1 := ⟨n - 1, by omega⟩
        refine seg_at (seg_yield rfl rfl rfl ⟨i, k, H5, rfl, I6, st6, nf6, by omega, hlt, fun e => ?_, fun e s' I' eh => ?_⟩)
        · rw [e, if_neg Bool.false_ne_true] at q5
          exact q5
        · rw [e, if_pos rfl] at q5
          refine seg_again rfl (ih (i + 1) m s' s' H5 (by omega) (by omega) I' ?_ nf6 q5)
          rw [eh]
          exact st6
end

theorem inv_gens {X : Cx} {pins : List (Addr × Obj)} {σ : L2.St} {H : Hp} {s s' : Shared} (I : Inv X pins σ H s) (e : s'.heap = s.heap) (ho : s'.os = s.os) (hb : AllBare s'.gens) : Inv X pins σ H s' :=
  I.call' (ch := []) ho (by rw [e]; exact Un.refl) (by rw [e]; exact I.hok) hb fun b z => absurd z (by simp)
theorem bare_set {s : Shared} {g : Nat} {x : GenState} (h : AllBare s.gens) (hx : x.bare = true) : AllBare (s.setGen g x).gens := fun y hy => by
  have hy : y ∈ s.gens.setIfInBounds g x := hy
  rcases Array.mem_or_eq_of_mem_setIfInBounds hy with z | z
  · exact h y z
  · rw [z]
    exact hx
theorem gens_lt {s : Shared} {g : Nat} {x : GenState} (h : s.gens[g]? = some x) : g < s.gens.size := (Array.getElem?_eq_some_iff.mp h).1
theorem gens_at {s : Shared} {g : Nat} {x : GenState} (h : g < s.gens.size) : (s.setGen g x).gens[g]? = some x := by
  simp [Shared.setGen, h]
section
variable {X : Cx} {fp : List Addr} {tn : Nat → Heap → Prop} {N : Nat} {Qt Qf : Hp → Prop} {σ0 : L2.St} {A : Around} {a : Addr} {g : Nat} {go : Obj}
theorem gx_all (GO : GenO go g) (hh : A.handled = none) (hroom : A.depth < recursionLimit) : ∀ (n : Nat) (s : Shared) (gs : GenState) (H : Hp), s.gens[g]? = some gs → Inv X [(a, go)] σ0 H s →
    gs.Goes (model X.prog X.w) A.in1.in1 (fun n s₀ r s₁ => r = .ok .next ∧ gxP X [(a, go)] σ0 Qt n s₀ s₁) (gxY X [(a, go)] σ0 fp tn N Qf) n (.send .none) (s.setGen g .running) →
    codeAny (model X.prog X.w) A (.builtin "all.loop" ⟨[.ref a], []⟩) (fun r s' => ∃ b H', r = .ok (.ret (.bool b)) ∧ Inv X [(a, go)] σ0 H' s' ∧ (if b = true then Qt H' else Qf H')) s := by
  intro n
  induction n with
  | zero =>
    intro s gs H hg I hgo
    refine codeAny_builtin F.entry_all_loop ?_
    rw [Around.under_plainId F.plain_all_loop _]
    show wpAny _ A.in1 (pyNext (.ref a) >>= _) _ _ s
    have hea := (I.pin (a, go) (List.mem_append_right _ (List.mem_singleton.mpr rfl))).1
    refine wpAny_bind (GenW.wpAny_gsz (n := g + 1) (gens_lt hg) (wpAny_pyNext_genexpQ (A := A.in1) (P := gxP X [(a, go)] σ0 Qt) hh I.nolimit hroom (GO.is hea) hg hgo (fun v s₁ gs' hb hv => ?_) (fun s₁ hp h' hk => ?_)))
    · intro hsz
      obtain ⟨i, k, H1, rfl, I1, st1, nf1, hle, hlt, qf, qk⟩ := hv
      refine wpAny_bind (wpAny_holding (wpAny_truthy_bool ?_))
      refine wpAny_bind (wpAny_letGo ?_)
      cases k with
      | false =>
        simp only [Bool.false_eq_true, if_false]
        refine wpAny_bind (wpAny_rule (wpAny_pure ?_))
        exact ⟨false, H1, rfl, inv_gens I1 rfl rfl (bare_set I1.bare hb), qf rfl⟩
      | true => exact (qk rfl s₁ I1 rfl).elim
    · intro hsz
      obtain ⟨H1, I1, q1⟩ := hp
      refine wpAny_bind (wpAny_rule (wpAny_pure ?_))
      have I2 : Inv X [(a, go)] σ0 H1 (s₁.setGen g .finished) := inv_gens I1 rfl rfl (bare_set I1.bare rfl)
      exact ⟨true, H1, rfl, I2.kept (t' := s₁.toks) hk, q1⟩
  | succ n ih =>
    intro s gs H hg I hgo
    refine codeAny_builtin F.entry_all_loop ?_
    rw [Around.under_plainId F.plain_all_loop _]
    show wpAny _ A.in1 (pyNext (.ref a) >>= _) _ _ s
    have hea := (I.pin (a, go) (List.mem_append_right _ (List.mem_singleton.mpr rfl))).1
    refine wpAny_bind (GenW.wpAny_gsz (n := g + 1) (gens_lt hg) (wpAny_pyNext_genexpQ (A := A.in1) (P := gxP X [(a, go)] σ0 Qt) hh I.nolimit hroom (GO.is hea) hg hgo (fun v s₁ gs' hb hv => ?_) (fun s₁ hp h' hk => ?_)))
    · intro hsz
      obtain ⟨i, k, H1, rfl, I1, st1, nf1, hle, hlt, qf, qk⟩ := hv
      refine wpAny_bind (wpAny_holding (wpAny_truthy_bool ?_))
      refine wpAny_bind (wpAny_letGo ?_)
      have hlt : g < s₁.gens.size := by
        have : g + 1 ≤ (s₁.setGen g gs').gens.size := hsz
        rw [GenW.setGen_size] at this
        exact this
      have I2 : Inv X [(a, go)] σ0 H1 (s₁.setGen g gs') := inv_gens I1 rfl rfl (bare_set I1.bare hb)
      cases k with
      | false =>
        simp only [Bool.false_eq_true, if_false]
        refine wpAny_bind (wpAny_rule (wpAny_pure ?_))
        exact ⟨false, H1, rfl, I2, qf rfl⟩
      | true =>
        simp only [if_true]
        refine wpAny_pure ⟨plainId_quiet F.plain_all_loop _, ih _ gs' H1 (gens_at hlt) I2 ?_⟩
        exact qk rfl _ (inv_gens I2 rfl rfl (bare_set I2.bare rfl)) rfl
    · intro hsz
      obtain ⟨H1, I1, q1⟩ := hp
      refine wpAny_bind (wpAny_rule (wpAny_pure ?_))
      have I2 : Inv X [(a, go)] σ0 H1 (s₁.setGen g .finished) := inv_gens I1 rfl rfl (bare_set I1.bare rfl)
      exact ⟨true, H1, rfl, I2.kept (t' := s₁.toks) hk, q1⟩
end

def tAllG (P : Addr) (wi : TI) (j : Nat) (tt : TT) (te : TE) : TE := fun σ H Q => wi σ H fun J H1 => TabG H1 P ∧ ∃ (N : Nat) (W : Nat → Hp → Prop), (∀ H2, GxR.Tabbed P H1 H2 → W 0 H2) ∧
  ∀ i H, W i H → (J.stop i H ∧ Q (.bl true) H) ∨ (i < N ∧ J.go i H ∧ ∀ v H', J.yld i H v H' → tt ((σ.set j none).set j (some v)) H' fun b H3 =>
    if b = true then te ((σ.set j none).set j (some v)) H3 fun y H4 => ∃ k, y = .bl k ∧ (if k = true then W (i + 1) H4 else Q (.bl false) H4) else W (i + 1) H3)
section
variable {X : Cx}
theorem pe_allG {c P : Addr} {elt iter : Expr} {x : Str} {px p pos gpos : Pos} {ifs : List Expr} {scope : Scope} {wi : TI} {tt : TT} {te : TE} {j k : Nat}
    (hr : Room (k + 1) X.A) (hc : X.calm = true) (hN : X.N.Nodup) (hg : Gl X "all") (hm : X.mg "all" = none) (hb : bootBuiltins "all" = some (.builtin "all")) (TB : GxR.TabB X.base X.mg c P) (hcode : X.env.code = .ref c)
    (hco : scope.isCoroutine = false) (hcell : ∀ y ∈ scope.names, y.2 ≠ .cell) (h0 : scope.names.lookup (".0" : Str) = some NameKind.local) (hx : scope.names.lookup x = some .local) (hxj : X.N[j]? = some x)
    (ok : BlkOk X.N X.env.scope scope [(x, j)]) (hi : PI X (.Name x px) iter wi) (hs : ∀ v, genFold iter X.env v = pure v)
    (pt : ∀ (s : Shared) (H : Hp) (C : Addr) (cl : List (Str × Addr)) (fp : List Addr) (code : Value) (A : Around), Room k A → PTs (gblk X s H (genEnv scope cl C code builtinsNs X.env) fp A) ifs tt)
    (pe : ∀ (s : Shared) (H : Hp) (C : Addr) (cl : List (Str × Addr)) (fp : List Addr) (code : Value) (A : Around), Room k A → PE (gblk X s H (genEnv scope cl C code builtinsNs X.env) fp A) elt te)
    (he : starEach [.GeneratorExp elt [⟨.Name x px, iter, ifs, 0⟩] scope gpos] X.env = (false, eval (.GeneratorExp elt [⟨.Name x px, iter, ifs, 0⟩] scope gpos) X.env) :: starEach [] X.env := by rfl) :
    PE X (.Call (.Name "all" p) [.GeneratorExp elt [⟨.Name x px, iter, ifs, 0⟩] scope gpos] [] pos) (tAllG P wi j tt te) := by
  refine ⟨fun pins s σ H Q I h => ?_⟩
  have hfree : ∀ y ∈ scope.names, y.2 = .free → ∃ c, X.env.cells.lookup y.1 = some c := fun y hy e => by
    rcases ok.free y hy e with k | k
    · exact I.ok.has _ (.inl k)
    · exact I.ok.has _ (.inr k)
  refine wpAny_Call_Name_kw (ld_blt I hg hm hb ?_)
  refine PyProof.Rows.callWith_builtin1 ?_ he (by rfl)
  rw [he]
  show wpAny _ _ (spliced ((false, eval (.GeneratorExp elt [⟨.Name x px, iter, ifs, 0⟩] scope gpos) X.env) :: backTo pos (starEach [] X.env))) _ _ s
  refine Calls.spliced_cons ?_
  refine wpAny_GeneratorExp_make hco (closure_ok hfree) hcell h0 ok.kind hr.depth ?_ hs
  refine thn (hi.run pins s σ H _ I h) fun xv s1 hx1 => thn hx1 fun itv s2 h2 => ?_
  obtain ⟨it, fp, tn, J, H2, e, I2, T, st2, f2, ⟨ps, hP, ht⟩, N, W, w0, turn⟩ := h2
  subst e
  refine ⟨I2.nolimit, ?_⟩
  have hPs : s2.heap.get? P = some { cls := .none, data := .fields ps } := I2.hok P _ hP
  have fpP : ∀ b ∈ fp, b ≠ P := fun b hb e => by
    have q := (f2 b hb).1
    rw [e, hP] at q
    cases q
  have fplt : ∀ b ∈ fp, b < s2.heap.objs.size := fun b hb => by
    obtain ⟨o, e, _⟩ := T.obj _ _ st2 b hb
    exact Heap.lt_size e
  have cd : PySem.W.CodeHd s2.heap c P := TB.code.keeps fun b u e => I2.bk b u e
  have cont : ∀ (code : Value) (h3 : Heap) (tk : Nat) (ps' : Array Value), (∀ b o, b ≠ P → s2.heap.get? b = some o → h3.get? b = some o) → s2.heap.objs.size ≤ h3.objs.size → h3.get? P = some { cls := .none, data := .fields ps' } → (∃ more, ps' = ps ++ more) → TriplesOk ps'.toList →
      wpAny (model X.prog X.w) X.A (builtinsFor X.env.globals X.env.builtins) (fun bi s₄ =>
        ∀ h', h'.Ns s₄.heap.objs.size (fun y => if y = ".0" then some (.ref it) else none) → Heap.SameBut s₄.heap.objs.size (s₄.heap.push { cls := .type "frame", data := .dict #[] }) h' →
          wpAny (model X.prog X.w) X.A (spliced (backTo pos (starEach [] X.env))) (fun us s₅ => wpAny (model X.prog X.w) X.A (call (.builtin "all") (Value.ref h'.objs.size :: us)) (EP X pins σ Q) X.xe s₅) X.xe { s₄ with
            gens := s₄.gens.push (.fresh (.compStart (.GeneratorExp elt [⟨.Name x px, iter, ifs, 0⟩] scope gpos) 0 (.ref it) .none (genEnv scope (cloFrom X.env.cells scope.names []) s₄.heap.objs.size code bi X.env))),
            toks := s₄.toks + 1 + 1 + 1,
            heap := h'.push { cls := .type "generator", data := .fields #[.int s₄.gens.size 0, .str "<genexpr>" (s₄.toks + 1), .str (X.env.qual ++ "<genexpr>") (s₄.toks + 1 + 1)] } }) X.xe { s2 with heap := h3, toks := tk } := by
    intro code h3 tk ps' keep3 hsz hP3 hmore ht3
    obtain ⟨more, rfl⟩ := hmore
    obtain ⟨bm, ob, e1, e2, e3, e4, e5, e6, e7, e8⟩ := TB.bm
    have I3 : Inv X pins σ (upd H2 P (.tbl (ps ++ more))) { s2 with heap := h3, toks := tk } := GxR.inv_tab (g' := s2.gens) (d' := s2.drawn) I2 hP keep3 hP3 I2.bare
    have hw : GxR.Tabbed P H2 (upd H2 P (.tbl (ps ++ more))) := ⟨⟨ps ++ more, upd_same, ht3⟩, fun b hb => upd_ne hb⟩
    generalize hH3 : upd H2 P (.tbl (ps ++ more)) = H3 at I3 hw
    refine wpAny_builtinsFor (m := X.mg) (by rw [I3.ok.glob]; exact I3.mod.glob.keeps I3.bk) e1 e2 (I3.bk _ _ e5) e6 e7 e8 ?_
    intro h' hn' hs'
    have st3 : tn 0 h3 := T.keep _ _ _ st2 fun b hb o e => keep3 b o (fpP b hb) e
    have f3 : ∀ b ∈ fp, FpOk X pins H3 b ∧ b < ({ s2 with heap := h3, toks := tk } : Shared).heap.objs.size := fun b hb => by
      refine ⟨⟨?_, (f2 b hb).2⟩, Nat.lt_of_lt_of_le (fplt b hb) hsz⟩
      rw [← hH3, upd_ne (fpP b hb)]
      exact (f2 b hb).1
    generalize hs4 : ({ s2 with heap := h3, toks := tk } : Shared) = s4 at I3 hn' hs' f3 ⊢
    have h34 : s4.heap = h3 := by rw [← hs4]
    have hszh : h'.objs.size = s4.heap.objs.size + 1 := by rw [hs'.1, Heap.size_push]
    generalize hgo : ({ cls := .type "generator", data := .fields #[.int s4.gens.size 0, .str "<genexpr>" (s4.toks + 1), .str (X.env.qual ++ "<genexpr>") (s4.toks + 1 + 1)] } : Obj) = go
    have GO : GenO go s4.gens.size := by
      rw [← hgo]
      exact ⟨rfl, ⟨_, _, rfl⟩, rfl⟩
    have gopush : ∀ h : Heap, (h.push go).get? h.objs.size = some go := fun h => by
      rw [← hgo]
      exact Heap.get?_push_size _ rfl
    have kp4 : ∀ b o, s4.heap.get? b = some o → (h'.push go).get? b = some o := fun b o e => Heap.get?_push_of_some _ (hs'.extBut b o (Nat.ne_of_lt (Heap.lt_size e)) (Heap.get?_push_of_some _ e))
    generalize hce : genEnv scope (cloFrom X.env.cells scope.names []) s4.heap.objs.size code builtinsNs X.env = cenv
    generalize hs5 : ({ s4 with gens := s4.gens.push (.fresh (.compStart (.GeneratorExp elt [⟨.Name x px, iter, ifs, 0⟩] scope gpos) 0 (.ref it) .none cenv)), toks := s4.toks + 1 + 1 + 1, heap := h'.push go } : Shared) = s5
    have h5 : s5.heap = h'.push go := by rw [← hs5]
    have o5 : s5.os = s4.os := by rw [← hs5]
    have b5 : AllBare s5.gens := by
      rw [← hs5]
      exact I3.bare.push rfl
    have g5 : s5.gens[s4.gens.size]? = some (.fresh (.compStart (.GeneratorExp elt [⟨.Name x px, iter, ifs, 0⟩] scope gpos) 0 (.ref it) .none cenv)) := by
      rw [← hs5]
      exact Array.getElem?_push_size ..
    have hA' : Room k (X.A.in1.in1.deeper cenv) := ⟨hr.hd, by have := hr.dp; show X.A.depth + 1 + 3 * k + 5 < _; omega, by have := hr.un; show X.A.units + 1 + 1 + 3 + 16 * k + 200 < _; omega⟩
    have I5 : Inv (gblk X s4 H3 cenv fp (X.A.in1.in1.deeper cenv)) [] (σ.set j none) H3 s5 := by
      rw [← hce]
      refine gen_start (own := [(x, j)]) I3 ok hN hcell f3 (by rw [h5]; exact hn'.push _) (by rw [h5]; exact kp4) o5 b5 hr.hd ?_
      show (X.A.frames).map _ = _
      rw [I3.ok.frames]
      rfl
    have aL : s4.heap.objs.size < h'.objs.size := by rw [hszh]; exact Nat.lt_succ_self _
    have cL : cenv.locals = s4.heap.objs.size := by rw [← hce]; rfl
    have I6 : Inv (gblk X s4 H3 cenv fp (X.A.in1.in1.deeper cenv)) [(h'.objs.size, go)] (σ.set j none) H3 s5 := by
      refine I5.pins_of fun p hp => ?_
      rw [List.mem_singleton.mp hp]
      refine ⟨by rw [h5]; exact gopush h', I3.hok.fresh (Nat.le_of_lt aL), ?_, fun z => ?_, fun v z => ?_⟩
      · show h'.objs.size ≠ cenv.locals
        rw [cL]
        exact Nat.ne_of_gt aL
      · rcases List.mem_cons.mp (I3.stkSub _ z) with z | z
        · have q := Nat.lt_trans I3.lt aL
          rw [← z] at q
          exact Nat.lt_irrefl _ q
        · exact I3.nofs (Nat.le_of_lt aL) z
      · rw [← hgo] at z
        have z' : Data.fields _ = Data.cell v := z
        cases z'
    have T' : Turn (gblk X s4 H3 cenv fp (X.A.in1.in1.deeper cenv)).prog (gblk X s4 H3 cenv fp (X.A.in1.in1.deeper cenv)).w (gblk X s4 H3 cenv fp (X.A.in1.in1.deeper cenv)).K (.Name x px) J fp it tn := T
    have loop := gx_loop (X := gblk X s4 H3 cenv fp (X.A.in1.in1.deeper cenv)) (elt := elt) (iter := iter) (pos := gpos) (ifs := ifs) (scope := scope) (ip := [(h'.objs.size, go)]) (N := N) (j := j) (W := W) (Qt := Q (.bl true)) (Qf := Q (.bl false)) (σ0 := σ.set j none) (tt := tt) (te := te) (Aw := X.A.in1.in1)
      T' hc (by show cenv.scope.isCoroutine = false; rw [← hce]; exact hco) (by
        rw [← hce]
        exact pg_name hN hxj (.inl hx) (.inr hx)) (by rw [← hce] at hA' ⊢; exact pt _ _ _ _ _ _ _ hA') (by rw [← hce] at hA' ⊢; exact pe _ _ _ _ _ _ _ hA') rfl rfl (fun b hb => hb) (fun v e => by
        by_cases hj : j < σ.length
        · rw [List.getElem?_set_self hj] at e
          cases e
        · rw [List.getElem?_eq_none (by rw [List.length_set]; omega)] at e
          cases e) (fun p hp hm => by
        have hp : p ∈ ([] : List (Addr × Obj)) ++ [(h'.objs.size, go)] := hp
        rw [List.nil_append] at hp
        rw [List.mem_singleton.mp hp] at hm
        have q := (f3 _ hm).2
        exact absurd (Nat.lt_trans q aL) (Nat.lt_irrefl _)) turn
    have st5 : tn 0 s5.heap := T.keep _ _ _ st3 fun b hb o e => by
      rw [h5]
      exact kp4 b o (by rw [h34]; exact e)
    have nf : ∀ b ∈ fp, H3 b = none := fun b hb => (f3 b hb).1.1
    have bare6 : AllBare (s5.setGen s4.gens.size .running).gens := bare_set b5 rfl
    have I7 : Inv (gblk X s4 H3 cenv fp (X.A.in1.in1.deeper cenv)) [(h'.objs.size, go)] (σ.set j none) H3 (s5.setGen s4.gens.size .running) := inv_gens I6 rfl rfl bare6
    have lp := loop (N - 0) 0 N (s5.setGen s4.gens.size .running) (s5.setGen s4.gens.size .running) H3 (Nat.le_refl _) (Nat.le_refl _) I7 st5 nf (w0 _ hw)
    refine Calls.spliced_nil ?_
    refine call_function_tree F.kind_all F.plain_all F.entry_all (F.args_all1 _) ?_
    unfold Builtin.«all»
    refine wpAny_bind (m := oneArg "all" _) (wpAny_pure ?_)
    refine wpAny_bind (wpAny_pyIter_gen (GO.is (by rw [h5]; exact gopush h')) ?_)
    refine wpAny_pure ⟨plainId_quiet F.plain_all_loop _, codeAny_mono (gx_all (X := gblk X s4 H3 cenv fp (X.A.in1.in1.deeper cenv)) (fp := fp) (tn := tn) (N := N) (Qt := Q (.bl true)) (Qf := Q (.bl false)) (σ0 := σ.set j none) (A := X.A) GO hr.hd hr.depth N s5 _ H3 g5 I6 ⟨rfl, ?_⟩) fun r s' hq => ?_⟩
    · show Seg _ X.A.in1.in1 _ _ _ _ _ ((compStart (.GeneratorExp elt [⟨.Name x px, iter, ifs, 0⟩] scope gpos) 0 (.ref it) .none cenv).onRaise (leaving cenv)) [] _
      unfold compStart
      rw [Sem.onRaise_eq_wrap]
      show Seg _ X.A.in1.in1 _ _ _ _ _ ((ask >>= _).wrap _ _ _ _) [] _
      refine seg_bind_wrap (wpAny_askSetting ?_)
      split
      · exact seg_again rfl lp
      · first
          | exact seg_bind_wrap (wpAny_rule (seg_bind_wrap (wpAny_standAt (seg_bind_wrap (T.self _ 0 _ _ _ st5 (seg_again rfl lp))))))
          | (refine seg_bind_wrap (wpAny_rule ?_); show Seg _ X.A.in1.in1 _ _ _ _ _ ((standAt iter.pos >>= _).wrap _ _ _ _) [] _; exact seg_bind_wrap (wpAny_standAt (seg_bind_wrap (T.self _ 0 _ _ _ st5 (seg_again rfl lp)))))
    · obtain ⟨b, H', rfl, I8, q8⟩ := hq
      have I9 : Inv X pins σ H' s' := I3.call' (ch := fp) I8.os I8.base I8.hok I8.bare fun b hb => ⟨(f3 b hb).1.2.2.2.1, (f3 b hb).1.2.1, (f3 b hb).1.2.2.2.2.1, (f3 b hb).1.2.2.2.2.2⟩
      refine ⟨.bl b, H', I9, rfl, ?_⟩
      cases b with
      | true => exact q8
      | false => exact q8
  cases hf : codeAmong gpos ps.toList with
  | none =>
    refine wpAny_genexprCodeX hcode (cd.code hPs ht) (cd.tab hPs) hf fun c' h' tk hx hge hlt hco' _ htab' _ => ?_
    obtain ⟨o1, vs, f1, tf, fl, tg, inF, tx, tt, op, _, _, _, _, _, _, _, _, _, htr, _⟩ := hco'
    exact cont _ h' tk _ hx (Nat.le_trans hge (Nat.le_of_lt hlt)) htab'.2 ⟨_, rfl⟩ htr
  | some cv =>
    refine wpAny_genexprCode_hit hcode (cd.code hPs ht) hf ?_
    exact cont cv s2.heap s2.toks ps (fun _ _ _ e => e) (Nat.le_refl _) hPs ⟨#[], by simp⟩ ht
end
end K22

-- C
set_option maxHeartbeats 4000000
/-! Layer C: dicts whose keys are nested tuples. -/
namespace K22
open PySem PySem.Spec PyProof.Rows L2

/-- the dict at d with these entries -/
def dnO (P : Program) (w : World) (d : Addr) (xs : List (NestedKey × Addr × Value)) : HO := .ext fun h => (d == sysModules) = false ∧ ∃ o es ep, h.get? d = some o ∧ o.ExactDict ∧ o.data = .dict es ep ∧ es.toList = xs.map (entryOfKey (nestedKind P w)) ∧ (xs.map (·.1)).Nodup
theorem dnO_tbl {P : Program} {w : World} {d : Addr} {xs : List (NestedKey × Addr × Value)} (ps : Array Value) : dnO P w d xs ≠ .tbl ps := fun z => by
  unfold dnO at z
  cases z
/-- a key as it may stand: a tuple, not deep -/
structure Kn (k : NestedKey) : Prop where
  tup : ∃ ks, k = .tup ks
  deep : k.depth ≤ 8
/-- the dict at d has the keys ks, in order -/
def DN (P : Program) (w : World) (K : PySem.W.Frag) (H : Hp) (d : Addr) (ks : List NestedKey) : Prop := ∃ xs : List (NestedKey × Addr × Value), H d = some (dnO P w d xs) ∧ xs.map (·.1) = ks ∧ ∀ x ∈ xs, Dp K H (.ref x.2.1) x.1.data ∧ Kn x.1

section
variable {X : Cx} {pins : List (Addr × Obj)} {σ : L2.St} {H : Hp} {s : Shared}
mutual
theorem nested_of (I : Inv X pins σ H s) : ∀ (k : NestedKey) (v : V) (u : Value), Dp X.K H v k.data → RelV v u → NestedIs s.heap k u
  | .none, _, _, h, r => by
    cases h
    cases r
    exact .none
  | .num i, _, _, h, r => by
    cases h
    obtain ⟨t, rfl⟩ := r
    exact .int i t
  | .text x, _, _, h, r => by
    cases h
    obtain ⟨t, rfl⟩ := r
    exact .text x t
  | .tup ks, _, _, h, r => by
    cases h with
    | tup hs ha =>
      cases r
      obtain ⟨its, rv, ⟨o, ho, hc, n, hd⟩, _⟩ := I.tuple hs
      exact .tup ho hc hd (by simpa using nestedAll_of I ks _ its ha rv)
theorem nestedAll_of (I : Inv X pins σ H s) : ∀ (ks : List NestedKey) (vs : List V) (us : List Value), DpAll X.K H vs (NestedKey.datas ks) → Vals vs us → NestedAll s.heap ks us
  | [], _, _, h, r => by
    cases h
    cases r
    exact .nil
  | k :: ks, _, _, h, r => by
    cases h with
    | cons h1 h2 =>
      cases r with
      | cons r1 r2 => exact .cons (nested_of I k _ _ h1 r1) (nestedAll_of I ks _ _ h2 r2)
end
theorem DN.laid (I : Inv X pins σ H s) {d : Addr} {xs : List (NestedKey × Addr × Value)} (h : H d = some (dnO X.prog X.w d xs)) (hx : ∀ x ∈ xs, Dp X.K H (.ref x.2.1) x.1.data ∧ Kn x.1) : (d == sysModules) = false ∧ s.heap.DictOfH (nestedKind X.prog X.w) d xs := by
  obtain ⟨⟨h1, o, es, ep, e1, e2, e3, e4, e5⟩, _⟩ := I.hok d _ h
  exact ⟨h1, o, es, ep, e1, e2, e3, e4, fun x hm => ⟨nested_of I x.1 _ _ (hx x hm).1 rfl, (hx x hm).2.deep⟩, e5⟩
theorem dnO_ok {P : Program} {w : World} {H : Hp} {h : Heap} {d : Addr} {xs : List (NestedKey × Addr × Value)} (h1 : (d == sysModules) = false) (h2 : h.DictOfH (nestedKind P w) d xs) : ObjOk P w H h d (dnO P w d xs) := by
  obtain ⟨o, es, ep, e1, e2, e3, e4, _, e5⟩ := h2
  exact ⟨⟨h1, o, es, ep, e1, e2, e3, e4, e5⟩, ⟨o, e1⟩, fun a b ⟨q1, o, es, ep, f1, f2, f3, f4, f5⟩ k => ⟨q1, o, es, ep, k _ f1, f2, f3, f4, f5⟩⟩
end
/-! ### growth but at one place -/
def ExtB (d : Addr) (H H' : Hp) : Prop := ∀ b o, b ≠ d → H b = some o → H' b = some o ∨ ∃ ps ps' : Array Value, o = .tbl ps ∧ H' b = some (.tbl ps') ∧ (TriplesOk ps.toList → TriplesOk ps'.toList)
theorem Ext.but {d : Addr} {H H' : Hp} (e : Ext H H') : ExtB d H H' := fun b o _ h => e b o h
theorem ExtB.trans {d : Addr} {H H1 H2 : Hp} (a : ExtB d H H1) (b : ExtB d H1 H2) : ExtB d H H2 := fun c o n h => by
  rcases a c o n h with h1 | ⟨ps, ps', e, h1, t1⟩
  · exact b c o n h1
  · rcases b c _ n h1 with h2 | ⟨qs, qs', e2, h2, t2⟩
    · exact .inr ⟨ps, ps', e, h2, t1⟩
    · cases e2
      exact .inr ⟨ps, qs', e, h2, fun z => t2 (t1 z)⟩
theorem ExtB.upd {d : Addr} {H H' : Hp} {o : HO} (e : ExtB d H H') : ExtB d H (upd H' d o) := fun b x n h => by
  rw [upd_ne n]
  exact e b x n h
/-- an Ext from where d was not there -/
theorem Ext.glue {d : Addr} {H H1 H2 : Hp} (a : Ext H H1) (n : H d = none) (b : ExtB d H1 H2) : Ext H H2 := fun c o h => by
  have hc : c ≠ d := ne_of_none h n
  rcases a c o h with h1 | ⟨ps, ps', e, h1, t1⟩
  · exact b c o hc h1
  · rcases b c _ hc h1 with h2 | ⟨qs, qs', e2, h2, t2⟩
    · exact .inr ⟨ps, ps', e, h2, t1⟩
    · cases e2
      exact .inr ⟨ps, qs', e, h2, fun z => t2 (t1 z)⟩
theorem TabG.extB {d : Addr} {H H' : Hp} {P : Addr} (t : TabG H P) (e : ExtB d H H') (n : P ≠ d) : TabG H' P := by
  obtain ⟨ps, h, t⟩ := t
  rcases e P _ n h with z | ⟨qs, qs', z, h2, t2⟩
  · exact ⟨ps, z, t⟩
  · cases z
    exact ⟨qs', h2, t2 t⟩
/-- what stands at d is no list, no tuple, no table -/
def NoSeq (o : Option HO) : Prop := ∀ u, o = some u → (∀ xs, u ≠ .lst xs) ∧ (∀ xs, u ≠ .tup xs) ∧ (∀ b xs, u ≠ .frz b (.lst xs)) ∧ (∀ b xs, u ≠ .frz b (.tup xs)) ∧ ∀ ps, u ≠ .tbl ps
theorem noSeq_dn {P : Program} {w : World} {d : Addr} {H : Hp} {xs : List (NestedKey × Addr × Value)} (h : H d = some (dnO P w d xs)) : NoSeq (H d) := fun u e => by
  rw [h] at e
  cases e
  unfold dnO
  exact ⟨fun _ z => (by cases z), fun _ z => (by cases z), fun _ _ z => (by cases z), fun _ _ z => (by cases z), fun _ z => (by cases z)⟩
section
variable {K : PySem.W.Frag} {H H' : Hp} {d : Addr}
theorem ExtB.rdL (e : ExtB d H H') (n : NoSeq (H d)) {b : Addr} {xs : List V} (h : Rd H b (.lst xs)) : Rd H' b (.lst xs) := by
  rcases h with h | ⟨o, h⟩
  · have hb : b ≠ d := fun z => (n _ (by rw [← z]; exact h)).1 xs rfl
    rcases e b _ hb h with z | ⟨_, _, z, _, _⟩
    · exact .inl z
    · cases z
  · have hb : b ≠ d := fun z => (n _ (by rw [← z]; exact h)).2.2.1 o xs rfl
    rcases e b _ hb h with z | ⟨_, _, z, _, _⟩
    · exact .inr ⟨o, z⟩
    · cases z
theorem ExtB.rdT (e : ExtB d H H') (n : NoSeq (H d)) {b : Addr} {xs : List V} (h : Rd H b (.tup xs)) : Rd H' b (.tup xs) := by
  rcases h with h | ⟨o, h⟩
  · have hb : b ≠ d := fun z => (n _ (by rw [← z]; exact h)).2.1 xs rfl
    rcases e b _ hb h with z | ⟨_, _, z, _, _⟩
    · exact .inl z
    · cases z
  · have hb : b ≠ d := fun z => (n _ (by rw [← z]; exact h)).2.2.2.1 o xs rfl
    rcases e b _ hb h with z | ⟨_, _, z, _, _⟩
    · exact .inr ⟨o, z⟩
    · cases z
mutual
theorem dp_monoB (e : ExtB d H H') (n : NoSeq (H d)) : ∀ (x : PyData) (v : V), Dp K H v x → Dp K H' v x
  | .none, _, h => by cases h; exact .non
  | .bool _, _, h => by cases h; exact .bl _
  | .int _, _, h => by cases h; exact .int _
  | .str _, _, h => by cases h; exact .str _
  | .list ds, _, h => by
    cases h with
    | lst h1 h2 => exact .lst (h1.elim (fun z => .inl (e.rdL n z)) .inr) (dpAll_monoB e n ds _ h2)
  | .tuple ds, _, h => by
    cases h with
    | tup h1 h2 => exact .tup (h1.elim (fun z => .inl (e.rdT n z)) .inr) (dpAll_monoB e n ds _ h2)
  | .dict _, _, h => by cases h
theorem dpAll_monoB (e : ExtB d H H') (n : NoSeq (H d)) : ∀ (ds : List PyData) (vs : List V), DpAll K H vs ds → DpAll K H' vs ds
  | [], _, h => by cases h; exact .nil
  | x :: ds, _, h => by
    cases h with
    | cons h1 h2 => exact .cons (dp_monoB e n x _ h1) (dpAll_monoB e n ds _ h2)
end
theorem _root_.L2.Dp.extB {x : PyData} {v : V} (h : Dp K H v x) (e : ExtB d H H') (n : NoSeq (H d)) : Dp K H' v x := dp_monoB e n x v h
end
theorem DN.noSeq {P : Program} {w : World} {K : PySem.W.Frag} {H : Hp} {d : Addr} {ks : List NestedKey} (h : DN P w K H d ks) : NoSeq (H d) := by
  obtain ⟨xs, e, _⟩ := h
  exact noSeq_dn e
theorem DN.ext {P : Program} {w : World} {K : PySem.W.Frag} {H H' : Hp} {d : Addr} {ks : List NestedKey} (h : DN P w K H d ks) (e : Ext H H') : DN P w K H' d ks := by
  obtain ⟨xs, e1, e2, e3⟩ := h
  exact ⟨xs, e.at e1 dnO_tbl, e2, fun x hx => ⟨(e3 x hx).1.ext e, (e3 x hx).2⟩⟩

/-! ### the operations -/
section
variable {X : Cx}
/-- {}, to be a dict with nested keys -/
def tDNewN (P : Program) (w : World) : TE := fun _ H Q => ∀ p, H p = none → Q (.ref p) (upd H p (dnO P w p []))
theorem pe_dnewN {pos : Pos} : PE X (.Dict [] [] pos) (tDNewN X.prog X.w) := ⟨fun pins s σ H Q I h =>
  wpAny_Dict_empty ⟨.ref s.heap.objs.size, _, I.laid (a := s.heap.objs.size) (o := dnO X.prog X.w s.heap.objs.size []) (t' := s.toks) (fun _ _ q => Heap.get?_push_of_some _ q) (Nat.le_refl _) (dnO_ok (beq_eq_false_iff_ne.mpr (Ne.symm (Nat.ne_of_lt I.big))) (Heap.DictOfH.new s.heap)), rfl, h _ (I.hok.fresh (Nat.le_refl _))⟩⟩
theorem DN.new {P : Program} {w : World} {K : PySem.W.Frag} {H : Hp} {p : Addr} : DN P w K (upd H p (dnO P w p [])) p [] := ⟨[], upd_same, rfl, fun _ h => by cases h⟩
theorem atKey_some {xs : List (NestedKey × Addr × Value)} {k : NestedKey} : (atKey xs k).isSome = decide (k ∈ xs.map (·.1)) := by
  induction xs with
  | nil => simp [atKey]
  | cons x xs ih =>
    by_cases h : x.1 = k
    · simp [atKey, h]
    · have h' : ¬ k = x.1 := fun e => h e.symm
      simp only [atKey] at ih
      simp [atKey, h, h', ih]
/-- k in d, k not in d -/
def rInN (P : Program) (w : World) (K : PySem.W.Frag) (neg : Bool) : R2 := fun x y H Q => ∃ a d k ks, x = .ref a ∧ y = .ref d ∧ Dp K H (.ref a) k.data ∧ Kn k ∧ DN P w K H d ks ∧ Q (.bl (if neg then !decide (k ∈ ks) else decide (k ∈ ks))) H
theorem op_inN (hu : X.A.units + 64 < cLine) : OpR X (compareOp .In) (rInN X.prog X.w X.K false) := by
  intro pins s σ H x y v u Q I rx ry h
  obtain ⟨a, d, k, ks, rfl, rfl, hk, kn, ⟨xs, e1, rfl, e3⟩, q⟩ := h
  cases rx
  cases ry
  obtain ⟨lo, dd⟩ := DN.laid I e1 e3
  refine wpAny_in_heap (knd := nestedKind X.prog X.w) (by show X.A.units + 1 + 8 < cLine; omega) ⟨nested_of I k _ _ hk rfl, kn.deep⟩ lo dd ?_
  rw [atKey_some]
  exact ⟨.bl _, H, I.tok _, rfl, q⟩
theorem op_notInN (hu : X.A.units + 64 < cLine) : OpR X (compareOp .NotIn) (rInN X.prog X.w X.K true) := by
  intro pins s σ H x y v u Q I rx ry h
  obtain ⟨a, d, k, ks, rfl, rfl, hk, kn, ⟨xs, e1, rfl, e3⟩, q⟩ := h
  cases rx
  cases ry
  obtain ⟨lo, dd⟩ := DN.laid I e1 e3
  show wpAny _ _ (do return Value.bool (!(← contains (.ref d) (.ref a)))) _ _ s
  refine wpAny_bind (wpAny_contains_heap (knd := nestedKind X.prog X.w) (by show X.A.units + 1 + 8 < cLine; omega) ⟨nested_of I k _ _ hk rfl, kn.deep⟩ lo dd (wpAny_pure ?_))
  rw [atKey_some]
  exact ⟨.bl _, H, I.tok _, rfl, q⟩
/-- d[k] = v -/
def rSetN (P : Program) (w : World) (K : PySem.W.Frag) : TSet := fun o i v H Q => ∃ a d k ks, o = .ref d ∧ i = .ref a ∧ Dp K H (.ref a) k.data ∧ Kn k ∧ DN P w K H d ks ∧ ks.length < sizeLine ∧
  ∀ H', ExtB d H H' → DN P w K H' d (if k ∈ ks then ks else ks ++ [k]) → (∀ b, b ≠ d → H' b = H b) → Q H'
theorem storedH_keys {xs : List (NestedKey × Addr × Value)} {k : NestedKey} {a : Addr} {v : Value} : (storedH xs k a v).map (·.1) = if k ∈ xs.map (·.1) then xs.map (·.1) else xs.map (·.1) ++ [k] := by
  unfold storedH
  rw [atKey_some]
  by_cases h : k ∈ xs.map (·.1)
  · rw [if_pos h, decide_eq_true h, if_pos rfl, List.map_map]
    refine List.map_congr_left fun x _ => ?_
    by_cases hx : x.1 = k <;> simp [putAt, hx]
  · rw [if_neg h, decide_eq_false h, if_neg Bool.false_ne_true, List.map_append]
    rfl
theorem storedH_mem {xs : List (NestedKey × Addr × Value)} {k : NestedKey} {a : Addr} {v : Value} {x : NestedKey × Addr × Value} (h : x ∈ storedH xs k a v) : (∃ y ∈ xs, y.1 = x.1 ∧ y.2.1 = x.2.1) ∨ (x.1 = k ∧ x.2.1 = a) := by
  unfold storedH at h
  split at h
  · obtain ⟨y, hy, rfl⟩ := List.mem_map.mp h
    refine .inl ⟨y, hy, ?_⟩
    by_cases hx : y.1 = k <;> simp [putAt, hx]
  · rcases List.mem_append.mp h with h | h
    · exact .inl ⟨x, h, rfl, rfl⟩
    · rw [List.mem_singleton.mp h]
      exact .inr ⟨rfl, rfl⟩
theorem set_dn (hu : X.A.units + 64 < cLine) : PSet X (rSetN X.prog X.w X.K) := by
  intro pins s σ H o i v ov iv u Q I ro ri rv h
  obtain ⟨a, d, k, ks, rfl, rfl, hk, kn, ⟨xs, e1, rfl, e3⟩, hl, q⟩ := h
  cases ro
  cases ri
  obtain ⟨lo, dd⟩ := DN.laid I e1 e3
  have hs : (d == sysModules) = false := lo
  refine wpAny_setItem_heap (knd := nestedKind X.prog X.w) (by show X.A.units + 1 + 8 < cLine; omega) ⟨nested_of I k _ _ hk rfl, kn.deep⟩ dd (fun h' dd' sb => ?_) (by rw [List.length_map] at hl; exact Nat.le_of_lt hl)
  have I1 := I.tok (s.toks + (nestedKind X.prog X.w).draws k)
  have heo : ∃ u, h'.get? d = some u := let ⟨o, _, _, ho, _⟩ := dd'; ⟨o, ho⟩
  have eb : ExtB d H (upd H d (dnO X.prog X.w d (storedH xs k a u))) := fun b x n hb => by
    rw [upd_ne n]
    exact .inl hb
  refine ⟨upd H d (dnO X.prog X.w d (storedH xs k a u)), I.write (t' := s.toks + (nestedKind X.prog X.w).draws k) (by rw [e1]; exact True.intro) (.inl rfl) (fun b w' hb e => (sb.2 b hb).trans e) heo (dnO_ok hs dd'), q _ eb ⟨_, upd_same, storedH_keys, fun x hx => ?_⟩ fun b hb => upd_ne hb⟩
  rcases storedH_mem hx with ⟨y, hy, e4, e5⟩ | ⟨e4, e5⟩
  · rw [← e4, ← e5]
    exact ⟨(e3 y hy).1.extB eb (noSeq_dn e1), (e3 y hy).2⟩
  · rw [e4, e5]
    exact ⟨hk.extB eb (noSeq_dn e1), kn⟩
end

section
variable {X : Cx}
/-- {k: True}, k a nested tuple -/
def tDispN (P : Program) (w : World) (K : PySem.W.Frag) (tk tv : TE) : TE := fun σ H Q => ∀ p, H p = none → tk σ (upd H p (dnO P w p [])) fun x H1 => tv σ H1 fun y H2 => ∃ a k, x = .ref a ∧ H2 p = some (dnO P w p []) ∧ Dp K H2 (.ref a) k.data ∧ Kn k ∧
  ∀ H', ExtB p H2 H' → DN P w K H' p [k] → (∀ b, b ≠ p → H' b = H2 b) → Q (.ref p) H'
theorem pe_dispN {pos : Pos} {ke ve : Expr} {tk tv : TE} (hu : X.A.units + 64 < cLine) (hk : PE X ke tk) (hv : PE X ve tv) : PE X (.Dict [some ke] [ve] pos) (tDispN X.prog X.w X.K tk tv) := by
  refine ⟨fun pins s σ H Q I q => ?_⟩
  have hn := I.hok.fresh (Nat.le_refl s.heap.objs.size)
  have I1 := I.laid (a := s.heap.objs.size) (o := dnO X.prog X.w s.heap.objs.size []) (h' := s.heap.push { cls := .type "dict", data := .dict #[] }) (t' := s.toks) (fun _ _ q => Heap.get?_push_of_some _ q) (Nat.le_refl _) (dnO_ok (beq_eq_false_iff_ne.mpr (Ne.symm (Nat.ne_of_lt I.big))) (Heap.DictOfH.new s.heap))
  have hpp : PPs X pos [some ke] [ve] [(tk, tv)] := pps_cons hk hv pps_nil
  rw [arm_eval_Dict, zip_pairTrees [some ke] [ve] X.env pos rfl rfl, dictDisplay_pairs (pairTrees [some ke] [ve] X.env pos) (by show (_ :: _) ≠ []; simp) (by show 1 < 17; decide)]
  refine wpAny_bind (wpAny_standAt (wpAny_bind (wpAny_subDictH (knd := nestedKind X.prog X.w) (Q := fun d s' => wpAny (model X.prog X.w) X.A (pure (Value.ref d)) (EP X pins σ Q) X.xe s') (by show X.A.units + 8 < cLine; omega) (by show 1 ≤ 15; decide) (thn (hpp.run pins _ σ _ (fun ps H2 => match ps with
    | [(x, y)] => ∃ a k, x = .ref a ∧ H2 s.heap.objs.size = some (dnO X.prog X.w s.heap.objs.size []) ∧ Dp X.K H2 (.ref a) k.data ∧ Kn k ∧
      ∀ H', ExtB s.heap.objs.size H2 H' → DN X.prog X.w X.K H' s.heap.objs.size [k] → (∀ b, b ≠ s.heap.objs.size → H' b = H2 b) → Q (.ref s.heap.objs.size) H'
    | _ => False) I1 (q _ hn)) fun ws s2 ⟨ps, H2, I2, rel, hq⟩ => ?_))))
  match ps, rel, hq with
  | [(x, y)], rel, hq =>
    obtain ⟨a, k, ex, e1, hd, kn, q2⟩ := hq
    subst ex
    obtain ⟨wk, wv, rfl, rk, rv⟩ : ∃ wk wv, ws = [(wk, wv)] ∧ RelV (.ref a) wk ∧ RelV y wv := by
      cases rel with
      | cons r t =>
        cases t
        exact ⟨_, _, rfl, r.1, r.2⟩
    obtain rfl : wk = Value.ref a := rk
    obtain ⟨lo, dd⟩ := DN.laid I2 e1 fun x hx => (by cases hx)
    refine ⟨[(k, a, wv)], ⟨rfl, rfl, ⟨nested_of I2 k _ _ hd rfl, kn.deep⟩, trivial⟩, dd, fun h' tk dd' hs => ?_⟩
    have eb : ExtB s.heap.objs.size H2 (upd H2 s.heap.objs.size (dnO X.prog X.w s.heap.objs.size [(k, a, wv)])) := fun b x n hb => by
      rw [upd_ne n]
      exact .inl hb
    have d2 : h'.DictOfH (nestedKind X.prog X.w) s.heap.objs.size [(k, a, wv)] := dd'
    have heo : ∃ u, h'.get? s.heap.objs.size = some u := let ⟨o, _, _, ho, _⟩ := d2; ⟨o, ho⟩
    refine wpAny_pure ⟨.ref s.heap.objs.size, upd H2 s.heap.objs.size (dnO X.prog X.w s.heap.objs.size [(k, a, wv)]), I2.write (t' := tk) (by rw [e1]; exact True.intro) (.inl rfl) (fun b w' hb e => (hs.2 b hb).trans e) heo (dnO_ok lo d2), rfl, q2 _ eb ⟨_, upd_same, rfl, fun x hx => ?_⟩ fun b hb => upd_ne hb⟩
    rw [List.mem_singleton.mp hx]
    exact ⟨hd.extB eb (noSeq_dn e1), kn⟩
  | [], _, hq => exact hq.elim
  | _ :: _ :: _, _, hq => exact hq.elim
end

theorem each_of {α β : Type} {R : α → β → Prop} : ∀ {as : List α} {bs : List β}, as.length = bs.length → (∀ (i : Nat) a b, as[i]? = some a → bs[i]? = some b → R a b) → PySem.W.EachIs R as bs
  | [], [], _, _ => .nil
  | a :: as, b :: bs, hl, h => .cons (h 0 a b rfl rfl) (each_of (by simpa using hl) fun i x y e1 e2 => h (i + 1) x y (by simpa using e1) (by simpa using e2))
  | [], _ :: _, hl, _ => by simp at hl
  | _ :: _, [], hl, _ => by simp at hl
mutual
theorem reads_nil {h : Heap} : ∀ (k : NestedKey) (v : Value) (as : List Addr), Reads h v k.data as → as = []
  | .none, _, _, r => by
    have r : Reads h _ .none _ := r
    cases r
    rfl
  | .num i, _, _, r => by
    have r : Reads h _ (.int i) _ := r
    cases r
    rfl
  | .text x, _, _, r => by
    have r : Reads h _ (.str x) _ := r
    cases r
    rfl
  | .tup ks, _, _, r => by
    have r : Reads h _ (.tuple (NestedKey.datas ks)) _ := r
    cases r with
    | tuple h1 h2 h3 h4 => exact readsAll_nil ks _ _ h4
theorem readsAll_nil {h : Heap} : ∀ (ks : List NestedKey) (vs : List Value) (as : List Addr), ReadsAll h vs (NestedKey.datas ks) as → as = []
  | [], _, _, r => by
    have r : ReadsAll h _ [] _ := r
    cases r
    rfl
  | k :: ks, _, _, r => by
    have r : ReadsAll h _ (NestedKey.data k :: NestedKey.datas ks) _ := r
    cases r with
    | cons h1 h2 =>
      rw [reads_nil k _ _ h1, readsAll_nil ks _ _ h2]
      rfl
end
section
variable {X : Cx}
/-- sorted(d): its keys in order -/
def rSortedN (P : Program) (w : World) (K : PySem.W.Frag) : List V → Hp → VK → Prop := fun xs H Q => ∃ d ks, xs = [.ref d] ∧ DN P w K H d ks ∧ PySem.W.AllAlike (ks.map NestedKey.data) ∧ (∀ k ∈ ks, ∃ x r, NestedKey.data k = .tuple (x :: r)) ∧ (∀ k ∈ ks, k.data.depth ≤ 8) ∧ ks.length ≤ sizeLine ∧
  ∀ p ys, H p = none → ys.length = ks.length → Q (.ref p) (upd H p (.lst ys))
theorem cr_sortedN (hu : X.A.units + 64 < cLine) (hc : X.calm = true) : CallR X (.builtin "sorted") (rSortedN X.prog X.w X.K) := by
  intro pins s σ H xs us Q I r q
  obtain ⟨d, ks, rfl, ⟨es0, e1, ek, e3⟩, hal, hso, hdp, hz, q⟩ := q
  obtain ⟨u, rfl, rx⟩ := r.one
  cases rx
  obtain ⟨lo, dd⟩ := DN.laid I e1 e3
  obtain ⟨es, ep, hr, hs, he⟩ := dd.raw
  have hl : es0.length = ks.length := by rw [← ek, List.length_map]
  refine Calls.call_function_entry PyProof.Rows.kind_sorted PyProof.Rows.plain_sorted PyProof.Rows.entry_sorted (PyProof.Rows.args_sorted1 _) ?_
  unfold Builtin.«sorted»
  refine wpAny_bind (m := checkCount "sorted" 1 1 _) (wpAny_pure ?_)
  refine wpAny_bind (PySem.W.kdu_collect (A := X.A.in1) (PySem.KdlSrc.rawDict (es := es) (ep := ep) lo) (I.ok.hd hc) hr (by rw [hs, hl]; exact hz) fun h' tk acc hk hacc => ?_)
  have hal' : acc.toList.length = ks.length := by rw [Array.length_toList, hacc.1, hs, hl]
  have I1 : Inv X pins σ H { s with heap := h', toks := tk } := I.kept hk
  refine wpAny_bind (wpAny_newList ?_ (by rw [hal']; exact hz))
  have hoL : (h'.push (seqObj "list" acc.toList.toArray 0)).get? h'.objs.size = some (seqObj "list" acc.toList.toArray 0) := Heap.get?_push_size _ rfl
  show wpAny _ _ _ _ _ { s with heap := h'.push (seqObj "list" acc.toList.toArray 0), toks := tk }
  -- each item
  have itm : ∀ (i : Nat) v k, acc.toList[i]? = some v → ks[i]? = some k → ∃ b, v = .ref b ∧ Dp X.K H (.ref b) k.data := fun i v k ev ekk => by
    obtain ⟨hi, ev2⟩ := hacc.2 i v (by rw [← Array.getElem?_toList]; exact ev)
    obtain ⟨y, hy, h1, _, _⟩ := he i hi
    have : k = y.1 := by
      rw [← ek, List.getElem?_map, hy] at ekk
      exact (Option.some.inj ekk).symm
    subst this
    exact ⟨y.2.1, ev2.trans h1, (e3 y (List.mem_of_getElem? hy)).1⟩
  refine wpAny_bind (wpAny_holding (PySem.W.list_sort_data (R := fun v k => ∃ b, v = Value.ref b ∧ Dp X.K H (.ref b) (NestedKey.data k)) (bs := ks) (enc := NestedKey.data) hoL (each_of hal' itm) (each_of hal' fun i v k ev ekk => ?_) hal (.inl fun x hx => ?_) hz (fun k hk => ?_) fun out ho hR => ?_))
  · obtain ⟨b, rfl, hd⟩ := itm i v k ev ekk
    have I2 : Inv X pins σ H { s with heap := h'.push (seqObj "list" acc.toList.toArray 0), toks := tk } := I1.kept (t' := tk) fun b o e => Heap.get?_push_of_some _ e
    obtain ⟨as, r⟩ := Dp.reads I2 k.data (.ref b) (.ref b) hd rfl
    exact ⟨as, r, by rw [reads_nil k _ _ r]; simp⟩
  · obtain ⟨k, hk, rfl⟩ := List.mem_map.mp hx
    exact hso k hk
  · have := hdp k hk
    show X.A.units + 1 + 1 + _ < cLine
    omega
  · obtain ⟨e', he'⟩ := PyProof.Rows.sortedHeap_at (vs := acc.toList) (out := List.toArray out) hoL
    have hv : ∃ ys : List V, Vals ys out ∧ ys.length = out.length := by
      clear ho he'
      generalize ks.mergeSort (PySem.W.dataLe false NestedKey.data) = zs at hR
      induction hR with
      | nil => exact ⟨[], .nil, rfl⟩
      | cons h t ih =>
        obtain ⟨b, rfl, _⟩ := h
        obtain ⟨ys, h1, h2⟩ := ih
        exact ⟨.ref b :: ys, .cons rfl h1, by rw [List.length_cons, List.length_cons, h2]⟩
    obtain ⟨ys, hv, hyl⟩ := hv
    refine wpAny_pure ⟨_, rfl, .ref h'.objs.size, upd H h'.objs.size (.lst ys), I1.laid (t' := tk) (fun b u e => ?_) (Nat.le_refl _)
      (show ObjOk X.prog X.w _ _ _ (.lst ys) from ⟨by rw [hyl, ho]; exact hz, out, e', hv, he'⟩), rfl, q _ ys (I1.hok.fresh (Nat.le_refl _)) (by rw [hyl, ho])⟩
    have hb : b < h'.objs.size := Heap.lt_size e
    rw [PyProof.Rows.sortedHeap_old (Nat.ne_of_lt hb) (by rw [size_push']; exact Nat.lt_succ_of_lt hb)]
    exact Heap.get?_push_of_some _ e
end
end K22

-- D
set_option maxHeartbeats 4000000
/-! Layer D: a | {v} of two sets of small ints. -/
namespace K22
open PySem PySem.Spec PyProof.Rows L2

/-! ### tables of few small ints -/
def layOk (m : Nat) (ks : List Int) : Bool := match SetTable.layClean m ks.toArray with
  | some owner => coversAll (((List.range (m + 1)).filterMap fun j => (owner.getD j none).map (j, ·)).map (·.2)).toArray ks.length && decide (ks.length ≤ m)
  | none => false
def isSmall (ks : List Int) : Bool := ks.all fun k => decide (0 ≤ k ∧ k < 4)
def pre4 : List (List Int) := [0, 1, 2, 3].map fun a => [a]
def more4 (ls : List (List Int)) : List (List Int) := ls.flatMap fun l => ([0, 1, 2, 3].filter fun a => !l.contains a).map fun a => a :: l
def lists4 : List (List Int) := [[]] ++ more4 [[]] ++ more4 (more4 [[]]) ++ more4 (more4 (more4 [[]])) ++ more4 (more4 (more4 (more4 [[]])))
theorem lay4 : lists4.all (fun ks => layOk 7 ks && layOk 15 ks) = true := by decide +kernel
theorem more4_mem {ls : List (List Int)} {a : Int} {l : List Int} (hl : l ∈ ls) (h0 : 0 ≤ a) (h4 : a < 4) (hn : a ∉ l) : a :: l ∈ more4 ls := by
  refine List.mem_flatMap.mpr ⟨l, hl, List.mem_map.mpr ⟨a, List.mem_filter.mpr ⟨?_, by simpa using hn⟩, rfl⟩⟩
  have : a = 0 ∨ a = 1 ∨ a = 2 ∨ a = 3 := by omega
  rcases this with rfl | rfl | rfl | rfl <;> decide
theorem more5 : more4 (more4 (more4 (more4 (more4 [[]])))) = [] := by decide +kernel
theorem lists4_mem {ks : List Int} (nd : ks.Nodup) (h : ∀ k ∈ ks, 0 ≤ k ∧ k < 4) : ks ∈ lists4 := by
  have key : ∀ (l : List Int), l.Nodup → (∀ k ∈ l, 0 ≤ k ∧ k < 4) → l ∈ Nat.repeat more4 l.length [[]] := by
    intro l
    induction l with
    | nil => intro _ _; exact List.mem_singleton.mpr rfl
    | cons a l ih =>
      intro nd h
      obtain ⟨n1, n2⟩ := List.nodup_cons.mp nd
      exact more4_mem (ih n2 fun k hk => h k (List.mem_cons_of_mem _ hk)) (h a List.mem_cons_self).1 (h a List.mem_cons_self).2 n1
  have m := key ks nd h
  have em : ∀ n, Nat.repeat more4 (n + 5) [[]] = [] := fun n => by
    induction n with
    | zero => exact more5
    | succ n ih => show more4 (Nat.repeat more4 (n + 5) [[]]) = []; rw [ih]; rfl
  unfold lists4
  match hl : ks.length with
  | 0 => rw [hl] at m; exact List.mem_append_left _ (List.mem_append_left _ (List.mem_append_left _ (List.mem_append_left _ m)))
  | 1 => rw [hl] at m; exact List.mem_append_left _ (List.mem_append_left _ (List.mem_append_left _ (List.mem_append_right _ m)))
  | 2 => rw [hl] at m; exact List.mem_append_left _ (List.mem_append_left _ (List.mem_append_right _ m))
  | 3 => rw [hl] at m; exact List.mem_append_left _ (List.mem_append_right _ m)
  | 4 => rw [hl] at m; exact List.mem_append_right _ m
  | n + 5 => rw [hl, em n] at m; cases m
theorem small_len {ks : List Int} (nd : ks.Nodup) (h : ∀ k ∈ ks, 0 ≤ k ∧ k < 4) : ks.length ≤ 4 := by
  have m := lists4_mem nd h
  have : lists4.all (fun l => decide (l.length ≤ 4)) = true := by decide +kernel
  exact of_decide_eq_true (List.all_eq_true.mp this ks m)
theorem layOk_of {ks : List Int} (nd : ks.Nodup) (h : ∀ k ∈ ks, 0 ≤ k ∧ k < 4) {m : Nat} (hm : m = 7 ∨ m = 15) : layOk m ks = true := by
  have := List.all_eq_true.mp lay4 ks (lists4_mem nd h)
  rw [Bool.and_eq_true] at this
  rcases hm with rfl | rfl
  · exact this.1
  · exact this.2
theorem relaid_ok {t : SetTable} {hs : Array Int} {wanted : Nat} (h : layOk (SetTable.sizeAbove wanted - 1) hs.toList = true) :
    ∃ t' order, t.relaid hs wanted = some (t', order) ∧ coversAll order hs.size = true ∧ (∀ n, n = hs.size → t'.fits n = true) ∧ t'.mask = SetTable.sizeAbove wanted - 1 ∧ t'.dummies = #[] ∧ t'.led = t.led := by
  unfold layOk at h
  have eh : hs.toList.toArray = hs := by simp
  rw [eh] at h
  cases hl : SetTable.layClean (SetTable.sizeAbove wanted - 1) hs with
  | none => rw [hl] at h; cases h
  | some owner =>
    rw [hl] at h
    simp only [Bool.and_eq_true, decide_eq_true_eq, Array.length_toList] at h
    obtain ⟨h1, h2⟩ := h
    refine ⟨{ mask := SetTable.sizeAbove wanted - 1, place := (((List.range (SetTable.sizeAbove wanted - 1 + 1)).filterMap fun j => (owner.getD j none).map (j, ·)).map (·.1)).toArray, dummies := #[], finger := t.finger, led := t.led, moves := t.movedTo (SetTable.sizeAbove wanted - 1), plain := t.plain }, _, (by unfold SetTable.relaid SetTable.laid; rw [hl]; rfl), h1, fun n hn => ?_, rfl, rfl, rfl⟩
    subst hn
    have hp : List.Perm _ (List.range hs.size) := List.isPerm_iff.mp h1
    have hlen := hp.length_eq
    simp only [List.length_map, List.length_range, List.toList_toArray] at hlen
    simp only [SetTable.fits, SetTable.fill, Bool.and_eq_true, beq_iff_eq, decide_eq_true_eq, List.size_toArray, List.length_map, hlen]
    exact ⟨trivial, by simpa using h2⟩

/-! ### merging -/
/-- the set's object at a -/
def SetE (h : Heap) (a : Addr) (es : Array (Int × Value)) (ep : Nat) (t : SetTable) : Prop := ∃ o, h.get? a = some o ∧ o.ExactSet ∧ o.data = .set es ep t
/-- small ints, a table that can be walked -/
structure GoodT (w : World) (es : Array (Int × Value)) (t : SetTable) : Prop where
  good : ∀ e ∈ es.toList, GoodE e
  nd : (es.toList.map keyOf).Nodup
  small : ∀ k ∈ es.toList.map keyOf, 0 ≤ k ∧ k < 4
  fits : t.fits es.size = true
  ris : Ris t.place.toList
  led : w.params.followText "set-order" = true ∨ t.led = true
theorem hashInt4 {k : Int} (h : 0 ≤ k ∧ k < 4) : hashInt k = k := by
  have : k = 0 ∨ k = 1 ∨ k = 2 ∨ k = 3 := by omega
  rcases this with rfl | rfl | rfl | rfl <;> decide
section
variable {w : World} {es : Array (Int × Value)} {t : SetTable}
theorem GoodT.hashes (g : GoodT w es t) : (es.map (·.1)).toList = es.toList.map keyOf := by
  rw [Array.toList_map]
  refine List.map_congr_left fun e he => ?_
  obtain ⟨k, tk, h1, h2⟩ := g.good e he
  have hk : keyOf e = k := by unfold keyOf; rw [h1]
  rw [h2, hk]
  exact hashInt4 (by rw [← hk]; exact g.small _ (List.mem_map.mpr ⟨e, he, rfl⟩))
theorem GoodT.few (g : GoodT w es t) : es.size ≤ 4 := by
  have := small_len g.nd g.small
  simpa using this
theorem GoodT.relay (g : GoodT w es t) {t0 : SetTable} {wanted : Nat} (hm : SetTable.sizeAbove wanted - 1 = 7 ∨ SetTable.sizeAbove wanted - 1 = 15) (hl : w.params.followText "set-order" = true ∨ t0.led = true) :
    ∃ t' order, t0.relaid (es.map (·.1)) wanted = some (t', order) ∧ (order.filterMap (es[·]?)).size = es.size ∧ (order.filterMap (es[·]?)).toList.Perm es.toList ∧ t'.mask = SetTable.sizeAbove wanted - 1 ∧ t'.dummies = #[] ∧ GoodT w (order.filterMap (es[·]?)) t' := by
  have hk : layOk (SetTable.sizeAbove wanted - 1) (es.map (·.1)).toList = true := by
    rw [g.hashes]
    exact layOk_of g.nd g.small hm
  obtain ⟨t', order, h1, h2, h3, h4, h5, h6⟩ := relaid_ok (t := t0) (wanted := wanted) hk
  have hsz : (es.map (·.1)).size = es.size := by simp
  rw [hsz] at h2 h3
  have e1 : relayAll t0 es wanted = (order.filterMap (es[·]?), t', false) ∨ relayAll t0 es wanted = (es, t0.standIn es.size, true) := by
    unfold relayAll
    rw [h1]
    dsimp only
    split
    · exact .inl rfl
    · exact .inr rfl
  have hp : (order.filterMap (es[·]?)).toList.Perm es.toList := by
    have hp : List.Perm order.toList (List.range es.size) := List.isPerm_iff.mp h2
    rw [Array.toList_filterMap]
    exact (hp.filterMap _).trans (by rw [filterMap_getElem?_range])
  have hz : (order.filterMap (es[·]?)).size = es.size := by
    rw [← Array.length_toList, hp.length_eq, Array.length_toList]
  refine ⟨t', order, h1, hz, hp, h4, h5, fun e he => g.good e (hp.mem_iff.mp he), (hp.map keyOf).nodup_iff.mpr g.nd, fun k hk => g.small k ((hp.map keyOf).mem_iff.mp hk), h3 _ hz, (relaid_ris h1).1, hl.imp id fun z => by rw [h6]; exact z⟩
end
section
variable {P : Program} {w : World} {A : Around} {E : Value → Shared → Prop} {s : Shared} {a : Addr} {es : Array (Int × Value)} {ep : Nat} {t : SetTable}
theorem se_state {Q : (Array (Int × Value) × Nat × SetTable) → Shared → Prop} (h : SetE s.heap a es ep t) (hf : t.fits es.size = true) (q : Q (es, ep, t) s) : wpAny (model P w) A (setState a) Q E s := by
  obtain ⟨o, ho, hx, hd⟩ := h
  exact wpAny_setState_of ho hd hf q
theorem se_store {es' : Array (Int × Value)} {t' : SetTable} {Q : Unit → Shared → Prop} (h : SetE s.heap a es ep t) (hz : es'.size ≤ 4) (q : ∀ h', SetE h' a es' (ep + 1) t' → Heap.SameBut a s.heap h' → Q () { s with heap := h' }) : wpAny (model P w) A (storeSet a es' t') Q E s := by
  obtain ⟨o, ho, hx, hd⟩ := h
  exact wpAny_storeSet_of ho hd (q _ ⟨_, store_at ho hd, hx, rfl⟩ (Heap.SameBut.update s.heap a _)) (line_of (by omega))
theorem se_at {h h' : Heap} (x : SetE h a es ep t) (k : ∀ o, h.get? a = some o → h'.get? a = some o) : SetE h' a es ep t := let ⟨o, h1, h2⟩ := x; ⟨o, k o h1, h2⟩
theorem se_setR (h : SetE s.heap a es ep t) (g : GoodT w es t) : SetR w s.heap a (fun k => decide (k ∈ es.toList.map keyOf)) es.size := by
  obtain ⟨o, ho, hx, hd⟩ := h
  exact ⟨o, es, ep, t, ho, hx, hd, g.good, g.nd, fun k => by simp, by have := g.few; unfold scanBound; omega, g.fits, rfl, g.ris, g.led⟩
theorem se_of {S : Int → Bool} {n : Nat} (R : SetR w s.heap a S n) (hs : ∀ k, S k = true → 0 ≤ k ∧ k < 4) : ∃ es ep t, SetE s.heap a es ep t ∧ GoodT w es t ∧ (∀ k, S k = true ↔ k ∈ es.toList.map keyOf) ∧ es.size = n := by
  obtain ⟨o, es, ep, t, ho, hx, hd, g, nd, hm, hb, hf, hn, hr, hl⟩ := R
  exact ⟨es, ep, t, ⟨o, ho, hx, hd⟩, ⟨g, nd, fun k hk => hs k ((hm k).2 hk), hf, hr, hl⟩, hm, hn⟩
/-- the private step of a merge -/
theorem reord {α : Type} {order : Array Nat} {t' : SetTable} {f : Array (Int × Value) × SetTable → Sem α} {Q : α → Shared → Prop} (hz : (order.filterMap (es[·]?)).size = es.size) (q : wpAny (model P w) A (f (order.filterMap (es[·]?), t')) Q E s) :
    wpAny (model P w) A ((do
      if ((order.filterMap (es[·]?)).size != es.size) = true then unsupported "internal:set-table-lost-an-element"
      pure (order.filterMap (es[·]?), t') : Sem (Array (Int × Value) × SetTable)) >>= f) Q E s := by
  rw [if_neg (by rw [hz]; simp)]
  exact wpAny_bind (wpAny_pure q)

/-- {} |= o: the set at r is new and empty -/
theorem merge_fresh {o r : Addr} {led : Bool} {each : Sem Unit} {Q : Unit → Shared → Prop} (hro : (r == o) = false) (ho : SetE s.heap o es ep t) (g : GoodT w es t) (hr : SetE s.heap r #[] 0 (.fresh 0 0 led)) (hl : w.params.followText "set-order" = true ∨ led = true)
    (q : ∀ h' es' ep' t', SetE h' r es' ep' t' → GoodT w es' t' → es'.toList.Perm es.toList → t'.mask = 7 → t'.dummies = #[] → Heap.SameBut r s.heap h' → Q () { s with heap := h' }) : wpAny (model P w) A (setMerge r o each) Q E s := by
  have gf : GoodT w #[] (.fresh 0 0 led) := ⟨fun e he => by simp at he, by simp, fun k hk => by simp at hk, rfl, List.Pairwise.nil, hl⟩
  have h4 := g.few
  unfold setMerge
  rw [hro]
  simp only [Bool.false_eq_true, if_false]
  refine wpAny_bind (se_state ho g.fits ?_)
  dsimp only
  by_cases he : es.isEmpty = true
  · rw [if_pos he]
    have e0 : es = #[] := by simpa using he
    refine wpAny_pure (q s.heap #[] 0 _ hr gf ?_ rfl rfl (Heap.SameBut.refl _ _))
    rw [e0]
  · rw [if_neg he]
    refine wpAny_bind (m := setRoomFor r es.size) ?_
    unfold setRoomFor
    refine wpAny_bind (se_state hr gf.fits ?_)
    have hn : (SetTable.fresh 0 0 led).roomFor es.size = none := by
      unfold SetTable.roomFor
      rw [if_neg]
      show ¬ ((0 + 0 + es.size) * 5 ≥ 7 * 3)
      omega
    dsimp only
    rw [hn]
    refine wpAny_pure ?_
    refine wpAny_bind (se_state hr gf.fits ?_)
    dsimp only
    have hroad : (SetTable.fresh 0 0 led).road t = if (7 == t.mask && t.dummies.isEmpty) = true then .slotForSlot else .clean := rfl
    rw [hroad]
    by_cases hm : (7 == t.mask && t.dummies.isEmpty) = true
    · rw [if_pos hm]
      simp only [Bool.and_eq_true, beq_iff_eq] at hm
      have hd0 : t.dummies = #[] := by simpa using hm.2
      dsimp only
      refine se_store hr h4 fun h' x sb => q h' _ _ _ x ⟨g.good, g.nd, g.small, g.fits, g.ris, ?_⟩ .rfl hm.1.symm hd0 sb
      rcases hl with z | z
      · exact .inl z
      · rcases g.led with z2 | z2
        · exact .inl z2
        · exact .inr (by show (led && t.led) = true; rw [z, z2]; rfl)
    · rw [if_neg hm]
      dsimp only
      have hl2 : w.params.followText "set-order" = true ∨ ((SetTable.fresh 0 0 led).led && t.led) = true := by
        rcases hl with z | z
        · exact .inl z
        · rcases g.led with z2 | z2
          · exact .inl z2
          · exact .inr (by show (led && t.led) = true; rw [z, z2]; rfl)
      obtain ⟨t', order, h1, h2, h3, h5, h6, h7⟩ := g.relay (t0 := { SetTable.fresh 0 0 ((SetTable.fresh 0 0 led).led && t.led) with plain := (SetTable.fresh 0 0 led).plain && t.plain }) (wanted := 1) (.inl (by decide)) hl2
      have e1 : SetTable.laid (SetTable.fresh 0 0 led).mask (SetTable.fresh 0 0 led).finger (SetTable.fresh 0 0 led).moves ((SetTable.fresh 0 0 led).led && t.led) ((SetTable.fresh 0 0 led).plain && t.plain) (es.map (·.1)) = some (t', order) := h1
      rw [e1]
      refine reord h2 ?_
      dsimp only
      exact se_store hr (by omega) fun h' x sb => q h' _ _ _ x h7 h3 h5 h6 sb

theorem pick_one {α : Type} (next : Nat → Nat) (x : α) : pickOrder next #[x] = #[x] := by
  have h := pick_perm next #[x]
  have h2 : (pickOrder next #[x]).toList = [x] := List.perm_singleton.mp h
  have := congrArg List.toArray h2
  simpa using this
/-- a walk of a set of one -/
theorem walk_one {o r : Addr} {e : Int × Value} {Q : Array (Int × Value) → Shared → Prop} (ho : SetE s.heap o #[e] ep t) (hf : t.fits 1 = true) (q : Q #[e] s) : wpAny (model P w) A (setWalkUnseen o [r] (some r)) Q E s := by
  have hf' : t.fits (#[e] : Array (Int × Value)).size = true := hf
  unfold setWalkUnseen
  refine wpAny_bind (se_state ho hf' ?_)
  dsimp only
  refine wpAny_bind (wpAny_byText ?_)
  rw [if_pos (by simp)]
  unfold setWalk
  refine wpAny_bind (se_state ho hf' ?_)
  dsimp only
  refine wpAny_bind (wpAny_byText ?_)
  by_cases hb : w.params.followText "set-order" = true
  · rw [hb, if_pos rfl]
    refine wpAny_bind (wpAny_askSetting ?_)
    rw [pick_one]
    exact wpAny_pure q
  · rw [if_neg hb]
    show wpAny _ _ (if (!t.plain && decide (1 > 1)) = true then _ else _) _ _ _
    rw [if_neg (by simp)]
    show wpAny _ _ ((if (!t.led && decide (1 > 1)) = true then _ else pure ()) >>= _) _ _ _
    rw [if_neg (by simp)]
    exact wpAny_bind (wpAny_pure (wpAny_pure q))

/-- r |= {v} -/
theorem merge_one {o r : Addr} {e : Int × Value} {eo : Array (Int × Value)} {po : Nat} {to : SetTable} {each : Sem Unit} {Q : Unit → Shared → Prop} (hro : (r == o) = false) (he : eo = #[e]) (ho : SetE s.heap o eo po to) (go : GoodT w eo to) (hr : SetE s.heap r es ep t) (g : GoodT w es t) (hm : t.mask = 7) (hd : t.dummies = #[])
    (heach : ∀ (s' : Shared) (Q' : Unit → Shared → Prop), SetE s'.heap o eo po to → Q' () s' → wpAny (model P w) A each Q' E s')
    (q : ∀ h' S n, SetR w h' r S n → n ≤ 5 → (∀ k, S k = true ↔ k ∈ es.toList.map keyOf ∨ k = keyOf e) → Heap.SameBut r s.heap h' → Q () { s with heap := h' }) : wpAny (model P w) A (setMerge r o each) Q E s := by
  have h4 := g.few
  have hne : r ≠ o := fun z => by rw [z] at hro; simp at hro
  have hes : eo.size = 1 := by rw [he]; rfl
  have fin : ∀ h' S n, SetR w h' r S n → n ≤ 5 → (∀ k, S k = true ↔ k ∈ es.toList.map keyOf ∨ k = keyOf e) → Heap.SameBut r s.heap h' → Q () { s with heap := h' } := q
  unfold setMerge
  rw [hro]
  simp only [Bool.false_eq_true, if_false]
  refine wpAny_bind (se_state ho go.fits ?_)
  dsimp only
  rw [if_neg (by rw [he]; simp)]
  -- the room
  refine wpAny_bind (m := setRoomFor r eo.size) ?_
  have room : ∀ (Q1 : Unit → Shared → Prop), (∀ h1 es1 ep1 t1, SetE h1 r es1 ep1 t1 → GoodT w es1 t1 → es1.toList.Perm es.toList → (es1.size = 0 → t1.mask = 7 ∧ t1.dummies = #[]) → t1.fill = es1.size → Heap.SameBut r s.heap h1 → Q1 () { s with heap := h1 }) → wpAny (model P w) A (setRoomFor r eo.size) Q1 E s := by
    intro Q1 q1
    have hfill : t.fill = es.size := by
      have := g.fits
      simp only [SetTable.fits, Bool.and_eq_true, beq_iff_eq] at this
      show t.place.size + t.dummies.size = es.size
      rw [hd, this.1]
      rfl
    unfold setRoomFor
    refine wpAny_bind (se_state hr g.fits ?_)
    dsimp only
    by_cases h5 : es.size = 4
    · have hn : t.roomFor eo.size = some 10 := by
        unfold SetTable.roomFor
        have hp : t.place.size = 4 := by
          have := g.fits
          simp only [SetTable.fits, Bool.and_eq_true, beq_iff_eq] at this
          rw [this.1, h5]
        rw [hfill, hm, h5, hes, hp]
        rfl
      rw [hn]
      dsimp only
      unfold setRelay
      refine wpAny_bind (se_state hr g.fits ?_)
      dsimp only
      rw [if_neg (by have : SetTable.sizeAbove 10 = 16 := by decide
                     rw [this, sizeLine_eq]; omega)]
      obtain ⟨t', order, k1, k2, k3, k5, k6, k7⟩ := g.relay (t0 := t) (wanted := 10) (.inr (by decide)) g.led
      rw [k1]
      refine reord k2 ?_
      dsimp only
      refine se_store hr (by omega) fun h' x sb => q1 h' _ _ _ x k7 k3 (fun z => by omega) ?_ sb
      have := k7.fits
      simp only [SetTable.fits, Bool.and_eq_true, beq_iff_eq] at this
      show t'.place.size + t'.dummies.size = _
      rw [k6, this.1]
      rfl
    · have hn : t.roomFor eo.size = none := by
        unfold SetTable.roomFor
        rw [hfill, hm, hes, if_neg (by omega)]
      rw [hn]
      exact wpAny_pure (q1 s.heap _ _ _ hr g .rfl (fun _ => ⟨hm, hd⟩) hfill (Heap.SameBut.refl _ _))
  refine room _ fun h1 es1 ep1 t1 hr1 g1 hp1 hz1 hf1 sb1 => ?_
  have ho1 : SetE h1 o eo po to := se_at ho fun u e => (sb1.2 o (Ne.symm hne)).trans e
  refine wpAny_bind (se_state (s := { s with heap := h1 }) hr1 g1.fits ?_)
  dsimp only
  have hk1 : ∀ k, k ∈ es1.toList.map keyOf ↔ k ∈ es.toList.map keyOf := fun k => (hp1.map keyOf).mem_iff
  by_cases hz : es1.size = 0
  · obtain ⟨m1, d1⟩ := hz1 hz
    have e0 : es1 = #[] := by simpa using hz
    have hno : ∀ k, k ∉ es.toList.map keyOf := fun k hk => by
      have := (hk1 k).2 hk
      rw [e0] at this
      simp at this
    have hroad : t1.road to = if (7 == to.mask && to.dummies.isEmpty) = true then .slotForSlot else .clean := by
      unfold SetTable.road
      rw [hf1, hz, m1]
      rfl
    have ek : ∀ (x : Array (Int × Value)), x.toList.Perm eo.toList → ∀ k, decide (k ∈ x.toList.map keyOf) = true ↔ k ∈ es.toList.map keyOf ∨ k = keyOf e := fun x hx k => by
      rw [decide_eq_true_eq, (hx.map keyOf).mem_iff, he]
      simp [hno k]
    have hl2 : w.params.followText "set-order" = true ∨ (t1.led && to.led) = true := by
      rcases g1.led with z | z
      · exact .inl z
      · rcases go.led with z2 | z2
        · exact .inl z2
        · exact .inr (by rw [z, z2]; rfl)
    rw [hroad]
    by_cases hq : (7 == to.mask && to.dummies.isEmpty) = true
    · rw [if_pos hq]
      dsimp only
      refine se_store (s := { s with heap := h1 }) hr1 (by omega) fun h' x sb => fin h' _ _ (se_setR (s := { s with heap := h' }) x ⟨go.good, go.nd, go.small, go.fits, go.ris, hl2⟩) (by omega) (ek eo .rfl) (sb1.trans sb)
    · rw [if_neg hq]
      dsimp only
      obtain ⟨t', order, k1, k2, k3, k5, k6, k7⟩ := go.relay (t0 := { t1 with led := t1.led && to.led, plain := t1.plain && to.plain }) (wanted := 1) (.inl (by decide)) hl2
      have e1 : SetTable.laid t1.mask t1.finger t1.moves (t1.led && to.led) (t1.plain && to.plain) (eo.map (·.1)) = some (t', order) := by
        rw [← k1]
        unfold SetTable.relaid SetTable.movedTo
        rw [m1]
        rfl
      rw [e1]
      refine reord k2 ?_
      dsimp only
      exact se_store (s := { s with heap := h1 }) hr1 (by omega) fun h' x sb => fin h' _ _ (se_setR (s := { s with heap := h' }) x k7) (by omega) (ek _ k3) (sb1.trans sb)
  · have hroad : t1.road to = .oneByOne := by
      unfold SetTable.road
      rw [hf1, if_pos (by simpa using hz)]
    rw [hroad]
    dsimp only
    subst he
    obtain ⟨k, tk, x1, x2⟩ := go.good e (by simp)
    have kk : keyOf e = k := by unfold keyOf; rw [x1]
    refine wpAny_bind (walk_one (s := { s with heap := h1 }) ho1 go.fits ?_)
    rw [← Array.forIn_toList]
    show wpAny _ _ (forIn [e] _ _ >>= _) _ _ _
    simp only [List.forIn_cons, List.forIn_nil]
    refine wpAny_bind (wpAny_bind (wpAny_bind (wpAny_holding ?_)))
    rw [x1, x2]
    have R1 := se_setR (s := { s with heap := h1 }) hr1 g1
    have h5 := g1.few
    refine setR_add_hashed (P := P) (s := { s with heap := h1 }) R1 (by unfold scanBound; omega) fun h2 sb2 R2 => ?_
    have ho2 : SetE h2 o #[e] po to := se_at ho1 fun u z => (sb2.2 o (Ne.symm hne)).trans z
    refine wpAny_bind (heach { s with heap := h2 } _ ho2 ?_)
    refine wpAny_bind (se_state (s := { s with heap := h2 }) ho2 go.fits ?_)
    dsimp only
    rw [if_neg (by simp)]
    refine wpAny_pure (wpAny_pure (wpAny_pure ?_))
    refine fin h2 _ _ R2 (by split <;> omega) (fun j => ?_) (sb1.trans sb2)
    rw [Bool.or_eq_true, decide_eq_true_eq, decide_eq_true_eq, hk1 j, kk]

theorem se_type (h : SetE s.heap a es ep t) : s.TypeIs (.ref a) "set" := let ⟨o, ho, hx, _⟩ := h; ⟨o, ho, hx.1⟩
theorem se_any {Q : Bool → Shared → Prop} (h : SetE s.heap a es ep t) (q : Q true s) : wpAny (model P w) A (Builtin.Frozenset.isAnySet (.ref a)) Q E s := by
  unfold Builtin.Frozenset.isAnySet orM
  refine wpAny_bind (wpAny_isInstance (b := true) (se_type h) sub_set_self ?_)
  first | exact wpAny_pure q | (simp only [if_true]; exact wpAny_pure q)
theorem entry_set_or : entryFor table "set.__or__" = some Builtin.«frozenset.__or__» :=
  entryFor_alias (id' := "frozenset.__or__") (by kernel_rfl) rfl (by decide +kernel) (by kernel_rfl)
theorem or_sets {b : Addr} {eo : Array (Int × Value)} {po : Nat} {to : SetTable} {e : Int × Value} {Q : Value → Shared → Prop} (hab : a ≠ b) (ha : SetE s.heap a es ep t) (g : GoodT w es t) (he : eo = #[e]) (hb : SetE s.heap b eo po to) (go : GoodT w eo to)
    (q : ∀ h' S n, SetR w h' s.heap.objs.size S n → n ≤ 5 → (∀ k, S k = true ↔ k ∈ es.toList.map keyOf ∨ k = keyOf e) → (∀ c o, s.heap.get? c = some o → h'.get? c = some o) → Q (.ref s.heap.objs.size) { s with heap := h' }) :
    wpAny (model P w) A (binaryOp .BitOr (.ref a) (.ref b)) Q E s := by
  refine wpAny_binaryOp_same (op := .BitOr) (se_type ha) (se_type hb) PySem.F.fills_set_or PySem.F.slot_set_or (wpAny_call_entry PySem.F.slot_set_or (se_type ha) entry_set_or ?_ (PySem.F.args_set_or_2 _ _))
  show wpAny _ _ (Builtin.Frozenset.slot1 "__or__" ⟨[.ref a, .ref b], []⟩ >>= _) _ _ _
  refine wpAny_bind (wpAny_of_eq (a := (.ref a, .ref b)) (by rfl) ?_)
  show wpAny _ _ ((Builtin.Frozenset.isAnySet (.ref a) <&&> Builtin.Frozenset.isAnySet (.ref b)) >>= _) _ _ _
  unfold andM
  refine wpAny_bind (wpAny_bind (se_any ha ?_))
  try simp only [if_true]
  refine se_any hb ?_
  try simp only [Bool.not_true, Bool.false_eq_true, if_false]
  refine wpAny_bind (m := Builtin.Frozenset.addrOf (.ref a)) (wpAny_pure ?_)
  show wpAny _ _ ((Builtin.Frozenset.copyOf a >>= _) >>= _) _ _ _
  refine wpAny_bind (wpAny_bind ?_)
  unfold Builtin.Frozenset.copyOf Builtin.Frozenset.baseOf
  refine wpAny_bind (wpAny_bind (wpAny_isInstance (b := true) (se_type ha) sub_set_self (wpAny_pure ?_)))
  show wpAny _ _ (newSet (.type "set") >>= _) _ _ _
  unfold newSet
  refine wpAny_bind ?_
  refine wpAny_bind (wpAny_byText ?_)
  dsimp only
  simp only [newObj]
  refine wpAny_bind (wpAny_alloc ?_)
  refine wpAny_pure ?_
  refine wpAny_bind (wpAny_pure ?_)
  have la : a < s.heap.objs.size := let ⟨o, ho, _⟩ := ha; Heap.lt_size ho
  have lb : b < s.heap.objs.size := let ⟨o, ho, _⟩ := hb; Heap.lt_size ho
  have hr : SetE (s.heap.push { cls := Value.type "set", data := Data.set #[] 0 (SetTable.fresh 0 0 !w.params.followText "set-order") }) s.heap.objs.size #[] 0 (SetTable.fresh 0 0 !w.params.followText "set-order") := ⟨_, Heap.get?_push_size _ rfl, ⟨rfl, rfl, rfl⟩, rfl⟩
  have up : ∀ {c es ep t}, SetE s.heap c es ep t → SetE (s.heap.push { cls := Value.type "set", data := Data.set #[] 0 (SetTable.fresh 0 0 !w.params.followText "set-order") }) c es ep t := fun x => se_at x fun o z => Heap.get?_push_of_some _ z
  refine wpAny_bind (merge_fresh (s := { s with heap := s.heap.push { cls := Value.type "set", data := Data.set #[] 0 (SetTable.fresh 0 0 !w.params.followText "set-order") } }) (beq_eq_false_iff_ne.mpr (Nat.ne_of_gt la)) (up ha) g hr ?_ fun h1 es1 ep1 t1 r1 g1 p1 m1 d1 sb1 => wpAny_pure ?_)
  · cases w.params.followText "set-order"
    · exact .inr rfl
    · exact .inl rfl
  have n1 : (Value.ref b != Value.ref a) = true := by
    have : ¬ (Value.ref b == Value.ref a) = true := fun z => hab (Value.ref.inj (eq_of_beq z)).symm
    simp only [bne, Bool.not_eq_true] at this ⊢
    rw [this]; rfl
  have hb1 : SetE h1 b eo po to := se_at (up hb) fun o z => (sb1.2 b (Nat.ne_of_lt lb)).trans z
  rw [if_pos n1]
  refine wpAny_bind (m := Builtin.Frozenset.addrOf (.ref s.heap.objs.size)) (wpAny_pure ?_)
  refine wpAny_bind (wpAny_holding ?_)
  unfold Builtin.Frozenset.updateFrom
  refine wpAny_bind (se_any (s := { s with heap := h1 }) hb1 ?_)
  rw [if_pos rfl]
  refine wpAny_bind (m := Builtin.Frozenset.addrOf (.ref b)) (wpAny_pure ?_)
  unfold Builtin.Frozenset.merge
  have ep' : ∀ (s' : Shared) (Q' : Nat → Shared → Prop), SetE s'.heap b eo po to → Q' po s' → wpAny (model P w) A.in1 (setEpoch b) Q' E s' := fun s' Q' x y => by
    obtain ⟨o, ho, hx, hd⟩ := x
    exact wpAny_setEpoch_of ho hd go.fits y
  refine wpAny_bind (ep' { s with heap := h1 } _ hb1 ?_)
  refine merge_one (s := { s with heap := h1 }) (beq_eq_false_iff_ne.mpr (Nat.ne_of_gt lb)) he hb1 go r1 g1 m1 d1 (fun s' Q' x y => ?_) fun h2 S n R2 hn hS sb2 => ?_
  · unfold Builtin.Frozenset.unchanged
    refine wpAny_bind (ep' s' _ x ?_)
    rw [if_neg (by simp)]
    exact wpAny_pure y
  · refine wpAny_pure (wpAny_pure ⟨_, rfl, by simp, q h2 S n R2 hn (fun k => ?_) fun c o z => ?_⟩)
    · rw [hS k, (p1.map keyOf).mem_iff]
    · have lc : c ≠ s.heap.objs.size := Nat.ne_of_lt (Heap.lt_size z)
      exact (sb2.2 c lc).trans ((sb1.2 c lc).trans (Heap.get?_push_of_some _ z))
end

/-! ### as rules -/
section
variable {X : Cx}
/-- set(t), t a tuple of ints -/
def rSetT (w : World) (K : PySem.W.Frag) : List V → Hp → VK → Prop := fun xs H Q => ∃ (a : Addr) (ns : List Int), xs = [.ref a] ∧ SqT K H a (ns.map V.int) ∧ ns.length ≤ 1000 ∧ ∀ p c, H p = none → c ≤ ns.length → Q (.ref p) (upd H p (SetO w p (fun j => decide (j ∈ ns)) c))
theorem call_setT (hc : X.calm = true) : CallR X (.type "set") (rSetT X.w X.K) := by
  intro pins s σ H xs us Q I r h
  obtain ⟨a, ns, rfl, hq, hl, q⟩ := h
  obtain ⟨u, rfl, rx⟩ := r.one
  cases rx
  obtain ⟨its, rv, pt, hz⟩ := I.tuple hq
  have hi : IntsAre its.toArray.toList ns := ints_of_vals rv
  refine call_set_tupI ns (I.ok.hd hc) (show s.heap.IsTuple a its.toArray from pt) hi (by unfold scanBound; omega) fun h' tk c R1 hcn k => ?_
  exact ⟨.ref _, _, I.laid (t' := tk) k (Nat.le_refl _) (setO_new R1), rfl, q _ c (I.hok.fresh (Nat.le_refl _)) hcn⟩
/-- {e}, e an int -/
def tSet1 (w : World) (te : TE) : TE := fun σ H Q => ∀ p, H p = none → te σ (upd H p (SetO w p (fun _ => false) 0)) fun x H1 => ∃ v : Int, x = .int v ∧ H1 p = some (SetO w p (fun _ => false) 0) ∧ Q (.ref p) (upd H1 p (SetO w p (fun j => decide (j = v)) 1))
theorem pe_set1 {e : Expr} {te : TE} {pos : Pos} (hcd : PySem.W.kdsCode X.K X.env.code = true) (he : PE X e te) (hs : starEach [e] X.env = [(false, eval e X.env)] := by rfl) : PE X (.Set [e] 0 pos) (tSet1 X.w te) := by
  refine ⟨fun pins s σ H Q I q => ?_⟩
  rw [arm_eval_Set]
  refine wpAny_bind (wpAny_standAt ?_)
  refine wpAny_bind (PySem.W.kds_main I.kIn hcd fun b => ?_)
  rw [hs]
  show wpAny _ _ (setDisplay _ b [(false, do let v ← eval e X.env; standAt pos; pure v)]) _ _ _
  have hroad : displayRoad 0 [e] = .oneByOne := rfl
  rw [hroad]
  unfold setDisplay
  rw [if_neg (by decide)]
  unfold newSet
  refine wpAny_bind (wpAny_bind (wpAny_byText ?_))
  dsimp only
  simp only [newObj]
  refine wpAny_bind (wpAny_alloc (wpAny_pure ?_))
  have hp := I.hok.fresh (Nat.le_refl s.heap.objs.size)
  have I1 := I.laid (a := s.heap.objs.size) (o := SetO X.w s.heap.objs.size (fun _ => false) 0) (h' := s.heap.push { cls := .type "set", data := .set #[] 0 (.fresh 0 0 (!X.w.params.followText "set-order")) }) (t' := s.toks) (fun _ _ z => Heap.get?_push_of_some _ z) (Nat.le_refl _) (setO_new (setR_fresh X.w))
  dsimp only
  refine wpAny_bind (wpAny_holding ?_)
  show wpAny _ _ (evalAll [do let v ← eval e X.env; standAt pos; pure v] >>= _) _ _ _
  refine wpAny_bind ?_
  show wpAny _ _ ((eval e X.env >>= fun v => standAt pos >>= fun _ => pure v) >>= fun v => holding [v] (evalAll []) >>= fun r => pure (v :: r)) _ _ _
  refine wpAny_bind (wpAny_bind (thn (he.run pins _ σ _ _ I1 (q _ hp)) fun u s1 ⟨x, H1, I2, rx, v, ex, e1, q1⟩ => ?_))
  subst ex
  obtain ⟨tk, rfl⟩ := rx
  refine wpAny_bind (wpAny_standAt (wpAny_pure ?_))
  refine wpAny_bind (wpAny_holding (wpAny_pure (wpAny_pure ?_)))
  refine wpAny_bind (wpAny_holding ?_)
  rw [List.forIn_cons]
  have R := setO_get I2 e1
  unfold setAdd
  refine wpAny_bind (wpAny_bind (wpAny_bind (wpAny_holding (wpAny_bind ((intKind X.prog X.w).pyHash (intKind_is X.prog X.w v tk) (setR_add_hashed (s := { s1 with toks := s1.toks + 1 }) R (by unfold scanBound; omega) fun h' sb R2 => ?_))))))
  have R3 : SetR X.w h' s.heap.objs.size (fun j => decide (j = v)) 1 := R2.congr fun j => by simp
  have hx : ∃ u, h'.get? s.heap.objs.size = some u := let ⟨o, _, _, _, ho, _⟩ := R3; ⟨o, ho⟩
  refine wpAny_pure ?_
  dsimp only
  rw [List.forIn_nil]
  refine wpAny_pure ?_
  rw [if_neg (by decide)]
  refine wpAny_pure ?_
  show wpAny _ _ (forIn (List.drop 1 [_]) _ _ >>= _) _ _ _
  rw [List.drop_one, List.tail_cons, List.forIn_nil]
  refine wpAny_bind (wpAny_pure (wpAny_pure (wpAny_pure ?_)))
  exact ⟨.ref s.heap.objs.size, _, I2.write (t' := s1.toks + 1) (by rw [e1]; trivial) (.inl rfl) (fun c u hb hu => (sb.2 c hb).trans hu) hx (setO_new R3), rfl, q1⟩
/-- a | {v} -/
def rOrS (w : World) : R2 := fun x y H Q => ∃ (a b : Addr) (S : Int → Bool) (n : Nat) (v : Int), x = .ref a ∧ y = .ref b ∧ a ≠ b ∧ H a = some (SetO w a S n) ∧ H b = some (SetO w b (fun j => decide (j = v)) 1) ∧ (∀ k, S k = true → 0 ≤ k ∧ k < 4) ∧ 0 ≤ v ∧ v < 4 ∧
  ∀ p S' m, H p = none → m ≤ 5 → (∀ k, S' k = true ↔ S k = true ∨ k = v) → Q (.ref p) (upd H p (SetO w p S' m))
theorem op_orS : OpR X (binaryOp .BitOr) (rOrS X.w) := by
  intro pins s σ H x y v u Q I rx ry h
  obtain ⟨a, b, S, n, k, rfl, rfl, hab, ha, hb, hS, k0, k4, q⟩ := h
  cases rx
  cases ry
  obtain ⟨es, ep, t, xa, g, ma, na⟩ := se_of (setO_get I ha) hS
  obtain ⟨eo, po, to, xb, go, mb, nb⟩ := se_of (setO_get I hb) fun j hj => by
    have : j = k := by simpa using hj
    omega
  have he : ∃ e, eo = #[e] := by
    match eo, nb with
    | ⟨[e]⟩, _ => exact ⟨e, rfl⟩
    | ⟨[]⟩, z => exact absurd z (by decide)
    | ⟨_ :: _ :: _⟩, z => exact absurd z (by simp)
  obtain ⟨e, he⟩ := he
  have ke : keyOf e = k := by
    have := (mb (keyOf e)).2 (by rw [he]; simp)
    simpa using this
  refine or_sets (P := X.prog) hab xa g he xb go fun h' S' m R hm hS' kp => ?_
  refine ⟨.ref _, _, I.laid (t' := s.toks) kp (Nat.le_refl _) (setO_new R), rfl, q _ S' m (I.hok.fresh (Nat.le_refl _)) hm fun j => ?_⟩
  rw [hS' j, ma j, ke]
end
end K22

-- E
set_option maxHeartbeats 4000000
/-! Layer E: enumerate(tuple), zip(tuple, list), dict(zip(tuple, list)). -/
namespace K22
open PySem PySem.Spec PyProof.Rows L2
section
variable {prog : Program} {w : World} {A : Around} {E : Value → Shared → Prop} {s : Shared} {z TI TO T i1 i2 : Addr} {fp1 fp2 : List Addr} {n1 n2 i : Nat} {P1 P2 : Nat → Value → Prop} {St1 St2 : Nat → Heap → Prop} {f : Bool} {oT : Obj}
/-- zip gives a pair while its last one is still held -/
theorem zheld_item {Q : Option Value → Shared → Prop} (S : ZipSep2 z TI TO i1 i2 fp1 fp2) (D1 : Draws prog w A.in1 i1 fp1 n1 P1 St1) (D2 : Draws prog w A.in1 i2 fp2 n2 P2 St2) (hz : IsZipHeld s.heap z TI TO T f) (hT : s.heap.get? T = some oT) (hTI : IsTupOf2 s.heap TI (.ref i1) (.ref i2))
    (st1 : St1 i s.heap) (st2 : St2 i s.heap) (hlt1 : i < n1) (hlt2 : i < n2)
    (hQ : ∀ x y h' tk, P1 i x → P2 i y → IsZipHeld h' z TI TO T true → St1 (i + 1) h' → St2 (i + 1) h' → IsTupOf2 h' s.heap.objs.size x y → (∀ c o, c ≠ z → c ≠ i1 → c ≠ i2 → s.heap.get? c = some o → h'.get? c = some o) → Q (some (.ref s.heap.objs.size)) { s with heap := h', toks := tk }) :
    wpAny (model prog w) A (pyNext (.ref z)) Q E s := by
  have hTy : s.TypeIs (.ref z) "zip" := ⟨_, hz, rfl⟩
  unfold pyNext
  refine wpAny_bind (wpAny_attempt (wpAny_callSpecial?_slot (name := Str.ofString "__next__") hTy PySem.F.slot_zip_next (wpAny_call_entry PySem.F.slot_zip_next hTy PySem.F.entry_zip_next ?_ (PySem.F.args_zip_next_1 _))))
  show wpAny _ _ (field (.ref z) 2 >>= _) _ _ _
  refine wpAny_bind (wpAny_field hz rfl (x := .bool false) rfl ?_)
  show wpAny _ _ (field (.ref z) 3 >>= _) _ _ _
  refine wpAny_bind (wpAny_field hz rfl (x := .ref TI) rfl ?_)
  refine wpAny_bind (wpAny_seqItems hTI rfl ?_)
  show wpAny _ _ (Builtin.SmallTypes.ownedTupleIsFree (.ref z) >>= _) _ _ _
  refine wpAny_bind (wpAny_tupleHeld_zip hz hT fun h₁ hz₁ hs₁ => ?_)
  simp only [Bool.false_eq_true, if_false]
  refine wpAny_bind ?_
  rw [← Array.forIn_toList]
  simp only [List.forIn_cons, List.forIn_nil]
  refine wpAny_bind (wpAny_bind (wpAny_holding ?_))
  show wpAny _ _ (Builtin.SmallTypes.nextOf (.ref i1) >>= _) _ _ _
  have a1 : St1 i h₁ := D1.over st1 hs₁ S.zf1
  have a2 : St2 i h₁ := D2.over st2 hs₁ S.zf2
  refine wpAny_bind (D1.item i { s with heap := h₁ } _ _ hlt1 a1 fun x h₂ tk₂ px b1 hs₂ => wpAny_pure ?_)
  refine wpAny_pure ?_
  refine wpAny_bind (wpAny_bind (wpAny_holding ?_))
  show wpAny _ _ (Builtin.SmallTypes.nextOf (.ref i2) >>= _) _ _ _
  have b2 : St2 i h₂ := D2.over a2 hs₂ S.sep1_2
  refine wpAny_bind (D2.item i { s with heap := h₂, toks := tk₂ } _ _ hlt2 b2 fun y h₃ tk₃ py c2 hs₃ => wpAny_pure ?_)
  refine wpAny_pure (wpAny_pure ?_)
  show wpAny _ _ (newTuple [x, y] >>= _) _ _ _
  refine wpAny_bind (wpAny_newTuple ?_)
  have c1 : St1 (i + 1) h₃ := D1.over b1 hs₃ S.sep2_1
  have hsz : h₃.objs.size = s.heap.objs.size := by rw [hs₃.1]; show h₂.objs.size = _; rw [hs₂.1]; exact hs₁.1
  have hz₃ : IsZipHeld h₃ z TI TO T true := hs₃.extBut _ _ S.zi2 (hs₂.extBut _ _ S.zi1 hz₁)
  have hk : ∀ c o, c ≠ z → c ≠ i1 → c ≠ i2 → s.heap.get? c = some o → h₃.get? c = some o := fun c o c1 c2 c3 e => hs₃.extBut _ _ c3 (hs₂.extBut _ _ c2 (hs₁.extBut _ _ c1 e))
  refine wpAny_pure ⟨_, rfl, wpAny_pure ?_⟩
  show Q (some (.ref h₃.objs.size)) _
  have hp : IsTupOf2 (h₃.push { cls := .type "tuple", data := .seq #[x, y] }) h₃.objs.size x y := Heap.get?_push_size _ rfl
  rw [hsz] at hp ⊢
  exact hQ x y _ tk₃ px py (Heap.get?_push_of_some _ hz₃) (D1.frame _ _ _ c1 fun b _ o e => Heap.get?_push_of_some _ e) (D2.frame _ _ _ c2 fun b _ o e => Heap.get?_push_of_some _ e) hp fun c o c1 c2 c3 e => Heap.get?_push_of_some _ (hk c o c1 c2 c3 e)
/-- and ends so -/
theorem zheld_end {Q : Option Value → Shared → Prop} (S : ZipSep2 z TI TO i1 i2 fp1 fp2) (D1 : Draws prog w A.in1 i1 fp1 i P1 St1) (hz : IsZipHeld s.heap z TI TO T f) (hT : s.heap.get? T = some oT) (hTI : IsTupOf2 s.heap TI (.ref i1) (.ref i2)) (st1 : St1 i s.heap)
    (hQ : ∀ h' tk, (∀ c o, c ≠ z → c ≠ i1 → c ≠ i2 → s.heap.get? c = some o → h'.get? c = some o) → Q none { s with heap := h', toks := tk }) :
    wpAny (model prog w) A (pyNext (.ref z)) Q E s := by
  have hTy : s.TypeIs (.ref z) "zip" := ⟨_, hz, rfl⟩
  unfold pyNext
  refine wpAny_bind (wpAny_attempt (wpAny_callSpecial?_slot (name := Str.ofString "__next__") hTy PySem.F.slot_zip_next (wpAny_call_entry PySem.F.slot_zip_next hTy PySem.F.entry_zip_next ?_ (PySem.F.args_zip_next_1 _))))
  show wpAny _ _ (field (.ref z) 2 >>= _) _ _ _
  refine wpAny_bind (wpAny_field hz rfl (x := .bool false) rfl ?_)
  show wpAny _ _ (field (.ref z) 3 >>= _) _ _ _
  refine wpAny_bind (wpAny_field hz rfl (x := .ref TI) rfl ?_)
  refine wpAny_bind (wpAny_seqItems hTI rfl ?_)
  show wpAny _ _ (Builtin.SmallTypes.ownedTupleIsFree (.ref z) >>= _) _ _ _
  refine wpAny_bind (wpAny_tupleHeld_zip hz hT fun h₁ hz₁ hs₁ => ?_)
  simp only [Bool.false_eq_true, if_false]
  refine wpAny_bind ?_
  rw [← Array.forIn_toList]
  simp only [List.forIn_cons, List.forIn_nil]
  refine wpAny_bind (wpAny_bind (wpAny_holding ?_))
  show wpAny _ _ (Builtin.SmallTypes.nextOf (.ref i1) >>= _) _ _ _
  refine wpAny_bind (D1.done { s with heap := h₁ } _ _ (D1.over st1 hs₁ S.zf1) fun h₂ e hs₂ he => ?_)
  obtain ⟨o, ho, hc⟩ := he
  refine wpAny_bind (wpAny_isInstance (T := "StopIteration") (b := true) ⟨o, ho, hc⟩ isSubtype_stop ?_)
  exact wpAny_pure (hQ _ _ fun c o c1 c2 _ x => hs₂ _ _ c2 (hs₁.extBut _ _ c1 x))
end

/-! ### enumerate(tuple) -/
theorem enum_newT {v : Value} {o : Obj} {Hy : Heap → Prop} (B : Begins v o Hy) :
    Meets (Builtin.«enumerate.__new__» ⟨[.type "enumerate", v], []⟩) (fun _ R s => Hy s.heap ∧
      R (.ok (.ret (.ref (s.heap.push o).objs.size))) { s with heap := (s.heap.push o).push { cls := .type "enumerate", data := .fields #[.none, .bool false, .ref s.heap.objs.size, rawInt 0, .none, .none] } }) :=
  .of_wp fun prog w A R s h => by
    obtain ⟨hp, g, d, tk, os⟩ := s; obtain ⟨h1, h⟩ := h
    have hsub := sub_enumerate
    have q1 : ∀ {A' : Around} {E : Value → Shared → Prop} {Q : Value → Shared → Prop}, Q (.ref hp.objs.size) ⟨hp.push o, g, d, tk, os⟩ → wpAny (model prog w) A' (pyIter v) Q E ⟨hp, g, d, tk, os⟩ :=
      fun q => B.iter prog w _ _ ⟨hp, g, d, tk, os⟩ _ h1 q
    wp_walk using q1
    refine wpAny_stack_any fun st => wpAny_pure ?_
    split
    · rename_i c _ _ _ _ _
      cases (c == Value.type "enumerate")
      · wp_walk using q1
        exact ⟨_, rfl, h⟩
      · wp_walk using q1
        exact ⟨_, rfl, h⟩
    · wp_walk using q1
      exact ⟨_, rfl, h⟩
theorem call_enumT {prog : Program} {w : World} {A : Around} {E : Value → Shared → Prop} {s : Shared} {t : Addr} {items : Array Value} {Q : Value → Shared → Prop} (ht : s.heap.IsTuple t items)
    (h : ∀ h', IsEnum h' (s.heap.objs.size + 1) s.heap.objs.size 0 .none → h'.IsTupleIter s.heap.objs.size t 0 → (∀ b o, s.heap.get? b = some o → h'.get? b = some o) → Q (.ref (s.heap.objs.size + 1)) { s with heap := h' }) :
    wpAny (model prog w) A (call (.type "enumerate") [.ref t]) Q E s := by
  refine callType_new PySem.F.called_enumerate (by decide) (PySem.F.typeCall_enumerate_1 _) (PySem.F.newCall_enumerate_1 _) (fun obj => PySem.F.args_object_init_2 obj _) PySem.F.entry_enumerate_new (enum_newT (begins_tuple t items)) ⟨ht, ?_⟩
  have hz : (s.heap.push { cls := .type "tuple_iterator", data := .fields #[.ref t, .int 0 0] }).objs.size = s.heap.objs.size + 1 := Heap.size_push ..
  show _ ∧ _
  rw [hz]
  have he : IsEnum ((s.heap.push { cls := .type "tuple_iterator", data := .fields #[.ref t, .int 0 0] }).push { cls := .type "enumerate", data := .fields #[.none, .bool false, .ref s.heap.objs.size, rawInt 0, .none, .none] }) (s.heap.objs.size + 1) s.heap.objs.size 0 .none := by
    have := Heap.get?_push_size (s.heap.push { cls := .type "tuple_iterator", data := .fields #[.ref t, .int 0 0] }) (o := { cls := .type "enumerate", data := .fields #[.none, .bool false, .ref s.heap.objs.size, rawInt 0, .none, .none] }) rfl
    rw [hz] at this; exact this
  exact ⟨⟨_, he, rfl⟩, h _ he ⟨_, Heap.get?_push_of_some _ (Heap.get?_push_size _ rfl), rfl, rfl⟩ fun b o x => Heap.get?_push_of_some _ (Heap.get?_push_of_some _ x)⟩
/-- enumerate of the tuple at a -/
def IteT (K : PySem.W.Frag) (a : Addr) : It :=
  ⟨fun i H => ∃ (xs : List V) (x : V), SqT K H a xs ∧ xs[i]? = some x, fun i H v H' => ∃ T x, v = .ref T ∧ H T = none ∧ H' = upd H T (.tup [.int (i : Nat), x]) ∧ ∀ xs, SqT K H a xs → xs[i]? = some x, fun i H => ∃ xs : List V, SqT K H a xs ∧ xs.length = i⟩
theorem turn_enumT {P : Program} {w : World} {K : PySem.W.Frag} {elts : List Expr} {kk : Nat} {tpos : Pos} (a e it : Addr) (hae : a ≠ e) (hai : a ≠ it) :
    Turn P w K (.Tuple elts kk tpos) (IteT K a) [e, it] e (fun i h => (∃ old, IsEnum h e it ((i : Nat) : Int) old) ∧ h.IsTupleIter it a i ∧ e ≠ it) where
  mem := by simp
  obj := fun i h st b hb => by
    obtain ⟨⟨old, he⟩, ⟨o, ho, hc, hd⟩, _⟩ := st
    have e' : b = e ∨ b = it := by simpa using hb
    rcases e' with z | z
    · rw [z]; exact ⟨_, he, fun v q => nomatch q⟩
    · rw [z]; exact ⟨o, ho, fun v q => by rw [hd] at q; cases q⟩
  keep := fun i h h' st k => let ⟨⟨old, he⟩, hi, hne⟩ := st; ⟨⟨old, k e (by simp) _ he⟩, hi.at fun o q => k it (by simp) o q, hne⟩
  item := by
    intro X hP hw hK hc i pins s σ H E I hf st hg
    subst hP hw hK
    obtain ⟨⟨old, he⟩, hit, hne⟩ := st
    obtain ⟨xs, x, hq, hx⟩ := hg
    obtain ⟨its, rv, p, hz⟩ := I.tuple hq
    obtain ⟨u, hu, ru⟩ := rv.get hx
    have hlt : i < its.toArray.size := by
      have := (List.getElem?_eq_some_iff.mp hu).1
      simpa using this
    have hel : e < s.heap.objs.size := Heap.lt_size he
    have hil : it < s.heap.objs.size := by obtain ⟨_, q, _⟩ := hit; exact Heap.lt_size q
    have hd : X.A.in1.handled = none := I.ok.hd hc
    refine wpAny_pyNext_enum_itemD (Draws.tuple hd it a hai its.toArray) he ⟨hit, p⟩ hlt hne (by simp [hne, Ne.symm hae]) fun y h' tk py ho st' hT hsz hk => ?_
    have eyu : y = u := by
      have : its.toArray[i]? = some u := by simpa using hu
      rw [this] at py
      exact (Option.some.inj py).symm
    subst eyu
    obtain ⟨hit', hp'⟩ := st'
    refine ⟨_, rfl, wpAny_letOwnedTupleGo_enum (s := { s with heap := h', toks := tk + 1 }) ho fun h'' he' sb => ?_⟩
    have hT2 : h''.get? s.heap.objs.size = some { cls := .type "tuple", data := .seq #[.int i tk, y] } := (sb.2 _ (Nat.ne_of_gt hel)).trans hT
    have new : ObjOk X.prog X.w (upd H s.heap.objs.size (.tup [.int (i : Nat), x])) h'' s.heap.objs.size (.tup [.int (i : Nat), x]) :=
      ⟨by show 2 ≤ sizeLine; decide, [.int i tk, y], .cons ⟨_, rfl⟩ (.cons ru .nil), ⟨_, hT2, rfl, _, rfl⟩⟩
    have I1 : Inv X pins σ (upd H s.heap.objs.size (.tup [.int (i : Nat), x])) { s with heap := h'', toks := tk + 1 } :=
      I.turnedNew (ch := [e, it]) (fun b ob hb q => (sb.2 b (fun z => hb (by simp [z]))).trans (hk b ob (fun z => hb (by simp [z])) (fun z => hb (by simp [z])) q)) hf (Nat.le_refl _) new
    refine ⟨.ref s.heap.objs.size, _, I1, rfl, ⟨_, x, rfl, I.hok.fresh (Nat.le_refl _), rfl, fun ys hy => by rw [I.tuple_inj hy hq]; exact hx⟩, ⟨⟨y, ?_⟩, hit'.at fun o q => (sb.2 it (Ne.symm hne)).trans q, hne⟩, fun b hb => ?_⟩
    · have e1 : ((i + 1 : Nat) : Int) = (i : Int) + 1 := by omega
      rw [e1]; exact he'
    · have hb' : b < s.heap.objs.size := by
        have e' : b = e ∨ b = it := by simpa using hb
        rcases e' with z | z
        · rw [z]; exact hel
        · rw [z]; exact hil
      rw [upd_ne (Nat.ne_of_lt hb')]
      exact (hf b hb).1
  done := by
    intro X hP hw hK hc i pins s σ H E I hf st hg
    subst hP hw hK
    obtain ⟨⟨old, he⟩, hit, hne⟩ := st
    obtain ⟨xs, hq, hx⟩ := hg
    obtain ⟨its, rv, p, hz⟩ := I.tuple hq
    obtain ⟨f0, f1, f2, f3, f4, f5⟩ := hf it (by simp)
    have hl := rv.length
    have hi : i = its.toArray.size := by simp; omega
    have hd : X.A.in1.handled = none := I.ok.hd hc
    subst hi
    exact wpAny_pyNext_enum_endD (Draws.tuple hd it a hai its.toArray) he ⟨hit, p⟩ fun h' eb => ⟨rfl, I.turned (t' := s.toks) (fun b o hb q => eb b o hb q) f0 f1 f3 f4 f5⟩
  self := fun A i s Q E st h => let ⟨⟨_, he⟩, _⟩ := st; wpAny_pyIter_enum he h
def iEnumT (K : PySem.W.Frag) (ta : TA) : TI := fun σ H R => ta σ H fun vs H1 => ∃ a xs, vs = [.ref a] ∧ SqT K H1 a xs ∧ R (IteT K a) H1
theorem pi_enumT {X : Cx} {e : Expr} {ta : TA} {p pos tpos : Pos} {elts : List Expr} {kk : Nat} (hg : Gl X "enumerate") (hm : X.mg "enumerate" = none) (ha : PA X [e] ta) (hs : starEach [e] X.env = [(false, eval e X.env)] := by rfl) :
    PI X (.Tuple elts kk tpos) (.Call (.Name "enumerate" p) [e] [] pos) (iEnumT X.K ta) := by
  refine ⟨fun pins s σ H R I h => ?_⟩
  refine Call_ (ld_blt I hg hm boot_enumerate (PyProof.Rows.callWith_type1 (thn (ha.run pos pins s σ H _ I h) fun us s1 ⟨vs, H1, I1, r1, q1⟩ => ?_) hs rfl))
  obtain ⟨a, xs, ex, hq, q⟩ := q1
  subst ex
  obtain ⟨u, rfl, rx⟩ := r1.one
  cases rx
  obtain ⟨its, rv, p', hz⟩ := I1.tuple hq
  have hlt : a < s1.heap.objs.size := by obtain ⟨o, ho, _⟩ := id p'; exact Heap.lt_size ho
  refine call_enumT (show s1.heap.IsTuple a its.toArray from p') fun h' he hit hk => wpAny_pyIter_enum he ?_
  have I2 : Inv X pins σ H1 { s1 with heap := h' } := I1.kept (t' := s1.toks) hk
  refine ⟨s1.heap.objs.size + 1, [s1.heap.objs.size + 1, s1.heap.objs.size], _, _, H1, rfl, I2, turn_enumT a (s1.heap.objs.size + 1) s1.heap.objs.size (Nat.ne_of_lt (Nat.lt_succ_of_lt hlt)) (Nat.ne_of_lt hlt), ⟨⟨.none, he⟩, hit, Nat.succ_ne_self _⟩, fun b hb => ?_, q⟩
  have e' : b = s1.heap.objs.size + 1 ∨ b = s1.heap.objs.size := by simpa using hb
  have hle : s1.heap.objs.size ≤ b := by
    rcases e' with z | z
    · rw [z]; exact Nat.le_add_right _ _
    · rw [z]; exact Nat.le_refl _
  exact I1.fpOk hle (I1.hok.fresh hle)
theorem walk_enumT {K : PySem.W.Frag} {a : Addr} {xs : List V} : Walk (IteT K a) xs.length (fun H => SqT K H a xs) (YPair (fun i => some (.int (i : Nat))) (fun i => xs[i]?)) := by
  refine ⟨fun i _ hi q => ⟨xs, xs[i], q, by simp [hi]⟩, fun _ q => ⟨xs, q, rfl⟩, fun i H v H' _ q y => ?_⟩
  obtain ⟨T, x, h1, h2, h3, h4⟩ := y
  exact ⟨T, .int (i : Nat), x, h1, h2, h3, rfl, h4 xs q⟩

/-! ### zip(tuple, list) -/
/-- the tuple at a and the list at b -/
def Itm (K : PySem.W.Frag) (a b : Addr) : It :=
  ⟨fun i H => ∃ (xs ys : List V) (x y : V), SqT K H a xs ∧ SqL K H b ys ∧ xs[i]? = some x ∧ ys[i]? = some y,
    fun i H v H' => ∃ T x y, v = .ref T ∧ H T = none ∧ H' = upd H T (.tup [x, y]) ∧ (∀ xs, SqT K H a xs → xs[i]? = some x) ∧ ∀ ys, SqL K H b ys → ys[i]? = some y,
    fun i H => ∃ xs ys : List V, SqT K H a xs ∧ SqL K H b ys ∧ xs.length = i ∧ ys.length = i⟩
theorem sep_of {z TI TO i1 i2 a b : Addr} (D : ZipApart z TI TO i1 i2 a b) : ZipSep2 z TI TO i1 i2 [i1, a] [i2, b] where
  TIz := D.TIz
  TOz := D.TOz
  TITO := D.TITO
  TIi1 := D.TIi1
  mem1 := by simp
  zf1 := by simp [Ne.symm D.i1z, Ne.symm D.l1z]
  Tf1 := by simp [D.TOi1, Ne.symm D.l1TO]
  TIi2 := D.TIi2
  mem2 := by simp
  zf2 := by simp [Ne.symm D.i2z, Ne.symm D.l2z]
  Tf2 := by simp [D.TOi2, Ne.symm D.l2TO]
  sep1_2 := by simp [D.i12, Ne.symm D.l2i1]
  sep2_1 := by simp [Ne.symm D.i12, Ne.symm D.l1i2]
theorem turn_zipM {P : Program} {w : World} {K : PySem.W.Frag} {elts : List Expr} {kk : Nat} {tpos : Pos} {a b z TI TO i1 i2 : Addr} (D : ZipApart z TI TO i1 i2 a b) :
    Turn P w K (.Tuple elts kk tpos) (Itm K a b) [z, TI, TO, i1, i2] z (fun i h => IsZip h z TI TO .none ∧ IsPair h TI (.ref i1) (.ref i2) ∧ (∃ x y, IsPair h TO x y) ∧ h.IsTupleIter i1 a i ∧ h.IsListIter i2 b i) where
  mem := by simp
  obj := fun i h st c hc => by
    obtain ⟨hz, hTI, ⟨x, y, hTO⟩, ⟨o1, e1, _, d1⟩, ⟨o2, e2, _, d2⟩⟩ := st
    have e' : c = z ∨ c = TI ∨ c = TO ∨ c = i1 ∨ c = i2 := by simpa using hc
    rcases e' with q | q | q | q | q
    · rw [q]; exact ⟨_, hz, fun v q => nomatch q⟩
    · rw [q]; exact ⟨_, hTI, fun v q => nomatch q⟩
    · rw [q]; exact ⟨_, hTO, fun v q => nomatch q⟩
    · rw [q]; exact ⟨o1, e1, fun v q => by rw [d1] at q; cases q⟩
    · rw [q]; exact ⟨o2, e2, fun v q => by rw [d2] at q; cases q⟩
  keep := fun i h h' st k => by
    obtain ⟨hz, hTI, ⟨x, y, hTO⟩, h1, h2⟩ := st
    exact ⟨k z (by simp) _ hz, k TI (by simp) _ hTI, ⟨x, y, k TO (by simp) _ hTO⟩, h1.at fun o q => k i1 (by simp) o q, h2.at fun o q => k i2 (by simp) o q⟩
  item := by
    intro X hP hw hK hc i pins s σ H E I hf st hg
    subst hP hw hK
    obtain ⟨hz, hTI, ⟨x0, y0, hTO⟩, h1, h2⟩ := st
    obtain ⟨xs, ys, x, y, hqx, hqy, hx, hy⟩ := hg
    obtain ⟨its, rv, p, _⟩ := I.tuple hqx
    obtain ⟨its2, rv2, p2, _⟩ := I.list hqy
    obtain ⟨u, hu, ru⟩ := rv.get hx
    obtain ⟨u2, hu2, ru2⟩ := rv2.get hy
    have hlt : i < its.toArray.size := by have := (List.getElem?_eq_some_iff.mp hu).1; simpa using this
    have hlt2 : i < its2.toArray.size := by have := (List.getElem?_eq_some_iff.mp hu2).1; simpa using this
    have hzl : z < s.heap.objs.size := Heap.lt_size hz
    have hd : X.A.in1.handled = none := I.ok.hd hc
    refine wpAny_pyNext_zipD2_item (sep_of D) (Draws.tuple hd i1 a D.l1i1 its.toArray) (Draws.list hd i2 b D.l2i2 its2.toArray) hz hTI hTO ⟨h1, p⟩ ⟨h2, p2.isList⟩ hlt hlt2 fun v v2 h' tk pv1 pv2 z' TO' s1' s2' hT hsz hk => ?_
    have e1 : v = u := by
      have : its.toArray[i]? = some u := by simpa using hu
      rw [this] at pv1
      exact (Option.some.inj pv1).symm
    have e2 : v2 = u2 := by
      have : its2.toArray[i]? = some u2 := by simpa using hu2
      rw [this] at pv2
      exact (Option.some.inj pv2).symm
    subst e1 e2
    obtain ⟨h1', _⟩ := s1'
    obtain ⟨h2', _⟩ := s2'
    refine ⟨_, rfl, wpAny_letOwnedTupleGo_zip (s := { s with heap := h', toks := tk }) z' fun h'' z'' sb => ?_⟩
    have hT2 : h''.get? s.heap.objs.size = some { cls := .type "tuple", data := .seq #[v, v2] } := (sb.2 _ (Nat.ne_of_gt hzl)).trans hT
    have new : ObjOk X.prog X.w (upd H s.heap.objs.size (.tup [x, y])) h'' s.heap.objs.size (.tup [x, y]) :=
      ⟨by show 2 ≤ sizeLine; decide, [v, v2], .cons ru (.cons ru2 .nil), ⟨_, hT2, rfl, _, rfl⟩⟩
    have I1 : Inv X pins σ (upd H s.heap.objs.size (.tup [x, y])) { s with heap := h'', toks := tk } :=
      I.turnedNew (ch := [z, TI, TO, i1, i2]) (fun c o hb q => (sb.2 c (fun q' => hb (by simp [q']))).trans (hk c o (fun q' => hb (by simp [q'])) (fun q' => hb (by simp [q'])) (fun q' => hb (by simp [q'])) (fun q' => hb (by simp [q'])) q)) hf (Nat.le_refl _) new
    refine ⟨.ref s.heap.objs.size, _, I1, rfl, ⟨_, x, y, rfl, I.hok.fresh (Nat.le_refl _), rfl, fun l hl => by rw [I.tuple_inj hl hqx]; exact hx, fun l hl => by rw [I.list_inj hl hqy]; exact hy⟩, ⟨z'', ?_, ⟨v, v2, ?_⟩, ?_, ?_⟩, fun c hcm => ?_⟩
    · exact (sb.2 _ D.TIz).trans (hk _ _ D.TIz D.TITO D.TIi1 D.TIi2 hTI)
    · exact (sb.2 _ D.TOz).trans TO'
    · exact h1'.at fun o q => (sb.2 _ D.i1z).trans q
    · exact h2'.at fun o q => (sb.2 _ D.i2z).trans q
    · have hlt : c < s.heap.objs.size := by
        have e' : c = z ∨ c = TI ∨ c = TO ∨ c = i1 ∨ c = i2 := by simpa using hcm
        rcases e' with q | q | q | q | q
        · rw [q]; exact hzl
        · rw [q]; exact Heap.lt_size hTI
        · rw [q]; exact Heap.lt_size hTO
        · rw [q]; obtain ⟨_, e1, _⟩ := h1; exact Heap.lt_size e1
        · rw [q]; obtain ⟨_, e2, _⟩ := h2; exact Heap.lt_size e2
      rw [upd_ne (Nat.ne_of_lt hlt)]
      exact (hf c hcm).1
  done := by
    intro X hP hw hK hc i pins s σ H E I hf st hg
    subst hP hw hK
    obtain ⟨hz, hTI, ⟨x0, y0, hTO⟩, h1, h2⟩ := st
    obtain ⟨xs, ys, hqx, hqy, n1, n2⟩ := hg
    obtain ⟨its, rv, p, _⟩ := I.tuple hqx
    obtain ⟨its2, rv2, p2, _⟩ := I.list hqy
    have l1 := rv.length
    have l2 := rv2.length
    have g1 : i = its.toArray.size := by simp; omega
    have g2 : i = its2.toArray.size := by simp; omega
    have hd : X.A.in1.handled = none := I.ok.hd hc
    exact wpAny_pyNext_zipD2_end (sep_of D) (Draws.tuple hd i1 a D.l1i1 its.toArray) (Draws.list hd i2 b D.l2i2 its2.toArray) hz hTI hTO ⟨h1, p⟩ ⟨h2, p2.isList⟩ (Nat.le_of_eq g1) (Nat.le_of_eq g2) (.inl g1) fun h' tk hk =>
      ⟨rfl, I.turnedL (ch := [z, TI, TO, i1, i2]) (fun c o hb q => hk c o (fun q' => hb (by simp [q'])) (fun q' => hb (by simp [q'])) (fun q' => hb (by simp [q'])) (fun q' => hb (by simp [q'])) q) hf⟩
  self := fun A i s Q E st h => wpAny_pyIter_zip st.1 h
/-- zip(t, l) is made -/
theorem zipM_made {prog : Program} {w : World} {A : Around} {E : Value → Shared → Prop} {s : Shared} {a b : Addr} {xs ys : Array Value} {Q : Value → Shared → Prop} (ha : s.heap.IsTuple a xs) (hb : s.heap.IsList b ys)
    (h : ∀ h', IsZip h' (s.heap.objs.size + 4) (s.heap.objs.size + 2) (s.heap.objs.size + 3) .none → IsTupOf2 h' (s.heap.objs.size + 2) (.ref s.heap.objs.size) (.ref (s.heap.objs.size + 1)) → IsTupOf2 h' (s.heap.objs.size + 3) .none .none →
      h'.IsTupleIter s.heap.objs.size a 0 → h'.IsListIter (s.heap.objs.size + 1) b 0 → (∀ c o, s.heap.get? c = some o → h'.get? c = some o) → Q (.ref (s.heap.objs.size + 4)) { s with heap := h' }) :
    wpAny (model prog w) A (call (.type "zip") [.ref a, .ref b]) Q E s :=
  zip_begins2 (begins_tuple a xs) (begins_list b ys) ha hb fun h' z1 z2 z3 z4 z5 _ k => h h' z1 z2 z3 ⟨_, z4, rfl, rfl⟩ ⟨_, z5, rfl, rfl⟩ k
def iZipM (K : PySem.W.Frag) (ta : TA) : TI := fun σ H R => ta σ H fun vs H1 => ∃ a b xs ys, vs = [.ref a, .ref b] ∧ SqT K H1 a xs ∧ SqL K H1 b ys ∧ R (Itm K a b) H1
theorem pi_zipM {X : Cx} {e e2 : Expr} {ta : TA} {p pos tpos : Pos} {elts : List Expr} {kk : Nat} (hg : Gl X "zip") (hm : X.mg "zip" = none) (ha : PA X [e, e2] ta)
    (hs : starEach [e, e2] X.env = (false, eval e X.env) :: starEach [e2] X.env := by rfl) (hpl : (backTo pos (starEach [e2] X.env)).any (·.1) = false := by rfl) :
    PI X (.Tuple elts kk tpos) (.Call (.Name "zip" p) [e, e2] [] pos) (iZipM X.K ta) := by
  refine ⟨fun pins s σ H R I h => ?_⟩
  refine Call_ (ld_blt I hg hm PyProof.Rows.boot_zip (PyProof.Rows.callWith_type1 (thn (ha.run pos pins s σ H _ I h) fun us s1 ⟨vs, H1, I1, r1, q1⟩ => ?_) hs hpl))
  obtain ⟨a, b, xs, ys, ex, hqx, hqy, q⟩ := q1
  subst ex
  cases r1 with
  | cons r rr =>
    obtain ⟨u2, rfl, r2⟩ := vals1 rr
    cases r
    cases r2
    obtain ⟨its, rv, p1, _⟩ := I1.tuple hqx
    obtain ⟨its2, rv2, p2, _⟩ := I1.list hqy
    have la : a < s1.heap.objs.size := by obtain ⟨o, ho, _⟩ := id p1; exact Heap.lt_size ho
    refine zipM_made (show s1.heap.IsTuple a its.toArray from p1) p2.isList fun h' hz hTI hTO h1 h2 hk => wpAny_pyIter_zip hz ?_
    have I2 : Inv X pins σ H1 { s1 with heap := h' } := I1.kept (t' := s1.toks) hk
    refine ⟨s1.heap.objs.size + 4, [s1.heap.objs.size + 4, s1.heap.objs.size + 2, s1.heap.objs.size + 3, s1.heap.objs.size, s1.heap.objs.size + 1], _, _, H1, rfl, I2, turn_zipM (PySem.W.ktu_apart s1.heap.objs.size a b la p2.lt), ⟨hz, hTI, ⟨_, _, hTO⟩, h1, h2⟩, fun c hcm => ?_, q⟩
    have e' : c = s1.heap.objs.size + 4 ∨ c = s1.heap.objs.size + 2 ∨ c = s1.heap.objs.size + 3 ∨ c = s1.heap.objs.size ∨ c = s1.heap.objs.size + 1 := by simpa using hcm
    have hle : s1.heap.objs.size ≤ c := by
      rcases e' with z | z | z | z | z
      · rw [z]; exact Nat.le_add_right _ _
      · rw [z]; exact Nat.le_add_right _ _
      · rw [z]; exact Nat.le_add_right _ _
      · rw [z]; exact Nat.le_refl _
      · rw [z]; exact Nat.le_add_right _ _
    exact I1.fpOk hle (I1.hok.fresh hle)
theorem walk_zipM {K : PySem.W.Frag} {a b : Addr} {xs ys : List V} {n : Nat} (h1 : xs.length = n) (h2 : ys.length = n) : Walk (Itm K a b) n (fun H => SqT K H a xs ∧ SqL K H b ys) (YPair (fun i => xs[i]?) (fun i => ys[i]?)) := by
  refine ⟨fun i _ hi q => ?_, fun _ q => ⟨xs, ys, q.1, q.2, h1, h2⟩, fun i H v H' _ q y => ?_⟩
  · have g1 : i < xs.length := by omega
    have g2 : i < ys.length := by omega
    exact ⟨xs, ys, xs[i], ys[i], q.1, q.2, by simp [g1], by simp [g2]⟩
  · obtain ⟨T, x, z, h1, h2, h3, h4, h5⟩ := y
    exact ⟨T, x, z, h1, h2, h3, h4 xs q.1, h5 ys q.2⟩

/-! ### dict(zip(tuple, list)) -/
section
variable {prog : Program} {w : World}
theorem pairArgM (z TI TO i1 i2 a b : Addr) (D : ZipApart z TI TO i1 i2 a b) (haTI : TI ≠ a) (xs ys : Array Value) (hlen : xs.size = ys.size) :
    PairArg prog w "zip" z [z, TI, TO, i1, i2, a, b] [z, TO, i1, i2] xs.size (fun i k v => xs[i]? = some k ∧ ys[i]? = some v)
      (fun h => IsZip h z TI TO .none ∧ IsPair h TI (.ref i1) (.ref i2) ∧ (∃ u v, IsPair h TO u v) ∧ h.IsTupleIter i1 a 0 ∧ h.IsListIter i2 b 0 ∧ h.IsTuple a xs ∧ h.IsList b ys) where
  type := fun s ok => ⟨_, ok.1, rfl⟩
  notDict := by decide
  keep := fun h h' ok hk => by
    obtain ⟨hz, hTI, ⟨u, v, hTO⟩, h1, h2, hl1, hl2⟩ := ok
    exact ⟨hk _ _ hz, hk _ _ hTI, ⟨u, v, hk _ _ hTO⟩, h1.at fun o e => hk _ o e, h2.at fun o e => hk _ o e, hl1.at fun o e => hk _ o e, hl2.at fun o e => hk _ o e⟩
  there := fun h ok c hc => by
    obtain ⟨hz, hTI, ⟨u, v, hTO⟩, ⟨o1, e1, _⟩, ⟨o2, e2, _⟩, ⟨o3, e3, _⟩, ⟨o4, e4, _⟩⟩ := ok
    simp only [List.mem_cons, List.not_mem_nil, or_false] at hc
    rcases hc with q | q | q | q | q | q | q
    all_goals rw [q]
    · exact ⟨_, hz⟩
    · exact ⟨_, hTI⟩
    · exact ⟨_, hTO⟩
    · exact ⟨_, e1⟩
    · exact ⟨_, e2⟩
    · exact ⟨_, e3⟩
    · exact ⟨_, e4⟩
  sub := fun c hc => by
    simp only [List.mem_cons, List.not_mem_nil, or_false] at hc ⊢
    rcases hc with q | q | q | q <;> simp [q]
  noKeys := fun A s Q E hA ok h => PySem.getAttrOr_miss_zip ok.1 rfl rfl rfl zip_no_keys (by decide +kernel) hA h
  iter := fun A s d Q E hA ok hd hdf h => by
    obtain ⟨hz, hTI, ⟨u, v, hTO⟩, h1, h2, hl1, hl2⟩ := ok
    simp only [List.mem_cons, List.not_mem_nil, or_false, not_or] at hdf
    obtain ⟨dz, dTI, dTO, di1, di2, dl1, dl2⟩ := hdf
    refine wpAny_pyIter_zip hz (h z [z, TO, i1, i2] (fun i h => IsPair h TI (.ref i1) (.ref i2) ∧ (h.IsTupleIter i1 a i ∧ h.IsTuple a xs) ∧ (h.IsListIter i2 b i ∧ h.IsList b ys) ∧
      ((IsZip h z TI TO .none ∧ ∃ u v, IsPair h TO u v) ∨ ∃ T f oT, IsZipHeld h z TI TO T f ∧ h.get? T = some oT ∧ T ≠ z ∧ T ≠ i1 ∧ T ≠ i2 ∧ T ≠ d)) s.heap s.toks ?_
      ⟨hTI, ⟨h1, hl1⟩, ⟨h2, hl2⟩, .inl ⟨hz, u, v, hTO⟩⟩ (fun _ _ e => e) fun b hb => .inl hb)
    have dr1 := Draws.tuple (prog := prog) (w := w) (A := A.in1) (show A.in1.handled = none from hA) i1 a D.l1i1 xs
    have dr2 := Draws.list (prog := prog) (w := w) (A := A.in1) (show A.in1.handled = none from hA) i2 b D.l2i2 ys
    exact {
      off := fun hm => by
        simp only [List.mem_cons, List.not_mem_nil, or_false] at hm
        rcases hm with e | e | e | e
        · exact dz e
        · exact dTO e
        · exact di1 e
        · exact di2 e
      frame := fun i h₁ h₂ st hk => by
        obtain ⟨hTI, ⟨h1, hl1⟩, ⟨h2, hl2⟩, hz⟩ := st
        refine ⟨hk _ _ (Ne.symm dTI) hTI, ⟨h1.at fun o e => hk _ o (Ne.symm di1) e, hl1.at fun o e => hk _ o (Ne.symm dl1) e⟩, ⟨h2.at fun o e => hk _ o (Ne.symm di2) e, hl2.at fun o e => hk _ o (Ne.symm dl2) e⟩, ?_⟩
        rcases hz with ⟨hz, u, v, hTO⟩ | ⟨T, f, oT, hz, hT, r1, r2, r3, r4⟩
        · exact .inl ⟨hk _ _ (Ne.symm dz) hz, u, v, hk _ _ (Ne.symm dTO) hTO⟩
        · exact .inr ⟨T, f, oT, hk _ _ (Ne.symm dz) hz, hk _ _ r4 hT, r1, r2, r3, r4⟩
      item := fun i s₁ Q₁ E₁ hi st hds hQ => by
        obtain ⟨hTI, st1, st2, hz⟩ := st
        have lt : ∀ {c o}, s₁.heap.get? c = some o → s₁.heap.objs.size ≠ c := fun e => Nat.ne_of_gt (Heap.lt_size e)
        have n1 : s₁.heap.objs.size ≠ i1 := let ⟨_, e, _⟩ := st1.1; lt e
        have n2 : s₁.heap.objs.size ≠ i2 := let ⟨_, e, _⟩ := st2.1; lt e
        have hi2 : i < ys.size := by omega
        rcases hz with ⟨hz, u, v, hTO⟩ | ⟨T, f, oT, hz, hT, r1, r2, r3, r4⟩
        · refine wpAny_pyNext_zipD2_item (sep_of D) dr1 dr2 hz hTI hTO st1 st2 hi hi2 fun x y h' tk px py a1 a2 b1 b2 a5 _ hk => ?_
          exact hQ s₁.heap.objs.size _ _ h' tk ⟨px, py⟩ (.inl ⟨_, a5, rfl, _, rfl⟩) ⟨hk _ _ D.TIz D.TITO D.TIi1 D.TIi2 hTI, b1, b2, .inr ⟨s₁.heap.objs.size, false, _, a1, a5, lt hz, n1, n2, Nat.ne_of_gt hds⟩⟩
            fun c o hc e => hk c o (fun x => hc (by simp [x])) (fun x => hc (by simp [x])) (fun x => hc (by simp [x])) (fun x => hc (by simp [x])) e
        · refine zheld_item (sep_of D) dr1 dr2 hz hT hTI st1 st2 hi hi2 fun x y h' tk px py a1 b1 b2 a5 hk => ?_
          exact hQ s₁.heap.objs.size _ _ h' tk ⟨px, py⟩ (.inl ⟨_, a5, rfl, _, rfl⟩) ⟨hk _ _ D.TIz D.TIi1 D.TIi2 hTI, b1, b2, .inr ⟨T, true, oT, a1, hk _ _ r1 r2 r3 hT, r1, r2, r3, r4⟩⟩
            fun c o hc e => hk c o (fun x => hc (by simp [x])) (fun x => hc (by simp [x])) (fun x => hc (by simp [x])) e
      done := fun s₁ Q₁ E₁ st hQ => by
        obtain ⟨hTI, st1, st2, hz⟩ := st
        rcases hz with ⟨hz, u, v, hTO⟩ | ⟨T, f, oT, hz, hT, r1, r2, r3, r4⟩
        · exact wpAny_pyNext_zipD2_end (sep_of D) dr1 dr2 hz hTI hTO st1 st2 (Nat.le_refl _) (Nat.le_of_eq hlen) (.inl rfl) fun h' tk hk => hQ h' tk fun c o hc e => hk c o (fun x => hc (by simp [x])) (fun x => hc (by simp [x])) (fun x => hc (by simp [x])) (fun x => hc (by simp [x])) e
        · exact zheld_end (sep_of D) dr1 hz hT hTI st1 fun h' tk hk => hQ h' tk fun c o hc e => hk c o (fun x => hc (by simp [x])) (fun x => hc (by simp [x])) (fun x => hc (by simp [x])) e }
end
/-- the dict of numbers and values -/
def zipK (ns : List Int) (ys : List V) : List (Key × V) := (ns.zip ys).map fun q => (Sum.inl q.1, q.2)
def zipU (ns : List Int) (us : List Value) : List (Key × Value) := (ns.zip us).map fun q => (Sum.inl q.1, q.2)
theorem kv_zip : ∀ (ns : List Int) {ys : List V} {us : List Value}, Vals ys us → KV (zipK ns ys) (zipU ns us)
  | [], _, _, _ => .nil
  | n :: ns, _, _, .nil => .nil
  | n :: ns, _, _, .cons r t => .cons ⟨rfl, r⟩ (kv_zip ns t)
def tDictZip (K : PySem.W.Frag) (ta : TA) : TE := fun σ H Q => ta σ H fun vs H1 => ∃ a b ns ys, vs = [.ref a, .ref b] ∧ SqT K H1 a (ns.map V.int) ∧ SqL K H1 b ys ∧ ys.length = ns.length ∧ ns.length ≤ 1000 ∧ ∀ p, H1 p = none → Q (.ref p) (upd H1 p (.dK (mergeK [] (zipK ns ys))))
theorem pe_dictZip {X : Cx} {e e2 : Expr} {ta : TA} {p p2 q pos : Pos} (hc : X.calm = true) (hg : Gl X "dict") (hm : X.mg "dict" = none) (hg2 : Gl X "zip") (hm2 : X.mg "zip" = none) (ha : PA X [e, e2] ta)
    (na : starEach [Expr.Call (.Name "zip" p2) [e, e2] [] q] X.env = (false, eval (.Call (.Name "zip" p2) [e, e2] [] q) X.env) :: starEach [] X.env := by rfl)
    (hs : starEach [e, e2] X.env = (false, eval e X.env) :: starEach [e2] X.env := by rfl) (hpl : (backTo q (starEach [e2] X.env)).any (·.1) = false := by rfl) :
    PE X (.Call (.Name "dict" p) [.Call (.Name "zip" p2) [e, e2] [] q] [] pos) (tDictZip X.K ta) := by
  refine ⟨fun pins s σ H Q I h => ?_⟩
  refine Call_ (ld_blt I hg hm PyProof.Rows.boot_dict (PyProof.Rows.callWith_type1 (PyProof.Rows.args_cons ?_ na) na rfl))
  refine Call_ (ld_blt I hg2 hm2 PyProof.Rows.boot_zip (PyProof.Rows.callWith_type1 (thn (ha.run q pins s σ H _ I h) fun us s1 ⟨vs, H1, I1, r1, q1⟩ => ?_) hs hpl))
  obtain ⟨a, b, ns, ys, ex, hqx, hqy, hly, hln, q⟩ := q1
  subst ex
  cases r1 with
  | cons r rr =>
    obtain ⟨u2, rfl, r2⟩ := vals1 rr
    cases r
    cases r2
    obtain ⟨its, rv, p1, _⟩ := I1.tuple hqx
    obtain ⟨its2, rv2, p2, _⟩ := I1.list hqy
    have hi : IntsAre its ns := ints_of_vals rv
    have l1 : its.length = ns.length := by rw [← rv.length, List.length_map]
    have l2 : its2.length = ns.length := by rw [← rv2.length, hly]
    have la : a < s1.heap.objs.size := by obtain ⟨o, ho, _⟩ := id p1; exact Heap.lt_size ho
    refine zipM_made (show s1.heap.IsTuple a its.toArray from p1) p2.isList fun h' hz hTI hTO h1 h2 hk => PyProof.Rows.args_nil ?_
    have nTI : s1.heap.objs.size + 2 ≠ a := Nat.ne_of_gt (Nat.lt_of_lt_of_le la (Nat.le_add_right _ _))
    have P := pairArgM (prog := X.prog) (w := X.w) _ _ _ _ _ a b (PySem.W.ktu_apart s1.heap.objs.size a b la p2.lt) nTI its.toArray its2.toArray (by simp; omega)
    refine call_dict_pairs (knd := mixKind X.prog X.w) (kvs := zipU ns its2) (s := { s1 with heap := h' }) P (I1.ok.hd hc) ⟨hz, hTI, ⟨_, _, hTO⟩, h1, h2, ?_, ?_⟩ ⟨?_, fun i key v hr => ?_⟩ ?_ fun h2 tk hd hk2 => ?_
    · exact Heap.IsTuple.at p1 fun o e => hk _ o e
    · exact p2.isList.at fun o e => hk _ o e
    · unfold zipU
      rw [List.length_map, List.length_zip, l2, Nat.min_self]
      simp [l1]
    · obtain ⟨r1, r2⟩ := hr
      have hlt : i < ns.length := by
        have := (Array.getElem?_eq_some_iff.mp r1).1
        simpa [l1] using this
      obtain ⟨t, et⟩ := hi.get i ns[i] (List.getElem?_eq_getElem hlt)
      have ek : key = .int ns[i] t := by
        have r1' : its[i]? = some key := by simpa using r1
        rw [et] at r1'
        exact (Option.some.inj r1').symm
      have r2' : its2[i]? = some v := by simpa using r2
      refine ⟨.inl ns[i], ?_, by rw [ek]; exact mixKind_int _ _ _ _⟩
      unfold zipU
      rw [List.getElem?_map, show (ns.zip its2)[i]? = some (ns[i], v) from List.getElem?_zip_eq_some.mpr ⟨List.getElem?_eq_getElem hlt, r2'⟩]
      rfl
    · simp only [List.size_toArray]
      exact line_of (by omega)
    · have kp : ∀ c o, s1.heap.get? c = some o → h2.get? c = some o := fun c o e => hk2 c o (fun hm => by
        have lc := Heap.lt_size e
        simp only [List.mem_cons, List.not_mem_nil, or_false] at hm
        rcases hm with z | z | z | z <;> rw [z] at lc
        · exact absurd lc (Nat.not_lt.mpr (Nat.le_add_right _ _))
        · exact absurd lc (Nat.not_lt.mpr (Nat.le_add_right _ _))
        · exact absurd lc (Nat.lt_irrefl _)
        · exact absurd lc (Nat.not_lt.mpr (Nat.le_add_right _ _))) (hk c o e)
      have hsz : s1.heap.objs.size ≤ h'.objs.size := Nat.le_trans (Nat.le_add_right _ 4) (Nat.le_of_lt (Heap.lt_size hz))
      have hlen : (mergeK [] (zipK ns ys)).length ≤ sizeLine := by
        refine Nat.le_trans (length_mergeK _ []) ?_
        unfold zipK
        rw [List.length_map, List.length_zip, hly, Nat.min_self]
        exact line_of (by simp; omega)
      have hm : (h'.objs.size == sysModules) = false := beq_eq_false_iff_ne.mpr (Nat.ne_of_gt (Nat.lt_of_lt_of_le I1.big hsz))
      exact ⟨.ref h'.objs.size, _, I1.laid (t' := tk) kp hsz (show ObjOk X.prog X.w _ _ _ (.dK (mergeK [] (zipK ns ys))) from ⟨hlen, hm, merged [] (zipU ns its2), KV.merge (kv_zip ns rv2) .nil, hd⟩), rfl, q _ (I1.hok.fresh hsz)⟩
theorem zipK_keys : ∀ {ns : List Int} {ys : List V}, ns.length = ys.length → (zipK ns ys).map (·.1) = ns.map Sum.inl
  | [], [], _ => rfl
  | n :: ns, y :: ys, h => by
    show Sum.inl n :: (zipK ns ys).map (·.1) = _
    rw [zipK_keys (by simpa using h)]
    rfl
  | [], _ :: _, h => by simp at h
  | _ :: _, [], h => by simp at h
end K22

-- F
set_option maxHeartbeats 4000000
/-! Layer F: the rules by data; a def that may be called. -/
namespace K22
open PySem PySem.Spec PyProof.Rows L2
section
variable {K : PySem.W.Frag} {H H' : Hp}
/-- the items lo .. hi of data -/
def cutD (ds : List PyData) (lo hi : Option Nat) : List PyData := (ds.drop (min (lo.getD 0) ds.length)).take (min (hi.getD ds.length) ds.length - min (lo.getD 0) ds.length)
theorem da_cut {vs : List V} {ds : List PyData} (h : DpAll K H vs ds) (lo hi : Option Nat) : DpAll K H (cutV vs (lo.map fun n => ((n : Nat) : Int)) (hi.map fun n => ((n : Nat) : Int))) (cutD ds lo hi) := by
  have hl := da_len h
  have e1 : HT.sIx vs.length 0 (lo.map fun n => ((n : Nat) : Int)) = min (lo.getD 0) ds.length := by
    cases lo with
    | none => exact (Nat.zero_min _).symm
    | some n => rw [Option.map_some, HT.sIx_nat, hl]; rfl
  have e2 : HT.sIx vs.length vs.length (hi.map fun n => ((n : Nat) : Int)) = min (hi.getD ds.length) ds.length := by
    cases hi with
    | none => rw [Option.map_none, HT.sIx_none, hl]; exact (Nat.min_self _).symm
    | some n => rw [Option.map_some, HT.sIx_nat, hl]; rfl
  unfold cutV cutD
  rw [e1, e2]
  exact da_take _ (da_drop _ h)
theorem cut_to {ds : List PyData} {n : Nat} : cutD ds none (some n) = ds.take n := by
  unfold cutD
  simp only [Option.getD_none, Option.getD_some, Nat.zero_min, List.drop_zero, Nat.sub_zero]
  rw [← List.take_eq_take_min]
theorem cut_from {ds : List PyData} {n : Nat} : cutD ds (some n) none = ds.drop n := by
  unfold cutD
  simp only [Option.getD_none, Option.getD_some, Nat.min_self]
  have : ds.drop (min n ds.length) = ds.drop n := by
    rcases Nat.le_total n ds.length with h | h
    · rw [Nat.min_eq_left h]
    · rw [Nat.min_eq_right h, List.drop_length, List.drop_eq_nil_of_le h]
  rw [this, List.take_of_length_le]
  rw [List.length_drop]
  omega
theorem inV_ints {n : Int} {ns : List Int} : inV (.int n) (ns.map V.int) = decide (n ∈ ns) := by
  unfold inV
  induction ns with
  | nil => rfl
  | cons a ns ih =>
    rw [List.map_cons, List.any_cons, ih]
    show (eqV (.int a) (.int n) || _) = _
    have : eqV (V.int a) (V.int n) = decide (a = n) := rfl
    rw [this]
    by_cases h : a = n
    · simp [h]
    · have h' : ¬ n = a := fun e => h e.symm
      simp [h, h']
theorem inV_strs {n : Str} {ns : List Str} : inV (.str n) (ns.map V.str) = decide (n ∈ ns) := by
  unfold inV
  induction ns with
  | nil => rfl
  | cons a ns ih =>
    rw [List.map_cons, List.any_cons, ih]
    show (eqV (.str a) (.str n) || _) = _
    have : eqV (V.str a) (V.str n) = decide (a = n) := rfl
    rw [this]
    by_cases h : a = n
    · simp [h]
    · have h' : ¬ n = a := fun e => h e.symm
      simp [h, h']
theorem flat_ints (ns : List Int) : (ns.map V.int).all flatV = true := by
  rw [List.all_eq_true]
  intro x hx
  obtain ⟨n, _, rfl⟩ := List.mem_map.mp hx
  rfl
theorem flat_strs (ns : List Str) : (ns.map V.str).all flatV = true := by
  rw [List.all_eq_true]
  intro x hx
  obtain ⟨n, _, rfl⟩ := List.mem_map.mp hx
  rfl
theorem atI_get {xs : List V} {i : Nat} {v : V} (h : xs[i]? = some v) : atI xs (i : Nat) = some v := by
  have hl := (List.getElem?_eq_some_iff.mp h).1
  unfold atI
  have : ixN xs.length (i : Nat) = some i := by
    unfold ixN
    simp
    omega
  rw [this]
  exact h
end
section
variable {X : Cx}
/-- t[i], l[i] of data: what is given stands wherever the whole stands -/
def rIxD' (K : PySem.W.Frag) : R2 := fun x y H Q => (∃ (ds : List PyData) (i : Nat) (d : PyData), Dp K H x (.tuple ds) ∧ y = .int (i : Nat) ∧ ds[i]? = some d ∧ ∀ v, Dp K H v d → (∀ G, Ext G H → Dp K G x (.tuple ds) → Dp K G v d) → Q v H) ∨
  ∃ (ds : List PyData) (i : Nat) (d : PyData), Dp K H x (.list ds) ∧ y = .int (i : Nat) ∧ ds[i]? = some d ∧ ∀ v, Dp K H v d → (∀ G, Ext G H → Dp K G x (.list ds) → Dp K G v d) → Q v H
theorem ixD : IxR X (rIxD' X.K) := by
  intro value slice pins s σ H x y v u Q I rx ry h hs
  rcases h with h | h
  · obtain ⟨ds, i, d, hd, rfl, e, q⟩ := h
    obtain ⟨a, xs, rfl, h1, h2⟩ := dp_tup hd
    obtain ⟨z, hz, hv⟩ := da_get h2 e
    refine ix_tup value slice pins s σ H _ _ v u Q I rx ry ⟨a, xs, i, z, rfl, rfl, h1, atI_get hz, q z hv fun G e1 hg => ?_⟩ hs
    obtain ⟨a', xs', ea, g1, g2⟩ := dp_tup hg
    cases ea
    obtain ⟨z', hz', hv'⟩ := da_get g2 e
    rw [I.tuple_inj (e1.seqT g1) h1, hz] at hz'
    rw [Option.some.inj hz']
    exact hv'
  · obtain ⟨ds, i, d, hd, rfl, e, q⟩ := h
    obtain ⟨a, xs, rfl, h1, h2⟩ := dp_list hd
    obtain ⟨z, hz, hv⟩ := da_get h2 e
    refine ix_list value slice pins s σ H _ _ v u Q I rx ry ⟨a, xs, i, z, rfl, rfl, h1, atI_get hz, q z hv fun G e1 hg => ?_⟩ hs
    obtain ⟨a', xs', ea, g1, g2⟩ := dp_list hg
    cases ea
    obtain ⟨z', hz', hv'⟩ := da_get g2 e
    rw [I.list_inj (e1.seqL g1) h1, hz] at hz'
    rw [Option.some.inj hz']
    exact hv'
/-- t[lo:hi] of data -/
def rSlD (K : PySem.W.Frag) : V → Option Int → Option Int → Hp → VK → Prop := fun x lo hi H Q => ∃ (ds : List PyData) (l h : Option Nat), Dp K H x (.tuple ds) ∧ lo = l.map (fun n => ((n : Nat) : Int)) ∧ hi = h.map (fun n => ((n : Nat) : Int)) ∧ ∀ v H', Ext H H' → Dp K H' v (.tuple (cutD ds l h)) → Q v H'
theorem slD : SlR X (rSlD X.K) := by
  intro pins s σ H x v vl vu lo hi sl Q I rx hs pl pu h
  obtain ⟨ds, l, h, hd, rfl, rfl, q⟩ := h
  obtain ⟨a, xs, rfl, h1, h2⟩ := dp_tup hd
  have hc := da_cut h2 l h
  refine sl_tupA pins s σ H _ v vl vu _ _ sl Q I rx hs pl pu ⟨a, xs, rfl, h1, fun hw => ?_, fun hw p np => ?_⟩
  · have e : cutV xs (l.map fun n => ((n : Nat) : Int)) (h.map fun n => ((n : Nat) : Int)) = xs := by
      unfold cutV
      rw [hw.1, hw.2, List.drop_zero, Nat.sub_zero, List.take_length]
    rw [e] at hc
    exact q _ _ (.refl H) (.tup h1 hc)
  · exact q _ _ (Ext.new np) (dp_tupNew upd_same (hc.ext (Ext.new np)))
/-- t + u of data -/
def rCatD (K : PySem.W.Frag) : R2 := fun x y H Q => ∃ (ds es : List PyData), Dp K H x (.tuple ds) ∧ Dp K H y (.tuple es) ∧ ds.length + es.length ≤ 1000000 ∧ ∀ v H', Ext H H' → Dp K H' v (.tuple (ds ++ es)) → Q v H'
theorem catD : OpR X (binaryOp .Add) (rCatD X.K) := by
  intro pins s σ H x y v u Q I rx ry h
  obtain ⟨ds, es, hd, he, hl, q⟩ := h
  obtain ⟨a, xs, rfl, h1, h2⟩ := dp_tup hd
  obtain ⟨b, ys, rfl, k1, k2⟩ := dp_tup he
  refine op_catA pins s σ H _ _ v u Q I rx ry ⟨a, b, xs, ys, rfl, rfl, h1, k1, by rw [da_len h2, da_len k2]; exact line_of hl, fun e => ?_, fun _ e => ?_, fun _ _ p np => ?_⟩
  · subst e
    have : ds = [] := by cases h2; rfl
    subst this
    exact q _ _ (.refl H) he
  · subst e
    have : es = [] := by cases k2; rfl
    subst this
    rw [List.append_nil] at q
    exact q _ _ (.refl H) hd
  · exact q _ _ (Ext.new np) (dp_tupNew upd_same ((da_append h2 k2).ext (Ext.new np)))
/-- len(x) of data -/
def rLenD (K : PySem.W.Frag) : List V → Hp → VK → Prop := fun xs H Q => ∃ (x : V) (ds : List PyData), xs = [x] ∧ (Dp K H x (.tuple ds) ∨ Dp K H x (.list ds)) ∧ Q (.int (ds.length : Nat)) H
theorem lenD : CallR X (.builtin "len") (rLenD X.K) := by
  intro pins s σ H xs us Q I r h
  obtain ⟨x, ds, rfl, hd, q⟩ := h
  rcases hd with hd | hd
  · obtain ⟨a, ys, rfl, h1, h2⟩ := dp_tup hd
    exact call_len_seq pins s σ H _ us Q I r ⟨a, ys, rfl, .inr h1, by rw [da_len h2]; exact q⟩
  · obtain ⟨a, ys, rfl, h1, h2⟩ := dp_list hd
    exact call_len_seq pins s σ H _ us Q I r ⟨a, ys, rfl, .inl h1, by rw [da_len h2]; exact q⟩
/-- sorted(t), t a tuple of fewer than 64 ints -/
def rSortedTI (K : PySem.W.Frag) : List V → Hp → VK → Prop := fun vs H Q => ∃ (a : Addr) (ns : List Int), vs = [V.ref a] ∧ SqT K H a (ns.map V.int) ∧ ns.length < 64 ∧
  ∀ (ns' : List Int) (p : Addr), ns'.Perm ns → ns'.Pairwise (· ≤ ·) → H p = none → Q (.ref p) (upd H p (.lst (ns'.map V.int)))
theorem cr_sortedTI : CallR X (.builtin "sorted") (rSortedTI X.K) := by
  intro pins s σ H vs us Q I r h
  obtain ⟨a, ns, rfl, hs, h64, q⟩ := h
  obtain ⟨u, rfl, rx⟩ := r.one
  cases rx
  obtain ⟨its, rv, pt, hz⟩ := I.tuple hs
  have hi : IntsAre its ns := ints_of_vals rv
  have hl : its.length < 64 := by rw [← rv.length, List.length_map]; exact h64
  obtain ⟨o, ho, hc, n, hd⟩ := id pt
  refine Calls.call_function_entry PyProof.Rows.kind_sorted PyProof.Rows.plain_sorted PyProof.Rows.entry_sorted (PyProof.Rows.args_sorted1 _) ?_
  unfold Builtin.«sorted»
  refine wpAny_bind (m := checkCount "sorted" 1 1 _) (wpAny_pure ?_)
  refine wpAny_bind (wpAny_collect_seq a (.inr rfl) ho hc hd (fun h' hk => ?_) (by simp; rw [sizeLine_eq]; omega))
  show wpAny _ _ (newList its.toArray.toList >>= _) _ _ _
  refine wpAny_bind (wpAny_newList ?_ (by simp; rw [sizeLine_eq]; omega))
  have hoL : (h'.push (seqObj "list" its.toArray.toList.toArray 0)).get? h'.objs.size = some (seqObj "list" its.toArray.toList.toArray 0) := Heap.get?_push_size _ rfl
  show wpAny _ _ _ _ _ { s with heap := h'.push (seqObj "list" its.toArray.toList.toArray 0) }
  refine wpAny_bind (wpAny_holding ?_)
  refine wpAny_call_entry PyProof.Rows.slot_list_sort ⟨_, hoL, rfl⟩ PyProof.Rows.entry_list_sort (PyProof.Rows.list_sort_tree hoL (by simpa using hi) (by simpa using hl) fun out ns' h1 h2 h3 => ⟨.none, rfl, ?_⟩) (PyProof.Rows.args_list_sort _)
  obtain ⟨e', he'⟩ := PyProof.Rows.sortedHeap_at (vs := its.toArray.toList) (out := out) hoL
  have I1 : Inv X pins σ H { s with heap := h' } := I.kept (t' := s.toks) hk
  have hlen : (ns'.map V.int).length ≤ sizeLine := by rw [List.length_map, h2.length_eq]; exact line_of (by omega)
  refine wpAny_pure ⟨_, rfl, .ref h'.objs.size, upd H h'.objs.size (.lst (ns'.map V.int)), I1.laid (t' := s.toks) (fun b u e => ?_) (Nat.le_refl _) (show ObjOk X.prog X.w _ _ _ (.lst (ns'.map V.int)) from ⟨hlen, out.toList, e', vals_of_ints h1, he'⟩), rfl, q ns' _ h2 h3 (I1.hok.fresh (Nat.le_refl _))⟩
  have hb : b < h'.objs.size := Heap.lt_size e
  rw [PyProof.Rows.sortedHeap_old (Nat.ne_of_lt hb) (by rw [size_push']; exact Nat.lt_succ_of_lt hb)]
  exact Heap.get?_push_of_some _ e
end

/-! ### defs -/
section
variable {P : Program} {w : World} {K : PySem.W.Frag} {mg : Str → Option Value} {base : Heap}
/-- the def x of the text st, its code at code -/
structure DF (K : PySem.W.Frag) (mg : Str → Option Value) (x : Str) (st : Stmt) (code : Addr) : Prop where
  ex : ∃ (f : Addr) (oc : Value) (od : Option Addr) (kV doc pm : Value) (an : Option Addr) (ct : Value) (osl : Array (Option Value)), mg x = some (.ref f) ∧
    K.lookup f = some ⟨oc, od, .func (PySem.W.fnOf x x (defArgs st) (defBody st) (defScope st) .none kV doc pm an (.ref code) ct), osl⟩ ∧ PySem.W.codeIn K (.ref code) x = true ∧ PySem.W.keepIn K (.ref f) = true
/-- a def by its body -/
theorem calD {x : Str} {st : Stmt} {code : Addr} {N ps : List Str} {k : Nat} {sp : Sp} (D : DF K mg x st code) (S : FnScope N ps (defScope st))
    (hb : ∀ (kV doc pm : Value) (an : Option Addr) (cdv ct : Value) (us : List Value), us.length = ps.length → bindArgs (PySem.W.fnOf x x (defArgs st) (defBody st) (defScope st) .none kV doc pm an cdv ct) ⟨us, []⟩ = pure (ps.zip us))
    (len : ∀ vs H Q E, sp vs H Q E → vs.length = ps.length)
    (hbody : ∀ (f : Addr) (A : Around) (outer : List Env) (s : Shared) (H : Hp) (vs : List V) (Q : VK) (E : XK), Room k (A.deeper (envOfC x (defScope st) s.heap.objs.size f (.ref code))) → sp vs H Q E →
      ∃ t, PSs (cxOf CX0 P w K mg base N x (defScope st) f (.ref code) A outer s H E).nox (defBody st) t ∧ t { nx := fun _ H' => Q .non H', rt := Q } (start N vs) H) : C8.Cal P w K mg base (k + 1) x sp [] := by
  obtain ⟨f, oc, od, kV, doc, pm, an, ct, osl, hm, lk, hcd, kp⟩ := D.ex
  refine ⟨f, _, ps, [], fn_of lk hcd S len fun A outer s H vs Q E hr hsp => ?_, hm, kp, .all (hb kV doc pm an (.ref code) ct), .nil⟩
  obtain ⟨t, h, q⟩ := hbody f A outer s H vs Q E hr hsp
  exact ⟨t, h.nox, q⟩
theorem DF.kds {x : Str} {st : Stmt} {code : Addr} (D : DF K mg x st code) : PySem.W.kdsCode K (.ref code) = true := by
  obtain ⟨_, _, _, _, _, _, _, _, _, _, _, hcd, _⟩ := D.ex
  exact kdsCode_of hcd
end
end K22

-- G
set_option maxHeartbeats 4000000
/-! Layer G: readings by data. -/
namespace K22
open PySem PySem.Spec PyProof.Rows L2

/-! ### data without lists -/
mutual
def noL : PyData → Bool
  | .list _ => false
  | .tuple ds => noLs ds
  | _ => true
def noLs : List PyData → Bool
  | [] => true
  | d :: ds => noL d && noLs ds
end
theorem noLs_map {α : Type} {f : α → PyData} {l : List α} (h : ∀ a ∈ l, noL (f a) = true) : noLs (l.map f) = true := by
  induction l with
  | nil => rfl
  | cons a l ih => rw [List.map_cons, noLs, h a List.mem_cons_self, ih fun b hb => h b (List.mem_cons_of_mem _ hb)]; rfl
theorem noL_ints (l : List Int) : noL (.tuple (l.map PyData.int)) = true := noLs_map fun _ _ => rfl
section
variable {K : PySem.W.Frag} {d : Addr} {H H' : Hp}
/-- at d there is a tracked list -/
def IsL (o : Option HO) : Prop := ∃ xs, o = some (.lst xs)
theorem rdT_L (e : ExtB d H H') (n : IsL (H d)) {b : Addr} {xs : List V} (h : Rd H b (.tup xs)) : Rd H' b (.tup xs) := by
  obtain ⟨ys, n⟩ := n
  have nb : b ≠ d := fun z => by
    subst z
    rcases h with h | ⟨o, h⟩ <;> rw [n] at h <;> cases h
  rcases h with h | ⟨o, h⟩
  · rcases e b _ nb h with z | ⟨_, _, z, _⟩
    · exact .inl z
    · cases z
  · rcases e b _ nb h with z | ⟨_, _, z, _⟩
    · exact .inr ⟨o, z⟩
    · cases z
mutual
theorem dp_monoL (e : ExtB d H H') (n : IsL (H d)) : ∀ (x : PyData) (v : V), noL x = true → Dp K H v x → Dp K H' v x
  | .none, _, _, h => by cases h; exact .non
  | .bool _, _, _, h => by cases h; exact .bl _
  | .int _, _, _, h => by cases h; exact .int _
  | .str _, _, _, h => by cases h; exact .str _
  | .list ds, _, z, _ => by cases z
  | .tuple ds, _, z, h => by
    cases h with
    | tup h1 h2 => exact .tup (h1.elim (fun q => .inl (rdT_L e n q)) .inr) (dpAll_monoL e n ds _ z h2)
  | .dict _, _, _, h => by cases h
theorem dpAll_monoL (e : ExtB d H H') (n : IsL (H d)) : ∀ (ds : List PyData) (vs : List V), noLs ds = true → DpAll K H vs ds → DpAll K H' vs ds
  | [], _, _, h => by cases h; exact .nil
  | x :: ds, _, z, h => by
    rw [noLs, Bool.and_eq_true] at z
    cases h with
    | cons h1 h2 => exact .cons (dp_monoL e n x _ z.1 h1) (dpAll_monoL e n ds _ z.2 h2)
end
theorem _root_.L2.Dp.extL {x : PyData} {v : V} (h : Dp K H v x) (z : noL x = true) (e : ExtB d H H') (n : IsL (H d)) : Dp K H' v x := dp_monoL e n x v z h
theorem _root_.L2.DpAll.extL {x : List PyData} {v : List V} (h : DpAll K H v x) (z : noLs x = true) (e : ExtB d H H') (n : IsL (H d)) : DpAll K H' v x := dpAll_monoL e n x v z h
theorem extB_upd {o : HO} : ExtB d H (upd H d o) := fun b x n hb => by
  rw [upd_ne n]
  exact .inl hb
end

/-! ### an expression gives data -/
section
variable {K : PySem.W.Frag} {σ : L2.St} {H : Hp}
def EvD (K : PySem.W.Frag) (t : TE) (σ : L2.St) (H : Hp) (d : PyData) : Prop := ∀ H1, Ext H H1 → ∀ Q : VK, (∀ v H2, Ext H1 H2 → Dp K H2 v d → Q v H2) → t σ H1 Q
def EvA (K : PySem.W.Frag) (t : TA) (σ : L2.St) (H : Hp) (ds : List PyData) : Prop := ∀ H1, Ext H H1 → ∀ Q : List V → Hp → Prop, (∀ vs H2, Ext H1 H2 → DpAll K H2 vs ds → Q vs H2) → t σ H1 Q
def EvB (t : TT) (σ : L2.St) (H : Hp) (b : Bool) : Prop := ∀ H1, Ext H H1 → ∀ Q : Bool → Hp → Prop, (∀ H2, Ext H1 H2 → Q b H2) → t σ H1 Q
def EvO (t : TO) (σ : L2.St) (H : Hp) (o : Option Nat) : Prop := ∀ H1, Ext H H1 → ∀ Q : Option Int → Hp → Prop, (∀ H2, Ext H1 H2 → Q (o.map fun n => ((n : Nat) : Int)) H2) → t σ H1 Q
theorem EvD.mono {t : TE} {d : PyData} {H' : Hp} (h : EvD K t σ H d) (e : Ext H H') : EvD K t σ H' d := fun H1 e1 => h H1 (e.trans e1)
theorem EvB.mono {t : TT} {b : Bool} {H' : Hp} (h : EvB t σ H b) (e : Ext H H') : EvB t σ H' b := fun H1 e1 => h H1 (e.trans e1)
theorem EvD.go {t : TE} {d : PyData} (h : EvD K t σ H d) {Q : VK} (q : ∀ v H2, Ext H H2 → Dp K H2 v d → Q v H2) : t σ H Q := h H (.refl H) Q q
theorem EvB.go {t : TT} {b : Bool} (h : EvB t σ H b) {Q : Bool → Hp → Prop} (q : ∀ H2, Ext H H2 → Q b H2) : t σ H Q := h H (.refl H) Q q
theorem EvD.ret {t : TE} {d : PyData} (h : EvD K t σ H d) {H1 : Hp} {Q : VK} (q : Ret K d H Q) (x : Ext H H1) : t σ H1 Q := h H1 x Q fun v H2 e hv => q v H2 (x.trans e) hv
theorem ev_var {i : Nat} {v : V} {d : PyData} (e : σ[i]? = some (some v)) (h : Dp K H v d) : EvD K (tVar i) σ H d := fun H1 x Q q => ⟨v, e, q v H1 (.refl _) (h.ext x)⟩
theorem ev_int {i : Int} : EvD K (tC (.int i)) σ H (.int i) := fun H1 _ Q q => q _ H1 (.refl _) (.int i)
theorem ev_str {s : Str} : EvD K (tC (.str s)) σ H (.str s) := fun H1 _ Q q => q _ H1 (.refl _) (.str s)
theorem ev_non : EvD K (tC .non) σ H .none := fun H1 _ Q q => q _ H1 (.refl _) .non
theorem ev_bl {b : Bool} : EvD K (tC (.bl b)) σ H (.bool b) := fun H1 _ Q q => q _ H1 (.refl _) (.bl b)
theorem ev_c {v : V} {d : PyData} (h : Dp K H v d) : EvD K (tC v) σ H d := fun H1 x Q q => q _ H1 (.refl _) (h.ext x)
theorem ev_ix {ta tb : TE} {ds : List PyData} {i : Nat} {d : PyData} (ha : EvD K ta σ H (.tuple ds)) (hb : EvD K tb σ H (.int ((i : Nat) : Int))) (e : ds[i]? = some d) : EvD K (tOp (rIxD' K) ta tb) σ H d := fun H1 x Q q =>
  ha H1 x _ fun u H2 e2 hu => hb H2 (x.trans e2) _ fun y H3 e3 hy => (.inl ⟨ds, i, d, hu.ext e3, dp_int hy, e, fun v hv _ => q v H3 (e2.trans e3) hv⟩)
theorem ev_ixL {ta tb : TE} {ds : List PyData} {i : Nat} {d : PyData} (ha : EvD K ta σ H (.list ds)) (hb : EvD K tb σ H (.int ((i : Nat) : Int))) (e : ds[i]? = some d) : EvD K (tOp (rIxD' K) ta tb) σ H d := fun H1 x Q q =>
  ha H1 x _ fun u H2 e2 hu => hb H2 (x.trans e2) _ fun y H3 e3 hy => (.inr ⟨ds, i, d, hu.ext e3, dp_int hy, e, fun v hv _ => q v H3 (e2.trans e3) hv⟩)
theorem ev_cat {ta tb : TE} {ds es : List PyData} (ha : EvD K ta σ H (.tuple ds)) (hb : EvD K tb σ H (.tuple es)) (hl : ds.length + es.length ≤ 1000000) : EvD K (tOp (rCatD K) ta tb) σ H (.tuple (ds ++ es)) := fun H1 x Q q =>
  ha H1 x _ fun u H2 e2 hu => hb H2 (x.trans e2) _ fun y H3 e3 hy => ⟨ds, es, hu.ext e3, hy, hl, fun v H4 e4 hv => q v H4 ((e2.trans e3).trans e4) hv⟩
theorem ev_I {g : Int → Int → V} {d : PyData} {ta tb : TE} {i j : Int} (ha : EvD K ta σ H (.int i)) (hb : EvD K tb σ H (.int j)) (hg : ∀ H1, Dp K H1 (g i j) d) : EvD K (tOp (rI0 g) ta tb) σ H d := fun H1 x Q q =>
  ha H1 x _ fun u H2 e2 hu => hb H2 (x.trans e2) _ fun y H3 e3 hy => ⟨i, j, dp_int hu, dp_int hy, q _ H3 (e2.trans e3) (hg H3)⟩
theorem ev_add {ta tb : TE} {i j : Int} (ha : EvD K ta σ H (.int i)) (hb : EvD K tb σ H (.int j)) : EvD K (tOp (rI0 fun i j => .int (i + j)) ta tb) σ H (.int (i + j)) := ev_I ha hb fun _ => .int _
theorem eo_none : EvO tNoPart σ H none := fun H1 _ Q q => q H1 (.refl _)
theorem eo_some {t : TE} {n : Nat} (h : EvD K t σ H (.int ((n : Nat) : Int))) : EvO (tPart t) σ H (some n) := fun H1 x Q q => h H1 x _ fun v H2 e2 hv => ⟨_, dp_int hv, q H2 e2⟩
theorem ev_sl {te : TE} {tl th : TO} {ds : List PyData} {l h : Option Nat} (he : EvD K te σ H (.tuple ds)) (hl : EvO tl σ H l) (hh : EvO th σ H h) : EvD K (tSl (rSlD K) te tl th) σ H (.tuple (cutD ds l h)) := fun H1 x Q q =>
  he H1 x _ fun u H2 e2 hu => hl H2 (x.trans e2) _ fun H3 e3 => hh H3 ((x.trans e2).trans e3) _ fun H4 e4 => ⟨ds, l, h, (hu.ext e3).ext e4, rfl, rfl, fun v H5 e5 hv => q v H5 (((e2.trans e3).trans e4).trans e5) hv⟩
theorem ea_nil : EvA K tNil σ H [] := fun H1 _ Q q => q [] H1 (.refl _) .nil
theorem ea_cons {ta : TE} {tr : TA} {d : PyData} {ds : List PyData} (ha : EvD K ta σ H d) (hr : EvA K tr σ H ds) : EvA K (tCons ta tr) σ H (d :: ds) := fun H1 x Q q =>
  ha H1 x _ fun u H2 e2 hu => hr H2 (x.trans e2) _ fun us H3 e3 hus => q (u :: us) H3 (e2.trans e3) (.cons (hu.ext e3) hus)
theorem ev_tup {t : TA} {ds : List PyData} (h : EvA K t σ H ds) (hl : ds.length ≤ 1000000 := by simp) : EvD K (tTup t) σ H (.tuple ds) := fun H1 x Q q =>
  h H1 x _ fun vs H2 e2 hv => ⟨by rw [da_len hv]; exact line_of hl, fun p np => q _ _ (e2.trans (.new np)) (dp_tupNew upd_same (hv.ext (.new np)))⟩
theorem ev_lst {t : TA} {ds : List PyData} (h : EvA K t σ H ds) (hl : ds.length ≤ 1000000 := by simp) : EvD K (tLst t) σ H (.list ds) := fun H1 x Q q =>
  h H1 x _ fun vs H2 e2 hv => ⟨by rw [da_len hv]; exact line_of hl, fun p np => q _ _ (e2.trans (.new np)) (dp_lstNew upd_same (hv.ext (.new np)))⟩
theorem ev_len {t : TA} {ds : List PyData} (h : EvA K t σ H [.tuple ds]) : EvD K (tCB (rLenD K) t) σ H (.int (ds.length : Nat)) := fun H1 x Q q =>
  h H1 x _ fun vs H2 e2 hv => by
    obtain ⟨v, vs, rfl, h1, h2⟩ := da_cons hv
    rw [da_nil h2]
    exact ⟨v, ds, rfl, .inl h1, q _ H2 e2 (.int _)⟩
theorem ev_lenL {t : TA} {ds : List PyData} (h : EvA K t σ H [.list ds]) : EvD K (tCB (rLenD K) t) σ H (.int (ds.length : Nat)) := fun H1 x Q q =>
  h H1 x _ fun vs H2 e2 hv => by
    obtain ⟨v, vs, rfl, h1, h2⟩ := da_cons hv
    rw [da_nil h2]
    exact ⟨v, ds, rfl, .inr h1, q _ H2 e2 (.int _)⟩
/-- a call of a def that promises data -/
def Gives (K : PySem.W.Frag) (sp : Sp) (H : Hp) (ds : List PyData) (d : PyData) : Prop := ∀ H1, Ext H H1 → ∀ vs, DpAll K H1 vs ds → ∀ (Q : VK) (E : XK), (∀ v H2, Ext H1 H2 → Dp K H2 v d → Q v H2) → sp vs H1 Q E
theorem ev_call {sp : Sp} {E : XK} {t : TA} {ds : List PyData} {d : PyData} (h : EvA K t σ H ds) (g : Gives K sp H ds d) : EvD K (tCall sp [] E t) σ H d := fun H1 x Q q =>
  h H1 x _ fun vs H2 e2 hv => by
    rw [List.append_nil]
    exact g H2 (x.trans e2) vs hv Q E fun v H3 e3 => q v H3 (e2.trans e3)
theorem ev_if {t : TT} {ta tb : TE} {b : Bool} {d : PyData} (h : EvB t σ H b) (h1 : b = true → EvD K ta σ H d) (h2 : b = false → EvD K tb σ H d) : EvD K (tIf t ta tb) σ H d := fun H1 x Q q =>
  h H1 x _ fun H2 e2 => by
    cases b with
    | true => rw [if_pos rfl]; exact h1 rfl H2 (x.trans e2) Q fun v H3 e3 => q v H3 (e2.trans e3)
    | false => rw [if_neg Bool.false_ne_true]; exact h2 rfl H2 (x.trans e2) Q fun v H3 e3 => q v H3 (e2.trans e3)
theorem ev_tuple {ta : TE} {ds : List PyData} (h : EvD K ta σ H (.list ds)) : EvD K (tThen ta (kTup K)) σ H (.tuple ds) := fun H1 x Q q =>
  h H1 x _ fun v H2 e2 hv => by
    obtain ⟨a, xs, rfl, h1, h2⟩ := dp_list hv
    exact .inl ⟨a, xs, rfl, h1, fun p np => q _ _ (e2.trans (.new np)) (dp_tupNew upd_same (h2.ext (.new np)))⟩
theorem ev_tuple' {ta : TE} {ds : List PyData} (h : EvD K ta σ H (.tuple ds)) : EvD K (tThen ta (kTup K)) σ H (.tuple ds) := fun H1 x Q q =>
  h H1 x _ fun v H2 e2 hv => by
    obtain ⟨a, xs, rfl, h1, h2⟩ := dp_tup hv
    exact .inr ⟨a, xs, rfl, h1, q _ _ e2 (.tup h1 h2)⟩
/-! tests -/
theorem eb_cmp {r : R2} {ta tb : TE} {d e : PyData} {b : Bool} (ha : EvD K ta σ H d) (hb : EvD K tb σ H e) (hr : ∀ x y H1 (Q : VK), Ext H H1 → Dp K H1 x d → Dp K H1 y e → Q (.bl b) H1 → r x y H1 Q) : EvB (tTest (tOp r ta tb)) σ H b := fun H1 x Q q =>
  ha H1 x _ fun u H2 e2 hu => hb H2 (x.trans e2) _ fun y H3 e3 hy => hr u y H3 _ ((x.trans e2).trans e3) (hu.ext e3) hy ⟨b, rfl, q H3 (e2.trans e3)⟩
theorem ev_cmp {r : R2} {ta tb : TE} {d e : PyData} {b : Bool} (ha : EvD K ta σ H d) (hb : EvD K tb σ H e) (hr : ∀ x y H1 (Q : VK), Ext H H1 → Dp K H1 x d → Dp K H1 y e → Q (.bl b) H1 → r x y H1 Q) : EvD K (tOp r ta tb) σ H (.bool b) := fun H1 x Q q =>
  ha H1 x _ fun u H2 e2 hu => hb H2 (x.trans e2) _ fun y H3 e3 hy => hr u y H3 _ ((x.trans e2).trans e3) (hu.ext e3) hy (q _ H3 (e2.trans e3) (.bl b))
theorem r_eqS {a b : Str} {x y : V} {H1 : Hp} {Q : VK} (hx : Dp K H1 x (.str a)) (hy : Dp K H1 y (.str b)) (q : Q (.bl (decide (a = b))) H1) : rEq x y H1 Q := by
  rw [dp_str hx, dp_str hy]
  refine ⟨rfl, ?_⟩
  have : decide (V.str a = V.str b) = decide (a = b) := by by_cases h : a = b <;> simp [h]
  rw [this]
  exact q
theorem r_neS {a b : Str} {x y : V} {H1 : Hp} {Q : VK} (hx : Dp K H1 x (.str a)) (hy : Dp K H1 y (.str b)) (q : Q (.bl (!decide (a = b))) H1) : rNe x y H1 Q := by
  rw [dp_str hx, dp_str hy]
  refine ⟨rfl, ?_⟩
  have : decide (V.str a = V.str b) = decide (a = b) := by by_cases h : a = b <;> simp [h]
  rw [this]
  exact q
theorem r_eqI {a b : Int} {x y : V} {H1 : Hp} {Q : VK} (hx : Dp K H1 x (.int a)) (hy : Dp K H1 y (.int b)) (q : Q (.bl (decide (a = b))) H1) : rEq x y H1 Q := by
  rw [dp_int hx, dp_int hy]
  refine ⟨rfl, ?_⟩
  have : decide (V.int a = V.int b) = decide (a = b) := by by_cases h : a = b <;> simp [h]
  rw [this]
  exact q
theorem r_neI {a b : Int} {x y : V} {H1 : Hp} {Q : VK} (hx : Dp K H1 x (.int a)) (hy : Dp K H1 y (.int b)) (q : Q (.bl (!decide (a = b))) H1) : rNe x y H1 Q := by
  rw [dp_int hx, dp_int hy]
  refine ⟨rfl, ?_⟩
  have : decide (V.int a = V.int b) = decide (a = b) := by by_cases h : a = b <;> simp [h]
  rw [this]
  exact q
theorem eb_eqS {ta tb : TE} {a b : Str} (ha : EvD K ta σ H (.str a)) (hb : EvD K tb σ H (.str b)) : EvB (tTest (tOp rEq ta tb)) σ H (decide (a = b)) := eb_cmp ha hb fun _ _ _ _ _ hx hy q => r_eqS hx hy q
theorem eb_neS {ta tb : TE} {a b : Str} (ha : EvD K ta σ H (.str a)) (hb : EvD K tb σ H (.str b)) : EvB (tTest (tOp rNe ta tb)) σ H (!decide (a = b)) := eb_cmp ha hb fun _ _ _ _ _ hx hy q => r_neS hx hy q
theorem eb_eqI {ta tb : TE} {a b : Int} (ha : EvD K ta σ H (.int a)) (hb : EvD K tb σ H (.int b)) : EvB (tTest (tOp rEq ta tb)) σ H (decide (a = b)) := eb_cmp ha hb fun _ _ _ _ _ hx hy q => r_eqI hx hy q
theorem eb_neI {ta tb : TE} {a b : Int} (ha : EvD K ta σ H (.int a)) (hb : EvD K tb σ H (.int b)) : EvB (tTest (tOp rNe ta tb)) σ H (!decide (a = b)) := eb_cmp ha hb fun _ _ _ _ _ hx hy q => r_neI hx hy q
theorem ev_eqS {ta tb : TE} {a b : Str} (ha : EvD K ta σ H (.str a)) (hb : EvD K tb σ H (.str b)) : EvD K (tOp rEq ta tb) σ H (.bool (decide (a = b))) := ev_cmp ha hb fun _ _ _ _ _ hx hy q => r_eqS hx hy q
theorem eb_lt {ta tb : TE} {i j : Int} (ha : EvD K ta σ H (.int i)) (hb : EvD K tb σ H (.int j)) : EvB (tTest (tOp (rI0 fun i j => .bl (decide (i < j))) ta tb)) σ H (decide (i < j)) := eb_cmp ha hb fun _ _ _ _ _ hx hy q => ⟨i, j, dp_int hx, dp_int hy, q⟩
theorem ev_lt {ta tb : TE} {i j : Int} (ha : EvD K ta σ H (.int i)) (hb : EvD K tb σ H (.int j)) : EvD K (tOp (rI0 fun i j => .bl (decide (i < j))) ta tb) σ H (.bool (decide (i < j))) := ev_cmp ha hb fun _ _ _ _ _ hx hy q => ⟨i, j, dp_int hx, dp_int hy, q⟩
/-- n in (n, ..) -/
theorem r_inT {n : Int} {ns : List Int} {x y : V} {H1 : Hp} {Q : VK} (hx : Dp K H1 x (.int n)) (hy : Dp K H1 y (.tuple (ns.map PyData.int))) (q : Q (.bl (decide (n ∈ ns))) H1) : rIn K false x y H1 Q := by
  obtain ⟨a, rfl, h⟩ := dp_ints hy
  rw [dp_int hx]
  exact ⟨a, _, rfl, .inr h, rfl, flat_ints ns, by rw [if_neg Bool.false_ne_true, inV_ints]; exact q⟩
theorem ndec {p : Prop} [Decidable p] (h : ¬ decide p = true) : ¬ p := fun x => h (decide_eq_true x)
theorem pdec {p : Prop} [Decidable p] (h : decide p = true) : p := of_decide_eq_true h
/-- an if as a statement -/
theorem if_go {tc : TT} {t u : TS} {b : Bool} {D : Ends} {H1 : Hp} (h : EvB tc σ H b) (x : Ext H H1) (h1 : b = true → ∀ H2, Ext H H2 → Ext H1 H2 → t D σ H2) (h2 : b = false → ∀ H2, Ext H H2 → Ext H1 H2 → u D σ H2) : tIfS tc t u D σ H1 :=
  h H1 x _ fun H2 e2 => by
    cases b with
    | true => rw [if_pos rfl]; exact h1 rfl H2 (x.trans e2) e2
    | false => rw [if_neg Bool.false_ne_true]; exact h2 rfl H2 (x.trans e2) e2
/-- an item is stored in a slot -/
theorem set_go {te : TE} {i : Nat} {d : PyData} {D : Ends} {H1 : Hp} (h : EvD K te σ H d) (x : Ext H H1) (q : ∀ v H2, Ext H H2 → Ext H1 H2 → Dp K H2 v d → D.nx (σ.set i (some v)) H2) : tAsg te (gName i) D σ H1 :=
  h H1 x _ fun v H2 e2 hv => q v H2 (x.trans e2) e2 hv
theorem ev_not {t : TE} {b : Bool} (h : EvD K t σ H (.bool b)) : EvD K (tNotV t) σ H (.bool (!b)) := fun H1 x Q q => h H1 x _ fun v H2 e2 hv => by
  cases hv
  exact ⟨b, rfl, q _ H2 e2 (.bl _)⟩
theorem eb_val {t : TE} {b : Bool} (h : EvD K t σ H (.bool b)) : EvB (tB t) σ H b := fun H1 x Q q => h H1 x _ fun v H2 e2 hv => by
  cases hv
  exact ⟨b, rfl, q H2 e2⟩
theorem eb_not {t : TT} {b : Bool} (h : EvB t σ H b) : EvB (tNot t) σ H (!b) := fun H1 x Q q => h H1 x _ fun H2 e2 => q H2 e2
theorem eb_and {t u : TT} {b c : Bool} (h : EvB t σ H b) (h2 : b = true → EvB u σ H c) : EvB (tAnd t u) σ H (b && c) := fun H1 x Q q => h H1 x _ fun H2 e2 => by
  cases b with
  | true => rw [if_pos rfl]; exact h2 rfl H2 (x.trans e2) _ fun H3 e3 => q H3 (e2.trans e3)
  | false => rw [if_neg Bool.false_ne_true]; exact q H2 e2
theorem eb_or {t u : TT} {b c : Bool} (h : EvB t σ H b) (h2 : b = false → EvB u σ H c) : EvB (tOr t u) σ H (b || c) := fun H1 x Q q => h H1 x _ fun H2 e2 => by
  cases b with
  | true => rw [if_pos rfl]; exact q H2 e2
  | false => rw [if_neg Bool.false_ne_true]; exact h2 rfl H2 (x.trans e2) _ fun H3 e3 => q H3 (e2.trans e3)
theorem ev_and {t u : TE} {b c : Bool} (h : EvD K t σ H (.bool b)) (h2 : b = true → EvD K u σ H (.bool c)) : EvD K (tAndV t u) σ H (.bool (b && c)) := fun H1 x Q q => h H1 x _ fun v H2 e2 hv => by
  cases hv
  refine ⟨b, rfl, ?_⟩
  cases b with
  | true => rw [if_pos rfl]; exact h2 rfl H2 (x.trans e2) _ fun v H3 e3 => q v H3 (e2.trans e3)
  | false => rw [if_neg Bool.false_ne_true]; exact q _ H2 e2 (.bl _)
theorem ev_inT {ta tb : TE} {n : Int} {ns : List Int} (ha : EvD K ta σ H (.int n)) (hb : EvD K tb σ H (.tuple (ns.map PyData.int))) : EvD K (tOp (rIn K false) ta tb) σ H (.bool (decide (n ∈ ns))) := ev_cmp ha hb fun _ _ _ _ _ hx hy q => r_inT hx hy q
theorem eb_inT {ta tb : TE} {n : Int} {ns : List Int} (ha : EvD K ta σ H (.int n)) (hb : EvD K tb σ H (.tuple (ns.map PyData.int))) : EvB (tTest (tOp (rIn K false) ta tb)) σ H (decide (n ∈ ns)) := eb_cmp ha hb fun _ _ _ _ _ hx hy q => r_inT hx hy q
/-! comprehensions -/
/-- one turn of a comprehension: item i is kept as d (f i = some d) or not -/
def TurnC (K : PySem.W.Frag) (g : TG) (tt : TT) (te : TE) (σ : L2.St) (vs : List Nat) (o : Option PyData) (x : V) (H3 H4 : Hp) : Prop := ∀ (Qy : V → Hp → Prop) (Qn : Hp → Prop), (∀ d, o = some d → ∀ y H7, Ext H3 H7 → Dp K H7 y d → Qy y H7) → (o = none → ∀ H6, Ext H3 H6 → Qn H6) →
  g x (wipe σ vs) H4 fun σ2 H5 => wipe σ2 vs = wipe σ vs ∧ tt σ2 H5 fun b H6 => if b = true then te σ2 H6 Qy else Qn H6
/-- the walk that a comprehension or a for goes -/
def WalkD (wi : TI) (σ : L2.St) (H : Hp) (n : Nat) (Y : Nat → Hp → V → Hp → Prop) : Prop := ∀ H1, Ext H H1 → ∀ R : It → Hp → Prop, (∀ J H2 G, Ext H1 H2 → Walk J n G Y → (∀ H3, Ext H2 H3 → G H3) → R J H2) → wi σ H1 R
theorem ev_lc {wi : TI} {g : TG} {tt : TT} {te : TE} {vs : List Nat} {n : Nat} {Y : Nat → Hp → V → Hp → Prop} (f : Nat → Option PyData) (hw : WalkD wi σ H n Y) (hn : n ≤ 1000000) (hz : ∀ i d, i < n → f i = some d → noL d = true)
    (hb : ∀ i x H3 H4, i < n → Ext H H3 → Y i H3 x H4 → TurnC K g tt te σ vs (f i) x H3 H4) : EvD K (tLc wi g tt te vs) σ H (.list ((List.range n).filterMap f)) := fun H1 x Q q =>
  hw H1 x _ fun J H2 G e2 wk hG D nD => by
    have e0 : Ext H2 (upd H2 D (.lst [])) := .new nD
    refine lc_it wk (fun i H3 => Ext H2 H3 ∧ ∃ acc, H3 D = some (.lst acc) ∧ acc.length ≤ i ∧ DpAll K H3 acc ((List.range i).filterMap f)) ⟨e0, [], upd_same, Nat.le_refl _, .nil⟩ (fun i H3 _ p => hG H3 p.1) (fun i y H3 H4 hi p hy => ?_) fun H3 p => ?_
    · obtain ⟨e3, acc, hD, hl, ha⟩ := p
      have zs : noLs ((List.range i).filterMap f) = true := by
        have : ∀ (l : List Nat), (∀ j ∈ l, j < n) → noLs (l.filterMap f) = true := fun l => by
          induction l with
          | nil => intro _; rfl
          | cons a l ih =>
            intro hl
            rw [List.filterMap_cons]
            cases hf : f a with
            | none => exact ih fun j hj => hl j (List.mem_cons_of_mem _ hj)
            | some d =>
              show noLs (d :: _) = true
              rw [noLs, hz a d (hl a List.mem_cons_self) hf, ih fun j hj => hl j (List.mem_cons_of_mem _ hj)]
              rfl
        exact this _ fun j hj => Nat.lt_trans (List.mem_range.mp hj) hi
      refine hb i y H3 H4 hi ((x.trans e2).trans e3) hy _ _ (fun d hd z H7 e7 hz7 => ?_) (fun hd H6 e6 => ?_)
      · have hD7 := e7.lst hD
        refine ⟨acc, hD7, line_lt (by omega), ?_, acc ++ [z], upd_same, by rw [List.length_append]; show _ + 1 ≤ _; omega, ?_⟩
        · exact (e3.trans e7).mut nD
        · rw [List.range_succ, List.filterMap_append]
          have : List.filterMap f [i] = [d] := by rw [List.filterMap_cons, hd]; rfl
          rw [this]
          exact da_append ((ha.ext e7).extL zs extB_upd ⟨_, hD7⟩) (da_one (hz7.extL (hz i d hi hd) extB_upd ⟨_, hD7⟩))
      · refine ⟨e3.trans e6, acc, e6.lst hD, by omega, ?_⟩
        rw [List.range_succ, List.filterMap_append]
        have : List.filterMap f [i] = [] := by rw [List.filterMap_cons, hd]; rfl
        rw [this, List.append_nil]
        exact ha.ext e6
    · obtain ⟨e3, acc, hD, hl, ha⟩ := p
      exact q _ _ (e2.trans e3) (.lst (.of hD) ha)
/-- what a walk over a tuple gives -/
def YD (K : PySem.W.Frag) (ds : List PyData) : Nat → Hp → V → Hp → Prop := fun i H x H' => H' = H ∧ ∃ d, ds[i]? = some d ∧ Dp K H x d
theorem wd_tup {te : TE} {ds : List PyData} (h : EvD K te σ H (.tuple ds)) : WalkD (iTup K te) σ H ds.length (YD K ds) := fun H1 x R r =>
  h H1 x _ fun v H2 e2 hv => by
    obtain ⟨a, xs, rfl, h1, h2⟩ := dp_tup hv
    have hl := da_len h2
    refine ⟨a, rfl, ⟨xs, h1⟩, r _ H2 (fun H3 => SqT K H3 a xs ∧ DpAll K H3 xs ds) e2 ?_ fun H3 e3 => ⟨e3.seqT h1, h2.ext e3⟩⟩
    have w := walk_tup (K := K) (a := a) (xs := xs)
    rw [hl] at w
    refine w.mono (fun _ z => z.1) fun i H3 y H4 hi hg hy => ⟨hy.1, ?_⟩
    obtain ⟨d, hd, hv⟩ := da_at hg.2 hy.2
    exact ⟨d, hd, hv⟩
theorem wd_list {te : TE} {ds : List PyData} (h : EvD K te σ H (.list ds)) : WalkD (iList K te) σ H ds.length (YD K ds) := fun H1 x R r =>
  h H1 x _ fun v H2 e2 hv => by
    obtain ⟨a, xs, rfl, h1, h2⟩ := dp_list hv
    have hl := da_len h2
    refine ⟨a, rfl, ⟨xs, h1⟩, r _ H2 (fun H3 => SqL K H3 a xs ∧ DpAll K H3 xs ds) e2 ?_ fun H3 e3 => ⟨e3.seqL h1, h2.ext e3⟩⟩
    have w := walk_list (K := K) (a := a) (xs := xs)
    rw [hl] at w
    refine w.mono (fun _ z => z.1) fun i H3 y H4 hi hg hy => ⟨hy.1, ?_⟩
    obtain ⟨d, hd, hv⟩ := da_at hg.2 hy.2
    exact ⟨d, hd, hv⟩
/-- .. over range(n) -/
def YR : Nat → Hp → V → Hp → Prop := fun i H x H' => H' = H ∧ x = .int ((i : Nat) : Int)
theorem wd_range {t : TA} {n : Nat} (h : EvA K t σ H [.int ((n : Nat) : Int)]) (hn : n ≤ 1000000) : WalkD (iRng1 t) σ H n YR := fun H1 x R r =>
  h H1 x _ fun vs H2 e2 hv => by
    obtain ⟨v, vs, rfl, h1, h2⟩ := da_cons hv
    rw [da_nil h2, dp_int h1]
    refine ⟨n, rfl, by omega, by omega, r _ H2 (fun _ => True) e2 ?_ fun _ _ => trivial⟩
    have w := walk_range (lo := 0) (n := ((n : Nat) : Int).toNat)
    rw [Int.toNat_natCast] at w ⊢
    refine w.mono (fun _ _ => trivial) fun i H3 y H4 hi _ hy => ⟨hy.1, ?_⟩
    rw [hy.2]
    simp
/-- a name as the comprehension's target -/
theorem turn_name {i : Nat} {tt : TT} {te : TE} {o : Option PyData} {x : V} {H3 H4 : Hp} (e : H4 = H3) {b : Bool} (hw : wipe ((wipe σ [i]).set i (some x)) [i] = wipe σ [i] := by rfl) (ht : EvB tt ((wipe σ [i]).set i (some x)) H3 b) (h1 : b = true → ∃ d, o = some d ∧ EvD K te ((wipe σ [i]).set i (some x)) H3 d) (h2 : b = false → o = none) : TurnC K (gName i) tt te σ [i] o x H3 H4 := fun Qy Qn qy qn => by
  subst e
  refine ⟨hw, ht _ (.refl _) _ fun H5 e5 => ?_⟩
  cases b with
  | true =>
    rw [if_pos rfl]
    obtain ⟨d, hd, he⟩ := h1 rfl
    exact he H5 e5 _ fun y H7 e7 hy => qy d hd y H7 (e5.trans e7) hy
  | false =>
    rw [if_neg Bool.false_ne_true]
    exact qn (h2 rfl) H5 e5
theorem eb_yes : EvB tYes σ H true := fun H1 _ Q q => q H1 (.refl _)
end
/-! ### a call of a def that an expression gives -/
section
variable {X : Cx} {k : Nat} {S : Addr → Sp → Prop} {fe e : Expr} {es : List Expr} {tf : TE} {t : TA} {pos : Pos}
def tCallF (S : Addr → Sp → Prop) (tf : TE) (t : TA) : TE := fun σ H Q => tf σ H fun y H1 => ∃ f sp, y = .ref f ∧ S f sp ∧ t σ H1 fun vs H2 => sp vs H2 Q C8.E0
theorem pe_callF (A : ∀ f sp, S f sp → C8.CalAt X.prog X.w X.K X.mg X.base k f sp) (hr : Room k X.A) (hf : PE X fe tf) (ha : PA X (e :: es) t)
    (ht : eval (.Call fe (e :: es) [] pos) X.env = (do callWith pos (← eval fe X.env) [] (backTo pos (starEach (e :: es) X.env)) (backToKw pos (keywordEach [] X.env))) := by rfl)
    (he : starEach (e :: es) X.env = (false, eval e X.env) :: starEach es X.env := by rfl) (hpl : (backTo pos (starEach es X.env)).any (·.1) = false := by rfl) : PE X (.Call fe (e :: es) [] pos) (tCallF S tf t) := by
  refine ⟨fun pins s σ H Q I h => ?_⟩
  refine Call_ (thn (hf.run pins s σ H _ I h) fun u s1 ⟨y, H1, I1, ry, f, sp, ey, hS, q⟩ => ?_) ht
  subst ey
  obtain rfl : u = Value.ref f := ry
  obtain ⟨fd, ps, F, hk, hb⟩ := (A f sp hS).ex
  refine PySem.W.callWith_K (h₀ := X.base) I.ok.mod.kin hk (thn (ha.run pos pins s1 σ H1 _ I1 q) fun us s2 ⟨vs, H2, I2, r, q2⟩ => ⟨I2.kIn, ?_⟩) he hpl
  have h2 : sp (vs ++ []) H2 Q C8.E0 := by rw [List.append_nil]; exact q2
  exact run_fn F hr hb .nil (fun _ _ _ _ _ _ _ z => z.elim) I2 r h2
end
end K22

-- H
set_option maxHeartbeats 4000000
/-! Layer H: loops, lists and dicts that change. -/
namespace K22
open PySem PySem.Spec PyProof.Rows L2
section
variable {K : PySem.W.Frag} {σ : L2.St} {H : Hp}

/-- its value is told by the reading alone: it stands in every part of the heap that has what it is made of -/
def EvS (K : PySem.W.Frag) (t : TE) (σ : L2.St) (H : Hp) (d : PyData) : Prop := ∀ H1, Ext H H1 → ∀ Q : VK, (∀ v, Dp K H v d → Q v H1) → t σ H1 Q
theorem EvS.ev {t : TE} {d : PyData} (h : EvS K t σ H d) : EvD K t σ H d := fun H1 x Q q => h H1 x Q fun v hv => q v H1 (.refl _) (hv.ext x)
theorem EvS.mono {t : TE} {d : PyData} {H' : Hp} (h : EvS K t σ H d) (e : Ext H H') : EvS K t σ H' d := fun H1 x Q q => h H1 (e.trans x) Q fun v hv => q v (hv.ext e)
theorem es_var {i : Nat} {v : V} {d : PyData} (e : σ[i]? = some (some v)) (h : Dp K H v d) : EvS K (tVar i) σ H d := fun H1 x Q q => ⟨v, e, q v h⟩
theorem es_int {i : Int} : EvS K (tC (.int i)) σ H (.int i) := fun H1 _ Q q => q _ (.int i)
theorem es_ix {ta tb : TE} {ds : List PyData} {i : Nat} {d : PyData} (ha : EvS K ta σ H (.tuple ds)) (hb : EvS K tb σ H (.int ((i : Nat) : Int))) (e : ds[i]? = some d) : EvS K (tOp (rIxD' K) ta tb) σ H d := fun H1 x Q q =>
  ha H1 x _ fun u hu => hb H1 x _ fun y hy => .inl ⟨ds, i, d, hu.ext x, dp_int hy, e, fun v _ hv => q v (hv H x hu)⟩
theorem es_ixL {ta tb : TE} {ds : List PyData} {i : Nat} {d : PyData} (ha : EvS K ta σ H (.list ds)) (hb : EvS K tb σ H (.int ((i : Nat) : Int))) (e : ds[i]? = some d) : EvS K (tOp (rIxD' K) ta tb) σ H d := fun H1 x Q q =>
  ha H1 x _ fun u hu => hb H1 x _ fun y hy => .inr ⟨ds, i, d, hu.ext x, dp_int hy, e, fun v _ hv => q v (hv H x hu)⟩
/-- a walk over what stands in H -/
def WalkS (wi : TI) (σ : L2.St) (H : Hp) (n : Nat) (Y : Nat → Hp → V → Hp → Prop) : Prop := ∀ H1, Ext H H1 → ∀ R : It → Hp → Prop, (∀ J G, Walk J n G Y → (∀ H3, Ext H H3 → G H3) → R J H1) → wi σ H1 R
theorem ws_tup {te : TE} {ds : List PyData} (h : EvS K te σ H (.tuple ds)) : WalkS (iTup K te) σ H ds.length (YD K ds) := fun H1 x R r =>
  h H1 x _ fun v hv => by
    obtain ⟨a, xs, rfl, h1, h2⟩ := dp_tup hv
    have hl := da_len h2
    refine ⟨a, rfl, ⟨xs, x.seqT h1⟩, r _ (fun H3 => SqT K H3 a xs ∧ DpAll K H3 xs ds) ?_ fun H3 e3 => ⟨e3.seqT h1, h2.ext e3⟩⟩
    have w := walk_tup (K := K) (a := a) (xs := xs)
    rw [hl] at w
    refine w.mono (fun _ z => z.1) fun i H3 y H4 hi hg hy => ⟨hy.1, ?_⟩
    obtain ⟨d, hd, hv⟩ := da_at hg.2 hy.2
    exact ⟨d, hd, hv⟩
theorem ws_list {te : TE} {ds : List PyData} (h : EvS K te σ H (.list ds)) : WalkS (iList K te) σ H ds.length (YD K ds) := fun H1 x R r =>
  h H1 x _ fun v hv => by
    obtain ⟨a, xs, rfl, h1, h2⟩ := dp_list hv
    have hl := da_len h2
    refine ⟨a, rfl, ⟨xs, x.seqL h1⟩, r _ (fun H3 => SqL K H3 a xs ∧ DpAll K H3 xs ds) ?_ fun H3 e3 => ⟨e3.seqL h1, h2.ext e3⟩⟩
    have w := walk_list (K := K) (a := a) (xs := xs)
    rw [hl] at w
    refine w.mono (fun _ z => z.1) fun i H3 y H4 hi hg hy => ⟨hy.1, ?_⟩
    obtain ⟨d, hd, hv⟩ := da_at hg.2 hy.2
    exact ⟨d, hd, hv⟩
/-- the i-th in a new pair with i -/
def YE (K : PySem.W.Frag) (ds : List PyData) : Nat → Hp → V → Hp → Prop := fun i H x H' => ∃ T y d, x = .ref T ∧ H T = none ∧ H' = upd H T (.tup [.int (i : Nat), y]) ∧ ds[i]? = some d ∧ Dp K H y d
theorem ws_enum {t : TE} {ds : List PyData} (h : EvS K t σ H (.tuple ds)) : WalkS (iEnumT K (tCons t tNil)) σ H ds.length (YE K ds) := fun H1 x R r =>
  h H1 x _ fun v hv => by
    obtain ⟨a, xs, rfl, h1, h2⟩ := dp_tup hv
    have hl := da_len h2
    refine ⟨a, xs, rfl, x.seqT h1, r _ (fun H3 => SqT K H3 a xs ∧ DpAll K H3 xs ds) ?_ fun H3 e3 => ⟨e3.seqT h1, h2.ext e3⟩⟩
    have w := walk_enumT (K := K) (a := a) (xs := xs)
    rw [hl] at w
    refine w.mono (fun _ z => z.1) fun i H3 y H4 hi hg hy => ?_
    obtain ⟨T, z, y', e1, e2, e3, e4, e5⟩ := hy
    cases e4
    obtain ⟨d, hd, hv⟩ := da_at hg.2 e5
    exact ⟨T, y', d, e1, e2, e3, hd, hv⟩
theorem ws_range {t : TE} {n : Nat} (h : EvS K t σ H (.int ((n : Nat) : Int))) (hn : n ≤ 1000000) : WalkS (iRng1 (tCons t tNil)) σ H n YR := fun H1 x R r =>
  h H1 x _ fun v hv => by
    rw [dp_int hv]
    refine ⟨n, rfl, by omega, by omega, r _ (fun _ => True) ?_ fun _ _ => trivial⟩
    have w := walk_range (lo := 0) (n := ((n : Nat) : Int).toNat)
    rw [Int.toNat_natCast] at w ⊢
    refine w.mono (fun _ _ => trivial) fun i H3 y H4 hi _ hy => ⟨hy.1, ?_⟩
    rw [hy.2]
    simp
/-- a for over what stands in H, while other things change -/
theorem for_go {wi : TI} {g : TG} {tb : TS} {D : Ends} {H1 : Hp} {n : Nat} {Y : Nat → Hp → V → Hp → Prop} (hw : WalkS wi σ H n Y) (x : Ext H H1) (Pv : Nat → L2.St → Hp → Prop) (h0 : Pv 0 σ H1) (hE : ∀ i σ' H', i ≤ n → Pv i σ' H' → Ext H H')
    (hs : ∀ i y σ' H3 H4, i < n → Pv i σ' H3 → Y i H3 y H4 → g y σ' H4 fun σ2 H2 => tb { D with nx := Pv (i + 1), ct := Pv (i + 1), bk := D.nx } σ2 H2) (hd : ∀ σ' H', Pv n σ' H' → D.nx σ' H') : tFor wi g tb D σ H1 :=
  hw H1 x _ fun J G wk hG => for_it wk Pv h0 (fun i σ' H' hi p => hG H' (hE i σ' H' hi p)) (fun i y σ' H3 H4 hi p hy => hs i y σ' H3 H4 hi p hy) hd
/-- xs.append(e) as a statement -/
theorem app_go {te : TE} {i : Nat} {a : Addr} {xs : List V} {d : PyData} {D : Ends} (hs : σ[i]? = some (some (.ref a))) (ha : H a = some (.lst xs)) (hl : xs.length < 1000000) (he : EvD K te σ H d) (q : ∀ v H2, Ext H H2 → Dp K H2 v d → H2 a = some (.lst xs) → D.nx σ (upd H2 a (.lst (xs ++ [v])))) :
    tDrop (tBM K "list" rAppend (tVar i) (tCons te tNil)) D σ H :=
  ⟨.ref a, hs, .inl ⟨rfl, xs, .of ha⟩, he.go fun v H2 e hv => ⟨a, xs, v, rfl, rfl, e.lst ha, line_lt (by omega), q v H2 e hv (e.lst ha)⟩⟩
theorem ev_dget {ty : TE} {i : Nat} {a : Addr} {kvs : List (Key × V)} {k : Key} {v : V} {d : PyData} (hs : σ[i]? = some (some (.ref a))) (ha : H a = some (.dK kvs)) (hy : ∀ H1, Ext H H1 → ∀ Q : VK, (∀ H2, Ext H1 H2 → Q (kV k) H2) → ty σ H1 Q) (hk : valV kvs k = some v) (hv : Dp K H v d) : EvD K (tDGet (tVar i) ty) σ H d := fun H1 x Q q =>
  ⟨.ref a, hs, hy H1 x _ fun H2 e2 => ⟨a, v, rfl, by rw [← hk]; exact DGet.k ((x.trans e2).dK ha), q v H2 e2 (hv.ext (x.trans e2))⟩⟩
theorem key_str {t : TE} {s : Str} (h : EvD K t σ H (.str s)) : ∀ H1, Ext H H1 → ∀ Q : VK, (∀ H2, Ext H1 H2 → Q (kV (.inr s)) H2) → t σ H1 Q := fun H1 x Q q => h H1 x _ fun v H2 e hv => by
  rw [dp_str hv]
  exact q H2 e
theorem key_int {t : TE} {i : Int} (h : EvD K t σ H (.int i)) : ∀ H1, Ext H H1 → ∀ Q : VK, (∀ H2, Ext H1 H2 → Q (kV (.inl i)) H2) → t σ H1 Q := fun H1 x Q q => h H1 x _ fun v H2 e hv => by
  rw [dp_int hv]
  exact q H2 e
/-- d[k] = v -/
theorem dput_go {ty tv : TE} {i : Nat} {a : Addr} {kvs : List (Key × V)} {k : Key} {d : PyData} {D : Ends} (hs : σ[i]? = some (some (.ref a))) (ha : H a = some (.dK kvs)) (hl : kvs.length < 1000000) (hv : EvD K tv σ H d) (hy : ∀ H1, Ext H H1 → ∀ Q : VK, (∀ H2, Ext H1 H2 → Q (kV k) H2) → ty σ H1 Q)
    (q : ∀ v H2, Ext H H2 → Dp K H2 v d → H2 a = some (.dK kvs) → D.nx σ (upd H2 a (.dK (putK kvs k v)))) : sDPut (tVar i) ty tv D σ H :=
  hv.go fun v H2 e hv => ⟨.ref a, hs, hy H2 e _ fun H3 e3 => ⟨a, _, rfl, DPut.k ((e.trans e3).dK ha) (line_lt (by omega)), q v H3 (e.trans e3) (hv.ext e3) ((e.trans e3).dK ha)⟩⟩
/-- .. and whether k is in d -/
theorem eb_din {ty : TE} {i : Nat} {a : Addr} {kvs : List (Key × V)} {k : Key} (hs : σ[i]? = some (some (.ref a))) (ha : H a = some (.dK kvs)) (hy : ∀ H1, Ext H H1 → ∀ Q : VK, (∀ H2, Ext H1 H2 → Q (kV k) H2) → ty σ H1 Q) : EvB (tB (tDIn ty (tVar i))) σ H (valV kvs k).isSome := fun H1 x Q q =>
  hy H1 x _ fun H2 e2 => ⟨.ref a, hs, a, _, rfl, DGet.k ((x.trans e2).dK ha), _, rfl, q H2 e2⟩
theorem eb_dnotin {ty : TE} {i : Nat} {a : Addr} {kvs : List (Key × V)} {k : Key} (hs : σ[i]? = some (some (.ref a))) (ha : H a = some (.dK kvs)) (hy : ∀ H1, Ext H H1 → ∀ Q : VK, (∀ H2, Ext H1 H2 → Q (kV k) H2) → ty σ H1 Q) : EvB (tB (tDNotIn ty (tVar i))) σ H (!(valV kvs k).isSome) := fun H1 x Q q =>
  hy H1 x _ fun H2 e2 => ⟨.ref a, hs, a, _, rfl, DGet.k ((x.trans e2).dK ha), _, rfl, q H2 e2⟩
/-- two names as the target -/
theorem turn_pair {i j : Nat} {tt : TT} {te : TE} {o : Option PyData} {T : Addr} {y z : V} {H3 H4 : Hp} (hT : H3 T = none) (e : H4 = upd H3 T (.tup [y, z])) {b : Bool} (hw : wipe (((wipe σ [i, j]).set i (some y)).set j (some z)) [i, j] = wipe σ [i, j] := by rfl)
    (ht : EvB tt (((wipe σ [i, j]).set i (some y)).set j (some z)) H3 b) (h1 : b = true → ∃ d, o = some d ∧ EvD K te (((wipe σ [i, j]).set i (some y)).set j (some z)) H3 d) (h2 : b = false → o = none) : TurnC K (gTup K 2 (gCons (gName i) (gCons (gName j) gNil))) tt te σ [i, j] o (.ref T) H3 H4 := fun Qy Qn qy qn => by
  subst e
  refine ⟨T, _, rfl, .of upd_same, rfl, _, _, rfl, _, _, rfl, rfl, hw, ht _ (.new hT) _ fun H5 e5 => ?_⟩
  have x5 : Ext H3 H5 := (Ext.new hT).trans e5
  cases b with
  | true =>
    rw [if_pos rfl]
    obtain ⟨d, hd, he⟩ := h1 rfl
    exact he H5 x5 _ fun y H7 e7 hy => qy d hd y H7 (x5.trans e7) hy
  | false =>
    rw [if_neg Bool.false_ne_true]
    exact qn (h2 rfl) H5 x5
theorem fmr {α β : Type} (f : α → Option β) : ∀ l : List α, (List.range l.length).filterMap (fun i => (l[i]?).bind f) = l.filterMap f
  | [] => rfl
  | a :: l => by
    rw [List.length_cons, List.range_succ_eq_map, List.filterMap_cons, List.filterMap_map, List.filterMap_cons]
    have e : ((fun i => ((a :: l)[i]?).bind f) ∘ Nat.succ) = fun i => (l[i]?).bind f := by funext i; simp
    have e0 : ((a :: l)[0]?).bind f = f a := rfl
    rw [e, fmr f l, e0]
theorem dp_intsL' {v : V} {ns : List Nat} (h : Dp K H v (.list (ns.map fun n => PyData.int ((n : Nat) : Int)))) : ∃ a, v = .ref a ∧ SqL K H a ((ns.map fun n => ((n : Nat) : Int)).map V.int) := by
  have e : (ns.map fun n => PyData.int ((n : Nat) : Int)) = (ns.map fun n => ((n : Nat) : Int)).map PyData.int := by rw [List.map_map]; rfl
  rw [e] at h
  exact dp_intsL h
theorem mem_cast {n : Nat} {ns : List Nat} : ((n : Nat) : Int) ∈ (ns.map fun n => ((n : Nat) : Int)) ↔ n ∈ ns := by
  rw [List.mem_map]
  constructor
  · rintro ⟨m, hm, e⟩
    have : m = n := by omega
    rw [← this]; exact hm
  · intro h
    exact ⟨n, h, rfl⟩
/-- n in [n, ..], n not in [n, ..] -/
theorem r_inL {n : Nat} {ns : List Nat} {neg : Bool} {x y : V} {H1 : Hp} {Q : VK} (hx : Dp K H1 x (.int ((n : Nat) : Int))) (hy : Dp K H1 y (.list (ns.map fun n => PyData.int ((n : Nat) : Int)))) (q : Q (.bl (if neg = true then !decide (n ∈ ns) else decide (n ∈ ns))) H1) : rIn K neg x y H1 Q := by
  obtain ⟨a, rfl, h⟩ := dp_intsL' hy
  rw [dp_int hx]
  refine ⟨a, _, rfl, .inl h, rfl, flat_ints _, ?_⟩
  rw [inV_ints]
  have e : decide (((n : Nat) : Int) ∈ (ns.map fun n => ((n : Nat) : Int))) = decide (n ∈ ns) := decide_eq_decide.mpr mem_cast
  rw [e]
  exact q
theorem eb_inL {ta tb : TE} {n : Nat} {ns : List Nat} (ha : EvD K ta σ H (.int ((n : Nat) : Int))) (hb : EvD K tb σ H (.list (ns.map fun n => PyData.int ((n : Nat) : Int)))) : EvB (tTest (tOp (rIn K false) ta tb)) σ H (decide (n ∈ ns)) := eb_cmp ha hb fun _ _ _ _ _ hx hy q => r_inL (neg := false) hx hy q
theorem eb_notInL {ta tb : TE} {n : Nat} {ns : List Nat} (ha : EvD K ta σ H (.int ((n : Nat) : Int))) (hb : EvD K tb σ H (.list (ns.map fun n => PyData.int ((n : Nat) : Int)))) : EvB (tTest (tOp (rIn K true) ta tb)) σ H (!decide (n ∈ ns)) := eb_cmp ha hb fun _ _ _ _ _ hx hy q => r_inL (neg := true) hx hy q
theorem wd_of {wi : TI} {n : Nat} {Y : Nat → Hp → V → Hp → Prop} (h : WalkS wi σ H n Y) : WalkD wi σ H n Y := fun H1 x R r => h H1 x R fun J G wk hG => r J H1 G (.refl _) wk fun H3 e3 => hG H3 (x.trans e3)
/-! more readings -/
def isN : PyData → Bool
  | .none => true
  | _ => false
theorem isN_of {v : V} {d : PyData} (h : Dp K H v d) : decide (v = .non) = isN d := by
  cases h <;> simp [isN]
theorem ev_isN {t : TE} {d : PyData} (h : EvD K t σ H d) : EvD K (tIsN t) σ H (.bool (isN d)) := fun H1 x Q q => h H1 x _ fun v H2 e2 hv => by
  rw [isN_of hv]
  exact q _ H2 e2 (.bl _)
theorem ev_notN {t : TE} {d : PyData} (h : EvD K t σ H d) : EvD K (tNotN t) σ H (.bool (!isN d)) := fun H1 x Q q => h H1 x _ fun v H2 e2 hv => by
  rw [isN_of hv]
  exact q _ H2 e2 (.bl _)
/-- two names get the parts of a pair -/
theorem asg_pair {te : TE} {i j : Nat} {d1 d2 : PyData} {D : Ends} {H1 : Hp} (h : EvD K te σ H (.tuple [d1, d2])) (x : Ext H H1) (q : ∀ y z H2, Ext H H2 → Ext H1 H2 → Dp K H2 y d1 → Dp K H2 z d2 → D.nx ((σ.set i (some y)).set j (some z)) H2) : tAsg te (gTup K 2 (gCons (gName i) (gCons (gName j) gNil))) D σ H1 :=
  h H1 x _ fun v H2 e2 hv => by
    obtain ⟨a, xs, rfl, h1, h2⟩ := dp_tup hv
    obtain ⟨y, xs, rfl, h3, h2⟩ := da_cons h2
    obtain ⟨z, xs, rfl, h4, h2⟩ := da_cons h2
    have := da_nil h2
    subst this
    exact ⟨a, _, rfl, h1, rfl, y, _, rfl, z, _, rfl, rfl, q y z H2 (x.trans e2) e2 h3 h4⟩
/-- a pair of data as a comprehension's item -/
theorem turn_pairD {i j : Nat} {tt : TT} {te : TE} {o : Option PyData} {x : V} {d1 d2 : PyData} {H3 H4 : Hp} (e : H4 = H3) (hx : Dp K H3 x (.tuple [d1, d2])) {b : Bool} (hw : ∀ y z, wipe (((wipe σ [i, j]).set i (some y)).set j (some z)) [i, j] = wipe σ [i, j])
    (ht : ∀ y z, Dp K H3 y d1 → Dp K H3 z d2 → EvB tt (((wipe σ [i, j]).set i (some y)).set j (some z)) H3 b) (h1 : b = true → ∃ d, o = some d ∧ ∀ y z, Dp K H3 y d1 → Dp K H3 z d2 → EvD K te (((wipe σ [i, j]).set i (some y)).set j (some z)) H3 d) (h2 : b = false → o = none) : TurnC K (gTup K 2 (gCons (gName i) (gCons (gName j) gNil))) tt te σ [i, j] o x H3 H4 := fun Qy Qn qy qn => by
  subst e
  obtain ⟨a, xs, rfl, k1, k2⟩ := dp_tup hx
  obtain ⟨y, xs, rfl, k3, k2⟩ := da_cons k2
  obtain ⟨z, xs, rfl, k4, k2⟩ := da_cons k2
  have := da_nil k2
  subst this
  refine ⟨a, _, rfl, k1, rfl, _, _, rfl, _, _, rfl, rfl, hw y z, ht y z k3 k4 _ (.refl _) _ fun H5 e5 => ?_⟩
  cases b with
  | true =>
    rw [if_pos rfl]
    obtain ⟨d, hd, he⟩ := h1 rfl
    exact he y z k3 k4 H5 e5 _ fun y H7 e7 hy => qy d hd y H7 (e5.trans e7) hy
  | false =>
    rw [if_neg Bool.false_ne_true]
    exact qn (h2 rfl) H5 e5
theorem da_strs : ∀ {ns : List Str} {vs : List V}, DpAll K H vs (ns.map PyData.str) → vs = ns.map V.str
  | [], vs, h => da_nil h
  | n :: ns, vs, h => by
    obtain ⟨x, xs, rfl, h1, h2⟩ := da_cons h
    rw [dp_str h1, da_strs h2]
    rfl
/-- names.index(n) -/
theorem ev_index {tn te : TE} {ns : List Str} {n : Str} (hn : EvD K tn σ H (.list (ns.map PyData.str))) (he : EvD K te σ H (.str n)) (hm : n ∈ ns) (hb : ∀ (m : Nat) y, m < ns.idxOf n → ns[m]? = some y → y ≠ n) : EvD K (tBM K "list" (rIndex K) tn (tCons te tNil)) σ H (.int ((ns.idxOf n : Nat) : Int)) := fun H1 x Q q =>
  hn H1 x _ fun u H2 e2 hu => by
    obtain ⟨a, xs, rfl, h1, h2⟩ := dp_list hu
    have ex := da_strs h2
    subst ex
    refine ⟨.inl ⟨rfl, _, h1⟩, he H2 (x.trans e2) _ fun v H3 e3 hv => ?_⟩
    rw [dp_str hv]
    have hl := List.idxOf_lt_length_of_mem hm
    have hg : ns[ns.idxOf n]? = some n := by rw [List.getElem?_eq_getElem hl, List.getElem_idxOf]
    refine ⟨a, ns.map V.str, .str n, ns.idxOf n, .str n, rfl, rfl, e3.seqL h1, rfl, flat_strs ns, by rw [List.getElem?_map, hg]; rfl, ?_, fun m z hm' hz => ?_, q _ H3 (e2.trans e3) (.int _)⟩
    · show decide (n = n) = true
      exact decide_eq_true rfl
    · rw [List.getElem?_map] at hz
      obtain ⟨y, hy, rfl⟩ := Option.map_eq_some_iff.mp hz
      show decide (y = n) = false
      exact decide_eq_false (hb m y hm' hy)
end
end K22

-- I
set_option maxHeartbeats 4000000
/-! Layer I: all(..) by data. -/
namespace K22
open PySem PySem.Spec PyProof.Rows L2
section
variable {K : PySem.W.Frag} {σ : L2.St} {H : Hp}
theorem tabbed_ext {P : Addr} {H1 H2 : Hp} (t : TabG H1 P) (h : GxR.Tabbed P H1 H2) : Ext H1 H2 := fun b o e => by
  by_cases hb : b = P
  · subst hb
    obtain ⟨ps, h1, t1⟩ := t
    obtain ⟨ps', h2, t2⟩ := h.1
    rw [h1] at e
    cases e
    exact .inr ⟨ps, ps', rfl, h2, fun _ => t2⟩
  · rw [← h.2 b hb] at e
    exact .inl e
theorem ev_all {P : Addr} {wi : TI} {j n : Nat} {tt : TT} {te : TE} {Y : Nat → Hp → V → Hp → Prop} (f : Nat → Bool) (hT : TabG H P) (hw : WalkD wi σ H n Y)
    (hb : ∀ i x H3 H4, i < n → Ext H H3 → Y i H3 x H4 → Ext H3 H4 ∧ ∃ c d, EvB tt ((σ.set j none).set j (some x)) H4 c ∧ (c = true → EvD K te ((σ.set j none).set j (some x)) H4 (.bool d)) ∧ f i = (!c || d)) :
    EvD K (tAllG P wi j tt te) σ H (.bool ((List.range n).all f)) := fun H1 x Q q =>
  hw H1 x _ fun J H2 G e2 wk hG => by
    have t2 : TabG H2 P := hT.ext (x.trans e2)
    refine ⟨t2, n, fun i H' => Ext H2 H' ∧ i ≤ n ∧ (List.range i).all f = true, fun H3 h3 => ⟨tabbed_ext t2 h3, Nat.zero_le _, rfl⟩, fun i H' hW => ?_⟩
    obtain ⟨e3, hi, hall⟩ := hW
    by_cases hlt : i < n
    · refine .inr ⟨hlt, wk.goes i H' hlt (hG H' e3), fun v H4 hy => ?_⟩
      obtain ⟨x4, c, d, h1, h2, hf⟩ := hb i v H' H4 hlt ((x.trans e2).trans e3) (wk.yields i H' v H4 hlt (hG H' e3) hy)
      have hnext : ∀ b, f i = b → (List.range (i + 1)).all f = b := fun b hb => by
        rw [List.range_succ, List.all_append, hall, List.all_cons, List.all_nil, hb]
        simp
      refine h1 H4 (.refl _) _ fun H5 e5 => ?_
      cases c with
      | false =>
        rw [if_neg Bool.false_ne_true]
        exact ⟨(e3.trans x4).trans e5, hlt, hnext true (by rw [hf]; rfl)⟩
      | true =>
        rw [if_pos rfl]
        refine h2 rfl H5 e5 _ fun y H6 e6 hy6 => ?_
        cases hy6
        refine ⟨d, rfl, ?_⟩
        cases d with
        | true =>
          rw [if_pos rfl]
          exact ⟨((e3.trans x4).trans e5).trans e6, hlt, hnext true (by rw [hf]; rfl)⟩
        | false =>
          rw [if_neg Bool.false_ne_true]
          have hF : (List.range n).all f = false := by
            rw [List.all_eq_false]
            exact ⟨i, List.mem_range.mpr hlt, by rw [hf]; simp⟩
          rw [hF] at q
          exact q _ H6 ((((e2.trans e3).trans x4).trans e5).trans e6) (.bl _)
    · have e : i = n := by omega
      subst e
      rw [hall] at q
      exact .inl ⟨wk.stops H' (hG H' e3), q _ H' (e2.trans e3) (.bl _)⟩
theorem nats_ints (l : List Nat) : (l.map fun n => PyData.int ((n : Nat) : Int)) = (l.map fun n => ((n : Nat) : Int)).map PyData.int := by rw [List.map_map]; rfl
theorem ev_inN {ta tb : TE} {n : Nat} {ns : List Nat} (ha : EvD K ta σ H (.int ((n : Nat) : Int))) (hb : EvD K tb σ H (.tuple (ns.map fun n => PyData.int ((n : Nat) : Int)))) : EvD K (tOp (rIn K false) ta tb) σ H (.bool (decide (n ∈ ns))) := by
  rw [nats_ints] at hb
  have e : decide (((n : Nat) : Int) ∈ (ns.map fun n => ((n : Nat) : Int))) = decide (n ∈ ns) := decide_eq_decide.mpr mem_cast
  rw [← e]
  exact ev_inT ha hb
theorem eb_inN {ta tb : TE} {n : Nat} {ns : List Nat} (ha : EvD K ta σ H (.int ((n : Nat) : Int))) (hb : EvD K tb σ H (.tuple (ns.map fun n => PyData.int ((n : Nat) : Int)))) : EvB (tTest (tOp (rIn K false) ta tb)) σ H (decide (n ∈ ns)) := by
  rw [nats_ints] at hb
  have e : decide (((n : Nat) : Int) ∈ (ns.map fun n => ((n : Nat) : Int))) = decide (n ∈ ns) := decide_eq_decide.mpr mem_cast
  rw [← e]
  exact eb_inT ha hb
end
end K22

-- M
set_option maxHeartbeats 4000000
/-! The mirror: what the program computes, in plain Lean. -/
namespace K22
open PySem

abbrev KeyR := Sum Int Str
inductive Kd where | reg | cnt | set | que
deriving DecidableEq
def Kd.str : Kd → Str
  | .reg => "register" | .cnt => "counter" | .set => "set" | .que => "queue"
inductive Stt where | num (i : Int) | seq (l : List Int)
deriving DecidableEq
def Kd.first : Kd → Stt
  | .reg => .num 0 | .cnt => .num 0 | .set => .seq [] | .que => .seq []
inductive Ev where
  | call (c n o : Str) (a : List Int)
  | ret (c : Str) (r : KeyR)
structure Op where
  c : Str
  n : Str
  o : Str
  a : List Int
  r : Option KeyR
  called : Nat
  ret : Option Nat
structure Hist where
  objs : List (Str × Kd)
  evs : List Ev
inductive Mdl where | real | client
deriving DecidableEq
def Mdl.str : Mdl → Str
  | .real => "real" | .client => "client"

/-! ### as data -/
@[reducible] def dKey : KeyR → PyData
  | .inl i => .int i
  | .inr s => .str s
@[reducible] def dInts (l : List Int) : PyData := .tuple (l.map PyData.int)
@[reducible] def dNats (l : List Nat) : PyData := .tuple (l.map fun n => PyData.int ((n : Nat) : Int))
@[reducible] def dStt : Stt → PyData
  | .num i => .int i
  | .seq l => dInts l
@[reducible] def dStts (l : List Stt) : PyData := .tuple (l.map dStt)
@[reducible] def dEv : Ev → PyData
  | .call c n o a => .tuple [.str "call", .str c, .str n, .str o, dInts a]
  | .ret c r => .tuple [.str "return", .str c, dKey r]
@[reducible] def dOKey : Option KeyR → PyData
  | none => .none
  | some r => dKey r
@[reducible] def dONat : Option Nat → PyData
  | none => .none
  | some n => .int ((n : Nat) : Int)
@[reducible] def dOp (p : Op) : PyData := .tuple [.str p.c, .str p.n, .str p.o, dInts p.a, dOKey p.r, .int ((p.called : Nat) : Int), dONat p.ret]
@[reducible] def dOps (l : List Op) : PyData := .list (l.map dOp)
@[reducible] def dObj (x : Str × Kd) : PyData := .tuple [.str x.1, .str x.2.str]
@[reducible] def dObjs (l : List (Str × Kd)) : PyData := .tuple (l.map dObj)
@[reducible] def dEvs (l : List Ev) : PyData := .tuple (l.map dEv)
@[reducible] def dHist (h : Hist) : PyData := .tuple [dObjs h.objs, dEvs h.evs]

/-! ### objects -/
def sOk : KeyR := .inr "ok"
def yn (b : Bool) : KeyR := .inr (if b then "yes" else "no")
def insS (l : List Int) (v : Int) : List Int := [0, 1, 2, 3].filter fun k => decide (k ∈ l ∨ k = v)
def stepR (s : Int) (o : Str) (a : List Int) : Stt × KeyR :=
  if o = "write" then (.num (a.getD 0 0), sOk) else if o = "read" then (.num s, .inl s) else if s = a.getD 0 0 then (.num (a.getD 1 0), yn true) else (.num s, yn false)
def stepC (s : Int) (o : Str) (a : List Int) : Stt × KeyR := if o = "add" then (.num (s + a.getD 0 0), sOk) else (.num s, .inl s)
def stepS (l : List Int) (o : Str) (a : List Int) : Stt × KeyR :=
  if o = "insert" then (.seq (insS l (a.getD 0 0)), yn (!decide (a.getD 0 0 ∈ l))) else if o = "remove" then (.seq (l.filter fun k => decide (k ≠ a.getD 0 0)), yn (decide (a.getD 0 0 ∈ l))) else (.seq l, yn (decide (a.getD 0 0 ∈ l)))
def stepQ (l : List Int) (o : Str) (a : List Int) : Stt × KeyR :=
  if o = "put" then (.seq (l ++ [a.getD 0 0]), sOk) else match l with
    | [] => (.seq [], .inr "empty")
    | x :: t => (.seq t, .inl x)
def stepM : Kd → Stt → Str → List Int → Stt × KeyR
  | .reg, .num i, o, a => stepR i o a
  | .cnt, .num i, o, a => stepC i o a
  | .set, .seq l, o, a => stepS l o a
  | .que, .seq l, o, a => stepQ l o a
  | _, s, _, _ => (s, sOk)
/-- a state of the kind, after at most b steps -/
def StOk (b : Nat) : Kd → Stt → Prop
  | .reg, .num _ => True
  | .cnt, .num _ => True
  | .set, .seq l => (∀ k ∈ l, 0 ≤ k ∧ k < 4) ∧ l.length ≤ 4
  | .que, .seq l => l.length ≤ b
  | _, _ => False
/-- how many arguments a word takes -/
def need (kd : Kd) (o : Str) : Option Nat := match kd with
  | .reg => if o = "write" then some 1 else if o = "read" then some 0 else if o = "swap" then some 2 else none
  | .cnt => if o = "add" then some 1 else if o = "get" then some 0 else none
  | .set => if o = "insert" then some 1 else if o = "remove" then some 1 else if o = "has" then some 1 else none
  | .que => if o = "put" then some 1 else if o = "take" then some 0 else none
def OpOk (kd : Kd) (o : Str) (a : List Int) : Prop := need kd o = some a.length ∧ ∀ x ∈ a, 0 ≤ x ∧ x < 4

/-! ### histories -/
structure Sg where
  ops : List Op
  w : Str → Option Nat
  opn : Str → Bool
  p : Nat
def Sg.step (s : Sg) : Ev → Sg
  | .call c n o a => ⟨s.ops ++ [⟨c, n, o, a, none, s.p, none⟩], fun x => if x = c then some s.ops.length else s.w x, fun x => if x = c then true else s.opn x, s.p + 1⟩
  | .ret c r => ⟨s.ops.modify ((s.w c).getD 0) (fun op => { op with r := some r, ret := some s.p }), s.w, fun x => if x = c then false else s.opn x, s.p + 1⟩
def sg0 : Sg := ⟨[], fun _ => none, fun _ => false, 0⟩
def sgOf (es : List Ev) : Sg := es.foldl Sg.step sg0
def opsM (es : List Ev) : List Op := (sgOf es).ops
def numAt (s : Sg) : Ev → Nat
  | .call _ _ _ _ => s.ops.length
  | .ret c _ => (s.w c).getD 0
def numsFrom (s : Sg) : List Ev → List Nat
  | [] => []
  | e :: t => numAt s e :: numsFrom (s.step e) t
def numsM (es : List Ev) : List Nat := numsFrom sg0 es
def keptE (es : List Ev) (wanted : List Nat) : List Ev := ((numsM es).zip es).filterMap fun q => if q.1 ∈ wanted then some q.2 else none
def wantedM (es : List Ev) (drop : List Nat) : List Nat := (List.range (opsM es).length).filter fun k => decide (k ∉ drop)
/-- the object an operation is on -/
def objAt (objs : List (Str × Kd)) (n : Str) : Nat := (objs.map (·.1)).idxOf n
def OpIn (objs : List (Str × Kd)) (n o : Str) (a : List Int) : Prop := ∃ kd, objs[objAt objs n]? = some (n, kd) ∧ OpOk kd o a
def EvOk (objs : List (Str × Kd)) (s : Sg) : Ev → Prop
  | .call c n o a => s.opn c = false ∧ OpIn objs n o a
  | .ret c _ => s.opn c = true
def WfFrom (objs : List (Str × Kd)) (s : Sg) : List Ev → Prop
  | [] => True
  | e :: t => EvOk objs s e ∧ WfFrom objs (s.step e) t
/-! texts can be compared -/
def kOk : KeyR → Bool
  | .inl _ => true
  | .inr s => PyData.strOk s
def evTxt : Ev → Bool
  | .call c n o _ => PyData.strOk c && PyData.strOk n && PyData.strOk o
  | .ret c r => PyData.strOk c && kOk r
def rTxt : Option KeyR → Bool
  | none => true
  | some r => kOk r
def opTxt (p : Op) : Bool := PyData.strOk p.c && PyData.strOk p.n && PyData.strOk p.o && rTxt p.r
structure Wf (h : Hist) : Prop where
  few : h.objs.length ≤ 3
  evs : WfFrom h.objs sg0 h.evs
  ops : (opsM h.evs).length ≤ 9
  len : h.evs.length ≤ 100
  txt : ∀ e ∈ h.evs, evTxt e = true
  otxt : ∀ x ∈ h.objs, PyData.strOk x.1 = true

/-! ### orders -/
def isBefore (m : Mdl) (a b : Op) : Bool := match m with
  | .real => match a.ret with
    | some q => decide (q < b.called)
    | none => false
  | .client => decide (a.c = b.c) && decide (a.called < b.called)
def firstsM (objs : List (Str × Kd)) : List Stt := objs.map fun x => x.2.first
def doneM (objs : List (Str × Kd)) (states : List Stt) (op : Op) : List Stt × KeyR :=
  let q := objAt objs op.n
  let z := stepM ((objs.getD q (op.n, .reg)).2) (states.getD q (.num 0)) op.o op.a
  (states.set q z.1, z.2)
def opAt (l : List Op) (k : Nat) : Op := l.getD k ⟨"", "", "", [], none, 0, none⟩
def resGo (objs : List (Str × Kd)) (l : List Op) : List Stt → List Nat → List KeyR
  | _, [] => []
  | st, k :: t => (doneM objs st (opAt l k)).2 :: resGo objs l (doneM objs st (opAt l k)).1 t
def resM (h : Hist) (order : List Nat) : List KeyR := resGo h.objs (opsM h.evs) (firstsM h.objs) order
abbrev Ps := List Nat × List Stt
def canCome (l : List Op) (m : Mdl) (pl : List Nat) (k : Nat) : Bool := !decide (k ∈ pl) && (List.range l.length).all fun j => !isBefore m (opAt l j) (opAt l k) || decide (j ∈ pl)
/-- sorted -/
def ins (n : Nat) : List Nat → List Nat
  | [] => [n]
  | a :: t => if n ≤ a then n :: a :: t else a :: ins n t
def movesM (objs : List (Str × Kd)) (l : List Op) (m : Mdl) (q : Ps) : List (Nat × Ps) := (List.range l.length).filterMap fun k =>
  if canCome l m q.1 k then
    let z := doneM objs q.2 (opAt l k)
    if (opAt l k).ret = none ∨ (opAt l k).r = some z.2 then some (k, (ins k q.1, z.1)) else none
  else none
def isWhole (l : List Op) (pl : List Nat) : Bool := (List.range l.length).all fun j => (opAt l j).ret.isNone || decide (j ∈ pl)
def firstSome {α β : Type} (f : α → Option β) : List α → Option β
  | [] => none
  | a :: t => match f a with
    | some b => some b
    | none => firstSome f t
def orderGo (objs : List (Str × Kd)) (l : List Op) (m : Mdl) : Nat → Ps → Option (List Nat)
  | 0, q => if isWhole l q.1 then some [] else none
  | f + 1, q => if isWhole l q.1 then some [] else firstSome (fun x => (orderGo objs l m f x.2).map (x.1 :: ·)) (movesM objs l m q)
def orderM (objs : List (Str × Kd)) (l : List Op) (m : Mdl) (q : Ps) : Option (List Nat) := orderGo objs l m (l.length - q.1.length) q
def findM (h : Hist) (m : Mdl) : Option (List Nat) := orderM h.objs (opsM h.evs) m ([], firstsM h.objs)

/-! ### endings -/
def serialE (l : List Op) : List Nat → List KeyR → List Ev
  | k :: t, r :: rs => .call (opAt l k).c (opAt l k).n (opAt l k).o (opAt l k).a :: .ret (opAt l k).c r :: serialE l t rs
  | _, _ => []
def serialM (h : Hist) (order : List Nat) : Hist := ⟨h.objs, serialE (opsM h.evs) order (resM h order)⟩
def resOf (order : List Nat) (rs : List KeyR) (k : Nat) : Option KeyR := ((order.zip rs).find? fun q => q.1 == k).map (·.2)
def pendM (l : List Op) : List Nat := (List.range l.length).filter fun k => (opAt l k).ret.isNone
def finishE (h : Hist) (order : List Nat) : List Ev :=
  let l := opsM h.evs
  let told := resOf order (resM h order)
  keptE h.evs (wantedM h.evs ((pendM l).filter fun k => (told k).isNone)) ++ (pendM l).filterMap fun k => (told k).map fun r => .ret (opAt l k).c r
def finishM (h : Hist) (m : Mdl) : Option Hist := (findM h m).map fun order => ⟨h.objs, finishE h order⟩
end K22

-- P
set_option maxHeartbeats 4000000
/-! The plain law, part 1: what histories are. -/
namespace K22
open PySem

structure SInv (objs : List (Str × Kd)) (s : Sg) : Prop where
  wl : ∀ c k, s.w c = some k → ∃ op, s.ops[k]? = some op ∧ op.c = c ∧ (s.opn c = true ↔ op.ret = none)
  ow : ∀ c, s.opn c = true → ∃ k, s.w c = some k
  op : ∀ (k : Nat) op, s.ops[k]? = some op → op.called < s.p ∧ (∀ q, op.ret = some q → q < s.p ∧ op.called < q) ∧ (op.ret = none ↔ op.r = none) ∧ OpIn objs op.n op.o op.a ∧ ∃ k', s.w op.c = some k' ∧ k ≤ k' ∧ (k < k' → op.ret ≠ none)
  two : ∀ (k1 k2 : Nat) o1 o2, s.ops[k1]? = some o1 → s.ops[k2]? = some o2 → k1 < k2 → o1.called < o2.called ∧ (o1.c = o2.c → ∃ q, o1.ret = some q ∧ q < o2.called)
theorem sinv0 (objs : List (Str × Kd)) : SInv objs sg0 := by
  refine ⟨?_, ?_, ?_, ?_⟩
  · intro c k h; cases h
  · intro c h; cases h
  · intro k op h; simp [sg0] at h
  · intro k1 k2 o1 o2 h; simp [sg0] at h
theorem get_push {α : Type} {l : List α} {x y : α} {k : Nat} (h : (l ++ [x])[k]? = some y) : (l[k]? = some y ∧ k < l.length) ∨ (k = l.length ∧ y = x) := by
  rcases Nat.lt_or_ge k l.length with z | z
  · rw [List.getElem?_append_left z] at h
    exact .inl ⟨h, z⟩
  · rw [List.getElem?_append_right z] at h
    rcases Nat.eq_zero_or_pos (k - l.length) with e | e
    · rw [e] at h
      exact .inr ⟨by omega, (Option.some.inj h).symm⟩
    · have : ([x] : List α)[k - l.length]? = none := List.getElem?_eq_none (by show 1 ≤ _; omega)
      rw [this] at h; cases h
theorem SInv.call {objs : List (Str × Kd)} {s : Sg} (I : SInv objs s) {c n o : Str} {a : List Int} (h1 : s.opn c = false) (h2 : OpIn objs n o a) : SInv objs (s.step (.call c n o a)) := by
  have done : ∀ (k : Nat) op, s.ops[k]? = some op → op.c = c → op.ret ≠ none := fun k op e ec hr => by
    obtain ⟨_, _, _, _, k', hw, hk, hlt⟩ := I.op k op e
    rcases Nat.lt_or_eq_of_le hk with z | z
    · exact hlt z hr
    · subst z
      obtain ⟨op', e', _, hi⟩ := I.wl _ _ hw
      rw [e] at e'
      cases e'
      have := hi.2 hr
      rw [ec, h1] at this
      cases this
  refine ⟨fun c' k hw => ?_, fun c' ho => ?_, fun k op e => ?_, fun k1 k2 o1 o2 e1 e2 hlt => ?_⟩
  · show ∃ op, (s.ops ++ [_])[k]? = some op ∧ _
    have hw : (if c' = c then some s.ops.length else s.w c') = some k := hw
    by_cases hc : c' = c
    · rw [if_pos hc] at hw
      cases hw
      refine ⟨_, by rw [List.getElem?_append_right (Nat.le_refl _), Nat.sub_self]; rfl, hc.symm, ?_⟩
      show (if c' = c then true else s.opn c') = true ↔ (none : Option Nat) = none
      rw [if_pos hc]
      simp
    · rw [if_neg hc] at hw
      obtain ⟨op, e, ec, hi⟩ := I.wl _ _ hw
      have hl := (List.getElem?_eq_some_iff.mp e).1
      refine ⟨op, by rw [List.getElem?_append_left hl]; exact e, ec, ?_⟩
      show (if c' = c then true else s.opn c') = true ↔ _
      rw [if_neg hc]
      exact hi
  · have ho : (if c' = c then true else s.opn c') = true := ho
    show ∃ k, (if c' = c then some s.ops.length else s.w c') = some k
    by_cases hc : c' = c
    · exact ⟨_, by rw [if_pos hc]⟩
    · rw [if_neg hc] at ho ⊢
      exact I.ow _ ho
  · show op.called < s.p + 1 ∧ (∀ q, op.ret = some q → q < s.p + 1 ∧ op.called < q) ∧ _ ∧ _ ∧ ∃ k', (if op.c = c then some s.ops.length else s.w op.c) = some k' ∧ _
    rcases get_push e with ⟨e, hl⟩ | ⟨hk, e⟩
    · obtain ⟨a1, a2, a3, a4, k', a5, a6, a7⟩ := I.op k op e
      refine ⟨by omega, fun q hq => ⟨by have := (a2 q hq).1; omega, (a2 q hq).2⟩, a3, a4, ?_⟩
      by_cases hc : op.c = c
      · exact ⟨_, by rw [if_pos hc], Nat.le_of_lt hl, fun _ => done k op e hc⟩
      · exact ⟨k', by rw [if_neg hc]; exact a5, a6, a7⟩
    · subst e
      exact ⟨Nat.lt_succ_self s.p, (fun q hq => by cases hq), (by simp), h2, s.ops.length, (by show (if c = c then _ else _) = _; rw [if_pos rfl]), Nat.le_of_eq hk, (fun z => by omega)⟩
  · rcases get_push e1 with ⟨e1, l1⟩ | ⟨hk, e⟩
    · rcases get_push e2 with ⟨e2, l2⟩ | ⟨hk2, e⟩
      · exact I.two k1 k2 o1 o2 e1 e2 hlt
      · subst e
        obtain ⟨a1, a2, _⟩ := I.op k1 o1 e1
        refine ⟨a1, fun hc => ?_⟩
        have hr := done k1 o1 e1 hc
        cases hq : o1.ret with
        | none => exact absurd hq hr
        | some q => exact ⟨q, rfl, (a2 q hq).1⟩
    · rcases get_push e2 with ⟨e2, l2⟩ | ⟨hk2, e⟩ <;> omega
theorem get_modify {α : Type} {l : List α} {f : α → α} {i k : Nat} : (l.modify i f)[k]? = if i = k then (l[k]?).map f else l[k]? := by
  rw [List.getElem?_modify]
  by_cases h : i = k
  · simp [h]
  · simp [h]
theorem SInv.ret {objs : List (Str × Kd)} {s : Sg} (I : SInv objs s) {c : Str} {r : KeyR} (h1 : s.opn c = true) : SInv objs (s.step (.ret c r)) := by
  obtain ⟨k0, hw0⟩ := I.ow c h1
  obtain ⟨op0, e0, c0, hi0⟩ := I.wl _ _ hw0
  have r0 : op0.ret = none := hi0.1 h1
  have eops : (s.step (.ret c r)).ops = s.ops.modify k0 (fun op => { op with r := some r, ret := some s.p }) := by show s.ops.modify ((s.w c).getD 0) _ = _; rw [hw0]; rfl
  have get : ∀ (k : Nat) op, (s.step (.ret c r)).ops[k]? = some op → (k ≠ k0 ∧ s.ops[k]? = some op) ∨ (k = k0 ∧ op = { op0 with r := some r, ret := some s.p }) := fun k op e => by
    rw [eops, get_modify] at e
    by_cases hk : k0 = k
    · subst hk
      rw [if_pos rfl, e0] at e
      exact .inr ⟨rfl, (Option.some.inj e).symm⟩
    · rw [if_neg hk] at e
      exact .inl ⟨fun z => hk z.symm, e⟩
  have put : ∀ (k : Nat) op, s.ops[k]? = some op → k ≠ k0 → (s.step (.ret c r)).ops[k]? = some op := fun k op e hk => by
    rw [eops, get_modify, if_neg (fun z => hk z.symm)]
    exact e
  refine ⟨fun c' k hw => ?_, fun c' ho => ?_, fun k op e => ?_, fun k1 k2 o1 o2 e1 e2 hlt => ?_⟩
  · have hw : s.w c' = some k := hw
    show ∃ op, _ ∧ _ ∧ ((if c' = c then false else s.opn c') = true ↔ _)
    by_cases hc : c' = c
    · have hk : k = k0 := by rw [hc, hw0] at hw; exact (Option.some.inj hw).symm
      subst hk
      refine ⟨{ op0 with r := some r, ret := some s.p }, ?_, c0.trans hc.symm, ?_⟩
      · rw [eops, get_modify, if_pos rfl, e0]; rfl
      · rw [if_pos hc]; simp
    · obtain ⟨op, e, ec, hi⟩ := I.wl _ _ hw
      have hk : k ≠ k0 := fun z => by
        subst z
        rw [e0] at e
        cases e
        exact hc (ec.symm.trans c0)
      exact ⟨op, put k op e hk, ec, by rw [if_neg hc]; exact hi⟩
  · have ho : (if c' = c then false else s.opn c') = true := ho
    by_cases hc : c' = c
    · rw [if_pos hc] at ho; cases ho
    · rw [if_neg hc] at ho
      exact I.ow _ ho
  · show op.called < s.p + 1 ∧ (∀ q, op.ret = some q → q < s.p + 1 ∧ op.called < q) ∧ _ ∧ _ ∧ ∃ k', s.w op.c = some k' ∧ _
    rcases get k op e with ⟨hk, e⟩ | ⟨hk, e⟩
    · obtain ⟨a1, a2, a3, a4, k', a5, a6, a7⟩ := I.op k op e
      exact ⟨by omega, fun q hq => ⟨by have := (a2 q hq).1; omega, (a2 q hq).2⟩, a3, a4, k', a5, a6, a7⟩
    · subst e hk
      obtain ⟨a1, a2, a3, a4, k', a5, a6, a7⟩ := I.op _ op0 e0
      refine ⟨Nat.lt_succ_of_lt a1, fun q hq => ?_, by simp, a4, k', a5, a6, fun _ => by simp⟩
      cases hq
      exact ⟨Nat.lt_succ_self _, a1⟩
  · rcases get k1 o1 e1 with ⟨n1, e1⟩ | ⟨z1, e1⟩
    · rcases get k2 o2 e2 with ⟨n2, e2⟩ | ⟨z2, e2⟩
      · exact I.two k1 k2 o1 o2 e1 e2 hlt
      · subst e2
        rw [z2] at hlt
        exact I.two k1 k0 o1 op0 e1 e0 hlt
    · rcases get k2 o2 e2 with ⟨n2, e2⟩ | ⟨z2, e2⟩
      · rw [z1] at hlt
        obtain ⟨b1, b2⟩ := I.two k0 k2 op0 o2 e0 e2 hlt
        subst e1
        refine ⟨b1, fun hc => ?_⟩
        obtain ⟨q, hq, _⟩ := b2 hc
        rw [r0] at hq; cases hq
      · omega
theorem SInv.step {objs : List (Str × Kd)} {s : Sg} (I : SInv objs s) {e : Ev} (h : EvOk objs s e) : SInv objs (s.step e) := by
  cases e with
  | call c n o a => exact I.call h.1 h.2
  | ret c r => exact I.ret h
theorem wf_at {objs : List (Str × Kd)} : ∀ {es : List Ev} {s : Sg}, SInv objs s → WfFrom objs s es → ∀ i, SInv objs ((es.take i).foldl Sg.step s) ∧ ∀ e, es[i]? = some e → EvOk objs ((es.take i).foldl Sg.step s) e
  | [], s, I, _, i => ⟨by simpa using I, fun e h => by simp at h⟩
  | e :: es, s, I, h, 0 => ⟨I, fun e' h' => by
    have : e = e' := Option.some.inj h'
    rw [← this]
    exact h.1⟩
  | e :: es, s, I, h, i + 1 => wf_at (I.step h.1) h.2 i
theorem sg_take {es : List Ev} {i : Nat} {e : Ev} (h : es[i]? = some e) : sgOf (es.take (i + 1)) = (sgOf (es.take i)).step e := by
  unfold sgOf
  rw [List.take_add_one, h, List.foldl_append]
  rfl
theorem sg_whole (es : List Ev) : sgOf (es.take es.length) = sgOf es := by rw [List.take_length]
theorem Wf.inv {h : Hist} (w : Wf h) (i : Nat) : SInv h.objs (sgOf (h.evs.take i)) := (wf_at (sinv0 _) w.evs i).1
theorem Wf.ev {h : Hist} (w : Wf h) {i : Nat} {e : Ev} (he : h.evs[i]? = some e) : EvOk h.objs (sgOf (h.evs.take i)) e := (wf_at (sinv0 _) w.evs i).2 e he
theorem Wf.whole {h : Hist} (w : Wf h) : SInv h.objs (sgOf h.evs) := by
  have := w.inv h.evs.length
  rwa [sg_whole] at this
theorem numsFrom_get : ∀ {es : List Ev} {s : Sg} {i : Nat} {e : Ev}, es[i]? = some e → (numsFrom s es)[i]? = some (numAt ((es.take i).foldl Sg.step s) e)
  | [], _, _, _, h => by simp at h
  | e :: es, s, 0, e', h => by
    have : e = e' := Option.some.inj h
    rw [← this]; rfl
  | e :: es, s, i + 1, e', h => numsFrom_get (es := es) (s := s.step e) (i := i) h
theorem numsM_get {es : List Ev} {i : Nat} {e : Ev} (h : es[i]? = some e) : (numsM es)[i]? = some (numAt (sgOf (es.take i)) e) := numsFrom_get h
theorem numsFrom_len : ∀ (es : List Ev) (s : Sg), (numsFrom s es).length = es.length
  | [], _ => rfl
  | e :: es, s => by show (numsFrom (s.step e) es).length + 1 = _; rw [numsFrom_len]; rfl
theorem sg_p (es : List Ev) (s : Sg) : (es.foldl Sg.step s).p = s.p + es.length := by
  induction es generalizing s with
  | nil => rfl
  | cons e es ih =>
    rw [List.foldl_cons, ih, List.length_cons]
    have : (s.step e).p = s.p + 1 := by cases e <;> rfl
    omega
theorem sg_p' (es : List Ev) : (sgOf es).p = es.length := by
  unfold sgOf
  rw [sg_p]
  show 0 + _ = _
  omega
theorem sg_ops_le (es : List Ev) (s : Sg) : s.ops.length ≤ (es.foldl Sg.step s).ops.length := by
  induction es generalizing s with
  | nil => exact Nat.le_refl _
  | cons e es ih =>
    refine Nat.le_trans ?_ (ih _)
    cases e with
    | call c n o a => show _ ≤ (s.ops ++ [_]).length; rw [List.length_append]; omega
    | ret c r => show _ ≤ (s.ops.modify _ _).length; rw [List.length_modify]; exact Nat.le_refl _
theorem sg_ops_take (es : List Ev) (i : Nat) : (sgOf (es.take i)).ops.length ≤ (opsM es).length := by
  have : sgOf es = ((es.drop i).foldl Sg.step (sgOf (es.take i))) := by
    unfold sgOf
    rw [← List.foldl_append, List.take_append_drop]
  unfold opsM
  rw [this]
  exact sg_ops_le _ _
end K22

-- P2
set_option maxHeartbeats 4000000
/-! The plain law, part 2: states. -/
namespace K22
open PySem
def StsOk (b : Nat) (objs : List (Str × Kd)) (st : List Stt) : Prop := st.length = objs.length ∧ ∀ (i : Nat) x s, objs[i]? = some x → st[i]? = some s → StOk b x.2 s
theorem insS_len' (l : List Int) (v : Int) : (insS l v).length ≤ 4 := List.length_filter_le _ _
theorem insS_sub (l : List Int) (v : Int) : ∀ k ∈ insS l v, 0 ≤ k ∧ k < 4 := fun k hk => by
  have := (List.mem_filter.mp hk).1
  simp only [List.mem_cons, List.not_mem_nil, or_false] at this
  rcases this with rfl | rfl | rfl | rfl <;> decide
theorem StOk.mono {b c : Nat} {kd : Kd} {s : Stt} (h : StOk b kd s) (hb : b ≤ c) : StOk c kd s := by
  match kd, s, h with
  | .reg, .num _, _ => trivial
  | .cnt, .num _, _ => trivial
  | .set, .seq l, h => exact h
  | .que, .seq l, h => exact Nat.le_trans h hb
theorem stepM_ok {b : Nat} {kd : Kd} {s : Stt} (h : StOk b kd s) (o : Str) (a : List Int) : StOk (b + 1) kd (stepM kd s o a).1 := by
  match kd, s, h with
  | .reg, .num i, _ =>
    show StOk (b + 1) .reg (stepR i o a).1
    unfold stepR
    repeat' split
    all_goals trivial
  | .cnt, .num i, _ =>
    show StOk (b + 1) .cnt (stepC i o a).1
    unfold stepC
    split
    all_goals trivial
  | .set, .seq l, h =>
    show StOk (b + 1) .set (stepS l o a).1
    unfold stepS
    obtain ⟨h1, h2⟩ : (∀ k ∈ l, 0 ≤ k ∧ k < 4) ∧ l.length ≤ 4 := h
    split
    · exact ⟨insS_sub _ _, insS_len' _ _⟩
    · split
      · exact ⟨fun k hk => h1 k (List.mem_filter.mp hk).1, Nat.le_trans (List.length_filter_le _ _) h2⟩
      · exact ⟨h1, h2⟩
  | .que, .seq l, h =>
    show StOk (b + 1) .que (stepQ l o a).1
    unfold stepQ
    have h : l.length ≤ b := h
    split
    · show (l ++ [_]).length ≤ b + 1
      rw [List.length_append]
      show _ + 1 ≤ _
      omega
    · cases l with
      | nil => exact Nat.zero_le _
      | cons x t =>
        show t.length ≤ b + 1
        rw [List.length_cons] at h
        omega
theorem firsts_ok (objs : List (Str × Kd)) : StsOk 0 objs (firstsM objs) := by
  refine ⟨List.length_map _, fun i x s hx hs => ?_⟩
  unfold firstsM at hs
  rw [List.getElem?_map, hx] at hs
  cases hs
  obtain ⟨n, kd⟩ := x
  cases kd
  · trivial
  · trivial
  · exact ⟨(fun k hk => by cases hk), Nat.zero_le _⟩
  · exact Nat.le_refl 0
theorem StsOk.mono {b c : Nat} {objs : List (Str × Kd)} {st : List Stt} (h : StsOk b objs st) (hb : b ≤ c) : StsOk c objs st := ⟨h.1, fun i x s hx hs => (h.2 i x s hx hs).mono hb⟩
/-- the state an operation works on -/
theorem sts_at {b : Nat} {objs : List (Str × Kd)} {st : List Stt} (h : StsOk b objs st) {n o : Str} {a : List Int} (ho : OpIn objs n o a) : ∃ kd s, objs[objAt objs n]? = some (n, kd) ∧ st[objAt objs n]? = some s ∧ StOk b kd s ∧ OpOk kd o a := by
  obtain ⟨kd, hk, hop⟩ := ho
  have hl : objAt objs n < st.length := by rw [h.1]; exact (List.getElem?_eq_some_iff.mp hk).1
  exact ⟨kd, st[objAt objs n], hk, List.getElem?_eq_getElem hl, h.2 _ _ _ hk (List.getElem?_eq_getElem hl), hop⟩
theorem doneM_at {objs : List (Str × Kd)} {st : List Stt} {op : Op} {kd : Kd} {s : Stt} (h1 : objs[objAt objs op.n]? = some (op.n, kd)) (h2 : st[objAt objs op.n]? = some s) : doneM objs st op = (st.set (objAt objs op.n) (stepM kd s op.o op.a).1, (stepM kd s op.o op.a).2) := by
  unfold doneM
  simp only [List.getD_eq_getElem?_getD, h1, h2, Option.getD_some]
theorem doneM_ok {b : Nat} {objs : List (Str × Kd)} {st : List Stt} {op : Op} (h : StsOk b objs st) (ho : OpIn objs op.n op.o op.a) : StsOk (b + 1) objs (doneM objs st op).1 := by
  obtain ⟨kd, s, h1, h2, h3, h4⟩ := sts_at h ho
  rw [doneM_at h1 h2]
  refine ⟨by rw [List.length_set]; exact h.1, fun i x s' hx hs => ?_⟩
  rw [List.getElem?_set] at hs
  split at hs
  · rename_i hi
    subst hi
    rw [h1] at hx
    cases hx
    split at hs
    · cases hs
      exact stepM_ok h3 _ _
    · cases hs
  · exact (h.2 i x s' hx hs).mono (Nat.le_succ b)
theorem opAt_get {l : List Op} {k : Nat} (h : k < l.length) : l[k]? = some (opAt l k) := by
  unfold opAt
  rw [List.getD_eq_getElem?_getD, List.getElem?_eq_getElem h]
  rfl
theorem Wf.opIn {h : Hist} (wf : Wf h) {k : Nat} (hk : k < (opsM h.evs).length) : OpIn h.objs (opAt (opsM h.evs) k).n (opAt (opsM h.evs) k).o (opAt (opsM h.evs) k).a := (wf.whole.op k _ (opAt_get hk)).2.2.2.1
/-- the states behind a row -/
def stGo (objs : List (Str × Kd)) (l : List Op) : List Stt → List Nat → List Stt
  | st, [] => st
  | st, k :: t => stGo objs l (doneM objs st (opAt l k)).1 t
theorem stGo_snoc (objs : List (Str × Kd)) (l : List Op) : ∀ (a : List Nat) (st : List Stt) (k : Nat), stGo objs l st (a ++ [k]) = (doneM objs (stGo objs l st a) (opAt l k)).1
  | [], _, _ => rfl
  | _ :: a, _, k => stGo_snoc objs l a _ k
theorem resGo_snoc (objs : List (Str × Kd)) (l : List Op) : ∀ (a : List Nat) (st : List Stt) (k : Nat), resGo objs l st (a ++ [k]) = resGo objs l st a ++ [(doneM objs (stGo objs l st a) (opAt l k)).2]
  | [], _, _ => rfl
  | _ :: a, _, k => by
    show _ :: resGo objs l _ (a ++ [k]) = _ :: (_ ++ _)
    rw [resGo_snoc objs l a _ k]
    rfl
theorem resGo_len (objs : List (Str × Kd)) (l : List Op) : ∀ (a : List Nat) (st : List Stt), (resGo objs l st a).length = a.length
  | [], _ => rfl
  | _ :: a, _ => by show (resGo objs l _ a).length + 1 = a.length + 1; rw [resGo_len]
theorem stGo_ok {h : Hist} (wf : Wf h) : ∀ (a : List Nat) (st : List Stt) (b : Nat), StsOk b h.objs st → (∀ k ∈ a, k < (opsM h.evs).length) → StsOk (b + a.length) h.objs (stGo h.objs (opsM h.evs) st a)
  | [], _, _, hs, _ => hs
  | k :: a, st, b, hs, ha => by
    have := stGo_ok wf a _ (b + 1) (doneM_ok hs (wf.opIn (ha k List.mem_cons_self))) fun j hj => ha j (List.mem_cons_of_mem _ hj)
    rw [List.length_cons]
    exact this.mono (by omega)
theorem idx_before {l : List Str} {x : Str} {m : Nat} (hm : m < l.idxOf x) {y : Str} (hy : l[m]? = some y) : y ≠ x := by
  induction l generalizing m with
  | nil => simp at hy
  | cons a l ih =>
    rw [List.idxOf_cons] at hm
    by_cases h : a = x
    · rw [h] at hm; simp at hm
    · have hb : (a == x) = false := by simpa using h
      rw [hb] at hm
      cases m with
      | zero => rw [← Option.some.inj hy]; exact h
      | succ m => exact ih (by simpa using hm) hy
theorem step_txt {s : Sg} {e : Ev} (hs : ∀ op ∈ s.ops, opTxt op = true) (he : evTxt e = true) : ∀ op ∈ (s.step e).ops, opTxt op = true := by
  cases e with
  | call c n o a =>
    intro op hop
    have hop : op ∈ s.ops ++ [_] := hop
    rcases List.mem_append.mp hop with h | h
    · exact hs op h
    · rw [List.mem_singleton.mp h]
      have he : (PyData.strOk c && PyData.strOk n && PyData.strOk o) = true := he
      show (PyData.strOk c && PyData.strOk n && PyData.strOk o && true) = true
      rw [he]; rfl
  | ret c r =>
    intro op hop
    have he : (PyData.strOk c && kOk r) = true := he
    rw [Bool.and_eq_true] at he
    have hop : op ∈ s.ops.modify _ _ := hop
    obtain ⟨k, hk⟩ := List.mem_iff_getElem?.mp hop
    rw [get_modify] at hk
    split at hk
    · obtain ⟨p, hp, rfl⟩ := Option.map_eq_some_iff.mp hk
      have := hs p (List.mem_of_getElem? hp)
      unfold opTxt at this ⊢
      simp only [Bool.and_eq_true] at this ⊢
      exact ⟨this.1, he.2⟩
    · exact hs op (List.mem_of_getElem? hk)
theorem fold_txt : ∀ (es : List Ev) (s : Sg), (∀ op ∈ s.ops, opTxt op = true) → (∀ e ∈ es, evTxt e = true) → ∀ op ∈ (es.foldl Sg.step s).ops, opTxt op = true
  | [], s, hs, _ => hs
  | e :: es, s, hs, he => fold_txt es _ (step_txt hs (he e List.mem_cons_self)) fun e' h' => he e' (List.mem_cons_of_mem _ h')
theorem Wf.optxt {h : Hist} (wf : Wf h) {k : Nat} (hk : k < (opsM h.evs).length) : opTxt (opAt (opsM h.evs) k) = true :=
  fold_txt h.evs sg0 (fun op hop => by cases hop) wf.txt _ (List.mem_of_getElem? (opAt_get hk))
theorem stepM_txt (kd : Kd) (s : Stt) (o : Str) (a : List Int) : kOk (stepM kd s o a).2 = true := by
  have t1 : kOk sOk = true := by decide +kernel
  have t2 : ∀ b, kOk (yn b) = true := fun b => by cases b <;> decide +kernel
  match kd, s with
  | .reg, .num i =>
    show kOk (stepR i o a).2 = true
    unfold stepR
    repeat' split
    all_goals first | exact t1 | exact t2 _ | rfl
  | .cnt, .num i =>
    show kOk (stepC i o a).2 = true
    unfold stepC
    split
    all_goals first | exact t1 | rfl
  | .set, .seq l =>
    show kOk (stepS l o a).2 = true
    unfold stepS
    repeat' split
    all_goals exact t2 _
  | .que, .seq l =>
    show kOk (stepQ l o a).2 = true
    unfold stepQ
    split
    · exact t1
    · cases l with
      | nil => exact (by decide +kernel : kOk (.inr "empty") = true)
      | cons x t => rfl
  | .reg, .seq l => exact t1
  | .cnt, .seq l => exact t1
  | .set, .num l => exact t1
  | .que, .num l => exact t1
theorem doneM_txt (objs : List (Str × Kd)) (st : List Stt) (op : Op) : kOk (doneM objs st op).2 = true := stepM_txt _ _ _ _
/-! sorting -/
theorem sorted_uniq : ∀ {ns ms : List Int}, ns.Perm ms → ns.Pairwise (· ≤ ·) → ms.Pairwise (· ≤ ·) → ns = ms
  | [], ms, h, _, _ => (List.nil_perm.mp h).symm
  | n :: ns, [], h, _, _ => by simp at h
  | n :: ns, m :: ms, h, a, b => by
    obtain ⟨a1, a2⟩ := List.pairwise_cons.mp a
    obtain ⟨b1, b2⟩ := List.pairwise_cons.mp b
    have h1 : n ≤ m := by
      rcases List.mem_cons.mp (h.mem_iff.mpr List.mem_cons_self) with z | z
      · rw [z]; exact Int.le_refl _
      · exact a1 m z
    have h2 : m ≤ n := by
      rcases List.mem_cons.mp (h.mem_iff.mp List.mem_cons_self) with z | z
      · rw [z]; exact Int.le_refl _
      · exact b1 n z
    have e : n = m := Int.le_antisymm h1 h2
    subst e
    rw [sorted_uniq ((List.perm_cons n).mp h) a2 b2]
theorem ins_perm (n : Nat) : ∀ l : List Nat, (ins n l).Perm (n :: l)
  | [] => .refl _
  | a :: t => by
    unfold ins
    split
    · exact .refl _
    · exact ((ins_perm n t).cons a).trans (.swap n a t)
theorem ins_sorted (n : Nat) : ∀ {l : List Nat}, l.Pairwise (· ≤ ·) → (ins n l).Pairwise (· ≤ ·)
  | [], _ => List.pairwise_singleton _ _
  | a :: t, h => by
    obtain ⟨h1, h2⟩ := List.pairwise_cons.mp h
    unfold ins
    split
    · rename_i hn
      refine List.pairwise_cons.mpr ⟨fun b hb => ?_, h⟩
      rcases List.mem_cons.mp hb with z | z
      · rw [z]; exact hn
      · exact Nat.le_trans hn (h1 b z)
    · rename_i hn
      refine List.pairwise_cons.mpr ⟨fun b hb => ?_, ins_sorted n h2⟩
      rcases List.mem_cons.mp ((ins_perm n t).mem_iff.mp hb) with z | z
      · rw [z]; omega
      · exact h1 b z
theorem ins_len (n : Nat) (l : List Nat) : (ins n l).length = l.length + 1 := (ins_perm n l).length_eq
theorem mem_ins {n k : Nat} {l : List Nat} : k ∈ ins n l ↔ k = n ∨ k ∈ l := by rw [(ins_perm n l).mem_iff, List.mem_cons]
end K22

-- P3
set_option maxHeartbeats 4000000
/-! The plain law, part 3: positions, how many there are; the search. -/
namespace K22
open PySem
/-- a position that can be met -/
structure PsOk (h : Hist) (q : Ps) : Prop where
  srt : q.1.Pairwise (· ≤ ·)
  lt : ∀ k ∈ q.1, k < (opsM h.evs).length
  nd : q.1.Nodup
  st : StsOk q.1.length h.objs q.2
theorem sub_len {α : Type} [DecidableEq α] : ∀ {l m : List α}, l.Nodup → (∀ a ∈ l, a ∈ m) → l.length ≤ m.length
  | [], _, _, _ => Nat.zero_le _
  | a :: l, m, nd, h => by
    obtain ⟨n1, n2⟩ := List.nodup_cons.mp nd
    have ha := h a List.mem_cons_self
    have := sub_len (m := m.erase a) n2 fun b hb => (List.mem_erase_of_ne fun z => n1 (by rw [← z]; exact hb)).mpr (h b (List.mem_cons_of_mem _ hb))
    rw [List.length_erase_of_mem ha] at this
    have hl := List.length_pos_of_mem ha
    rw [List.length_cons]
    omega
theorem nodup_lt {n : Nat} {l : List Nat} (nd : l.Nodup) (h : ∀ k ∈ l, k < n) : l.length ≤ n := by
  have := sub_len (m := List.range n) nd fun a ha => List.mem_range.mpr (h a ha)
  rwa [List.length_range] at this
theorem nodup_full {n : Nat} {l : List Nat} (nd : l.Nodup) (h : ∀ k ∈ l, k < n) (hl : n ≤ l.length) {k : Nat} (hk : k < n) : k ∈ l := by
  refine Classical.byContradiction fun hn => ?_
  have := nodup_lt (List.nodup_cons.mpr ⟨hn, nd⟩) fun j hj => by
    rcases List.mem_cons.mp hj with z | z
    · rw [z]; exact hk
    · exact h j z
  rw [List.length_cons] at this
  omega
theorem PsOk.len {h : Hist} {q : Ps} (p : PsOk h q) : q.1.length ≤ (opsM h.evs).length := nodup_lt p.nd p.lt
theorem psOk0 (h : Hist) : PsOk h ([], firstsM h.objs) := ⟨.nil, (fun k hk => by cases hk), List.nodup_nil, firsts_ok h.objs⟩
theorem PsOk.next {h : Hist} {q : Ps} (wf : Wf h) (p : PsOk h q) {k : Nat} (hk : k < (opsM h.evs).length) (hn : k ∉ q.1) : PsOk h (ins k q.1, (doneM h.objs q.2 (opAt (opsM h.evs) k)).1) := by
  refine ⟨ins_sorted k p.srt, fun j hj => ?_, (ins_perm k q.1).nodup_iff.mpr (List.nodup_cons.mpr ⟨hn, p.nd⟩), ?_⟩
  · rcases mem_ins.mp hj with z | z
    · rw [z]; exact hk
    · exact p.lt j z
  · show StsOk (ins k q.1).length _ _
    rw [ins_len]
    exact doneM_ok p.st (wf.opIn hk)
theorem can_new {l : List Op} {m : Mdl} {pl : List Nat} {k : Nat} (h : canCome l m pl k = true) : k ∉ pl := by
  unfold canCome at h
  rw [Bool.and_eq_true] at h
  simpa using h.1
/-- a step of the search -/
def StepOk (objs : List (Str × Kd)) (l : List Op) (m : Mdl) (q : Ps) (x : Nat × Ps) : Prop := x.1 < l.length ∧ canCome l m q.1 x.1 = true ∧ ((opAt l x.1).ret = none ∨ (opAt l x.1).r = some (doneM objs q.2 (opAt l x.1)).2) ∧ x.2 = (ins x.1 q.1, (doneM objs q.2 (opAt l x.1)).1)
theorem mem_moves {objs : List (Str × Kd)} {l : List Op} {m : Mdl} {q : Ps} {x : Nat × Ps} : x ∈ movesM objs l m q ↔ StepOk objs l m q x := by
  unfold movesM StepOk
  rw [List.mem_filterMap]
  constructor
  · rintro ⟨k, hk, hf⟩
    have hk := List.mem_range.mp hk
    split at hf
    · rename_i hc
      simp only at hf
      split at hf
      · rename_i hr
        cases hf
        exact ⟨hk, hc, hr, rfl⟩
      · cases hf
    · cases hf
  · rintro ⟨h1, h2, h3, h4⟩
    refine ⟨x.1, List.mem_range.mpr h1, ?_⟩
    rw [if_pos h2]
    simp only
    rw [if_pos h3, ← h4]
theorem StepOk.next {h : Hist} {m : Mdl} {q : Ps} {x : Nat × Ps} (wf : Wf h) (p : PsOk h q) (s : StepOk h.objs (opsM h.evs) m q x) : PsOk h x.2 ∧ x.2.1.length = q.1.length + 1 := by
  obtain ⟨h1, h2, h3, h4⟩ := s
  rw [h4]
  exact ⟨p.next wf h1 (can_new h2), ins_len _ _⟩
theorem firstSome_congr {α β : Type} {f g : α → Option β} : ∀ {l : List α}, (∀ a ∈ l, f a = g a) → firstSome f l = firstSome g l
  | [], _ => rfl
  | a :: l, h => by
    unfold firstSome
    rw [h a List.mem_cons_self, firstSome_congr fun b hb => h b (List.mem_cons_of_mem _ hb)]
theorem firstSome_none {α β : Type} {f : α → Option β} : ∀ {l : List α}, firstSome f l = none ↔ ∀ a ∈ l, f a = none
  | [] => ⟨(fun _ a h => by cases h), fun _ => rfl⟩
  | a :: l => by
    unfold firstSome
    constructor
    · intro h
      split at h
      · cases h
      · rename_i hf
        intro b hb
        rcases List.mem_cons.mp hb with z | z
        · rw [z]; exact hf
        · exact firstSome_none.mp h b z
    · intro h
      rw [h a List.mem_cons_self]
      exact firstSome_none.mpr fun b hb => h b (List.mem_cons_of_mem _ hb)
theorem firstSome_some {α β : Type} {f : α → Option β} {b : β} : ∀ {l : List α}, firstSome f l = some b → ∃ a ∈ l, f a = some b
  | [], h => by cases h
  | a :: l, h => by
    unfold firstSome at h
    split at h
    · rename_i c hf
      cases h
      exact ⟨a, List.mem_cons_self, hf⟩
    · obtain ⟨a', h1, h2⟩ := firstSome_some h
      exact ⟨a', List.mem_cons_of_mem _ h1, h2⟩
theorem firstSome_at {α β : Type} {f : α → Option β} {b : β} : ∀ {l : List α} {i : Nat} {a : α}, (∀ j a, j < i → l[j]? = some a → f a = none) → l[i]? = some a → f a = some b → firstSome f l = some b
  | [], _, _, _, h, _ => by simp at h
  | a :: l, 0, a', _, h, hf => by
    have : a = a' := Option.some.inj h
    unfold firstSome
    rw [this, hf]
  | a :: l, i + 1, a', hn, h, hf => by
    unfold firstSome
    rw [hn 0 a (Nat.succ_pos _) rfl]
    exact firstSome_at (i := i) (fun j b hj hb => hn (j + 1) b (Nat.succ_lt_succ hj) hb) h hf
theorem order_eq {h : Hist} {m : Mdl} {q : Ps} (wf : Wf h) (p : PsOk h q) : orderM h.objs (opsM h.evs) m q = if isWhole (opsM h.evs) q.1 = true then some [] else firstSome (fun x => (orderM h.objs (opsM h.evs) m x.2).map (x.1 :: ·)) (movesM h.objs (opsM h.evs) m q) := by
  unfold orderM
  cases e : (opsM h.evs).length - q.1.length with
  | zero =>
    have hm : movesM h.objs (opsM h.evs) m q = [] := by
      cases hm : movesM h.objs (opsM h.evs) m q with
      | nil => rfl
      | cons x t =>
        obtain ⟨h1, h2, _⟩ := mem_moves.mp (show x ∈ movesM h.objs (opsM h.evs) m q by rw [hm]; exact List.mem_cons_self)
        exact absurd (nodup_full p.nd p.lt (by omega) h1) (can_new h2)
    rw [hm]
    rfl
  | succ f =>
    show (if isWhole (opsM h.evs) q.1 = true then some [] else firstSome _ _) = _
    by_cases hw : isWhole (opsM h.evs) q.1 = true
    · rw [if_pos hw, if_pos hw]
    · rw [if_neg hw, if_neg hw]
      refine firstSome_congr fun x hx => ?_
      have := ((mem_moves.mp hx).next wf p).2
      rw [this]
      have e2 : (opsM h.evs).length - (q.1.length + 1) = f := by omega
      rw [e2]
/-! ### how many positions there are -/
def posOf (h : Hist) (a : List Nat) : Ps := (a.foldr ins [], stGo h.objs (opsM h.evs) (firstsM h.objs) a.reverse)
def Reach (h : Hist) (q : Ps) : Prop := ∃ a : List Nat, a.Nodup ∧ (∀ k ∈ a, k < (opsM h.evs).length) ∧ q = posOf h a
theorem mem_foldr_ins {a : List Nat} {k : Nat} : k ∈ a.foldr ins [] ↔ k ∈ a := by
  induction a with
  | nil => exact Iff.rfl
  | cons x a ih => rw [List.foldr_cons, mem_ins, ih, List.mem_cons]
theorem foldr_ins_len (a : List Nat) : (a.foldr ins []).length = a.length := by
  induction a with
  | nil => rfl
  | cons x a ih => rw [List.foldr_cons, ins_len, ih]; rfl
theorem reach_ok {h : Hist} (wf : Wf h) : ∀ {a : List Nat}, a.Nodup → (∀ k ∈ a, k < (opsM h.evs).length) → PsOk h (posOf h a)
  | [], _, _ => psOk0 h
  | x :: a, nd, hl => by
    obtain ⟨n1, n2⟩ := List.nodup_cons.mp nd
    have := (reach_ok wf n2 fun k hk => hl k (List.mem_cons_of_mem _ hk)).next wf (hl x List.mem_cons_self) (fun z => n1 (mem_foldr_ins.mp z))
    have e : posOf h (x :: a) = (ins x (posOf h a).1, (doneM h.objs (posOf h a).2 (opAt (opsM h.evs) x)).1) := by
      unfold posOf
      rw [List.reverse_cons, stGo_snoc]
      rfl
    rw [e]
    exact this
theorem Reach.ok {h : Hist} {q : Ps} (wf : Wf h) (r : Reach h q) : PsOk h q := by
  obtain ⟨a, nd, hl, rfl⟩ := r
  exact reach_ok wf nd hl
theorem reach0 (h : Hist) : Reach h ([], firstsM h.objs) := ⟨[], List.nodup_nil, (fun k hk => by cases hk), rfl⟩
theorem Reach.next {h : Hist} {m : Mdl} {q : Ps} {x : Nat × Ps} (r : Reach h q) (s : StepOk h.objs (opsM h.evs) m q x) : Reach h x.2 := by
  obtain ⟨a, nd, hl, rfl⟩ := r
  obtain ⟨h1, h2, h3, h4⟩ := s
  have hn : x.1 ∉ a := fun z => can_new h2 (mem_foldr_ins.mpr z)
  refine ⟨x.1 :: a, List.nodup_cons.mpr ⟨hn, nd⟩, fun k hk => ?_, ?_⟩
  · rcases List.mem_cons.mp hk with z | z
    · rw [z]; exact h1
    · exact hl k z
  · rw [h4]
    unfold posOf
    rw [List.reverse_cons, stGo_snoc]
    rfl
def paths (n : Nat) : Nat → List (List Nat)
  | 0 => [[]]
  | k + 1 => (paths n k).flatMap fun a => ((List.range n).filter fun x => decide (x ∉ a)).map (· :: a)
theorem paths_mem {n : Nat} : ∀ {a : List Nat}, a.Nodup → (∀ k ∈ a, k < n) → a ∈ paths n a.length
  | [], _, _ => List.mem_singleton.mpr rfl
  | x :: a, nd, hl => by
    obtain ⟨n1, n2⟩ := List.nodup_cons.mp nd
    exact List.mem_flatMap.mpr ⟨a, paths_mem n2 fun k hk => hl k (List.mem_cons_of_mem _ hk), List.mem_map.mpr ⟨x, List.mem_filter.mpr ⟨List.mem_range.mpr (hl x List.mem_cons_self), decide_eq_true n1⟩, rfl⟩⟩
theorem paths_ok {n : Nat} : ∀ {k : Nat} {a : List Nat}, a ∈ paths n k → a.Nodup ∧ (∀ x ∈ a, x < n) ∧ a.length = k
  | 0, a, h => by
    rw [List.mem_singleton.mp h]
    exact ⟨List.nodup_nil, (fun x hx => by cases hx), rfl⟩
  | k + 1, a, h => by
    obtain ⟨b, hb, ha⟩ := List.mem_flatMap.mp h
    obtain ⟨x, hx, rfl⟩ := List.mem_map.mp ha
    obtain ⟨h1, h2, h3⟩ := paths_ok hb
    obtain ⟨h4, h5⟩ := List.mem_filter.mp hx
    refine ⟨List.nodup_cons.mpr ⟨of_decide_eq_true h5, h1⟩, fun y hy => ?_, by rw [List.length_cons, h3]⟩
    rcases List.mem_cons.mp hy with z | z
    · rw [z]; exact List.mem_range.mp h4
    · exact h2 y z
theorem filter_len {n : Nat} {a : List Nat} (nd : a.Nodup) (h : ∀ x ∈ a, x < n) : ((List.range n).filter fun x => decide (x ∉ a)).length ≤ n - a.length := by
  have e := nodup_lt (n := n) (l := (List.range n).filter (fun x => decide (x ∉ a)) ++ a) (by
    refine List.nodup_append.mpr ⟨List.Pairwise.sublist List.filter_sublist List.nodup_range, nd, fun x hx y hy => ?_⟩
    intro z
    subst z
    exact absurd hy (of_decide_eq_true (List.mem_filter.mp hx).2)) fun x hx => by
      rcases List.mem_append.mp hx with z | z
      · exact List.mem_range.mp (List.mem_filter.mp z).1
      · exact h x z
  rw [List.length_append] at e
  omega
theorem flat_len {α β : Type} {f : α → List β} {c : Nat} : ∀ {l : List α}, (∀ a ∈ l, (f a).length ≤ c) → (l.flatMap f).length ≤ l.length * c
  | [], _ => Nat.zero_le _
  | a :: l, h => by
    rw [List.flatMap_cons, List.length_append, List.length_cons, Nat.succ_mul]
    have h1 := h a List.mem_cons_self
    have h2 := flat_len fun b hb => h b (List.mem_cons_of_mem a hb)
    omega
def cnt (n : Nat) : Nat → Nat
  | 0 => 1
  | k + 1 => cnt n k * (n - k)
theorem paths_len (n : Nat) : ∀ k, (paths n k).length ≤ cnt n k
  | 0 => Nat.le_refl _
  | k + 1 => by
    refine Nat.le_trans (flat_len (c := n - k) fun a ha => ?_) (Nat.mul_le_mul_right _ (paths_len n k))
    obtain ⟨h1, h2, h3⟩ := paths_ok ha
    rw [List.length_map, ← h3]
    exact filter_len h1 h2
def allPaths (n : Nat) : List (List Nat) := (List.range (n + 1)).flatMap (paths n)
theorem allPaths_len {n : Nat} (h : n ≤ 9) : (allPaths n).length ≤ 990000 := by
  have hs : ∀ l : List Nat, (l.flatMap (paths n)).length ≤ (l.map (cnt n)).sum := fun l => by
    induction l with
    | nil => exact Nat.le_refl _
    | cons a l ih =>
      rw [List.flatMap_cons, List.length_append, List.map_cons, List.sum_cons]
      have := paths_len n a
      omega
  refine Nat.le_trans (hs _) ?_
  have : n = 0 ∨ n = 1 ∨ n = 2 ∨ n = 3 ∨ n = 4 ∨ n = 5 ∨ n = 6 ∨ n = 7 ∨ n = 8 ∨ n = 9 := by omega
  rcases this with rfl | rfl | rfl | rfl | rfl | rfl | rfl | rfl | rfl | rfl <;> decide
theorem reach_all {h : Hist} {q : Ps} (r : Reach h q) : q ∈ (allPaths (opsM h.evs).length).map (posOf h) := by
  obtain ⟨a, nd, hl, rfl⟩ := r
  exact List.mem_map.mpr ⟨a, List.mem_flatMap.mpr ⟨a.length, List.mem_range.mpr (by have := nodup_lt nd hl; omega), paths_mem nd hl⟩, rfl⟩
theorem reach_few {h : Hist} (wf : Wf h) {l : List Ps} (nd : l.Nodup) (hr : ∀ q ∈ l, Reach h q) : l.length ≤ 990000 := by
  have := sub_len nd fun q hq => reach_all (hr q hq)
  rw [List.length_map] at this
  exact Nat.le_trans this (allPaths_len wf.ops)
end K22

-- P4
set_option maxHeartbeats 4000000
/-! The plain law, part 4: paths; serial histories. -/
namespace K22
open PySem
def nextP (objs : List (Str × Kd)) (l : List Op) (q : Ps) (k : Nat) : Ps := (ins k q.1, (doneM objs q.2 (opAt l k)).1)
/-- a way to a whole position -/
def Path (objs : List (Str × Kd)) (l : List Op) (m : Mdl) : Ps → List Nat → Prop
  | q, [] => isWhole l q.1 = true
  | q, k :: t => StepOk objs l m q (k, nextP objs l q k) ∧ Path objs l m (nextP objs l q k) t
theorem order_path {h : Hist} {m : Mdl} (wf : Wf h) : ∀ {o : List Nat} {q : Ps}, PsOk h q → orderM h.objs (opsM h.evs) m q = some o → Path h.objs (opsM h.evs) m q o
  | [], q, p, e => by
    rw [order_eq wf p] at e
    split at e
    · assumption
    · obtain ⟨x, hx, hf⟩ := firstSome_some e
      obtain ⟨o', _, he⟩ := Option.map_eq_some_iff.mp hf
      cases he
  | k :: t, q, p, e => by
    rw [order_eq wf p] at e
    split at e
    · cases e
    · obtain ⟨x, hx, hf⟩ := firstSome_some e
      obtain ⟨o', ho, he⟩ := Option.map_eq_some_iff.mp hf
      have e1 := (List.cons.inj he).1
      have e2 := (List.cons.inj he).2
      subst e1 e2
      have s := mem_moves.mp hx
      have ex : x = (x.1, nextP h.objs (opsM h.evs) q x.1) := by
        obtain ⟨x1, x2⟩ := x
        have := s.2.2.2
        simp only at this
        rw [this]
        rfl
      have s' : StepOk h.objs (opsM h.evs) m q (x.1, nextP h.objs (opsM h.evs) q x.1) := by rw [← ex]; exact s
      refine ⟨s', order_path wf ?_ ?_⟩
      · exact (s'.next wf p).1
      · have : x.2 = nextP h.objs (opsM h.evs) q x.1 := congrArg Prod.snd ex
        rw [← this]
        exact ho
theorem path_order {h : Hist} {m : Mdl} (wf : Wf h) : ∀ {o : List Nat} {q : Ps}, PsOk h q → Path h.objs (opsM h.evs) m q o → orderM h.objs (opsM h.evs) m q ≠ none
  | [], q, p, hp => by
    have hp : isWhole (opsM h.evs) q.1 = true := hp
    rw [order_eq wf p, if_pos hp]
    exact fun z => by cases z
  | k :: t, q, p, hp => by
    obtain ⟨s, hp⟩ := hp
    have ih := path_order wf (s.next wf p).1 hp
    rw [order_eq wf p]
    split
    · exact fun z => by cases z
    · intro z
      have := firstSome_none.mp z _ (mem_moves.mpr s)
      rw [Option.map_eq_none_iff] at this
      exact ih this
/-- the position behind a row -/
def posL (objs : List (Str × Kd)) (l : List Op) (a : List Nat) : Ps := (a.foldl (fun s k => ins k s) [], stGo objs l (firstsM objs) a)
theorem posL_nil (objs : List (Str × Kd)) (l : List Op) : posL objs l [] = ([], firstsM objs) := rfl
theorem posL_snoc (objs : List (Str × Kd)) (l : List Op) (a : List Nat) (k : Nat) : posL objs l (a ++ [k]) = nextP objs l (posL objs l a) k := by
  unfold posL nextP
  rw [List.foldl_append, stGo_snoc]
  rfl
theorem mem_posL {objs : List (Str × Kd)} {l : List Op} : ∀ {a : List Nat} {s : List Nat} {j : Nat}, j ∈ a.foldl (fun s k => ins k s) s ↔ j ∈ a ∨ j ∈ s
  | [], s, j => by simp
  | k :: a, s, j => by
    rw [List.foldl_cons, mem_posL (objs := objs) (l := l), mem_ins, List.mem_cons]
    constructor
    · rintro (h | h | h)
      · exact .inl (.inr h)
      · exact .inl (.inl h)
      · exact .inr h
    · rintro ((h | h) | h)
      · exact .inr (.inl h)
      · exact .inl h
      · exact .inr (.inr h)
theorem in_posL {objs : List (Str × Kd)} {l : List Op} {a : List Nat} {j : Nat} : j ∈ (posL objs l a).1 ↔ j ∈ a := by
  unfold posL
  rw [mem_posL (objs := objs) (l := l)]
  simp
/-- what an order keeps -/
structure OrdOk (objs : List (Str × Kd)) (l : List Op) (m : Mdl) (o : List Nat) : Prop where
  step : ∀ (i : Nat) k, o[i]? = some k → StepOk objs l m (posL objs l (o.take i)) (k, posL objs l (o.take (i + 1)))
  whole : ∀ k, k < l.length → (opAt l k).ret ≠ none → k ∈ o
theorem path_ok {objs : List (Str × Kd)} {l : List Op} {m : Mdl} : ∀ {t a : List Nat}, Path objs l m (posL objs l a) t → (∀ (i : Nat) k, t[i]? = some k → StepOk objs l m (posL objs l (a ++ t.take i)) (k, posL objs l (a ++ t.take (i + 1)))) ∧ ∀ k, k < l.length → (opAt l k).ret ≠ none → k ∈ a ++ t
  | [], a, h => ⟨(fun i k e => by simp at e), fun k hk hr => by
    have h : isWhole l (posL objs l a).1 = true := h
    unfold isWhole at h
    have := List.all_eq_true.mp h k (List.mem_range.mpr hk)
    rw [Bool.or_eq_true, decide_eq_true_eq, in_posL] at this
    rw [List.append_nil]
    refine this.resolve_left fun z => hr ?_
    cases hq : (opAt l k).ret with
    | none => rfl
    | some q => rw [hq] at z; cases z⟩
  | k0 :: t, a, h => by
    obtain ⟨s, h⟩ := h
    rw [← posL_snoc] at s h
    obtain ⟨h1, h2⟩ := path_ok h
    refine ⟨fun i k e => ?_, fun k hk hr => ?_⟩
    · cases i with
      | zero =>
        have : k0 = k := Option.some.inj e
        subst this
        rw [List.take_zero, List.append_nil]
        exact s
      | succ i =>
        have := h1 i k e
        rw [List.take_succ_cons, List.take_succ_cons]
        simp only [List.append_assoc, List.singleton_append] at this
        exact this
    · have := h2 k hk hr
      simpa using this
theorem path_ok0 {objs : List (Str × Kd)} {l : List Op} {m : Mdl} {o : List Nat} (h : Path objs l m ([], firstsM objs) o) : OrdOk objs l m o := by
  rw [← posL_nil objs l] at h
  obtain ⟨h1, h2⟩ := path_ok h
  refine ⟨fun i k e => ?_, fun k hk hr => ?_⟩
  · have := h1 i k e
    simpa using this
  · have := h2 k hk hr
    simpa using this
theorem ok_path {objs : List (Str × Kd)} {l : List Op} {m : Mdl} {o : List Nat} (h : OrdOk objs l m o) : Path objs l m ([], firstsM objs) o := by
  have : ∀ (t a : List Nat), a ++ t = o → Path objs l m (posL objs l a) t := fun t => by
    induction t with
    | nil =>
      intro a e
      show isWhole l (posL objs l a).1 = true
      unfold isWhole
      refine List.all_eq_true.mpr fun k hk => ?_
      rw [Bool.or_eq_true, decide_eq_true_eq, in_posL]
      cases hr : (opAt l k).ret with
      | none => exact .inl rfl
      | some q =>
        refine .inr ?_
        have := h.whole k (List.mem_range.mp hk) (by rw [hr]; exact fun z => by cases z)
        rw [← e, List.append_nil] at this
        exact this
    | cons k t ih =>
      intro a e
      have s := h.step a.length k (by rw [← e, List.getElem?_append_right (Nat.le_refl _), Nat.sub_self]; rfl)
      have e1 : o.take a.length = a := by rw [← e, List.take_left' rfl]
      have e2 : o.take (a.length + 1) = a ++ [k] := by
        rw [← e, List.take_append, List.take_of_length_le (Nat.le_succ _), show a.length + 1 - a.length = 1 by omega]
        rfl
      rw [e1, e2, posL_snoc] at s
      refine ⟨s, ?_⟩
      rw [← posL_snoc]
      exact ih (a ++ [k]) (by simpa using e)
  rw [← posL_nil objs l]
  exact this o [] rfl
theorem OrdOk.lt {objs : List (Str × Kd)} {l : List Op} {m : Mdl} {o : List Nat} (h : OrdOk objs l m o) {k : Nat} (hk : k ∈ o) : k < l.length := by
  obtain ⟨i, hi⟩ := List.mem_iff_getElem?.mp hk
  exact (h.step i k hi).1
theorem OrdOk.fresh {objs : List (Str × Kd)} {l : List Op} {m : Mdl} {o : List Nat} (h : OrdOk objs l m o) {i k : Nat} (hi : o[i]? = some k) : k ∉ o.take i := fun z => can_new (h.step i k hi).2.1 (in_posL.mpr z)
theorem OrdOk.nd {objs : List (Str × Kd)} {l : List Op} {m : Mdl} {o : List Nat} (h : OrdOk objs l m o) : o.Nodup := by
  refine List.pairwise_iff_getElem.mpr fun i j hi hj hij e => ?_
  refine h.fresh (List.getElem?_eq_getElem hj) ?_
  rw [← e]
  exact List.mem_iff_getElem?.mpr ⟨i, by rw [List.getElem?_take, if_pos hij]; exact List.getElem?_eq_getElem hi⟩
theorem find_ok {h : Hist} {m : Mdl} {o : List Nat} (wf : Wf h) (e : findM h m = some o) : OrdOk h.objs (opsM h.evs) m o := path_ok0 (order_path wf (psOk0 h) e)
theorem ok_find {h : Hist} {m : Mdl} {o : List Nat} (wf : Wf h) (e : OrdOk h.objs (opsM h.evs) m o) : findM h m ≠ none := path_order wf (psOk0 h) (ok_path e)
theorem OrdOk.len {h : Hist} {m : Mdl} {o : List Nat} (wf : Wf h) (e : OrdOk h.objs (opsM h.evs) m o) : o.length ≤ 9 := Nat.le_trans (nodup_lt e.nd fun k hk => e.lt hk) wf.ops
/-- results, place by place -/
theorem resGo_get {objs : List (Str × Kd)} {l : List Op} : ∀ {o : List Nat} {st : List Stt} {i k : Nat}, o[i]? = some k → (resGo objs l st o)[i]? = some (doneM objs (stGo objs l st (o.take i)) (opAt l k)).2
  | [], _, _, _, h => by simp at h
  | k0 :: t, st, 0, k, h => by
    have : k0 = k := Option.some.inj h
    rw [← this]; rfl
  | k0 :: t, st, i + 1, k, h => resGo_get (o := t) (i := i) h
/-! ### serial histories -/
def serOps (l : List Op) : Nat → List Nat → List KeyR → List Op
  | p, k :: t, r :: rs => ⟨(opAt l k).c, (opAt l k).n, (opAt l k).o, (opAt l k).a, some r, p, some (p + 1)⟩ :: serOps l (p + 2) t rs
  | _, _, _ => []
theorem ser_fold {objs : List (Str × Kd)} {l : List Op} : ∀ {o : List Nat} {rs : List KeyR} {s : Sg}, (∀ c, s.opn c = false) → (∀ k ∈ o, OpIn objs (opAt l k).n (opAt l k).o (opAt l k).a) →
    WfFrom objs s (serialE l o rs) ∧ ((serialE l o rs).foldl Sg.step s).ops = s.ops ++ serOps l s.p o rs
  | [], _, s, _, _ => ⟨trivial, by unfold serialE serOps; simp⟩
  | _ :: _, [], s, _, _ => ⟨trivial, by unfold serialE serOps; simp⟩
  | k :: t, r :: rs, s, hs, ho => by
    obtain ⟨s2, h2⟩ : ∃ s2, (s.step (.call (opAt l k).c (opAt l k).n (opAt l k).o (opAt l k).a)).step (.ret (opAt l k).c r) = s2 := ⟨_, rfl⟩
    have o2 : s2.ops = s.ops ++ [⟨(opAt l k).c, (opAt l k).n, (opAt l k).o, (opAt l k).a, some r, s.p, some (s.p + 1)⟩] := by
      rw [← h2]
      show (s.ops ++ [_]).modify (((if (opAt l k).c = (opAt l k).c then some s.ops.length else s.w (opAt l k).c)).getD 0) _ = _
      rw [if_pos rfl, Option.getD_some]
      apply List.ext_getElem?
      intro i
      rw [get_modify]
      by_cases hi : s.ops.length = i
      · subst hi
        rw [if_pos rfl, List.getElem?_append_right (Nat.le_refl _), Nat.sub_self, List.getElem?_append_right (Nat.le_refl _), Nat.sub_self]
        rfl
      · rw [if_neg hi]
        rcases Nat.lt_or_ge i s.ops.length with z | z
        · rw [List.getElem?_append_left z, List.getElem?_append_left z]
        · have e1 : i - s.ops.length ≥ 1 := by omega
          rw [List.getElem?_append_right z, List.getElem?_append_right z, List.getElem?_eq_none (by simpa using e1), List.getElem?_eq_none (by simpa using e1)]
    have p2 : s2.p = s.p + 2 := by rw [← h2]; rfl
    have n2 : ∀ c, s2.opn c = false := fun c => by
      rw [← h2]
      show (if c = (opAt l k).c then false else if c = (opAt l k).c then true else s.opn c) = false
      by_cases hc : c = (opAt l k).c
      · rw [if_pos hc]
      · rw [if_neg hc, if_neg hc]; exact hs c
    obtain ⟨i1, i2⟩ := ser_fold (rs := rs) n2 fun k' hk' => ho k' (List.mem_cons_of_mem _ hk')
    refine ⟨⟨⟨hs _, ho k List.mem_cons_self⟩, ?_, ?_⟩, ?_⟩
    · show (if (opAt l k).c = (opAt l k).c then true else s.opn _) = true
      rw [if_pos rfl]
    · rw [h2]; exact i1
    · show ((serialE l t rs).foldl Sg.step ((s.step _).step _)).ops = _
      rw [h2, i2, o2, p2, List.append_assoc]
      rfl
theorem serOps_len {l : List Op} : ∀ {o : List Nat} {rs : List KeyR} {p : Nat}, rs.length = o.length → (serOps l p o rs).length = o.length
  | [], [], _, _ => rfl
  | [], _ :: _, _, h => by simp at h
  | _ :: _, [], _, h => by simp at h
  | k :: t, r :: rs, p, h => by
    show (serOps l (p + 2) t rs).length + 1 = t.length + 1
    rw [serOps_len (by simpa using h)]
theorem serOps_get {l : List Op} : ∀ {o : List Nat} {rs : List KeyR} {p i k : Nat} {r : KeyR}, o[i]? = some k → rs[i]? = some r → (serOps l p o rs)[i]? = some ⟨(opAt l k).c, (opAt l k).n, (opAt l k).o, (opAt l k).a, some r, p + 2 * i, some (p + 2 * i + 1)⟩
  | [], _, _, _, _, _, h, _ => by simp at h
  | _ :: _, [], _, _, _, _, _, h => by simp at h
  | k0 :: t, r0 :: rs, p, 0, k, r, h1, h2 => by
    have e1 : k0 = k := Option.some.inj h1
    have e2 : r0 = r := Option.some.inj h2
    rw [← e1, ← e2]; rfl
  | k0 :: t, r0 :: rs, p, i + 1, k, r, h1, h2 => by
    have := serOps_get (l := l) (p := p + 2) (i := i) (o := t) (rs := rs) h1 h2
    show (serOps l (p + 2) t rs)[i]? = _
    rw [this]
    have e : p + 2 + 2 * i = p + 2 * (i + 1) := by omega
    rw [e]
theorem serialE_len {l : List Op} : ∀ {o : List Nat} {rs : List KeyR}, rs.length = o.length → (serialE l o rs).length = 2 * o.length
  | [], [], _ => rfl
  | [], _ :: _, h => by simp at h
  | _ :: _, [], h => by simp at h
  | k :: t, r :: rs, h => by
    show (serialE l t rs).length + 1 + 1 = 2 * (t.length + 1)
    rw [serialE_len (by simpa using h)]
    omega
theorem serialE_txt {l : List Op} : ∀ {o : List Nat} {rs : List KeyR}, (∀ k ∈ o, opTxt (opAt l k) = true) → (∀ r ∈ rs, kOk r = true) → ∀ e ∈ serialE l o rs, evTxt e = true
  | [], _, _, _ => fun e he => by unfold serialE at he; cases he
  | _ :: _, [], _, _ => fun e he => by unfold serialE at he; cases he
  | k :: t, r :: rs, h1, h2 => fun e he => by
    have hk := h1 k List.mem_cons_self
    unfold opTxt at hk
    simp only [Bool.and_eq_true] at hk
    have he : e ∈ Ev.call _ _ _ _ :: Ev.ret _ _ :: serialE l t rs := he
    rcases List.mem_cons.mp he with z | he
    · rw [z]
      show (_ && _ && _) = true
      rw [hk.1.1.1, hk.1.1.2, hk.1.2]; rfl
    · rcases List.mem_cons.mp he with z | he
      · rw [z]
        show (_ && _) = true
        rw [hk.1.1.1, h2 r List.mem_cons_self]; rfl
      · exact serialE_txt (fun j hj => h1 j (List.mem_cons_of_mem _ hj)) (fun j hj => h2 j (List.mem_cons_of_mem _ hj)) e he
theorem resM_len (h : Hist) (o : List Nat) : (resM h o).length = o.length := resGo_len _ _ _ _
theorem resM_txt (h : Hist) (o : List Nat) : ∀ r ∈ resM h o, kOk r = true := fun r hr => by
  obtain ⟨i, hi⟩ := List.mem_iff_getElem?.mp hr
  have hl : i < o.length := by rw [← resM_len h o]; exact (List.getElem?_eq_some_iff.mp hi).1
  have := resGo_get (objs := h.objs) (l := opsM h.evs) (st := firstsM h.objs) (List.getElem?_eq_getElem hl)
  unfold resM at hi
  rw [hi] at this
  rw [Option.some.inj this]
  exact doneM_txt _ _ _
section
variable {h : Hist} {m : Mdl} {o : List Nat} (wf : Wf h) (ok : OrdOk h.objs (opsM h.evs) m o)
include wf ok
theorem ser_ops : opsM (serialM h o).evs = serOps (opsM h.evs) 0 o (resM h o) := by
  have := (ser_fold (objs := h.objs) (l := opsM h.evs) (o := o) (rs := resM h o) (s := sg0) (fun _ => rfl) fun k hk => wf.opIn (ok.lt hk)).2
  exact this
theorem ser_wf : Wf (serialM h o) := by
  have h9 := ok.len wf
  refine ⟨wf.few, (ser_fold (objs := h.objs) (l := opsM h.evs) (o := o) (rs := resM h o) (s := sg0) (fun _ => rfl) fun k hk => wf.opIn (ok.lt hk)).1, ?_, ?_, serialE_txt (fun k hk => wf.optxt (ok.lt hk)) (resM_txt h o), wf.otxt⟩
  · rw [ser_ops wf ok, serOps_len (resM_len h o)]; exact h9
  · show (serialE _ _ _).length ≤ 100
    rw [serialE_len (resM_len h o)]; omega
theorem ser_len : (opsM (serialM h o).evs).length = o.length := by rw [ser_ops wf ok, serOps_len (resM_len h o)]
theorem ser_at {i k : Nat} (hi : o[i]? = some k) : opAt (opsM (serialM h o).evs) i = ⟨(opAt (opsM h.evs) k).c, (opAt (opsM h.evs) k).n, (opAt (opsM h.evs) k).o, (opAt (opsM h.evs) k).a, some (doneM h.objs (stGo h.objs (opsM h.evs) (firstsM h.objs) (o.take i)) (opAt (opsM h.evs) k)).2, 2 * i, some (2 * i + 1)⟩ := by
  have hr : (resM h o)[i]? = some _ := resGo_get hi
  have := serOps_get (l := opsM h.evs) (p := 0) hi hr
  unfold opAt at this ⊢
  rw [ser_ops wf ok, List.getD_eq_getElem?_getD, this, Option.getD_some]
  simp
theorem ser_done {i k : Nat} (hi : o[i]? = some k) (st : List Stt) : doneM h.objs st (opAt (opsM (serialM h o).evs) i) = doneM h.objs st (opAt (opsM h.evs) k) := by
  rw [ser_at wf ok hi]
  rfl
/-- the states behind the first i of the serial history -/
theorem ser_st : ∀ i, i ≤ o.length → stGo h.objs (opsM (serialM h o).evs) (firstsM h.objs) (List.range i) = stGo h.objs (opsM h.evs) (firstsM h.objs) (o.take i)
  | 0, _ => rfl
  | i + 1, hi => by
    have hg : o[i]? = some o[i] := List.getElem?_eq_getElem (by omega)
    rw [List.range_succ, stGo_snoc, ser_st i (by omega), List.take_add_one, hg]
    show _ = stGo _ _ _ (o.take i ++ [o[i]])
    rw [stGo_snoc, ser_done wf ok hg]
theorem ser_step {i : Nat} (hi : i < o.length) {m' : Mdl} : StepOk h.objs (opsM (serialM h o).evs) m' (posL h.objs (opsM (serialM h o).evs) (List.range i)) (i, posL h.objs (opsM (serialM h o).evs) (List.range (i + 1))) := by
  have hg : o[i]? = some o[i] := List.getElem?_eq_getElem hi
  have hl := ser_len wf ok
  refine ⟨by rw [hl]; exact hi, ?_, .inr ?_, ?_⟩
  · unfold canCome
    rw [Bool.and_eq_true]
    refine ⟨?_, List.all_eq_true.mpr fun j hj => ?_⟩
    · rw [Bool.not_eq_true', decide_eq_false_iff_not, in_posL]
      exact fun z => absurd (List.mem_range.mp z) (Nat.lt_irrefl _)
    · have hj := List.mem_range.mp hj
      rw [hl] at hj
      have hgj : o[j]? = some o[j] := List.getElem?_eq_getElem hj
      rw [Bool.or_eq_true, decide_eq_true_eq, in_posL, List.mem_range]
      by_cases hb : isBefore m' (opAt (opsM (serialM h o).evs) j) (opAt (opsM (serialM h o).evs) i) = true
      · refine .inr ?_
        rw [ser_at wf ok hgj, ser_at wf ok hg] at hb
        cases m' with
        | real =>
          have hb : decide (2 * j + 1 < 2 * i) = true := hb
          have := of_decide_eq_true hb
          omega
        | client =>
          have hb : (decide _ && decide (2 * j < 2 * i)) = true := hb
          rw [Bool.and_eq_true] at hb
          have := of_decide_eq_true hb.2
          omega
      · refine .inl ?_
        simpa using hb
  · show (opAt (opsM (serialM h o).evs) i).r = some (doneM h.objs (stGo _ _ _ _) _).2
    rw [ser_st wf ok i (by omega), ser_done wf ok hg, ser_at wf ok hg]
  · rw [List.range_succ, posL_snoc]; rfl
theorem ser_ordOk (m' : Mdl) : OrdOk h.objs (opsM (serialM h o).evs) m' (List.range o.length) := by
  refine ⟨fun i k e => ?_, fun k hk _ => ?_⟩
  · have hi : i < o.length := by have := (List.getElem?_eq_some_iff.mp e).1; rwa [List.length_range] at this
    have ek : k = i := by rw [List.getElem?_range hi] at e; exact (Option.some.inj e).symm
    subst ek
    have e1 : ∀ j, j ≤ o.length → (List.range o.length).take j = List.range j := fun j hj => by rw [List.take_range, Nat.min_eq_left hj]
    rw [e1 _ (by omega), e1 _ (by omega)]
    exact ser_step wf ok hi
  · rw [ser_len wf ok] at hk
    exact List.mem_range.mpr hk
/-- in the real model the order is the one that stands -/
theorem ser_find : findM (serialM h o) .real = some (List.range o.length) := by
  have wf' := ser_wf wf ok
  have hl := ser_len wf ok
  cases e : findM (serialM h o) .real with
  | none => exact absurd e (ok_find (h := serialM h o) wf' (ser_ordOk wf ok .real))
  | some o' =>
    have ok' := find_ok wf' e
    have key : ∀ i, i ≤ o'.length → i ≤ o.length → o'.take i = List.range i := fun i => by
      induction i with
      | zero => intro _ _; rfl
      | succ i ih =>
        intro h1 h2
        have ih := ih (by omega) (by omega)
        have hg : o'[i]? = some o'[i] := List.getElem?_eq_getElem (by omega)
        have s := ok'.step i _ hg
        rw [ih] at s
        obtain ⟨s1, s2, _⟩ := s
        rw [List.take_add_one, hg, ih, List.range_succ]
        show _ ++ [o'[i]] = _
        congr 2
        have s1 : o'[i] < o.length := by rw [← hl]; exact s1
        unfold canCome at s2
        rw [Bool.and_eq_true, Bool.not_eq_true', decide_eq_false_iff_not, in_posL, List.mem_range] at s2
        refine Nat.le_antisymm (Nat.le_of_not_lt fun hlt => ?_) (Nat.le_of_not_lt s2.1)
        have := List.all_eq_true.mp s2.2 i (List.mem_range.mpr (by show i < (opsM (serialM h o).evs).length; rw [hl]; omega))
        rw [Bool.or_eq_true, decide_eq_true_eq, in_posL, List.mem_range] at this
        have hb : isBefore .real (opAt (opsM (serialM h o).evs) i) (opAt (opsM (serialM h o).evs) o'[i]) = true := by
          rw [ser_at wf ok (List.getElem?_eq_getElem (show i < o.length by omega)), ser_at wf ok (List.getElem?_eq_getElem s1)]
          show decide (2 * i + 1 < 2 * o'[i]) = true
          exact decide_eq_true (by omega)
        rcases this with z | z
        · have hb2 : isBefore .real (opAt (opsM (serialM h o).evs) i) (opAt (opsM (serialM h o).evs) o'[i]) = false := by simpa using z
          rw [hb] at hb2; cases hb2
        · exact absurd z (Nat.lt_irrefl _)
    have h1 : o'.length ≤ o.length := by
      have := nodup_lt ok'.nd fun k hk => ok'.lt hk
      rwa [hl] at this
    have h2 : o.length ≤ o'.length := by
      refine Nat.le_trans (Nat.le_of_eq (List.length_range (n := o.length)).symm) (sub_len List.nodup_range fun k hk => ?_)
      have hk := List.mem_range.mp hk
      refine ok'.whole k (by show k < (opsM (serialM h o).evs).length; rw [hl]; exact hk) ?_
      show (opAt (opsM (serialM h o).evs) k).ret ≠ none
      rw [ser_at wf ok (List.getElem?_eq_getElem hk)]
      exact fun z => by cases z
    have := key o'.length (Nat.le_refl _) h1
    rw [List.take_length] at this
    rw [this, show o'.length = o.length by omega]
end
end K22

-- P5
set_option maxHeartbeats 4000000
/-! The plain law, part 5: finished histories. -/
namespace K22
open PySem
section
variable (W : Nat → Bool)
/-- how many before k are wanted -/
def rk (k : Nat) : Nat := ((List.range k).filter W).length
theorem rk_zero : rk W 0 = 0 := rfl
theorem rk_succ (k : Nat) : rk W (k + 1) = rk W k + (if W k then 1 else 0) := by
  unfold rk
  rw [List.range_succ, List.filter_append, List.length_append, List.filter_cons]
  cases W k <;> rfl
theorem rk_mono {i j : Nat} (h : i ≤ j) : rk W i ≤ rk W j := by
  induction j with
  | zero => rw [Nat.le_zero.mp h]; exact Nat.le_refl _
  | succ j ih =>
    rcases Nat.lt_or_eq_of_le h with z | z
    · have := ih (Nat.le_of_lt_succ z)
      rw [rk_succ]
      omega
    · rw [z]; exact Nat.le_refl _
theorem rk_lt {i j : Nat} (hw : W i = true) (h : i < j) : rk W i < rk W j := by
  have h1 := rk_succ W i
  rw [if_pos hw] at h1
  have := rk_mono W (show i + 1 ≤ j from h)
  omega
theorem rk_inj {i j : Nat} (hi : W i = true) (hj : W j = true) (h : rk W i = rk W j) : i = j := by
  rcases Nat.lt_trichotomy i j with z | z | z
  · have := rk_lt W hi z; omega
  · exact z
  · have := rk_lt W hj z; omega
/-- each place is some wanted one's -/
theorem rk_onto {n p : Nat} (h : p < rk W n) : ∃ k, k < n ∧ W k = true ∧ rk W k = p := by
  induction n with
  | zero => exact absurd h (Nat.not_lt_zero _)
  | succ n ih =>
    rw [rk_succ] at h
    by_cases hp : p < rk W n
    · obtain ⟨k, h1, h2, h3⟩ := ih hp
      exact ⟨k, Nat.lt_succ_of_lt h1, h2, h3⟩
    · cases hw : W n with
      | false => rw [hw] at h; simp at h; omega
      | true =>
        rw [hw] at h
        simp at h
        exact ⟨n, Nat.lt_succ_self n, hw, by omega⟩
/-- the kept events, from a state -/
def keptFrom (s : Sg) : List Ev → List Ev
  | [] => []
  | e :: t => if W (numAt s e) = true then e :: keptFrom (s.step e) t else keptFrom (s.step e) t
theorem keptE_from {wn : List Nat} (hW : ∀ k, W k = true ↔ k ∈ wn) : ∀ (es : List Ev) (s : Sg), ((numsFrom s es).zip es).filterMap (fun q => if q.1 ∈ wn then some q.2 else none) = keptFrom W s es
  | [], _ => rfl
  | e :: es, s => by
    show (((numAt s e) :: numsFrom (s.step e) es).zip (e :: es)).filterMap _ = _
    rw [List.zip_cons_cons, List.filterMap_cons, keptE_from hW es (s.step e)]
    show _ = if W (numAt s e) = true then e :: keptFrom W (s.step e) es else keptFrom W (s.step e) es
    by_cases h : numAt s e ∈ wn
    · rw [if_pos ((hW _).2 h)]
      simp only [h, if_true]
    · have : ¬ W (numAt s e) = true := fun z => h ((hW _).1 z)
      rw [if_neg this]
      simp only [h, if_false]
/-- the whole history's state and that of what is kept -/
structure Lk (s s' : Sg) : Prop where
  len : s'.ops.length = rk W s.ops.length
  op : ∀ (k : Nat) op, s.ops[k]? = some op → W k = true → ∃ op', s'.ops[rk W k]? = some op' ∧ op'.c = op.c ∧ op'.n = op.n ∧ op'.o = op.o ∧ op'.a = op.a ∧ op'.r = op.r ∧ (op'.ret = none ↔ op.ret = none) ∧ op'.called < s'.p ∧ ∀ q, op'.ret = some q → q < s'.p
  bf : ∀ (k1 k2 : Nat) o1 o2 p1 p2 m, s.ops[k1]? = some o1 → s.ops[k2]? = some o2 → W k1 = true → W k2 = true → s'.ops[rk W k1]? = some p1 → s'.ops[rk W k2]? = some p2 → isBefore m p1 p2 = isBefore m o1 o2
  w : ∀ c k, s.w c = some k → W k = true → s'.w c = some (rk W k)
  opn : ∀ c, s'.opn c = true ↔ (s.opn c = true ∧ ∃ k, s.w c = some k ∧ W k = true)
theorem Lk.zero : Lk W sg0 sg0 := ⟨rfl, (fun k op e => by simp [sg0] at e), (fun k1 k2 o1 o2 p1 p2 m e => by simp [sg0] at e), (fun c k e => by cases e), fun c => ⟨(fun e => by cases e), fun e => by cases e.1⟩⟩
variable {W}
theorem Lk.get {s s' : Sg} (L : Lk W s s') {k : Nat} {op op' : Op} (e : s.ops[k]? = some op) (hw : W k = true) (e' : s'.ops[rk W k]? = some op') : op'.c = op.c ∧ op'.n = op.n ∧ op'.o = op.o ∧ op'.a = op.a ∧ op'.r = op.r ∧ (op'.ret = none ↔ op.ret = none) ∧ op'.called < s'.p ∧ ∀ q, op'.ret = some q → q < s'.p := by
  obtain ⟨x, hx, r⟩ := L.op k op e hw
  rw [e'] at hx
  cases hx
  exact r
theorem rk_len {s : Sg} {k : Nat} (hw : W k = true) (h : k < s.ops.length) : rk W k < rk W s.ops.length := rk_lt W hw h
theorem Lk.call_out {s s' : Sg} (L : Lk W s s') {c n o : Str} {a : List Int} (h1 : s.opn c = false) (hw : W s.ops.length = false) : Lk W (s.step (.call c n o a)) s' := by
  have hl : (s.step (.call c n o a)).ops.length = s.ops.length + 1 := by show (s.ops ++ [_]).length = _; rw [List.length_append]; rfl
  have old : ∀ (k : Nat) op, (s.step (.call c n o a)).ops[k]? = some op → W k = true → s.ops[k]? = some op := fun k op e hk => by
    rcases get_push (show (s.ops ++ [_])[k]? = some op from e) with ⟨e, _⟩ | ⟨z, _⟩
    · exact e
    · rw [z, hw] at hk; cases hk
  refine ⟨?_, fun k op e hk => L.op k op (old k op e hk) hk, fun k1 k2 o1 o2 p1 p2 m e1 e2 h1 h2 => L.bf k1 k2 o1 o2 p1 p2 m (old _ _ e1 h1) (old _ _ e2 h2) h1 h2, fun c' k hk hwk => ?_, fun c' => ?_⟩
  · rw [hl, rk_succ, hw, L.len]; simp
  · have hk : (if c' = c then some s.ops.length else s.w c') = some k := hk
    by_cases hc : c' = c
    · rw [if_pos hc] at hk
      cases hk
      rw [hw] at hwk; cases hwk
    · rw [if_neg hc] at hk
      exact L.w c' k hk hwk
  · show s'.opn c' = true ↔ ((if c' = c then true else s.opn c') = true ∧ ∃ k, (if c' = c then some s.ops.length else s.w c') = some k ∧ W k = true)
    by_cases hc : c' = c
    · rw [if_pos hc, if_pos hc]
      constructor
      · intro z
        have := (L.opn c').1 z
        rw [hc, h1] at this
        cases this.1
      · rintro ⟨_, k, hk, hwk⟩
        cases hk
        rw [hw] at hwk; cases hwk
    · rw [if_neg hc, if_neg hc]
      exact L.opn c'
theorem Lk.call_in {objs : List (Str × Kd)} {s s' : Sg} (L : Lk W s s') (I : SInv objs s) {c n o : Str} {a : List Int} (h1 : s.opn c = false) (hw : W s.ops.length = true) : Lk W (s.step (.call c n o a)) (s'.step (.call c n o a)) := by
  have hl : (s.step (.call c n o a)).ops.length = s.ops.length + 1 := by show (s.ops ++ [_]).length = _; rw [List.length_append]; rfl
  have new' : ∀ (k : Nat) op', W k = true → k < s.ops.length → s'.ops[rk W k]? = some op' → (s'.step (.call c n o a)).ops[rk W k]? = some op' := fun k op' hk hlt e => by
    show (s'.ops ++ [_])[_]? = _
    rw [List.getElem?_append_left (by rw [L.len]; exact rk_lt W hk hlt)]
    exact e
  have at' : (s'.step (.call c n o a)).ops[rk W s.ops.length]? = some ⟨c, n, o, a, none, s'.p, none⟩ := by
    show (s'.ops ++ [_])[_]? = _
    rw [← L.len, List.getElem?_append_right (Nat.le_refl _), Nat.sub_self]; rfl
  have cases_of : ∀ (k : Nat) op, (s.step (.call c n o a)).ops[k]? = some op → (s.ops[k]? = some op ∧ k < s.ops.length) ∨ (k = s.ops.length ∧ op = ⟨c, n, o, a, none, s.p, none⟩) := fun k op e => get_push e
  refine ⟨?_, fun k op e hk => ?_, fun k1 k2 o1 o2 p1 p2 m e1 e2 hk1 hk2 f1 f2 => ?_, fun c' k hk hwk => ?_, fun c' => ?_⟩
  · rw [hl, rk_succ, hw]
    show (s'.ops ++ [_]).length = _
    rw [List.length_append, L.len]; rfl
  · rcases cases_of k op e with ⟨e, hlt⟩ | ⟨rfl, rfl⟩
    · obtain ⟨op', e', r1, r2, r3, r4, r5, r6, r7, r8⟩ := L.op k op e hk
      exact ⟨op', new' k op' hk hlt e', r1, r2, r3, r4, r5, r6, Nat.lt_succ_of_lt r7, fun q hq => Nat.lt_succ_of_lt (r8 q hq)⟩
    · exact ⟨_, at', rfl, rfl, rfl, rfl, rfl, Iff.rfl, Nat.lt_succ_self _, fun q hq => by cases hq⟩
  · rcases cases_of k1 o1 e1 with ⟨e1, l1⟩ | ⟨z1, z1'⟩
    · obtain ⟨q1, g1, r1, r2, r3, r4, r5, r6, r7, r8⟩ := L.op k1 o1 e1 hk1
      rw [new' k1 q1 hk1 l1 g1] at f1
      cases f1
      rcases cases_of k2 o2 e2 with ⟨e2, l2⟩ | ⟨z2, z2'⟩
      · obtain ⟨q2, g2, _⟩ := L.op k2 o2 e2 hk2
        rw [new' k2 q2 hk2 l2 g2] at f2
        cases f2
        exact L.bf k1 k2 o1 o2 _ _ m e1 e2 hk1 hk2 g1 g2
      · subst z2 z2'
        rw [at'] at f2
        cases f2
        obtain ⟨i1, i2, _⟩ := I.op k1 o1 e1
        cases m with
        | real =>
          unfold isBefore
          cases hr : o1.ret with
          | none => rw [r6.2 hr]
          | some q =>
            cases hr' : p1.ret with
            | none => rw [r6.1 hr'] at hr; cases hr
            | some q' =>
              show decide (q' < s'.p) = decide (q < s.p)
              rw [decide_eq_true (r8 q' hr'), decide_eq_true (i2 q hr).1]
        | client =>
          show (decide (p1.c = c) && decide (p1.called < s'.p)) = (decide (o1.c = c) && decide (o1.called < s.p))
          rw [r1, decide_eq_true r7, decide_eq_true i1]
    · subst z1 z1'
      rw [at'] at f1
      cases f1
      rcases cases_of k2 o2 e2 with ⟨e2, l2⟩ | ⟨z2, z2'⟩
      · obtain ⟨q2, g2, r1, _, _, _, _, _, r7, _⟩ := L.op k2 o2 e2 hk2
        rw [new' k2 q2 hk2 l2 g2] at f2
        cases f2
        obtain ⟨i1, _⟩ := I.op k2 o2 e2
        cases m with
        | real => rfl
        | client =>
          show (decide (c = p2.c) && decide (s'.p < p2.called)) = (decide (c = o2.c) && decide (s.p < o2.called))
          rw [decide_eq_false (show ¬ s'.p < p2.called by omega), decide_eq_false (show ¬ s.p < o2.called by omega), Bool.and_false, Bool.and_false]
      · subst z2 z2'
        rw [at'] at f2
        cases f2
        cases m with
        | real => rfl
        | client =>
          show (decide (c = c) && decide (s'.p < s'.p)) = (decide (c = c) && decide (s.p < s.p))
          rw [decide_eq_false (Nat.lt_irrefl _), decide_eq_false (Nat.lt_irrefl _)]
  · have hk : (if c' = c then some s.ops.length else s.w c') = some k := hk
    show (if c' = c then some s'.ops.length else s'.w c') = some (rk W k)
    by_cases hc : c' = c
    · rw [if_pos hc] at hk ⊢
      cases hk
      rw [L.len]
    · rw [if_neg hc] at hk ⊢
      exact L.w c' k hk hwk
  · show (if c' = c then true else s'.opn c') = true ↔ ((if c' = c then true else s.opn c') = true ∧ ∃ k, (if c' = c then some s.ops.length else s.w c') = some k ∧ W k = true)
    by_cases hc : c' = c
    · rw [if_pos hc, if_pos hc, if_pos hc]
      exact ⟨fun _ => ⟨rfl, _, rfl, hw⟩, fun _ => rfl⟩
    · rw [if_neg hc, if_neg hc, if_neg hc]
      exact L.opn c'
/-- a return sets the op at k' and nothing else -/
theorem ret_ops {s : Sg} {c : Str} {r : KeyR} {k0 : Nat} (hw : s.w c = some k0) {k : Nat} : (s.step (.ret c r)).ops[k]? = if k0 = k then (s.ops[k]?).map (fun op => { op with r := some r, ret := some s.p }) else s.ops[k]? := by
  show (s.ops.modify ((s.w c).getD 0) _)[k]? = _
  rw [hw, Option.getD_some, get_modify]
theorem ret_len {s : Sg} {c : Str} {r : KeyR} : (s.step (.ret c r)).ops.length = s.ops.length := List.length_modify _ _ _
theorem Lk.ret_in {objs : List (Str × Kd)} {s s' : Sg} (L : Lk W s s') (I : SInv objs s) {c : Str} {r : KeyR} (h1 : s.opn c = true) {k0 : Nat} (hw0 : s.w c = some k0) (hwk : W k0 = true) : s'.opn c = true ∧ Lk W (s.step (.ret c r)) (s'.step (.ret c r)) := by
  have ho' : s'.opn c = true := (L.opn c).2 ⟨h1, k0, hw0, hwk⟩
  obtain ⟨op0, e0, c0, hi0⟩ := I.wl _ _ hw0
  have r0 : op0.ret = none := hi0.1 h1
  have hw0' := L.w c k0 hw0 hwk
  obtain ⟨op0', e0', q1, q2, q3, q4, q5, q6, q7, q8⟩ := L.op k0 op0 e0 hwk
  have old : ∀ (k : Nat) op, (s.step (.ret c r)).ops[k]? = some op → (k ≠ k0 ∧ s.ops[k]? = some op) ∨ (k = k0 ∧ op = { op0 with r := some r, ret := some s.p }) := fun k op e => by
    rw [ret_ops hw0] at e
    by_cases hk : k0 = k
    · subst hk
      rw [if_pos rfl, e0] at e
      exact .inr ⟨rfl, (Option.some.inj e).symm⟩
    · rw [if_neg hk] at e
      exact .inl ⟨fun z => hk z.symm, e⟩
  have at' : (s'.step (.ret c r)).ops[rk W k0]? = some { op0' with r := some r, ret := some s'.p } := by rw [ret_ops hw0', if_pos rfl, e0']; rfl
  have keep' : ∀ (k : Nat) op', W k = true → k ≠ k0 → ((s'.step (.ret c r)).ops[rk W k]? = some op' ↔ s'.ops[rk W k]? = some op') := fun k op' hk hne => by
    rw [ret_ops hw0', if_neg (fun z => hne (rk_inj W hwk hk z).symm)]
  refine ⟨ho', ⟨by rw [ret_len, ret_len]; exact L.len, fun k op e hk => ?_, fun k1 k2 o1 o2 p1 p2 m e1 e2 hk1 hk2 f1 f2 => ?_, fun c' k hk hwk' => L.w c' k hk hwk', fun c' => ?_⟩⟩
  · rcases old k op e with ⟨hne, e⟩ | ⟨rfl, rfl⟩
    · obtain ⟨op', e', r1, r2, r3, r4, r5, r6, r7, r8⟩ := L.op k op e hk
      exact ⟨op', (keep' k op' hk hne).2 e', r1, r2, r3, r4, r5, r6, Nat.lt_succ_of_lt r7, fun q hq => Nat.lt_succ_of_lt (r8 q hq)⟩
    · refine ⟨_, at', q1, q2, q3, q4, rfl, by simp, Nat.lt_succ_of_lt q7, fun q hq => ?_⟩
      cases hq
      exact Nat.lt_succ_self _
  · have bf := fun (k1 k2 : Nat) o1 o2 p1 p2 e1 e2 hk1 hk2 f1 f2 => L.bf k1 k2 o1 o2 p1 p2 m e1 e2 hk1 hk2 f1 f2
    rcases old k1 o1 e1 with ⟨n1, e1⟩ | ⟨z1, z1'⟩
    · rw [keep' k1 p1 hk1 n1] at f1
      rcases old k2 o2 e2 with ⟨n2, e2⟩ | ⟨z2, z2'⟩
      · rw [keep' k2 p2 hk2 n2] at f2
        exact bf k1 k2 o1 o2 p1 p2 e1 e2 hk1 hk2 f1 f2
      · subst z2 z2'
        rw [at'] at f2
        cases f2
        have := bf k1 k2 o1 op0 p1 op0' e1 e0 hk1 hk2 f1 e0'
        cases m <;> exact this
    · subst z1 z1'
      rw [at'] at f1
      cases f1
      -- the op that returns is before none that was called
      have called : ∀ (k : Nat) op op', s.ops[k]? = some op → W k = true → s'.ops[rk W k]? = some op' → ¬ s.p < op.called ∧ ¬ s'.p < op'.called := fun k op op' e hk e' => by
        have h1 := (I.op k op e).1
        have h2 := (L.get e hk e').2.2.2.2.2.2.1
        exact ⟨by omega, by omega⟩
      rcases old k2 o2 e2 with ⟨n2, e2⟩ | ⟨z2, z2'⟩
      · rw [keep' k2 p2 hk2 n2] at f2
        cases m with
        | real =>
          obtain ⟨a1, a2⟩ := called k2 o2 p2 e2 hk2 f2
          show decide (s'.p < p2.called) = decide (s.p < o2.called)
          rw [decide_eq_false a1, decide_eq_false a2]
        | client => exact bf k1 k2 op0 o2 op0' p2 e0 e2 hk1 hk2 e0' f2
      · subst z2 z2'
        rw [at'] at f2
        cases f2
        cases m with
        | real =>
          obtain ⟨a1, a2⟩ := called k2 op0 op0' e0 hk2 e0'
          show decide (s'.p < op0'.called) = decide (s.p < op0.called)
          rw [decide_eq_false a1, decide_eq_false a2]
        | client => exact bf k2 k2 op0 op0 op0' op0' e0 e0 hk2 hk2 e0' e0'
  · show (if c' = c then false else s'.opn c') = true ↔ ((if c' = c then false else s.opn c') = true ∧ _)
    by_cases hc : c' = c
    · rw [if_pos hc, if_pos hc]
      exact ⟨(fun z => by cases z), fun z => by cases z.1⟩
    · rw [if_neg hc, if_neg hc]
      exact L.opn c'
/-- each return's number is wanted -/
def RetW (W : Nat → Bool) : Sg → List Ev → Prop
  | _, [] => True
  | s, e :: t => (match e with
    | .call _ _ _ _ => True
    | .ret c _ => ∀ k, s.w c = some k → W k = true) ∧ RetW W (s.step e) t
theorem lock {objs : List (Str × Kd)} : ∀ {es : List Ev} {s s' : Sg}, SInv objs s → Lk W s s' → WfFrom objs s es → RetW W s es → Lk W (es.foldl Sg.step s) ((keptFrom W s es).foldl Sg.step s') ∧ WfFrom objs s' (keptFrom W s es)
  | [], s, s', _, L, _, _ => ⟨L, trivial⟩
  | e :: t, s, s', I, L, wf, rw_ => by
    obtain ⟨w1, w2⟩ := wf
    obtain ⟨r1, r2⟩ := rw_
    have I2 := I.step w1
    cases e with
    | call c n o a =>
      obtain ⟨o1, o2⟩ : s.opn c = false ∧ OpIn objs n o a := w1
      show Lk W (t.foldl Sg.step (s.step (.call c n o a))) ((if W s.ops.length = true then Ev.call c n o a :: keptFrom W (s.step (.call c n o a)) t else keptFrom W (s.step (.call c n o a)) t).foldl Sg.step s') ∧ WfFrom objs s' (if W s.ops.length = true then Ev.call c n o a :: keptFrom W (s.step (.call c n o a)) t else keptFrom W (s.step (.call c n o a)) t)
      cases hw : W s.ops.length with
      | true =>
        rw [if_pos rfl]
        obtain ⟨l1, l2⟩ := lock I2 (L.call_in I o1 hw) w2 r2
        refine ⟨l1, ⟨?_, o2⟩, l2⟩
        cases ho : s'.opn c with
        | false => rfl
        | true =>
          have := ((L.opn c).1 ho).1
          rw [o1] at this; cases this
      | false =>
        rw [if_neg Bool.false_ne_true]
        exact lock I2 (L.call_out o1 hw) w2 r2
    | ret c r =>
      have o1 : s.opn c = true := w1
      obtain ⟨k0, hk0⟩ := I.ow c o1
      have hw : W k0 = true := r1 k0 hk0
      have hn : numAt s (.ret c r) = k0 := by show (s.w c).getD 0 = k0; rw [hk0]; rfl
      show Lk W (t.foldl Sg.step (s.step (.ret c r))) ((if W (numAt s (.ret c r)) = true then Ev.ret c r :: keptFrom W (s.step (.ret c r)) t else keptFrom W (s.step (.ret c r)) t).foldl Sg.step s') ∧ WfFrom objs s' (if W (numAt s (.ret c r)) = true then Ev.ret c r :: keptFrom W (s.step (.ret c r)) t else keptFrom W (s.step (.ret c r)) t)
      rw [hn, if_pos hw]
      obtain ⟨ho, L2⟩ := L.ret_in I (r := r) o1 hk0 hw
      obtain ⟨l1, l2⟩ := lock I2 L2 w2 r2
      exact ⟨l1, ho, l2⟩
/-- what has returned stays so -/
theorem ret_stays {objs : List (Str × Kd)} : ∀ {es : List Ev} {s : Sg}, SInv objs s → WfFrom objs s es → ∀ (k : Nat) op, s.ops[k]? = some op → ∃ op', (es.foldl Sg.step s).ops[k]? = some op' ∧ (op.ret ≠ none → op'.ret ≠ none)
  | [], s, _, _, k, op, e => ⟨op, e, id⟩
  | ev :: t, s, I, wf, k, op, e => by
    obtain ⟨w1, w2⟩ := wf
    have I2 := I.step w1
    cases ev with
    | call c n o a =>
      have hl := (List.getElem?_eq_some_iff.mp e).1
      exact ret_stays I2 w2 k op (by show (s.ops ++ [_])[k]? = _; rw [List.getElem?_append_left hl]; exact e)
    | ret c r =>
      obtain ⟨k0, hk0⟩ := I.ow c w1
      by_cases hk : k0 = k
      · subst hk
        obtain ⟨op', e', h'⟩ := ret_stays I2 w2 k0 { op with r := some r, ret := some s.p } (by rw [ret_ops hk0, if_pos rfl, e]; rfl)
        exact ⟨op', e', fun _ => h' (by simp)⟩
      · exact ret_stays I2 w2 k op (by rw [ret_ops hk0, if_neg hk]; exact e)
theorem retW_of {objs : List (Str × Kd)} : ∀ {es : List Ev} {s : Sg}, SInv objs s → WfFrom objs s es → (∀ (k : Nat) op, (es.foldl Sg.step s).ops[k]? = some op → op.ret ≠ none → W k = true) → RetW W s es
  | [], _, _, _, _ => trivial
  | ev :: t, s, I, wf, h => by
    obtain ⟨w1, w2⟩ := wf
    have I2 := I.step w1
    refine ⟨?_, retW_of I2 w2 h⟩
    cases ev with
    | call c n o a => trivial
    | ret c r =>
      intro k hk
      obtain ⟨op, e, _⟩ := I.wl c k hk
      obtain ⟨op', e', h'⟩ := ret_stays I2 w2 k { op with r := some r, ret := some s.p } (by rw [ret_ops hk, if_pos rfl, e]; rfl)
      exact h k op' e' (h' (by simp))
end
end K22

-- P6
set_option maxHeartbeats 4000000
/-! The plain law, part 6: finished histories, as a whole. -/
namespace K22
open PySem
theorem wf_app {objs : List (Str × Kd)} : ∀ {a b : List Ev} {s : Sg}, WfFrom objs s a → WfFrom objs (a.foldl Sg.step s) b → WfFrom objs s (a ++ b)
  | [], _, _, _, h => h
  | _ :: _, _, _, h1, h2 => ⟨h1.1, wf_app h1.2 h2⟩
theorem kept_app {W : Nat → Bool} : ∀ (a b : List Ev) (s : Sg), keptFrom W s (a ++ b) = keptFrom W s a ++ keptFrom W (a.foldl Sg.step s) b
  | [], _, _ => rfl
  | e :: t, b, s => by
    show (if W (numAt s e) = true then e :: keptFrom W (s.step e) (t ++ b) else keptFrom W (s.step e) (t ++ b)) = (if W (numAt s e) = true then e :: keptFrom W (s.step e) t else keptFrom W (s.step e) t) ++ keptFrom W (t.foldl Sg.step (s.step e)) b
    rw [kept_app t b (s.step e)]
    by_cases h : W (numAt s e) = true
    · rw [if_pos h, if_pos h]; rfl
    · rw [if_neg h, if_neg h]
theorem kept_sub {W : Nat → Bool} : ∀ (es : List Ev) (s : Sg), (keptFrom W s es).Sublist es
  | [], _ => .slnil
  | e :: t, s => by
    show (if W (numAt s e) = true then e :: keptFrom W (s.step e) t else keptFrom W (s.step e) t).Sublist (e :: t)
    by_cases h : W (numAt s e) = true
    · rw [if_pos h]; exact .cons₂ _ (kept_sub t _)
    · rw [if_neg h]; exact .cons _ (kept_sub t _)
/-- the returns at the end -/
def retE (l : List Op) (told : Nat → Option KeyR) (ks : List Nat) : List Ev := ks.filterMap fun k => (told k).map fun r => Ev.ret (opAt l k).c r
/-- an op and the same, finished -/
structure OpFin (told : Nat → Option KeyR) (ks : List Nat) (p : Nat) (k : Nat) (op op' : Op) : Prop where
  c : op'.c = op.c
  n : op'.n = op.n
  o : op'.o = op.o
  a : op'.a = op.a
  called : op'.called = op.called
  same : (k ∉ ks ∨ told k = none) → op'.r = op.r ∧ op'.ret = op.ret
  new : k ∈ ks → ∀ r, told k = some r → op'.r = some r ∧ ∃ q, op'.ret = some q ∧ p ≤ q
theorem pend_w {objs : List (Str × Kd)} {s : Sg} (I : SInv objs s) {k : Nat} {op : Op} (e : s.ops[k]? = some op) (hr : op.ret = none) : s.w op.c = some k ∧ s.opn op.c = true := by
  obtain ⟨_, _, _, _, k', h1, h2, h3⟩ := I.op k op e
  have hk : k = k' := by
    rcases Nat.lt_or_eq_of_le h2 with z | z
    · exact absurd hr (h3 z)
    · exact z
  subst hk
  obtain ⟨op', e', _, h'⟩ := I.wl _ _ h1
  rw [e] at e'
  cases e'
  exact ⟨h1, h'.2 hr⟩
theorem ret_all {objs : List (Str × Kd)} {l : List Op} {told : Nat → Option KeyR} {W : Nat → Bool} (hW : ∀ k r, told k = some r → W k = true) :
    ∀ {ks : List Nat} {s : Sg}, SInv objs s → ks.Nodup → (∀ k ∈ ks, ∃ op, s.ops[k]? = some op ∧ op.ret = none ∧ op.c = (opAt l k).c) →
    WfFrom objs s (retE l told ks) ∧ RetW W s (retE l told ks) ∧ keptFrom W s (retE l told ks) = retE l told ks ∧ ((retE l told ks).foldl Sg.step s).ops.length = s.ops.length ∧
    ∀ (k : Nat) op, s.ops[k]? = some op → ∃ op', ((retE l told ks).foldl Sg.step s).ops[k]? = some op' ∧ OpFin told ks s.p k op op'
  | [], s, _, _, _ => ⟨trivial, trivial, rfl, rfl, fun k op e => ⟨op, e, rfl, rfl, rfl, rfl, rfl, (fun _ => ⟨rfl, rfl⟩), fun z => by cases z⟩⟩
  | k0 :: ks, s, I, nd, hp => by
    obtain ⟨nd1, nd2⟩ := List.nodup_cons.mp nd
    cases ht : told k0 with
    | none =>
      have e0 : retE l told (k0 :: ks) = retE l told ks := by unfold retE; rw [List.filterMap_cons, ht]; rfl
      rw [e0]
      obtain ⟨h1, h2, h3, h4, h5⟩ := ret_all hW I nd2 fun k hk => hp k (List.mem_cons_of_mem _ hk)
      refine ⟨h1, h2, h3, h4, fun k op e => ?_⟩
      obtain ⟨op', e', F⟩ := h5 k op e
      refine ⟨op', e', F.c, F.n, F.o, F.a, F.called, fun z => F.same ?_, fun hk r hr => ?_⟩
      · exact z.imp (fun z y => z (List.mem_cons_of_mem _ y)) id
      · rcases List.mem_cons.mp hk with z | z
        · subst z; rw [ht] at hr; cases hr
        · exact F.new z r hr
    | some r0 =>
      have e0 : retE l told (k0 :: ks) = Ev.ret (opAt l k0).c r0 :: retE l told ks := by unfold retE; rw [List.filterMap_cons, ht]; rfl
      rw [e0]
      obtain ⟨op0, g0, r0', c0⟩ := hp k0 (List.mem_cons_self ..)
      obtain ⟨w0, o0⟩ := pend_w I g0 r0'
      rw [c0] at w0 o0
      have hw0 := hW k0 r0 ht
      have I2 : SInv objs (s.step (.ret (opAt l k0).c r0)) := I.ret o0
      have hn : numAt s (.ret (opAt l k0).c r0) = k0 := by show (s.w _).getD 0 = k0; rw [w0]; rfl
      obtain ⟨h1, h2, h3, h4, h5⟩ := ret_all hW (ks := ks) I2 nd2 fun k hk => by
        obtain ⟨op, e, r1, r2⟩ := hp k (List.mem_cons_of_mem _ hk)
        refine ⟨op, ?_, r1, r2⟩
        rw [ret_ops w0, if_neg (fun z => nd1 (by rw [z]; exact hk))]
        exact e
      refine ⟨⟨o0, h1⟩, ⟨fun k hk => ?_, h2⟩, ?_, ?_, fun k op e => ?_⟩
      · rw [w0] at hk; cases hk; exact hw0
      · show (if W (numAt s (.ret (opAt l k0).c r0)) = true then _ :: keptFrom W _ (retE l told ks) else keptFrom W _ (retE l told ks)) = _
        rw [hn, if_pos hw0, h3]
      · show ((retE l told ks).foldl Sg.step (s.step _)).ops.length = _
        rw [h4, ret_len]
      · by_cases hk : k0 = k
        · subst hk
          rw [g0] at e
          cases e
          obtain ⟨op', e', F⟩ := h5 k0 { op0 with r := some r0, ret := some s.p } (by rw [ret_ops w0, if_pos rfl, g0]; rfl)
          refine ⟨op', e', F.c, F.n, F.o, F.a, F.called, fun z => ?_, fun _ r hr => ?_⟩
          · rcases z with z | z
            · exact absurd (List.mem_cons_self ..) z
            · rw [ht] at z; cases z
          · obtain ⟨f1, f2⟩ := F.same (.inl nd1)
            rw [ht] at hr
            cases hr
            exact ⟨f1, s.p, f2, Nat.le_refl _⟩
        · obtain ⟨op', e', F⟩ := h5 k op (by rw [ret_ops w0, if_neg hk]; exact e)
          refine ⟨op', e', F.c, F.n, F.o, F.a, F.called, fun z => F.same (z.imp (fun z y => z (List.mem_cons_of_mem _ y)) id), fun hk' r hr => ?_⟩
          rcases List.mem_cons.mp hk' with z | z
          · exact absurd z.symm hk
          · obtain ⟨f1, q, f2, f3⟩ := F.new z r hr
            exact ⟨f1, q, f2, Nat.le_of_succ_le f3⟩
/-! ### what was told -/
theorem resOf_none {o : List Nat} {rs : List KeyR} {k : Nat} (h : k ∉ o) : resOf o rs k = none := by
  unfold resOf
  rw [List.find?_eq_none.mpr]
  · rfl
  · intro q hq
    have := (List.of_mem_zip hq).1
    intro z
    exact h (eq_of_beq z ▸ this)
theorem resOf_at : ∀ {o : List Nat} {rs : List KeyR} {i k : Nat} {r : KeyR}, o.Nodup → o[i]? = some k → rs[i]? = some r → resOf o rs k = some r
  | [], _, _, _, _, _, h, _ => by simp at h
  | _ :: _, [], _, _, _, _, _, h => by simp at h
  | k0 :: t, r0 :: rs, 0, k, r, _, h1, h2 => by
    have e1 : k0 = k := Option.some.inj h1
    have e2 : r0 = r := Option.some.inj h2
    subst e1 e2
    unfold resOf
    rw [List.zip_cons_cons, List.find?_cons, beq_self_eq_true]
    rfl
  | k0 :: t, r0 :: rs, i + 1, k, r, nd, h1, h2 => by
    obtain ⟨nd1, nd2⟩ := List.nodup_cons.mp nd
    have := resOf_at (i := i) nd2 (show t[i]? = some k from h1) (show rs[i]? = some r from h2)
    have hne : ¬ ((k0, r0).1 == k) = true := fun z => nd1 (by rw [show k0 = k from eq_of_beq z]; exact List.mem_iff_getElem?.mpr ⟨i, h1⟩)
    unfold resOf at this ⊢
    rw [List.zip_cons_cons, List.find?_cons, Bool.eq_false_iff.mpr hne]
    exact this
section
variable {h : Hist} {m : Mdl} {o : List Nat} (wf : Wf h) (ok : OrdOk h.objs (opsM h.evs) m o)
include wf ok
theorem told_at {i k : Nat} (hi : o[i]? = some k) : resOf o (resM h o) k = some (doneM h.objs (stGo h.objs (opsM h.evs) (firstsM h.objs) (o.take i)) (opAt (opsM h.evs) k)).2 := resOf_at ok.nd hi (resGo_get hi)
theorem told_some {k : Nat} : (resOf o (resM h o) k).isNone = false ↔ k ∈ o := by
  by_cases hk : k ∈ o
  · obtain ⟨i, hi⟩ := List.mem_iff_getElem?.mp hk
    rw [told_at wf ok hi]
    exact ⟨fun _ => hk, fun _ => rfl⟩
  · rw [resOf_none hk]
    exact ⟨fun z => (by cases z), fun z => absurd z hk⟩
omit wf ok in
theorem mem_pend {l : List Op} {k : Nat} : k ∈ pendM l ↔ k < l.length ∧ (opAt l k).ret = none := by
  unfold pendM
  rw [List.mem_filter, List.mem_range]
  refine and_congr_right fun _ => ?_
  cases (opAt l k).ret with
  | none => exact ⟨fun _ => rfl, fun _ => rfl⟩
  | some q => exact ⟨fun z => (by cases z), fun z => (by cases z)⟩
theorem mem_wanted {k : Nat} : k ∈ wantedM h.evs ((pendM (opsM h.evs)).filter fun k => (resOf o (resM h o) k).isNone) ↔ k ∈ o := by
  unfold wantedM
  rw [List.mem_filter, List.mem_range, decide_eq_true_eq, List.mem_filter, mem_pend]
  constructor
  · rintro ⟨h1, h2⟩
    by_cases hk : k ∈ o
    · exact hk
    · refine absurd ⟨⟨h1, ?_⟩, by rw [resOf_none hk]; rfl⟩ h2
      cases hr : (opAt (opsM h.evs) k).ret with
      | none => rfl
      | some q => exact absurd (ok.whole k h1 (by rw [hr]; simp)) hk
  · intro hk
    refine ⟨ok.lt hk, fun z => ?_⟩
    have := (told_some wf ok).2 hk
    rw [this] at z
    exact Bool.false_ne_true z.2
/-- the wanted -/
abbrev inO (o : List Nat) : Nat → Bool := fun k => decide (k ∈ o)
theorem fin_evs : finishE h o = keptFrom (inO o) sg0 (h.evs ++ retE (opsM h.evs) (resOf o (resM h o)) (pendM (opsM h.evs))) ∧ WfFrom h.objs sg0 (h.evs ++ retE (opsM h.evs) (resOf o (resM h o)) (pendM (opsM h.evs))) ∧
    RetW (inO o) sg0 (h.evs ++ retE (opsM h.evs) (resOf o (resM h o)) (pendM (opsM h.evs))) ∧
    (sgOf (h.evs ++ retE (opsM h.evs) (resOf o (resM h o)) (pendM (opsM h.evs)))).ops.length = (opsM h.evs).length ∧
    ∀ (k : Nat) op, (opsM h.evs)[k]? = some op → ∃ op', (sgOf (h.evs ++ retE (opsM h.evs) (resOf o (resM h o)) (pendM (opsM h.evs)))).ops[k]? = some op' ∧ OpFin (resOf o (resM h o)) (pendM (opsM h.evs)) (sgOf h.evs).p k op op' := by
  have hW : ∀ k r, resOf o (resM h o) k = some r → inO o k = true := fun k r e => by
    have := (told_some wf ok (k := k)).1 (by rw [e]; rfl)
    exact decide_eq_true this
  obtain ⟨h1, h2, h3, h4, h5⟩ := ret_all (l := opsM h.evs) (W := inO o) hW wf.whole (ks := pendM (opsM h.evs)) (List.Nodup.sublist (List.filter_sublist) List.nodup_range) fun k hk => by
    obtain ⟨z1, z2⟩ := mem_pend.mp hk
    exact ⟨_, opAt_get z1, z2, rfl⟩
  have hf : sgOf (h.evs ++ retE (opsM h.evs) (resOf o (resM h o)) (pendM (opsM h.evs))) = (retE (opsM h.evs) (resOf o (resM h o)) (pendM (opsM h.evs))).foldl Sg.step (sgOf h.evs) := by unfold sgOf; rw [List.foldl_append]
  refine ⟨?_, wf_app wf.evs h1, ?_, by rw [hf]; exact h4, by rw [hf]; exact h5⟩
  · rw [kept_app]
    show _ = _ ++ keptFrom (inO o) (sgOf h.evs) _
    rw [h3]
    unfold finishE retE
    show keptE h.evs (wantedM h.evs _) ++ _ = _
    congr 1
    exact keptE_from (inO o) (fun k => by rw [mem_wanted wf ok]; exact decide_eq_true_iff) h.evs sg0
  · -- every return is of one in the order
    have I : SInv h.objs sg0 := sinv0 _
    refine retW_of I (wf_app wf.evs h1) fun k op e hr => ?_
    have e : (sgOf (h.evs ++ retE (opsM h.evs) (resOf o (resM h o)) (pendM (opsM h.evs)))).ops[k]? = some op := e
    have hk := (List.getElem?_eq_some_iff.mp e).1
    rw [hf] at e hk
    have hk : k < (opsM h.evs).length := by rw [h4] at hk; exact hk
    obtain ⟨op', e', F⟩ := h5 k _ (opAt_get hk)
    rw [e'] at e
    cases e
    refine decide_eq_true ?_
    by_cases hp : (opAt (opsM h.evs) k).ret = none
    · by_cases hko : k ∈ o
      · exact hko
      · have := (F.same (.inr (resOf_none hko))).2
        rw [this] at hr
        exact absurd hp hr
    · exact ok.whole k hk hp
/-- a finished history's operations -/
theorem fin_lk : ∃ s : Sg, SInv h.objs s ∧ s.ops.length = (opsM h.evs).length ∧ (∀ (k : Nat) op, (opsM h.evs)[k]? = some op → ∃ op', s.ops[k]? = some op' ∧ OpFin (resOf o (resM h o)) (pendM (opsM h.evs)) (sgOf h.evs).p k op op') ∧ Lk (inO o) s (sgOf (finishE h o)) ∧ WfFrom h.objs sg0 (finishE h o) := by
  obtain ⟨h1, h2, h3, h4, h5⟩ := fin_evs wf ok
  obtain ⟨l1, l2⟩ := lock (W := inO o) (sinv0 h.objs) (Lk.zero _) h2 h3
  rw [← h1] at l1 l2
  have hI := (wf_at (sinv0 h.objs) h2 (h.evs ++ retE (opsM h.evs) (resOf o (resM h o)) (pendM (opsM h.evs))).length).1
  rw [List.take_length] at hI
  exact ⟨_, hI, h4, h5, l1, l2⟩
end
end K22

-- P7
set_option maxHeartbeats 4000000
/-! The plain law, part 7: what finished and serial histories answer. -/
namespace K22
open PySem
section
variable {h : Hist} {m : Mdl} {o : List Nat} (wf : Wf h) (ok : OrdOk h.objs (opsM h.evs) m o)
include wf ok
theorem rk_o : rk (inO o) (opsM h.evs).length = o.length := by
  unfold rk
  refine Nat.le_antisymm (sub_len (List.Nodup.sublist (List.filter_sublist) List.nodup_range) fun k hk => of_decide_eq_true (List.mem_filter.mp hk).2) (sub_len ok.nd fun k hk => ?_)
  exact List.mem_filter.mpr ⟨List.mem_range.mpr (ok.lt hk), decide_eq_true hk⟩
theorem fin_len : (opsM (finishE h o)).length = o.length := by
  obtain ⟨s, _, h2, _, L, _⟩ := fin_lk wf ok
  have := L.len
  rw [h2, rk_o wf ok] at this
  exact this
structure FinOp (p q : Op) : Prop where
  c : q.c = p.c
  n : q.n = p.n
  o : q.o = p.o
  a : q.a = p.a
  ret : q.ret ≠ none
theorem fin_at {k : Nat} (hk : k ∈ o) : rk (inO o) k < (opsM (finishE h o)).length ∧ FinOp (opAt (opsM h.evs) k) (opAt (opsM (finishE h o)) (rk (inO o) k)) ∧ (opAt (opsM (finishE h o)) (rk (inO o) k)).r = resOf o (resM h o) k := by
  obtain ⟨s, I, h2, h3, L, _⟩ := fin_lk wf ok
  have hlt := ok.lt hk
  have hw : inO o k = true := decide_eq_true hk
  obtain ⟨op1, e1, F⟩ := h3 k _ (opAt_get hlt)
  obtain ⟨op2, e2, r1, r2, r3, r4, r5, r6, _⟩ := L.op k op1 e1 hw
  have hlt2 := (List.getElem?_eq_some_iff.mp e2).1
  have e2' : opAt (opsM (finishE h o)) (rk (inO o) k) = op2 := by
    have := opAt_get (l := opsM (finishE h o)) hlt2
    rw [show (opsM (finishE h o))[rk (inO o) k]? = some op2 from e2] at this
    exact (Option.some.inj this).symm
  obtain ⟨i, hi⟩ := List.mem_iff_getElem?.mp hk
  have ht := told_at wf ok hi
  rw [e2']
  refine ⟨hlt2, ⟨r1.trans F.c, r2.trans F.n, r3.trans F.o, r4.trans F.a, ?_⟩, ?_⟩
  · intro z
    have z1 := r6.1 z
    by_cases hp : k ∈ pendM (opsM h.evs)
    · obtain ⟨_, q, f2, _⟩ := F.new hp _ ht
      rw [f2] at z1; cases z1
    · rw [(F.same (.inl hp)).2] at z1
      exact hp (mem_pend.mpr ⟨hlt, z1⟩)
  · rw [r5]
    by_cases hp : k ∈ pendM (opsM h.evs)
    · rw [(F.new hp _ ht).1, ht]
    · rw [(F.same (.inl hp)).1, ht]
      have hs := (ok.step i k hi).2.2.1
      rcases hs with z | z
      · exact absurd (mem_pend.mpr ⟨hlt, z⟩) hp
      · exact z
theorem fin_bf {k1 k2 : Nat} (h1 : k1 ∈ o) (h2 : k2 ∈ o) (m' : Mdl) : isBefore m' (opAt (opsM (finishE h o)) (rk (inO o) k1)) (opAt (opsM (finishE h o)) (rk (inO o) k2)) = isBefore m' (opAt (opsM h.evs) k1) (opAt (opsM h.evs) k2) := by
  obtain ⟨s, I, hl, h3, L, _⟩ := fin_lk wf ok
  obtain ⟨p1, e1, F1⟩ := h3 k1 _ (opAt_get (ok.lt h1))
  obtain ⟨p2, e2, F2⟩ := h3 k2 _ (opAt_get (ok.lt h2))
  have l1 := (fin_at wf ok h1).1
  have l2 := (fin_at wf ok h2).1
  rw [L.bf k1 k2 p1 p2 _ _ m' e1 e2 (decide_eq_true h1) (decide_eq_true h2) (opAt_get (l := opsM (finishE h o)) l1) (opAt_get (l := opsM (finishE h o)) l2)]
  cases m' with
  | client =>
    show (decide (p1.c = p2.c) && decide (p1.called < p2.called)) = _
    rw [F1.c, F2.c, F1.called, F2.called]; rfl
  | real =>
    unfold isBefore
    rw [F2.called]
    by_cases hp : k1 ∈ pendM (opsM h.evs)
    · obtain ⟨i, hi⟩ := List.mem_iff_getElem?.mp h1
      obtain ⟨_, q, f2, f3⟩ := F1.new hp _ (told_at wf ok hi)
      rw [f2, (mem_pend.mp hp).2]
      have hc : (opAt (opsM h.evs) k2).called < (sgOf h.evs).p := (wf.whole.op k2 _ (opAt_get (ok.lt h2))).1
      exact decide_eq_false (Nat.not_lt.mpr (Nat.le_of_lt (Nat.lt_of_lt_of_le hc f3)))
    · rw [(F1.same (.inl hp)).2]
theorem fin_onto {j : Nat} (hj : j < (opsM (finishE h o)).length) : ∃ k, k ∈ o ∧ rk (inO o) k = j := by
  rw [fin_len wf ok, ← rk_o wf ok] at hj
  obtain ⟨k, _, h2, h3⟩ := rk_onto (inO o) hj
  exact ⟨k, of_decide_eq_true h2, h3⟩
theorem fin_done {k : Nat} (hk : k ∈ o) (st : List Stt) : doneM h.objs st (opAt (opsM (finishE h o)) (rk (inO o) k)) = doneM h.objs st (opAt (opsM h.evs) k) := by
  obtain ⟨_, F, _⟩ := fin_at wf ok hk
  unfold doneM
  rw [F.n, F.o, F.a]
omit wf in
theorem mem_take' {i k : Nat} (h : k ∈ o.take i) : k ∈ o := List.mem_of_mem_take h
theorem fin_st : ∀ (a : List Nat) (st : List Stt), (∀ k ∈ a, k ∈ o) → stGo h.objs (opsM (finishE h o)) st (a.map (rk (inO o))) = stGo h.objs (opsM h.evs) st a
  | [], _, _ => rfl
  | k :: t, st, ha => by
    show stGo h.objs _ (doneM h.objs st (opAt _ (rk (inO o) k))).1 (t.map _) = stGo h.objs _ (doneM h.objs st (opAt _ k)).1 t
    rw [fin_done wf ok (ha k (List.mem_cons_self ..))]
    exact fin_st t _ fun j hj => ha j (List.mem_cons_of_mem _ hj)
theorem fin_ordOk : OrdOk h.objs (opsM (finishE h o)) m (o.map (rk (inO o))) := by
  refine ⟨fun i k' hi => ?_, fun j hj hr => ?_⟩
  · rw [List.getElem?_map] at hi
    cases hk : o[i]? with
    | none => rw [hk] at hi; cases hi
    | some k =>
      rw [hk] at hi
      have e : rk (inO o) k = k' := Option.some.inj hi
      subst e
      have hko : k ∈ o := List.mem_iff_getElem?.mpr ⟨i, hk⟩
      obtain ⟨g1, F, g3⟩ := fin_at wf ok hko
      obtain ⟨s1, s2, s3, s4⟩ := ok.step i k hk
      refine ⟨g1, ?_, .inr ?_, ?_⟩
      · unfold canCome at s2 ⊢
        rw [Bool.and_eq_true, Bool.not_eq_true', decide_eq_false_iff_not] at s2 ⊢
        refine ⟨fun z => ?_, List.all_eq_true.mpr fun j hj => ?_⟩
        · rw [in_posL, ← List.map_take] at z
          obtain ⟨k2, z1, z2⟩ := List.mem_map.mp z
          have := rk_inj (inO o) (decide_eq_true (List.mem_of_mem_take z1)) (decide_eq_true hko) z2
          subst this
          exact ok.fresh hk z1
        · obtain ⟨k2, z1, z2⟩ := fin_onto wf ok (List.mem_range.mp hj)
          subst z2
          show (!isBefore m (opAt _ (rk (inO o) k2)) (opAt _ (rk (inO o) k)) || decide (rk (inO o) k2 ∈ (posL _ _ _).1)) = true
          rw [fin_bf wf ok z1 hko]
          have := List.all_eq_true.mp s2.2 k2 (List.mem_range.mpr (ok.lt z1))
          rw [Bool.or_eq_true, decide_eq_true_eq] at this ⊢
          refine this.imp id fun y => ?_
          rw [in_posL] at y ⊢
          rw [← List.map_take]
          exact List.mem_map_of_mem y
      · show _ = some (doneM h.objs (posL h.objs (opsM (finishE h o)) _).2 (opAt _ (rk (inO o) k))).2
        rw [g3, told_at wf ok hk, fin_done wf ok hko]
        show _ = some (doneM h.objs (stGo _ _ _ ((o.map (rk (inO o))).take i)) _).2
        rw [← List.map_take, fin_st wf ok _ _ fun j hj => List.mem_of_mem_take hj]
      · show posL _ _ _ = _
        rw [List.take_add_one, List.getElem?_map, hk]
        exact posL_snoc _ _ _ _
  · obtain ⟨k, z1, z2⟩ := fin_onto wf ok hj
    subst z2
    exact List.mem_map_of_mem z1
theorem fin_wf (hl : h.evs.length ≤ 91) : Wf ⟨h.objs, finishE h o⟩ := by
  obtain ⟨s, _, _, _, _, w⟩ := fin_lk wf ok
  obtain ⟨e1, _⟩ := fin_evs wf ok
  have hp : (pendM (opsM h.evs)).length ≤ 9 := Nat.le_trans (List.length_filter_le _ _) (by rw [List.length_range]; exact wf.ops)
  refine ⟨wf.few, w, by rw [fin_len wf ok]; exact ok.len wf, ?_, fun e he => ?_, wf.otxt⟩
  · show (finishE h o).length ≤ 100
    rw [e1]
    refine Nat.le_trans (kept_sub _ _).length_le ?_
    rw [List.length_append]
    have : (retE (opsM h.evs) (resOf o (resM h o)) (pendM (opsM h.evs))).length ≤ 9 := Nat.le_trans (List.length_filterMap_le ..) hp
    omega
  · have he : e ∈ finishE h o := he
    rw [e1] at he
    rcases List.mem_append.mp ((kept_sub _ _).subset he) with z | z
    · exact wf.txt e z
    · unfold retE at z
      obtain ⟨k, z1, z2⟩ := List.mem_filterMap.mp z
      cases ht : resOf o (resM h o) k with
      | none => rw [ht] at z2; cases z2
      | some r =>
        rw [ht] at z2
        have z2 : Ev.ret (opAt (opsM h.evs) k).c r = e := Option.some.inj z2
        subst z2
        have hk := wf.optxt (mem_pend.mp z1).1
        unfold opTxt at hk
        simp only [Bool.and_eq_true] at hk
        have hko : k ∈ o := (told_some wf ok).1 (by rw [ht]; rfl)
        obtain ⟨i, hi⟩ := List.mem_iff_getElem?.mp hko
        rw [told_at wf ok hi] at ht
        show (PyData.strOk _ && kOk r) = true
        rw [hk.1.1.1, ← Option.some.inj ht, doneM_txt]
        rfl
/-- it fits, under the same model -/
theorem fin_find (hl : h.evs.length ≤ 91) : findM ⟨h.objs, finishE h o⟩ m ≠ none := ok_find (fin_wf wf ok hl) (fin_ordOk wf ok)
/-- nothing is pending -/
theorem fin_ret {k : Nat} (hk : k < (opsM (finishE h o)).length) : (opAt (opsM (finishE h o)) k).ret ≠ none := by
  obtain ⟨k2, z1, z2⟩ := fin_onto wf ok hk
  subst z2
  exact (fin_at wf ok z1).2.1.ret
end
/-- finishing what is finished changes nothing -/
theorem num_lt {h : Hist} (wf : Wf h) {i : Nat} {e : Ev} (he : h.evs[i]? = some e) : numAt (sgOf (h.evs.take i)) e < (opsM h.evs).length := by
  have h1 := sg_ops_take h.evs (i + 1)
  rw [sg_take he] at h1
  have hev := wf.ev he
  cases e with
  | call c n o a =>
    have : ((sgOf (h.evs.take i)).step (.call c n o a)).ops.length = (sgOf (h.evs.take i)).ops.length + 1 := by show (_ ++ [_]).length = _; rw [List.length_append]; rfl
    show (sgOf (h.evs.take i)).ops.length < _
    omega
  | ret c r =>
    obtain ⟨k0, hk0⟩ := (wf.inv i).ow c hev
    obtain ⟨op, e1, _⟩ := (wf.inv i).wl _ _ hk0
    have := (List.getElem?_eq_some_iff.mp e1).1
    show ((sgOf (h.evs.take i)).w c).getD 0 < _
    rw [hk0, Option.getD_some]
    rw [ret_len] at h1
    omega
theorem filterMap_all {α β : Type} {f : α → Option β} {g : α → β} : ∀ {l : List α}, (∀ a ∈ l, f a = some (g a)) → l.filterMap f = l.map g
  | [], _ => rfl
  | a :: t, h => by rw [List.filterMap_cons, h a (List.mem_cons_self ..), List.map_cons, filterMap_all fun b hb => h b (List.mem_cons_of_mem _ hb)]
theorem keptE_all {h : Hist} (wf : Wf h) : keptE h.evs (wantedM h.evs []) = h.evs := by
  unfold keptE
  have hm : ∀ k, k ∈ wantedM h.evs [] ↔ k < (opsM h.evs).length := fun k => by
    unfold wantedM
    rw [List.mem_filter, List.mem_range]
    exact ⟨And.left, fun z => ⟨z, by simp⟩⟩
  rw [filterMap_all (g := fun q => q.2)]
  · apply List.map_snd_zip
    unfold numsM
    rw [numsFrom_len]
    exact Nat.le_refl _
  · intro q hq
    obtain ⟨i, hi⟩ := List.mem_iff_getElem?.mp hq
    rw [List.getElem?_zip_eq_some] at hi
    obtain ⟨h1, h2⟩ := hi
    rw [numsM_get h2] at h1
    have := num_lt wf h2
    rw [if_pos ((hm q.1).2 (by rw [← Option.some.inj h1]; exact this))]
theorem fin_same {h : Hist} (wf : Wf h) (hr : ∀ k, k < (opsM h.evs).length → (opAt (opsM h.evs) k).ret ≠ none) (o : List Nat) : finishE h o = h.evs := by
  have hp : pendM (opsM h.evs) = [] := List.filter_eq_nil_iff.mpr fun k hk => by
    have := hr k (List.mem_range.mp hk)
    cases hq : (opAt (opsM h.evs) k).ret with
    | none => exact absurd hq this
    | some q => exact fun z => by cases z
  unfold finishE
  show keptE h.evs (wantedM h.evs ((pendM (opsM h.evs)).filter _)) ++ (pendM (opsM h.evs)).filterMap _ = _
  rw [hp]
  show keptE h.evs (wantedM h.evs []) ++ [] = _
  rw [keptE_all wf, List.append_nil]
/-! ### each client is told the same -/
theorem sorted_uniqN : ∀ {ns ms : List Nat}, ns.Perm ms → ns.Pairwise (· ≤ ·) → ms.Pairwise (· ≤ ·) → ns = ms := fun {ns ms} hp h1 h2 => by
  have := sorted_uniq (ns := ns.map Int.ofNat) (ms := ms.map Int.ofNat) (hp.map _) (List.pairwise_map.mpr (h1.imp fun h => Int.ofNat_le.mpr h)) (List.pairwise_map.mpr (h2.imp fun h => Int.ofNat_le.mpr h))
  exact (List.map_inj_right (fun a b e => Int.ofNat.inj e)).mp this
theorem filter_rk {W : Nat → Bool} {n k : Nat} (hk : k < n) (hw : W k = true) : ((List.range n).filter W)[rk W k]? = some k := by
  induction n with
  | zero => exact absurd hk (Nat.not_lt_zero _)
  | succ n ih =>
    rw [List.range_succ, List.filter_append]
    rcases Nat.lt_or_eq_of_le (Nat.le_of_lt_succ hk) with z | z
    · rw [List.getElem?_append_left (rk_lt W hw z)]
      exact ih z
    · subst z
      rw [List.getElem?_append_right (show ((List.range k).filter W).length ≤ rk W k from Nat.le_refl _), show rk W k - ((List.range k).filter W).length = 0 from Nat.sub_self _]
      rw [List.filter_cons, if_pos hw]
      rfl
abbrev f4 (p : Op) : Str × Str × List Int × Option KeyR := (p.n, p.o, p.a, p.r)
section
variable {h : Hist} {m : Mdl} {o : List Nat} (wf : Wf h) (ok : OrdOk h.objs (opsM h.evs) m o)
include wf ok
theorem fin_list : opsM (finishE h o) = ((List.range (opsM h.evs).length).filter (inO o)).map fun k => opAt (opsM (finishE h o)) (rk (inO o) k) := by
  apply List.ext_getElem?
  intro j
  rw [List.getElem?_map]
  rcases Nat.lt_or_ge j (opsM (finishE h o)).length with z | z
  · obtain ⟨k, z1, z2⟩ := fin_onto wf ok z
    subst z2
    rw [filter_rk (ok.lt z1) (decide_eq_true z1), opAt_get z]
    rfl
  · rw [List.getElem?_eq_none z, List.getElem?_eq_none]
    · rfl
    · rw [fin_len wf ok, ← rk_o wf ok] at z
      exact z
theorem ser_list : opsM (serialM h o).evs = o.map fun k => opAt (opsM (serialM h o).evs) (o.idxOf k) := by
  apply List.ext_getElem?
  intro i
  rw [List.getElem?_map]
  rcases Nat.lt_or_ge i o.length with z | z
  · rw [opAt_get (by rw [ser_len wf ok]; exact z), List.getElem?_eq_getElem z]
    show _ = some (opAt _ (o.idxOf o[i]))
    rw [ok.nd.idxOf_getElem]
  · rw [List.getElem?_eq_none z, List.getElem?_eq_none]
    · rfl
    · rw [ser_len wf ok]; exact z
theorem asc (c : Str) : (o.filter fun k => decide ((opAt (opsM h.evs) k).c = c)).Pairwise (· ≤ ·) := by
  have : o.Pairwise fun a b => (opAt (opsM h.evs) a).c = c → (opAt (opsM h.evs) b).c = c → a ≤ b := by
    refine List.pairwise_iff_getElem.mpr fun i j hi hj hij ha hb => ?_
    rcases Nat.lt_or_ge o[j] o[i] with z | z
    · exfalso
      have gi : o[i]? = some o[i] := List.getElem?_eq_getElem hi
      have li := ok.lt (List.getElem_mem hi)
      have lj := ok.lt (List.getElem_mem hj)
      have t0 : (opAt (opsM h.evs) o[j]).called < (opAt (opsM h.evs) o[i]).called ∧ ((opAt (opsM h.evs) o[j]).c = (opAt (opsM h.evs) o[i]).c → ∃ q, (opAt (opsM h.evs) o[j]).ret = some q ∧ q < (opAt (opsM h.evs) o[i]).called) := wf.whole.two _ _ _ _ (opAt_get lj) (opAt_get li) z
      obtain ⟨t1, t2⟩ := t0
      have hb' : isBefore m (opAt (opsM h.evs) o[j]) (opAt (opsM h.evs) o[i]) = true := by
        cases m with
        | real =>
          obtain ⟨q, q1, q2⟩ := t2 (hb.trans ha.symm)
          unfold isBefore
          rw [q1]
          exact decide_eq_true q2
        | client =>
          show (decide (_ = _) && decide (_ < _)) = true
          rw [decide_eq_true (hb.trans ha.symm), decide_eq_true t1]; rfl
      have hc := (ok.step i _ gi).2.1
      unfold canCome at hc
      rw [Bool.and_eq_true] at hc
      have := List.all_eq_true.mp hc.2 o[j] (List.mem_range.mpr lj)
      rw [hb', Bool.not_true, Bool.false_or, decide_eq_true_eq, in_posL] at this
      obtain ⟨j', hj'⟩ := List.mem_iff_getElem?.mp this
      rw [List.getElem?_take] at hj'
      by_cases hlt : j' < i
      · rw [if_pos hlt] at hj'
        obtain ⟨hle, hj''⟩ := List.getElem?_eq_some_iff.mp hj'
        exact (List.pairwise_iff_getElem.mp ok.nd) j' j hle hj (Nat.lt_trans hlt hij) hj''
      · rw [if_neg hlt] at hj'; cases hj'
    · exact z
  refine List.Pairwise.imp_of_mem ?_ (this.filter _)
  intro a b ha hb hab
  exact hab (of_decide_eq_true (List.mem_filter.mp ha).2) (of_decide_eq_true (List.mem_filter.mp hb).2)
theorem told_same (c : Str) : (((opsM (serialM h o).evs).filter fun p => decide (p.c = c)).map f4) = (((opsM (finishE h o)).filter fun p => decide (p.c = c)).map f4) := by
  have e1 : ((opsM (serialM h o).evs).filter fun p => decide (p.c = c)).map f4 = (o.filter fun k => decide ((opAt (opsM h.evs) k).c = c)).map fun k => ((opAt (opsM h.evs) k).n, (opAt (opsM h.evs) k).o, (opAt (opsM h.evs) k).a, resOf o (resM h o) k) := by
    rw [ser_list wf ok, List.filter_map, List.map_map]
    have hk : ∀ k ∈ o, o[o.idxOf k]? = some k := fun k hk => by
      have := List.idxOf_lt_length_of_mem hk
      rw [List.getElem?_eq_getElem this, List.getElem_idxOf this]
    have hf : o.filter ((fun p : Op => decide (p.c = c)) ∘ fun k => opAt (opsM (serialM h o).evs) (o.idxOf k)) = o.filter fun k => decide ((opAt (opsM h.evs) k).c = c) := List.filter_congr fun k hk' => by
      show decide ((opAt (opsM (serialM h o).evs) (o.idxOf k)).c = c) = _
      rw [ser_at wf ok (hk k hk')]
    rw [hf]
    refine List.map_congr_left fun k hk' => ?_
    have hk' := (List.mem_filter.mp hk').1
    show f4 (opAt (opsM (serialM h o).evs) (o.idxOf k)) = _
    rw [ser_at wf ok (hk k hk'), told_at wf ok (hk k hk')]
  have e2 : ((opsM (finishE h o)).filter fun p => decide (p.c = c)).map f4 = (((List.range (opsM h.evs).length).filter (inO o)).filter fun k => decide ((opAt (opsM h.evs) k).c = c)).map fun k => ((opAt (opsM h.evs) k).n, (opAt (opsM h.evs) k).o, (opAt (opsM h.evs) k).a, resOf o (resM h o) k) := by
    rw [fin_list wf ok, List.filter_map, List.map_map]
    have hm : ∀ k ∈ (List.range (opsM h.evs).length).filter (inO o), k ∈ o := fun k hk => of_decide_eq_true (List.mem_filter.mp hk).2
    have hf : ((List.range (opsM h.evs).length).filter (inO o)).filter ((fun p : Op => decide (p.c = c)) ∘ fun k => opAt (opsM (finishE h o)) (rk (inO o) k)) = ((List.range (opsM h.evs).length).filter (inO o)).filter fun k => decide ((opAt (opsM h.evs) k).c = c) := List.filter_congr fun k hk' => by
      show decide ((opAt (opsM (finishE h o)) (rk (inO o) k)).c = c) = _
      rw [(fin_at wf ok (hm k hk')).2.1.c]
    rw [hf]
    refine List.map_congr_left fun k hk' => ?_
    obtain ⟨_, F, hr⟩ := fin_at wf ok (hm k (List.mem_filter.mp hk').1)
    show f4 (opAt (opsM (finishE h o)) (rk (inO o) k)) = _
    unfold f4
    rw [F.n, F.o, F.a, hr]
  rw [e1, e2]
  congr 1
  refine sorted_uniqN (List.Perm.filter _ ?_) (asc wf ok c) (((List.pairwise_lt_range.imp fun h => Nat.le_of_lt h).filter _).filter _)
  refine (List.perm_ext_iff_of_nodup ok.nd (List.Nodup.sublist (List.filter_sublist) List.nodup_range)).mpr fun k => ?_
  rw [List.mem_filter, List.mem_range]
  exact ⟨fun z => ⟨ok.lt z, decide_eq_true z⟩, fun z => of_decide_eq_true z.2⟩
end
end K22

-- T
set_option maxHeartbeats 4000000
/-! The text: each def, its slots. Printed by gen.py. -/
namespace K22
open PySem PySem.Spec PyProof.Rows L2
def topS (i : Nat) : Stmt := PySem.Challenge.pw_ordershown_k22_whole_endings_fit.main.body.getD i (.Pass ⟨0, 0, 0, 0⟩)
/-- the built-in names stand -/
structure Bn (mg : Str → Option Value) : Prop where
  len : mg "len" = none
  tuple : mg "tuple" = none
  list : mg "list" = none
  set : mg "set" = none
  sorted : mg "sorted" = none
  int : mg "int" = none
  isinstance : mg "isinstance" = none
  max : mg "max" = none
  min : mg "min" = none
  dict : mg "dict" = none
  range : mg "range" = none
  enumerate : mg "enumerate" = none
  zip : mg "zip" = none
  all : mg "all" = none
abbrev s_first_state : Stmt := topS 2
abbrev N_first_state : List Str := ["kind"]
theorem sc_first_state : FnScope N_first_state ["kind"] (defScope s_first_state) := ⟨rfl, rfl, rfl, by decide +kernel, rfl, by decide +kernel, by decide +kernel⟩
abbrev s_yes_or_no : Stmt := topS 3
abbrev N_yes_or_no : List Str := ["found"]
theorem sc_yes_or_no : FnScope N_yes_or_no ["found"] (defScope s_yes_or_no) := ⟨rfl, rfl, rfl, by decide +kernel, rfl, by decide +kernel, by decide +kernel⟩
abbrev s_step_register : Stmt := topS 4
abbrev N_step_register : List Str := ["state", "operation", "arguments"]
theorem sc_step_register : FnScope N_step_register ["state", "operation", "arguments"] (defScope s_step_register) := ⟨rfl, rfl, rfl, by decide +kernel, rfl, by decide +kernel, by decide +kernel⟩
abbrev s_step_counter : Stmt := topS 5
abbrev N_step_counter : List Str := ["state", "operation", "arguments"]
theorem sc_step_counter : FnScope N_step_counter ["state", "operation", "arguments"] (defScope s_step_counter) := ⟨rfl, rfl, rfl, by decide +kernel, rfl, by decide +kernel, by decide +kernel⟩
abbrev s_step_set : Stmt := topS 6
abbrev N_step_set : List Str := ["state", "operation", "arguments", "value", "found", "other"]
theorem sc_step_set : FnScope N_step_set ["state", "operation", "arguments"] (defScope s_step_set) := ⟨rfl, rfl, rfl, by decide +kernel, rfl, by decide +kernel, by decide +kernel⟩
abbrev s_step_queue : Stmt := topS 7
abbrev N_step_queue : List Str := ["state", "operation", "arguments"]
theorem sc_step_queue : FnScope N_step_queue ["state", "operation", "arguments"] (defScope s_step_queue) := ⟨rfl, rfl, rfl, by decide +kernel, rfl, by decide +kernel, by decide +kernel⟩
abbrev s_step : Stmt := topS 9
abbrev N_step : List Str := ["kind", "state", "operation", "arguments"]
theorem sc_step : FnScope N_step ["kind", "state", "operation", "arguments"] (defScope s_step) := ⟨rfl, rfl, rfl, by decide +kernel, rfl, by decide +kernel, by decide +kernel⟩
abbrev s_numbered : Stmt := topS 11
abbrev N_numbered : List Str := ["some_history", "numbers", "waiting", "many", "event"]
theorem sc_numbered : FnScope N_numbered ["some_history"] (defScope s_numbered) := ⟨rfl, rfl, rfl, by decide +kernel, rfl, by decide +kernel, by decide +kernel⟩
abbrev s_operations : Stmt := topS 12
abbrev N_operations : List Str := ["some_history", "found", "numbers", "place", "event", "number"]
theorem sc_operations : FnScope N_operations ["some_history"] (defScope s_operations) := ⟨rfl, rfl, rfl, by decide +kernel, rfl, by decide +kernel, by decide +kernel⟩
abbrev s_kept : Stmt := topS 13
abbrev N_kept : List Str := ["some_history", "objects", "wanted", "numbers", "events", "place", "event"]
theorem sc_kept : FnScope N_kept ["some_history", "objects", "wanted"] (defScope s_kept) := ⟨rfl, rfl, rfl, by decide +kernel, rfl, by decide +kernel, by decide +kernel⟩
abbrev s_without : Stmt := topS 14
abbrev N_without : List Str := ["some_history", "numbers", "wanted", "k"]
theorem sc_without : FnScope N_without ["some_history", "numbers"] (defScope s_without) := ⟨rfl, rfl, rfl, by decide +kernel, rfl, by decide +kernel, by decide +kernel⟩
abbrev s_is_before : Stmt := topS 16
abbrev N_is_before : List Str := ["listed", "model", "number", "other", "first", "second"]
theorem sc_is_before : FnScope N_is_before ["listed", "model", "number", "other"] (defScope s_is_before) := ⟨rfl, rfl, rfl, by decide +kernel, rfl, by decide +kernel, by decide +kernel⟩
abbrev s_first_states : Stmt := topS 17
abbrev N_first_states : List Str := ["some_history", "name", "kind"]
theorem sc_first_states : FnScope N_first_states ["some_history"] (defScope s_first_states) := ⟨rfl, rfl, rfl, by decide +kernel, rfl, by decide +kernel, by decide +kernel⟩
abbrev s_done : Stmt := topS 18
abbrev N_done : List Str := ["some_history", "listed", "states", "number", "names", "place", "kind", "state", "result", "name"]
theorem sc_done : FnScope N_done ["some_history", "listed", "states", "number"] (defScope s_done) := ⟨rfl, rfl, rfl, by decide +kernel, rfl, by decide +kernel, by decide +kernel⟩
abbrev s_results : Stmt := topS 19
abbrev N_results : List Str := ["some_history", "row", "listed", "states", "found", "number", "result"]
theorem sc_results : FnScope N_results ["some_history", "row"] (defScope s_results) := ⟨rfl, rfl, rfl, by decide +kernel, rfl, by decide +kernel, by decide +kernel⟩
abbrev s_first_position : Stmt := topS 21
abbrev N_first_position : List Str := ["some_history"]
theorem sc_first_position : FnScope N_first_position ["some_history"] (defScope s_first_position) := ⟨rfl, rfl, rfl, by decide +kernel, rfl, by decide +kernel, by decide +kernel⟩
abbrev s_can_come : Stmt := topS 22
abbrev N_can_come : List Str := ["listed", "model", "placed", "number", "other"]
theorem sc_can_come : FnScope N_can_come ["listed", "model", "placed", "number"] (defScope s_can_come) := ⟨rfl, rfl, rfl, by decide +kernel, rfl, by decide +kernel, by decide +kernel⟩
abbrev s_moves : Stmt := topS 23
abbrev N_moves : List Str := ["some_history", "listed", "model", "position", "placed", "states", "found", "number", "later", "result"]
theorem sc_moves : FnScope N_moves ["some_history", "listed", "model", "position"] (defScope s_moves) := ⟨rfl, rfl, rfl, by decide +kernel, rfl, by decide +kernel, by decide +kernel⟩
abbrev s_is_whole : Stmt := topS 24
abbrev N_is_whole : List Str := ["listed", "position", "number"]
theorem sc_is_whole : FnScope N_is_whole ["listed", "position"] (defScope s_is_whole) := ⟨rfl, rfl, rfl, by decide +kernel, rfl, by decide +kernel, by decide +kernel⟩
abbrev s_told_table : Stmt := topS 25
abbrev N_told_table : List Str := ["some_history", "model", "listed", "first", "found", "waiting", "_", "later"]
theorem sc_told_table : FnScope N_told_table ["some_history", "model"] (defScope s_told_table) := ⟨rfl, rfl, rfl, by decide +kernel, rfl, by decide +kernel, by decide +kernel⟩
abbrev s_order_from : Stmt := topS 26
abbrev N_order_from : List Str := ["some_history", "listed", "model", "position", "hopeless", "number", "later", "rest"]
theorem sc_order_from : FnScope N_order_from ["some_history", "listed", "model", "position", "hopeless"] (defScope s_order_from) := ⟨rfl, rfl, rfl, by decide +kernel, rfl, by decide +kernel, by decide +kernel⟩
abbrev s_find : Stmt := topS 27
abbrev N_find : List Str := ["some_history", "model", "order"]
theorem sc_find : FnScope N_find ["some_history", "model"] (defScope s_find) := ⟨rfl, rfl, rfl, by decide +kernel, rfl, by decide +kernel, by decide +kernel⟩
abbrev s_fits : Stmt := topS 28
abbrev N_fits : List Str := ["some_history", "model"]
theorem sc_fits : FnScope N_fits ["some_history", "model"] (defScope s_fits) := ⟨rfl, rfl, rfl, by decide +kernel, rfl, by decide +kernel, by decide +kernel⟩
abbrev s_serial : Stmt := topS 30
abbrev N_serial : List Str := ["some_history", "order", "listed", "events", "number", "result", "client", "name", "operation", "arguments"]
theorem sc_serial : FnScope N_serial ["some_history", "order"] (defScope s_serial) := ⟨rfl, rfl, rfl, by decide +kernel, rfl, by decide +kernel, by decide +kernel⟩
abbrev s_is_serial : Stmt := topS 31
abbrev N_is_serial : List Str := ["some_history", "events", "place"]
theorem sc_is_serial : FnScope N_is_serial ["some_history"] (defScope s_is_serial) := ⟨rfl, rfl, rfl, by decide +kernel, rfl, by decide +kernel, by decide +kernel⟩
abbrev s_finished : Stmt := topS 32
abbrev N_finished : List Str := ["some_history", "model", "word", "order", "listed", "told", "pending", "objects", "events", "more", "number"]
theorem sc_finished : FnScope N_finished ["some_history", "model"] (defScope s_finished) := ⟨rfl, rfl, rfl, by decide +kernel, rfl, by decide +kernel, by decide +kernel⟩
abbrev s_law_dropped : Stmt := topS 34
abbrev N_law_dropped : List Str := ["_law_rows", "_law_key", "_law_kept", "_law_other"]
theorem sc_law_dropped : FnScope N_law_dropped ["_law_rows", "_law_key"] (defScope s_law_dropped) := ⟨rfl, rfl, rfl, by decide +kernel, rfl, by decide +kernel, by decide +kernel⟩
abbrev s_law_cell : Stmt := topS 35
abbrev N_law_cell : List Str := ["_law_script", "_law_k"]
theorem sc_law_cell : FnScope N_law_cell ["_law_script", "_law_k"] (defScope s_law_cell) := ⟨rfl, rfl, rfl, by decide +kernel, rfl, by decide +kernel, by decide +kernel⟩
abbrev s_law_draw : Stmt := topS 36
abbrev N_law_draw : List Str := ["_law_script", "_law_k", "_law_sizes", "_law_cell_here", "_law_drawn", "_law_stirred", "_law_j", "_law_size"]
theorem sc_law_draw : FnScope N_law_draw ["_law_script", "_law_k", "_law_sizes"] (defScope s_law_draw) := ⟨rfl, rfl, rfl, by decide +kernel, rfl, by decide +kernel, by decide +kernel⟩
abbrev s_law_names : Stmt := topS 37
abbrev N_law_names : List Str := ["_law_kind"]
theorem sc_law_names : FnScope N_law_names ["_law_kind"] (defScope s_law_names) := ⟨rfl, rfl, rfl, by decide +kernel, rfl, by decide +kernel, by decide +kernel⟩
abbrev s_law_many : Stmt := topS 38
abbrev N_law_many : List Str := ["_law_word"]
theorem sc_law_many : FnScope N_law_many ["_law_word"] (defScope s_law_many) := ⟨rfl, rfl, rfl, by decide +kernel, rfl, by decide +kernel, by decide +kernel⟩
abbrev s_law_first : Stmt := topS 39
abbrev N_law_first : List Str := ["_law_kind"]
theorem sc_law_first : FnScope N_law_first ["_law_kind"] (defScope s_law_first) := ⟨rfl, rfl, rfl, by decide +kernel, rfl, by decide +kernel, by decide +kernel⟩
abbrev s_law_step : Stmt := topS 40
abbrev N_law_step : List Str := ["_law_kind", "_law_state", "_law_word", "_law_args_here", "_law_answer", "_law_v"]
theorem sc_law_step : FnScope N_law_step ["_law_kind", "_law_state", "_law_word", "_law_args_here"] (defScope s_law_step) := ⟨rfl, rfl, rfl, by decide +kernel, rfl, by decide +kernel, by decide +kernel⟩
abbrev s_law_objects : Stmt := topS 41
abbrev N_law_objects : List Str := ["_law_script", "_law_k", "_law_digits", "_law_kinds", "_law_made", "_law_j"]
theorem sc_law_objects : FnScope N_law_objects ["_law_script", "_law_k"] (defScope s_law_objects) := ⟨rfl, rfl, rfl, by decide +kernel, rfl, by decide +kernel, by decide +kernel⟩
abbrev s_law_args : Stmt := topS 42
abbrev N_law_args : List Str := ["_law_word", "_law_first_here", "_law_second"]
theorem sc_law_args : FnScope N_law_args ["_law_word", "_law_first_here", "_law_second"] (defScope s_law_args) := ⟨rfl, rfl, rfl, by decide +kernel, rfl, by decide +kernel, by decide +kernel⟩
abbrev s_law_weave : Stmt := topS 43
abbrev N_law_weave : List Str := ["_law_script", "_law_k", "_law_objects_here", "_law_many_here", "_law_digits", "_law_states", "_law_name", "_law_kind", "_law_kinds", "_law_events", "_law_open_calls", "_law_effect", "_law_calls", "_law_j", "_law_client", "_law_other", "_law_words", "_law_word", "_law_args_here"]
theorem sc_law_weave : FnScope N_law_weave ["_law_script", "_law_k", "_law_objects_here", "_law_many_here"] (defScope s_law_weave) := ⟨rfl, rfl, rfl, by decide +kernel, rfl, by decide +kernel, by decide +kernel⟩
abbrev s_law_spoil : Stmt := topS 44
abbrev N_law_spoil : List Str := ["_law_script", "_law_k", "_law_events", "_law_digits", "_law_made", "_law_j", "_law_place", "_law_result"]
theorem sc_law_spoil : FnScope N_law_spoil ["_law_script", "_law_k", "_law_events"] (defScope s_law_spoil) := ⟨rfl, rfl, rfl, by decide +kernel, rfl, by decide +kernel, by decide +kernel⟩
abbrev s_law_history : Stmt := topS 45
abbrev N_law_history : List Str := ["_law_script", "_law_k", "_law_many_here", "_law_objects_here", "_law_events"]
theorem sc_law_history : FnScope N_law_history ["_law_script", "_law_k", "_law_many_here"] (defScope s_law_history) := ⟨rfl, rfl, rfl, by decide +kernel, rfl, by decide +kernel, by decide +kernel⟩
abbrev s_law : Stmt := topS 46
abbrev N_law : List Str := ["_law_script", "_law_k", "_law_whole", "_law_model", "_law_word", "_law_found", "_law_made", "_law_due", "_law_done", "_law_client", "_law_told", "_law_op"]
theorem sc_law : FnScope N_law ["_law_script"] (defScope s_law) := ⟨rfl, rfl, rfl, by decide +kernel, rfl, by decide +kernel, by decide +kernel⟩
end K22

-- W1
set_option maxHeartbeats 4000000
/-! Walks: objects. -/
namespace K22
open PySem PySem.Spec PyProof.Rows L2
section
variable {P : Program} {w : World} {K : PySem.W.Frag} {mg : Str → Option Value} {base : Heap}
/-- FIRST -/
structure FirstT (K : PySem.W.Frag) (w : World) (mg : Str → Option Value) : Prop where
  ex : ∃ a, mg "FIRST" = some (.ref a) ∧ ∀ kd : Kd, ∃ v, KDct K w a kd.str v ∧ ∀ H, Dp K H v (dStt kd.first)
def spFirst (K : PySem.W.Frag) : Sp := fun vs H Q _ => ∃ kd : Kd, vs = [.str kd.str] ∧ Ret K (dStt kd.first) H Q
theorem w_first {code : Addr} (D : DF K mg "first_state" s_first_state code) (F : FirstT K w mg) : C8.Cal P w K mg base 1 "first_state" (spFirst K) [] := by
  obtain ⟨a, ha, hF⟩ := F.ex
  refine calD D sc_first_state (fun _ _ _ _ _ _ us hl => match us, hl with | [_], _ => rfl) (fun vs H Q E h => ?_) (fun f A outer s H vs Q E hr h => ?_)
  · obtain ⟨kd, rfl, _⟩ := h; rfl
  · obtain ⟨kd, rfl, q⟩ := h
    obtain ⟨v, hv, hd⟩ := hF kd
    exact ⟨_, pss_one (ps_ret (pe_ix ix_kdict (pe_glob (v := .ref a) (by rfl) ha rfl) (pv 0) (fun _ _ => rfl))), .str kd.str, rfl, a, kd.str, v, rfl, rfl, hv, q _ _ (.refl H) (hd H)⟩
theorem g_first {H : Hp} {kd : Kd} : Gives K (spFirst K) H [.str kd.str] (dStt kd.first) := fun H1 e vs hv Q E q => by
  obtain ⟨v, vs, rfl, h1, h2⟩ := da_cons hv
  rw [dp_str h1, da_nil h2]
  exact ⟨kd, rfl, q⟩
def spYes : Sp := fun vs H Q _ => ∃ b : Bool, vs = [.bl b] ∧ Q (.str (if b then "yes" else "no")) H
theorem w_yes {code : Addr} (D : DF K mg "yes_or_no" s_yes_or_no code) : C8.Cal P w K mg base 1 "yes_or_no" spYes [] := by
  refine calD D sc_yes_or_no (fun _ _ _ _ _ _ us hl => match us, hl with | [_], _ => rfl) (fun vs H Q E h => ?_) (fun f A outer s H vs Q E hr h => ?_)
  · obtain ⟨b, rfl, _⟩ := h; rfl
  · obtain ⟨b, rfl, q⟩ := h
    refine ⟨_, pss_one (ps_ret (pe_ifExp (pt_val (pv 0)) pe_str pe_str)), .bl b, rfl, b, rfl, ?_⟩
    cases b with
    | true => rw [if_pos rfl]; exact q
    | false => rw [if_neg Bool.false_ne_true]; exact q
theorem g_yes {H : Hp} {b : Bool} : Gives K spYes H [.bool b] (dKey (yn b)) := fun H1 e vs hv Q E q => by
  obtain ⟨v, vs, rfl, h1, h2⟩ := da_cons hv
  cases h1
  rw [da_nil h2]
  exact ⟨b, rfl, q _ _ (.refl _) (.str _)⟩
/-- a step's promise -/
def spStep (K : PySem.W.Frag) (kd : Kd) : Sp := fun vs H Q _ => ∃ (st : Stt) (o : Str) (a : List Int) (x y : V) (b : Nat), vs = [x, .str o, y] ∧ Dp K H x (dStt st) ∧ Dp K H y (dInts a) ∧ StOk b kd st ∧ b ≤ 1000 ∧ OpOk kd o a ∧ Ret K (.tuple [dStt (stepM kd st o a).1, dKey (stepM kd st o a).2]) H Q
theorem w_reg {code : Addr} (D : DF K mg "step_register" s_step_register code) : C8.Cal P w K mg base 2 "step_register" (spStep K .reg) [] := by
  refine calD D sc_step_register (fun _ _ _ _ _ _ us hl => match us, hl with | [_, _, _], _ => rfl) (fun vs H Q E h => ?_) (fun f A outer s H vs Q E hr h => ?_)
  · obtain ⟨st, o, a, x, y, b, rfl, _⟩ := h; rfl
  · obtain ⟨st, o, a, x, y, b, rfl, hx, hy, hs, hb, ho, q⟩ := h
    refine ⟨_, (pss_cons (ps_if (pt_cmpR op_eq (pv 1) pe_str (nomark _)) (pss_one (ps_ret (pe_tup (pa_cons (pe_ix ixD (pv 2) pe_int (fun _ _ => rfl)) (pa_cons pe_str pa_nil))))) pss_nil)
      (pss_cons (ps_if (pt_cmpR op_eq (pv 1) pe_str (nomark _)) (pss_one (ps_ret (pe_tup (pa_cons (pv 0) (pa_cons (pv 0) pa_nil))))) pss_nil)
      (pss_cons (ps_if (pt_cmpR op_eq (pv 0) (pe_ix ixD (pv 2) pe_int (fun _ _ => rfl)) (nomark _)) (pss_one (ps_ret (pe_tup (pa_cons (pe_ix ixD (pv 2) pe_int (fun _ _ => rfl)) (pa_cons pe_str pa_nil))))) pss_nil)
      (pss_one (ps_ret (pe_tup (pa_cons (pv 0) (pa_cons pe_str pa_nil)))))))), ?_⟩
    match st, hs with
    | .num i, _ =>
      have e0 : EvD K (tVar 0) (start N_step_register [x, .str o, y]) H (.int i) := ev_var rfl hx
      have e1 : EvD K (tVar 1) (start N_step_register [x, .str o, y]) H (.str o) := ev_var rfl (.str o)
      have e2 : EvD K (tVar 2) (start N_step_register [x, .str o, y]) H (dInts a) := ev_var rfl hy
      have ix : ∀ k, k < a.length → EvD K (tOp (rIxD' K) (tVar 2) (tC (.int (k : Nat)))) (start N_step_register [x, .str o, y]) H (.int (a.getD k 0)) := fun k hk => ev_ix e2 ev_int (by
        rw [List.getElem?_map, List.getElem?_eq_getElem hk, List.getD_eq_getElem?_getD, List.getElem?_eq_getElem hk]; rfl)
      have hn : (if o = "write" then some 1 else if o = "read" then some 0 else if o = "swap" then some 2 else none) = some a.length := ho.1
      have q' : Ret K (.tuple [dStt (stepR i o a).1, dKey (stepR i o a).2]) H Q := q
      unfold stepR at q'
      refine (eb_eqS e1 ev_str).go fun H1 x1 => ite2 (fun h => ?_) fun h => (eb_eqS (H := H) e1 ev_str) H1 x1 _ fun H2 x2 => ite2 (fun h2 => ?_) fun h2 => ?_
      · have h := of_decide_eq_true h
        rw [if_pos h] at q' hn
        exact (ev_tup (ea_cons (ix 0 (by have := Option.some.inj hn; omega)) (ea_cons ev_str ea_nil))).ret q' x1
      · have h := of_decide_eq_false (Bool.not_eq_true _ ▸ h)
        have h2 := of_decide_eq_true h2
        rw [if_neg h, if_pos h2] at q'
        exact (ev_tup (ea_cons e0 (ea_cons e0 ea_nil))).ret q' (x1.trans x2)
      · have h := of_decide_eq_false (Bool.not_eq_true _ ▸ h)
        have h2 := of_decide_eq_false (Bool.not_eq_true _ ▸ h2)
        rw [if_neg h, if_neg h2] at q' hn
        have hl : a.length = 2 := by
          split at hn
          · exact (Option.some.inj hn).symm
          · cases hn
        refine (eb_eqI (H := H) e0 (ix 0 (by omega))) H2 (x1.trans x2) _ fun H3 x3 => ite2 (fun h3 => ?_) fun h3 => ?_
        · rw [if_pos (of_decide_eq_true h3)] at q'
          exact (ev_tup (ea_cons (ix 1 (by omega)) (ea_cons ev_str ea_nil))).ret q' ((x1.trans x2).trans x3)
        · rw [if_neg (of_decide_eq_false (Bool.not_eq_true _ ▸ h3))] at q'
          exact (ev_tup (ea_cons e0 (ea_cons ev_str ea_nil))).ret q' ((x1.trans x2).trans x3)
theorem w_cnt {code : Addr} (D : DF K mg "step_counter" s_step_counter code) : C8.Cal P w K mg base 2 "step_counter" (spStep K .cnt) [] := by
  refine calD D sc_step_counter (fun _ _ _ _ _ _ us hl => match us, hl with | [_, _, _], _ => rfl) (fun vs H Q E h => ?_) (fun f A outer s H vs Q E hr h => ?_)
  · obtain ⟨st, o, a, x, y, b, rfl, _⟩ := h; rfl
  · obtain ⟨st, o, a, x, y, b, rfl, hx, hy, hs, hb, ho, q⟩ := h
    refine ⟨_, (pss_cons (ps_if (pt_cmpR op_eq (pv 1) pe_str (nomark _)) (pss_one (ps_ret (pe_tup (pa_cons (pe_op op_add (pv 0) (pe_ix ixD (pv 2) pe_int (fun _ _ => rfl))) (pa_cons pe_str pa_nil))))) pss_nil)
      (pss_one (ps_ret (pe_tup (pa_cons (pv 0) (pa_cons (pv 0) pa_nil)))))), ?_⟩
    match st, hs with
    | .num i, _ =>
      have e0 : EvD K (tVar 0) (start N_step_counter [x, .str o, y]) H (.int i) := ev_var rfl hx
      have e1 : EvD K (tVar 1) (start N_step_counter [x, .str o, y]) H (.str o) := ev_var rfl (.str o)
      have e2 : EvD K (tVar 2) (start N_step_counter [x, .str o, y]) H (dInts a) := ev_var rfl hy
      have ix : ∀ k, k < a.length → EvD K (tOp (rIxD' K) (tVar 2) (tC (.int (k : Nat)))) (start N_step_counter [x, .str o, y]) H (.int (a.getD k 0)) := fun k hk => ev_ix e2 ev_int (by
        rw [List.getElem?_map, List.getElem?_eq_getElem hk, List.getD_eq_getElem?_getD, List.getElem?_eq_getElem hk]; rfl)
      have hn : (if o = "add" then some 1 else if o = "get" then some 0 else none) = some a.length := ho.1
      have q' : Ret K (.tuple [dStt (stepC i o a).1, dKey (stepC i o a).2]) H Q := q
      unfold stepC at q'
      refine if_go (eb_eqS e1 ev_str) (.refl H) (fun h H1 x1 _ => ?_) fun h H1 x1 _ => ?_
      · have h := pdec h
        rw [if_pos h] at q' hn
        exact (ev_tup (ea_cons (ev_add e0 (ix 0 (by have := Option.some.inj hn; omega))) (ea_cons ev_str ea_nil))).ret q' x1
      · have h := of_decide_eq_false h
        rw [if_neg h] at q'
        exact (ev_tup (ea_cons e0 (ea_cons e0 ea_nil))).ret q' x1
theorem w_que {code : Addr} (D : DF K mg "step_queue" s_step_queue code) (T : Bn mg) : C8.Cal P w K mg base 2 "step_queue" (spStep K .que) [] := by
  refine calD D sc_step_queue (fun _ _ _ _ _ _ us hl => match us, hl with | [_, _, _], _ => rfl) (fun vs H Q E h => ?_) (fun f A outer s H vs Q E hr h => ?_)
  · obtain ⟨st, o, a, x, y, b, rfl, _⟩ := h; rfl
  · obtain ⟨st, o, a, x, y, b, rfl, hx, hy, hs, hb, ho, q⟩ := h
    refine ⟨_, (pss_cons (ps_if (pt_cmpR op_eq (pv 1) pe_str (nomark _)) (pss_one (ps_ret (pe_tup (pa_cons (pe_op catD (pv 0) (pe_tup (pa_cons (pe_ix ixD (pv 2) pe_int (fun _ _ => rfl)) pa_nil))) (pa_cons pe_str pa_nil))))) pss_nil)
      (pss_cons (ps_if (pt_cmpR op_eq (pe_callB lenD (by rfl) T.len PySem.boot_len (pa_cons (pv 0) pa_nil)) pe_int (nomark _)) (pss_one (ps_ret (pe_tup (pa_cons (pv 0) (pa_cons pe_str pa_nil))))) pss_nil)
      (pss_one (ps_ret (pe_tup (pa_cons (pe_slice slD (pv 0) (po_some pe_int) po_none) (pa_cons (pe_ix ixD (pv 0) pe_int (fun _ _ => rfl)) pa_nil))))))), ?_⟩
    match st, hs with
    | .seq l, hs =>
      have hs : l.length ≤ b := hs
      have e0 : EvD K (tVar 0) (start N_step_queue [x, .str o, y]) H (dInts l) := ev_var rfl hx
      have e1 : EvD K (tVar 1) (start N_step_queue [x, .str o, y]) H (.str o) := ev_var rfl (.str o)
      have e2 : EvD K (tVar 2) (start N_step_queue [x, .str o, y]) H (dInts a) := ev_var rfl hy
      have ix : ∀ k, k < a.length → EvD K (tOp (rIxD' K) (tVar 2) (tC (.int (k : Nat)))) (start N_step_queue [x, .str o, y]) H (.int (a.getD k 0)) := fun k hk => ev_ix e2 ev_int (by
        rw [List.getElem?_map, List.getElem?_eq_getElem hk, List.getD_eq_getElem?_getD, List.getElem?_eq_getElem hk]; rfl)
      have hn : (if o = "put" then some 1 else if o = "take" then some 0 else none) = some a.length := ho.1
      have q' : Ret K (.tuple [dStt (stepQ l o a).1, dKey (stepQ l o a).2]) H Q := q
      unfold stepQ at q'
      refine if_go (eb_eqS e1 ev_str) (.refl H) (fun h H1 x1 _ => ?_) fun h H1 x1 _ => ?_
      · have h := pdec h
        rw [if_pos h] at q' hn
        have q' : Ret K (.tuple [dInts (l ++ [a.getD 0 0]), dKey sOk]) H Q := q'
        have hd : dInts (l ++ [a.getD 0 0]) = .tuple (l.map PyData.int ++ [PyData.int (a.getD 0 0)]) := by unfold dInts; rw [List.map_append]; rfl
        rw [hd] at q'
        exact (ev_tup (ea_cons (ev_cat e0 (ev_tup (ea_cons (ix 0 (by have := Option.some.inj hn; omega)) ea_nil)) (by simp; omega)) (ea_cons ev_str ea_nil))).ret q' x1
      · have h := of_decide_eq_false h
        rw [if_neg h] at q'
        refine if_go (eb_eqI (ev_len (ea_cons e0 ea_nil)) ev_int) x1 (fun h H2 x2 _ => ?_) fun h H2 x2 _ => ?_
        · have h := pdec h
          rw [List.length_map] at h
          have hl : l = [] := List.eq_nil_of_length_eq_zero (by omega)
          subst hl
          exact (ev_tup (ea_cons e0 (ea_cons ev_str ea_nil))).ret q' x2
        · have h := of_decide_eq_false h
          rw [List.length_map] at h
          match l, h with
          | [], h => exact absurd rfl h
          | z :: t, _ =>
            have q' : Ret K (.tuple [dInts t, .int z]) H Q := q'
            have hsl : EvD K (tSl (rSlD K) (tVar 0) (tPart (tC (.int 1))) tNoPart) (start N_step_queue [x, .str o, y]) H (.tuple (cutD ((z :: t).map PyData.int) (some 1) none)) := ev_sl e0 (eo_some (K := K) ev_int) eo_none
            rw [cut_from] at hsl
            exact (ev_tup (ea_cons hsl (ea_cons (ev_ix (i := 0) e0 ev_int rfl) ea_nil))).ret q' x2
theorem srt_uniq : ∀ {ns ms : List Int}, ns.Pairwise (· < ·) → ms.Pairwise (· < ·) → (∀ k, k ∈ ns ↔ k ∈ ms) → ns = ms
  | [], [], _, _, _ => rfl
  | [], m :: ms, _, _, h => by have := (h m).2 List.mem_cons_self; cases this
  | n :: ns, [], _, _, h => by have := (h n).1 List.mem_cons_self; cases this
  | n :: ns, m :: ms, a, b, h => by
    obtain ⟨a1, a2⟩ := List.pairwise_cons.mp a
    obtain ⟨b1, b2⟩ := List.pairwise_cons.mp b
    have e : n = m := by
      rcases List.mem_cons.mp ((h n).1 List.mem_cons_self) with z | z
      · exact z
      · rcases List.mem_cons.mp ((h m).2 List.mem_cons_self) with y | y
        · exact y.symm
        · have := b1 n z; have := a1 m y; omega
    subst e
    rw [srt_uniq a2 b2 fun k => ?_]
    constructor
    · intro hk
      rcases List.mem_cons.mp ((h k).1 (List.mem_cons_of_mem _ hk)) with z | z
      · have := a1 k hk; omega
      · exact z
    · intro hk
      rcases List.mem_cons.mp ((h k).2 (List.mem_cons_of_mem _ hk)) with z | z
      · have := b1 k hk; omega
      · exact z
theorem insS_srt (l : List Int) (v : Int) : (insS l v).Pairwise (· < ·) := by
  unfold insS
  exact List.Pairwise.sublist List.filter_sublist (by decide)
theorem insS_mem {l : List Int} {v : Int} (hl : ∀ k ∈ l, 0 ≤ k ∧ k < 4) (hv : 0 ≤ v ∧ v < 4) (k : Int) : k ∈ insS l v ↔ k ∈ l ∨ k = v := by
  unfold insS
  rw [List.mem_filter, decide_eq_true_eq]
  constructor
  · exact fun h => h.2
  · intro h
    refine ⟨?_, h⟩
    have : 0 ≤ k ∧ k < 4 := by
      rcases h with h | h
      · exact hl k h
      · rw [h]; exact hv
    have : k = 0 ∨ k = 1 ∨ k = 2 ∨ k = 3 := by omega
    rcases this with rfl | rfl | rfl | rfl <;> simp
theorem insS_len (l : List Int) (v : Int) : (insS l v).length ≤ 4 := List.length_filter_le _ _
/-- tuple(sorted(set(state) | {value})) -/
theorem ev_union {σ : L2.St} {H : Hp} {i j : Nat} {l : List Int} {v : Int} (h0 : EvD K (tVar i) σ H (dInts l)) (h3 : EvD K (tVar j) σ H (.int v)) (hl : ∀ k ∈ l, 0 ≤ k ∧ k < 4) (h4 : l.length ≤ 4) (hv : 0 ≤ v ∧ v < 4) :
    EvD K (tThen (tCB (rSortedSet w) (tCons (tOp (rOrS w) (tCB (rSetT w K) (tCons (tVar i) tNil)) (tSet1 w (tVar j))) tNil)) (kTup K)) σ H (dInts (insS l v)) := fun H1 x Q q =>
  h0 H1 x _ fun u H2 e2 hu => by
    obtain ⟨a, rfl, ha⟩ := dp_ints hu
    refine ⟨a, l, rfl, ha, by omega, fun p c np hc p2 np2 => ?_⟩
    have x3 : Ext H2 (upd (upd H2 p (SetO w p (fun j => decide (j ∈ l)) c)) p2 (SetO w p2 (fun _ => false) 0)) := (Ext.new np).trans (.new np2)
    have nn : p2 ≠ p := fun z => by rw [z, upd_same] at np2; cases np2
    refine h3 _ ((x.trans e2).trans x3) _ fun y H4 e4 hy => ?_
    have hp2 : H4 p2 = some (SetO w p2 (fun _ => false) 0) := e4.at upd_same fun _ z => by cases z
    have hp : H4 p = some (SetO w p (fun j => decide (j ∈ l)) c) := e4.at ((upd_ne nn.symm).trans upd_same) fun _ z => by cases z
    refine ⟨v, dp_int hy, hp2, p, p2, _, c, v, rfl, rfl, nn.symm, (upd_ne nn.symm).trans hp, upd_same, fun k hk => hl k (of_decide_eq_true hk), hv.1, hv.2, fun p3 S' m np3 hm hS => ?_⟩
    refine ⟨p3, S', m, rfl, upd_same, by omega, fun ns p4 hs hk _ np4 => ?_⟩
    have en : ns = insS l v := srt_uniq hs (insS_srt l v) fun k => by rw [hk k, hS k, insS_mem hl hv, decide_eq_true_eq]
    subst en
    have nn2 : p2 ≠ p3 := fun z => by rw [← z, upd_same] at np3; cases np3
    refine .inl ⟨p4, _, rfl, .of upd_same, fun p5 np5 => q _ _ ?_ (dp_tupNew upd_same (da_ints _))⟩
    have m1 : Ext H1 (upd H4 p2 (SetO w p2 (fun j => decide (j = v)) 1)) := (e2.trans (x3.trans e4)).mut ((e2.trans (Ext.new np)).free np2)
    exact ((m1.trans (.new np3)).trans (.new np4)).trans (.new np5)
theorem filterMap_range {α : Type} (l : List Int) (f : Int → Option α) : (List.range l.length).filterMap (fun i => (l[i]?).bind f) = l.filterMap f := by
  induction l with
  | nil => rfl
  | cons a l ih =>
    rw [List.length_cons, List.range_succ_eq_map, List.filterMap_cons, List.filterMap_map, List.filterMap_cons]
    have e : ((fun i => ((a :: l)[i]?).bind f) ∘ Nat.succ) = fun i => (l[i]?).bind f := by funext i; simp
    have e0 : ((a :: l)[0]?).bind f = f a := rfl
    rw [e, ih, e0]
theorem filterMap_if (p : Int → Prop) [DecidablePred p] : ∀ l : List Int, l.filterMap (fun k => if p k then none else some (PyData.int k)) = (l.filter fun k => decide (¬ p k)).map PyData.int
  | [] => rfl
  | a :: l => by
    rw [List.filterMap_cons, List.filter_cons]
    have ih := filterMap_if p l
    by_cases h : p a
    · simp only [h, if_true, not_true_eq_false, decide_false, Bool.false_eq_true, if_false]; exact ih
    · simp only [h, if_false, not_false_eq_true, decide_true, if_true, List.map_cons, ih]
theorem w_set {code : Addr} (D : DF K mg "step_set" s_step_set code) (T : Bn mg) (c_yes_or_no : C8.Cal P w K mg base 1 "yes_or_no" spYes []) : C8.Cal P w K mg base 2 "step_set" (spStep K .set) [] := by
  have hkds := D.kds
  refine calD D sc_step_set (fun _ _ _ _ _ _ us hl => match us, hl with | [_, _, _], _ => rfl) (fun vs H Q E h => ?_) (fun f A outer s H vs Q E hr h => ?_)
  · obtain ⟨st, o, a, x, y, b, rfl, _⟩ := h; rfl
  · obtain ⟨st, o, a, x, y, b, rfl, hx, hy, hs, hb, ho, q⟩ := h
    refine ⟨_, (pss_cons (ps_set (i := 3) sc_step_set.nd rfl (by first | exact .inl rfl | exact .inr rfl) (pe_ix ixD (pv 2) pe_int (fun _ _ => rfl)))
      (pss_cons (ps_set (i := 4) sc_step_set.nd rfl (by first | exact .inl rfl | exact .inr rfl) (pe_cmpR op_in_seq (pv 3) (pv 0) rfl))
      (pss_cons (ps_if (pt_cmpR op_eq (pv 1) pe_str (nomark _)) (pss_one (ps_ret (pe_tup (pa_cons (pe_tupleOf (by rfl) T.tuple (pe_callB (cr_sortedSet rfl) (by rfl) T.sorted (by decide +kernel) (pa_cons (pe_op op_orS (pe_callTy (call_setT rfl) (by rfl) T.set (by decide +kernel) (pa_cons (pv 0) pa_nil)) (pe_set1 hkds (pv 3))) pa_nil))) (pa_cons (C8.pe_c c_yes_or_no hr (by decide) (by rfl) (pa_cons (pe_not (pv 4)) pa_nil)) pa_nil))))) pss_nil)
      (pss_cons (ps_if (pt_cmpR op_eq (pv 1) pe_str (nomark _)) (pss_one (ps_ret (pe_tup (pa_cons (pe_tupleOf (by rfl) T.tuple (pe_lc (own := [("other", 5)]) rfl sc_step_set.nd (pi_tup (pv 0)) (blkOk_by (N := N_step_set) (sc := defScope s_step_set) (by decide +kernel)) (fun _ _ _ _ _ => (pg_name (i := 5) sc_step_set.nd rfl (by first | exact .inl rfl | exact .inr rfl))) (fun _ _ _ _ _ => pts_one (pt_cmpR op_ne (pv 5) (pv 3) (nomark _))) (fun _ _ _ _ _ => (pv 5)))) (pa_cons (C8.pe_c c_yes_or_no hr (by decide) (by rfl) (pa_cons (pv 4) pa_nil)) pa_nil))))) pss_nil)
      (pss_one (ps_ret (pe_tup (pa_cons (pv 0) (pa_cons (C8.pe_c c_yes_or_no hr (by decide) (by rfl) (pa_cons (pv 4) pa_nil)) pa_nil))))))))), ?_⟩
    match st, hs with
    | .seq l, hs =>
      obtain ⟨hl, h4⟩ : (∀ k ∈ l, 0 ≤ k ∧ k < 4) ∧ l.length ≤ 4 := hs
      have hn : (if o = "insert" then some 1 else if o = "remove" then some 1 else if o = "has" then some 1 else none) = some a.length := ho.1
      have q' : Ret K (.tuple [dStt (stepS l o a).1, dKey (stepS l o a).2]) H Q := q
      unfold stepS at q'
      have ha1 : 0 < a.length := by
        split at hn
        · have := Option.some.inj hn; omega
        · split at hn
          · have := Option.some.inj hn; omega
          · split at hn
            · have := Option.some.inj hn; omega
            · cases hn
      obtain ⟨v, hv⟩ : ∃ v, a.getD 0 0 = v := ⟨_, rfl⟩
      rw [hv] at q'
      have hv4 : 0 ≤ v ∧ v < 4 := by
        rw [← hv, List.getD_eq_getElem?_getD, List.getElem?_eq_getElem ha1]
        exact ho.2 _ (List.getElem_mem ha1)
      have ev : EvD K (tOp (rIxD' K) (tVar 2) (tC (.int 0))) (start N_step_set [x, .str o, y]) H (.int v) := ev_ix (i := 0) (ev_var rfl hy) ev_int (by
        rw [List.getElem?_map, List.getElem?_eq_getElem ha1, ← hv, List.getD_eq_getElem?_getD, List.getElem?_eq_getElem ha1]; rfl)
      refine set_go ev (.refl H) fun z H1 x1 _ hz => ?_
      rw [dp_int hz]
      refine set_go (ev_inT (n := v) (ns := l) (ev_var rfl (.int v)) (ev_var rfl (hx.ext x1))) (.refl H1) fun z2 H2 x2 _ hz2 => ?_
      have hz2' : z2 = .bl (decide (v ∈ l)) := by cases hz2; rfl
      subst hz2'
      have hx2 := hx.ext (x1.trans x2)
      have e0 : EvD K (tVar 0) [some x, some (.str o), some y, some (.int v), some (.bl (decide (v ∈ l))), none] H2 (dInts l) := ev_var rfl hx2
      have e3 : EvD K (tVar 3) [some x, some (.str o), some y, some (.int v), some (.bl (decide (v ∈ l))), none] H2 (.int v) := ev_var rfl (.int v)
      have e4 : EvD K (tVar 4) [some x, some (.str o), some y, some (.int v), some (.bl (decide (v ∈ l))), none] H2 (.bool (decide (v ∈ l))) := ev_var rfl (.bl _)
      have q2 : Ret K (.tuple [dStt (if o = "insert" then (Stt.seq (insS l v), yn (!decide (v ∈ l))) else if o = "remove" then (Stt.seq (l.filter fun k => decide (k ≠ v)), yn (decide (v ∈ l))) else (Stt.seq l, yn (decide (v ∈ l)))).1, dKey (if o = "insert" then (Stt.seq (insS l v), yn (!decide (v ∈ l))) else if o = "remove" then (Stt.seq (l.filter fun k => decide (k ≠ v)), yn (decide (v ∈ l))) else (Stt.seq l, yn (decide (v ∈ l)))).2]) H2 Q := fun u H3 e hu => q' u H3 ((x1.trans x2).trans e) hu
      refine if_go (eb_eqS (K := K) (ev_var rfl (.str o)) ev_str) (.refl H2) (fun h H3 x3 _ => ?_) fun h H3 x3 _ => ?_
      · have h := pdec h
        rw [if_pos h] at q2
        exact (ev_tup (ea_cons (ev_union (l := l) e0 e3 hl h4 hv4) (ea_cons (ev_call (ea_cons (ev_not e4) ea_nil) g_yes) ea_nil))).ret q2 x3
      · have h := of_decide_eq_false h
        rw [if_neg h] at q2
        refine if_go (eb_eqS (K := K) (ev_var rfl (.str o)) ev_str) x3 (fun h H4 x4 _ => ?_) fun h H4 x4 _ => ?_
        · have h := pdec h
          rw [if_pos h] at q2
          have q2 : Ret K (.tuple [dInts (l.filter fun k => decide (k ≠ v)), dKey (yn (decide (v ∈ l)))]) H2 Q := q2
          have hlc : EvD K (tLc (iTup K (tVar 0)) (gName 5) (tTest (tOp rNe (tVar 5) (tVar 3))) (tVar 5) [5]) [some x, some (.str o), some y, some (.int v), some (.bl (decide (v ∈ l))), none] H2 (.list ((List.range (l.map PyData.int).length).filterMap fun i => (l[i]?).bind fun k => if k = v then none else some (PyData.int k))) := by
            refine ev_lc _ (wd_tup e0) (by rw [List.length_map]; omega) (fun i d hi hd => ?_) fun i u H5 H6 hi e5 hy => ?_
            · obtain ⟨k, hk, hd⟩ := Option.bind_eq_some_iff.mp hd
              split at hd
              · cases hd
              · cases hd; rfl
            · obtain ⟨e6, d, hd, hu⟩ := hy
              rw [List.getElem?_map] at hd
              obtain ⟨k, hk, rfl⟩ := Option.map_eq_some_iff.mp hd
              have hu := dp_int hu
              subst hu
              rw [hk]
              refine turn_name e6 rfl (eb_neI (K := K) (ev_var rfl (.int k)) (ev_var rfl (.int v))) (fun hb => ?_) fun hb => ?_
              · refine ⟨.int k, ?_, ev_var rfl (.int k)⟩
                rw [Option.bind_some, if_neg (by simpa using hb)]
              · rw [Option.bind_some, if_pos (by simpa using hb)]
          rw [List.length_map, filterMap_range l fun k => if k = v then none else some (PyData.int k)] at hlc
          have hf := filterMap_if (fun k => k = v) l
          rw [hf] at hlc
          exact (ev_tup (ea_cons (ev_tuple hlc) (ea_cons (ev_call (ea_cons e4 ea_nil) g_yes) ea_nil))).ret q2 x4
        · have h := of_decide_eq_false h
          rw [if_neg h] at q2
          exact (ev_tup (ea_cons e0 (ea_cons (ev_call (ea_cons e4 ea_nil) g_yes) ea_nil))).ret q2 x4
def sname : Kd → Str
  | .reg => "step_register" | .cnt => "step_counter" | .set => "step_set" | .que => "step_queue"
/-- STEPPERS -/
structure StepT (K : PySem.W.Frag) (w : World) (mg : Str → Option Value) : Prop where
  ex : ∃ a, mg "STEPPERS" = some (.ref a) ∧ ∀ kd : Kd, ∃ f, mg (sname kd) = some (.ref f) ∧ KDct K w a kd.str (.ref f)
theorem cal_at {k : Nat} {x : Str} {sp : Sp} {f : Addr} (c : C8.Cal P w K mg base k x sp []) (e : mg x = some (.ref f)) : C8.CalAt P w K mg base k f sp := by
  obtain ⟨f', fd, ps, ds, F, hm, kp, b, d⟩ := c.ex
  rw [e] at hm
  cases hm
  cases d
  exact ⟨fd, ps, F, kp, b⟩
def spStep' (K : PySem.W.Frag) : Sp := fun vs H Q _ => ∃ (kd : Kd) (st : Stt) (o : Str) (a : List Int) (x y : V) (b : Nat), vs = [.str kd.str, x, .str o, y] ∧ Dp K H x (dStt st) ∧ Dp K H y (dInts a) ∧ StOk b kd st ∧ b ≤ 1000 ∧ OpOk kd o a ∧ Ret K (.tuple [dStt (stepM kd st o a).1, dKey (stepM kd st o a).2]) H Q
theorem w_step {code : Addr} (D : DF K mg "step" s_step code) (S : StepT K w mg) (c : ∀ kd, C8.Cal P w K mg base 2 (sname kd) (spStep K kd) []) : C8.Cal P w K mg base 3 "step" (spStep' K) [] := by
  obtain ⟨aS, hS, hf⟩ := S.ex
  refine calD D sc_step (fun _ _ _ _ _ _ us hl => match us, hl with | [_, _, _, _], _ => rfl) (fun vs H Q E h => ?_) (fun f A outer s H vs Q E hr h => ?_)
  · obtain ⟨kd, st, o, a, x, y, b, rfl, _⟩ := h; rfl
  · obtain ⟨kd, st, o, a, x, y, b, rfl, hx, hy, hs, hb, ho, q⟩ := h
    refine ⟨_, (pss_one (ps_ret (pe_callF (S := fun g sp => ∃ kd, mg (sname kd) = some (.ref g) ∧ sp = spStep K kd) (fun g sp h => ?_) hr (pe_ix ix_kdict (pe_glob (v := .ref aS) (by rfl) hS rfl) (pv 0) (fun _ _ => rfl)) (pa_cons (pv 1) (pa_cons (pv 2) (pa_cons (pv 3) pa_nil)))))), ?_⟩
    · obtain ⟨kd, e, rfl⟩ := h
      exact cal_at (c kd) e
    · obtain ⟨g, hg, hk⟩ := hf kd
      exact ⟨.str kd.str, rfl, aS, kd.str, .ref g, rfl, rfl, hk, g, spStep K kd, rfl, ⟨kd, hg, rfl⟩, x, rfl, .str o, rfl, y, rfl, st, o, a, x, y, b, rfl, hx, hy, hs, hb, ho, q⟩
end
end K22

-- W2
set_option maxHeartbeats 4000000
/-! Walks: histories. -/
namespace K22
open PySem PySem.Spec PyProof.Rows L2
section
variable {P : Program} {w : World} {K : PySem.W.Frag} {mg : Str → Option Value} {base : Heap}
/-- a dict tells w -/
def WK (kvs : List (Key × V)) (f : Str → Option Nat) : Prop := ∀ c : Str, valV kvs (.inr c) = (f c).map fun n => V.int ((n : Nat) : Int)
theorem WK.put {kvs : List (Key × V)} {f : Str → Option Nat} (h : WK kvs f) (c : Str) (n : Nat) : WK (putK kvs (.inr c) (.int ((n : Nat) : Int))) (fun x => if x = c then some n else f x) := fun x => by
  rw [valV_put]
  show _ = (if x = c then some n else f x).map fun n => V.int ((n : Nat) : Int)
  by_cases e : x = c
  · rw [if_pos (by rw [e]), if_pos e]; rfl
  · rw [if_neg (fun z => e (Sum.inr.inj z)), if_neg e]; exact h x
theorem noSeq_dK {H : Hp} {d : Addr} {kvs : List (Key × V)} (h : H d = some (.dK kvs)) : NoSeq (H d) := fun u e => by
  rw [h] at e
  cases e
  exact ⟨fun _ z => (by cases z), fun _ z => (by cases z), fun _ _ z => (by cases z), fun _ _ z => (by cases z), fun _ z => (by cases z)⟩
@[reducible] def dNums (l : List Nat) : PyData := .list (l.map fun n => PyData.int ((n : Nat) : Int))
theorem da_nums : ∀ (H : Hp) (l : List Nat), DpAll K H (l.map fun n => V.int ((n : Nat) : Int)) (l.map fun n => PyData.int ((n : Nat) : Int))
  | _, [] => .nil
  | H, n :: l => .cons (.int _) (da_nums H l)
/-- a new list comes -/
def RetL (K : PySem.W.Frag) (ds : List PyData) (H : Hp) (Q : VK) : Prop := ∀ p xs H', Ext H H' → H p = none → H' p = some (.lst xs) → DpAll K H' xs ds → Q (.ref p) H'
theorem RetL.of {ds : List PyData} {H : Hp} {Q : VK} (q : ∀ v H2, Ext H H2 → Dp K H2 v (.list ds) → Q v H2) : RetL K ds H Q := fun p xs H' e _ h a => q _ H' e (.lst (.of h) a)
def spNumbered (K : PySem.W.Frag) : Sp := fun vs H Q _ => ∃ (h : Hist) (x : V), vs = [x] ∧ Dp K H x (dHist h) ∧ Wf h ∧ RetL K ((numsM h.evs).map fun n => PyData.int ((n : Nat) : Int)) H Q
theorem g_numbered {H : Hp} {h : Hist} (wf : Wf h) : Gives K (spNumbered K) H [dHist h] (dNums (numsM h.evs)) := fun H1 e vs hv Q E q => by
  obtain ⟨v, vs, rfl, h1, h2⟩ := da_cons hv
  rw [da_nil h2]
  exact ⟨h, v, rfl, h1, wf, .of q⟩
theorem es_evs {i : Nat} {σ : L2.St} {H : Hp} {x : V} {h : Hist} (e : σ[i]? = some (some x)) (hx : Dp K H x (dHist h)) : EvS K (tOp (rIxD' K) (tVar i) (tC (.int 1))) σ H (dEvs h.evs) := es_ix (i := 1) (es_var e hx) es_int rfl
theorem es_objs {i : Nat} {σ : L2.St} {H : Hp} {x : V} {h : Hist} (e : σ[i]? = some (some x)) (hx : Dp K H x (dHist h)) : EvS K (tOp (rIxD' K) (tVar i) (tC (.int 0))) σ H (dObjs h.objs) := es_ix (i := 0) (es_var e hx) es_int rfl
theorem w_numbered {code : Addr} (D : DF K mg "numbered" s_numbered code) : C8.Cal P w K mg base 1 "numbered" (spNumbered K) [] := by
  refine calD D sc_numbered (fun _ _ _ _ _ _ us hl => match us, hl with | [_], _ => rfl) (fun vs H Q E h => ?_) (fun f A outer s H vs Q E hr h => ?_)
  · obtain ⟨h, x, rfl, _⟩ := h; rfl
  · obtain ⟨h, x, rfl, hx, wf, q⟩ := h
    refine ⟨_, (pss_cons (ps_set (i := 1) sc_numbered.nd rfl (by first | exact .inl rfl | exact .inr rfl) (pe_lst pa_nil))
      (pss_cons (ps_set (i := 2) sc_numbered.nd rfl (by first | exact .inl rfl | exact .inr rfl) pe_dnewK)
      (pss_cons (ps_set (i := 3) sc_numbered.nd rfl (by first | exact .inl rfl | exact .inr rfl) pe_int)
      (pss_cons (ps_for PassesOwn.never rfl (pi_tup (pe_ix ixD (pv 0) pe_int (fun _ _ => rfl))) (pg_name (i := 4) sc_numbered.nd rfl (by first | exact .inl rfl | exact .inr rfl)) (pss_cons (ps_if (pt_cmpR op_eq (pe_ix ixD (pv 4) pe_int (fun _ _ => rfl)) pe_str (nomark _)) (pss_cons (ps_dput (hu_of hr) (pv 2) (pe_ix ixD (pv 4) pe_int (fun _ _ => rfl)) (pv 3) rfl)
      (pss_one (ps_aug (i := 3) sc_numbered.nd rfl (by first | exact .inl rfl | exact .inr rfl) pe_int ip_add))) pss_nil)
      (pss_one (ps_expr (pe_bm PySem.F.plainAttrs_list PySem.F.slot_list_append PySem.F.type_list_append mt_append (pv 1) (pa_cons (pe_dget (hu_of hr) (pv 2) (pe_ix ixD (pv 4) pe_int (fun _ _ => rfl)) (fun _ _ => rfl)) pa_nil))))))
      (pss_one (ps_ret (pv 1))))))), ?_⟩
    refine ⟨Nat.zero_le _, fun n nn d nd => ?_⟩
    have e0 : Ext H (upd H n (.lst [])) := .new nn
    have x0 : Ext H (upd (upd H n (.lst [])) d (.dK [])) := e0.trans (.new nd)
    have nd0 : H d = none := e0.free nd
    have nnd : d ≠ n := fun z => by rw [z, upd_same] at nd; cases nd
    have few : h.evs.length ≤ 100 := wf.len
    refine for_go (H := H) (ws_tup (es_evs (h := h) rfl hx)) x0
      (fun i σ H' => ∃ y kvs, σ = [some x, some (.ref n), some (.ref d), some (.int (((sgOf (h.evs.take i)).ops.length : Nat) : Int)), y] ∧ Ext H H' ∧ H' n = some (.lst (((numsM h.evs).take i).map fun m => V.int ((m : Nat) : Int))) ∧ H' d = some (.dK kvs) ∧ WK kvs (sgOf (h.evs.take i)).w ∧ kvs.length ≤ i)
      ⟨none, [], rfl, x0, ?_, upd_same, fun c => rfl, Nat.le_refl _⟩ (fun i σ' H' _ p => ?_) (fun i y σ' H3 H4 hi p hy => ?_) fun σ' H' p => ?_
    · rw [upd_ne nnd.symm, upd_same]; rfl
    · obtain ⟨_, _, _, e, _⟩ := p
      exact e
    · obtain ⟨y0, kvs, rfl, e3, hn, hd, hw, hl⟩ := p
      obtain ⟨rfl, dd, hdd, hy⟩ := hy
      rw [List.length_map] at hi
      rw [List.getElem?_map, List.getElem?_eq_getElem hi] at hdd
      cases hdd
      have he : h.evs[i]? = some h.evs[i] := List.getElem?_eq_getElem hi
      have ok := wf.ev he
      have inv := wf.inv i
      have hst := sg_take he
      have hnum := numsM_get he
      have hlen : ((numsM h.evs).take i).length ≤ 100 := by rw [List.length_take]; omega
      have nxt : ((numsM h.evs).take (i + 1)).map (fun m => V.int ((m : Nat) : Int)) = ((numsM h.evs).take i).map (fun m => V.int ((m : Nat) : Int)) ++ [V.int ((numAt (sgOf (h.evs.take i)) h.evs[i] : Nat) : Int)] := by
        rw [List.take_add_one, hnum, List.map_append]; rfl
      generalize h.evs[i] = ev at hy ok hst nxt
      cases ev with
      | call c nm o a =>
        refine if_go (H := H4) (eb_eqS (K := K) (a := "call") (ev_ix (i := 0) (ev_var rfl hy) ev_int rfl) ev_str) (.refl H4) (fun _ H5 x5 _ => ?_) fun hb => absurd hb (by decide)
        have hd5 := x5.dK hd
        have hn5 := x5.lst hn
        refine dput_go (K := K) (k := .inr c) (H := H5) rfl hd5 (by omega) (ev_var rfl (.int _)) (key_str (ev_ix (i := 1) (ev_var rfl (hy.ext x5)) ev_int rfl)) fun v H6 x6 hv hd6 => ?_
        rw [dp_int hv]
        refine ⟨_, rfl, _, _, rfl, rfl, ?_⟩
        have hn6 : upd H6 d (.dK (putK kvs (.inr c) (.int (((sgOf (h.evs.take i)).ops.length : Nat) : Int)))) n = _ := (upd_ne nnd.symm).trans (x6.lst hn5)
        have e7 : Ext H (upd H6 d (.dK (putK kvs (.inr c) (.int (((sgOf (h.evs.take i)).ops.length : Nat) : Int))))) := ((e3.trans x5).trans x6).mut nd0
        have hy7 : Dp K (upd H6 d (.dK (putK kvs (.inr c) (.int (((sgOf (h.evs.take i)).ops.length : Nat) : Int))))) y (dEv (.call c nm o a)) := (hy.ext (x5.trans x6)).extB extB_upd (noSeq_dK hd6)
        refine app_go (K := K) rfl hn6 (by rw [List.length_map]; omega) (ev_dget (d := .int (((sgOf (h.evs.take i)).ops.length : Nat) : Int)) (k := .inr c) rfl upd_same (key_str (ev_ix (i := 1) (ev_var rfl hy7) ev_int rfl)) (by rw [valV_put, if_pos rfl]) (.int _)) fun u H8 x8 hu hn8 => ?_
        rw [dp_int hu]
        have wk := WK.put hw c (sgOf (h.evs.take i)).ops.length
        refine ⟨some y, putK kvs (.inr c) (.int (((sgOf (h.evs.take i)).ops.length : Nat) : Int)), ?_, (e7.trans x8).mut nn, ?_, ?_, ?_, ?_⟩
        · rw [hst]
          show [_, _, _, some (V.int (_ + 1)), _] = [_, _, _, some (V.int (((_ ++ [_]).length : Nat) : Int)), _]
          rw [List.length_append]
          rfl
        · rw [upd_same, nxt]; rfl
        · rw [upd_ne nnd]; exact x8.dK upd_same
        · rw [hst]; exact wk
        · exact Nat.le_trans (length_putK _ _ _) (by omega)
      | ret c r =>
        refine if_go (H := H4) (eb_eqS (K := K) (a := "return") (ev_ix (i := 0) (ev_var rfl hy) ev_int rfl) ev_str) (.refl H4) (fun hb => absurd hb (by decide)) fun _ H5 x5 _ => ?_
        have hd5 := x5.dK hd
        have hn5 := x5.lst hn
        obtain ⟨m, hm⟩ := inv.ow c ok
        have hv : valV kvs (.inr c) = some (.int ((m : Nat) : Int)) := by rw [hw c, hm]; rfl
        refine app_go (K := K) rfl hn5 (by rw [List.length_map]; omega) (ev_dget (d := .int ((m : Nat) : Int)) (k := .inr c) rfl hd5 (key_str (ev_ix (i := 1) (ev_var rfl (hy.ext x5)) ev_int rfl)) hv (.int _)) fun u H8 x8 hu hn8 => ?_
        rw [dp_int hu]
        refine ⟨some y, kvs, ?_, ((e3.trans x5).trans x8).mut nn, ?_, ?_, ?_, by omega⟩
        · rw [hst]
          show [_, _, _, some (V.int _), _] = [_, _, _, some (V.int (((List.modify _ _ _).length : Nat) : Int)), _]
          rw [List.length_modify]
        · rw [upd_same, nxt]
          show _ = some (HO.lst (_ ++ [V.int (((((sgOf (h.evs.take i)).w c).getD 0 : Nat)) : Int)]))
          rw [hm]; rfl
        · rw [upd_ne nnd]; exact x8.dK hd5
        · rw [hst]; exact hw
    · obtain ⟨y0, kvs, rfl, e3, hn, hd, hw, hl⟩ := p
      rw [List.length_map] at hn
      have ht : (numsM h.evs).take h.evs.length = numsM h.evs := List.take_of_length_le (Nat.le_of_eq (numsFrom_len _ _))
      rw [ht] at hn
      exact ⟨_, rfl, q n _ H' e3 nn hn (da_nums H' _)⟩
def spOps (K : PySem.W.Frag) : Sp := fun vs H Q _ => ∃ (h : Hist) (x : V), vs = [x] ∧ Dp K H x (dHist h) ∧ Wf h ∧ RetL K ((opsM h.evs).map dOp) H Q
theorem g_ops {H : Hp} {h : Hist} (wf : Wf h) : Gives K (spOps K) H [dHist h] (dOps (opsM h.evs)) := fun H1 e vs hv Q E q => by
  obtain ⟨v, vs, rfl, h1, h2⟩ := da_cons hv
  rw [da_nil h2]
  exact ⟨h, v, rfl, h1, wf, .of q⟩
theorem noL_key (r : KeyR) : noL (dKey r) = true := by cases r <;> rfl
theorem noL_okey (r : Option KeyR) : noL (dOKey r) = true := by
  cases r with
  | none => rfl
  | some r => exact noL_key r
theorem noL_onat (r : Option Nat) : noL (dONat r) = true := by cases r <;> rfl
theorem noL_op (p : Op) : noL (dOp p) = true := by
  show noLs [.str p.c, .str p.n, .str p.o, dInts p.a, dOKey p.r, .int ((p.called : Nat) : Int), dONat p.ret] = true
  simp only [noLs, noL_ints, noL_okey, noL_onat, Bool.true_and, Bool.and_true]
  rfl
theorem noL_ops (l : List Op) : noLs (l.map dOp) = true := noLs_map fun p _ => noL_op p
theorem noL_ev (e : Ev) : noL (dEv e) = true := by
  cases e with
  | call c n o a => show noLs [.str "call", .str c, .str n, .str o, dInts a] = true; simp only [noLs, noL_ints]; rfl
  | ret c r => show noLs [.str "return", .str c, dKey r] = true; simp only [noLs, noL_key]; rfl
theorem noL_obj (x : Str × Kd) : noL (dObj x) = true := rfl
theorem noL_hist (h : Hist) : noL (dHist h) = true := by
  show noLs [dObjs h.objs, dEvs h.evs] = true
  have h1 : noL (dObjs h.objs) = true := noLs_map fun x _ => noL_obj x
  have h2 : noL (dEvs h.evs) = true := noLs_map fun x _ => noL_ev x
  simp only [noLs, h1, h2]
  rfl
theorem w_operations {code : Addr} (D : DF K mg "operations" s_operations code) (T : Bn mg) (c_numbered : C8.Cal P w K mg base 1 "numbered" (spNumbered K) []) : C8.Cal P w K mg base 2 "operations" (spOps K) [] := by
  refine calD D sc_operations (fun _ _ _ _ _ _ us hl => match us, hl with | [_], _ => rfl) (fun vs H Q E h => ?_) (fun f A outer s H vs Q E hr h => ?_)
  · obtain ⟨h, x, rfl, _⟩ := h; rfl
  · obtain ⟨h, x, rfl, hx, wf, q⟩ := h
    refine ⟨_, (pss_cons (ps_set (i := 1) sc_operations.nd rfl (by first | exact .inl rfl | exact .inr rfl) (pe_lst pa_nil))
      (pss_cons (ps_set (i := 2) sc_operations.nd rfl (by first | exact .inl rfl | exact .inr rfl) (C8.pe_c c_numbered hr (by decide) (by rfl) (pa_cons (pv 0) pa_nil)))
      (pss_cons (ps_for PassesOwn.never rfl (pi_enumT (by rfl) T.enumerate (pa_cons (pe_ix ixD (pv 0) pe_int (fun _ _ => rfl)) pa_nil)) (pg_tup rfl (pgs_cons (pg_name (i := 3) sc_operations.nd rfl (by first | exact .inl rfl | exact .inr rfl)) (pgs_cons (pg_name (i := 4) sc_operations.nd rfl (by first | exact .inl rfl | exact .inr rfl)) pgs_nil))) (pss_one (ps_if (pt_cmpR op_eq (pe_ix ixD (pv 4) pe_int (fun _ _ => rfl)) pe_str (nomark _)) (pss_one (ps_expr (pe_bm PySem.F.plainAttrs_list PySem.F.slot_list_append PySem.F.type_list_append mt_append (pv 1) (pa_cons (pe_op catD (pe_slice slD (pv 4) (po_some pe_int) po_none) (pe_tup (pa_cons pe_non (pa_cons (pv 3) (pa_cons pe_non pa_nil))))) pa_nil)))) (pss_cons (ps_set (i := 5) sc_operations.nd rfl (by first | exact .inl rfl | exact .inr rfl) (pe_ix ixD (pv 2) (pv 3) (fun _ _ => rfl)))
      (pss_one (ps_asg (pe_op catD (pe_slice slD (pe_ix ixD (pv 1) (pv 5) (fun _ _ => rfl)) po_none (po_some pe_int)) (pe_tup (pa_cons (pe_ix ixD (pv 4) pe_int (fun _ _ => rfl)) (pa_cons (pe_ix ixD (pe_ix ixD (pv 1) (pv 5) (fun _ _ => rfl)) pe_int (fun _ _ => rfl)) (pa_cons (pv 3) pa_nil))))) (pg_sub (pv 1) (pv 5) set_list)))))))
      (pss_one (ps_ret (pv 1)))))), ?_⟩
    refine ⟨Nat.zero_le _, fun fo nf => ⟨x, rfl, h, x, rfl, hx.ext (.new nf), wf, fun nm ns H2 e2 nnm hnm han => ?_⟩⟩
    have e0 : Ext H (upd H fo (.lst [])) := .new nf
    have x0 : Ext H H2 := e0.trans e2
    have nfm : nm ≠ fo := fun z => by rw [z, upd_same] at nnm; cases nnm
    have hns : ns = (numsM h.evs).map fun m => V.int ((m : Nat) : Int) := by
      have : ∀ (l : List Nat) (ns : List V), DpAll K H2 ns (l.map fun n => PyData.int ((n : Nat) : Int)) → ns = l.map fun m => V.int ((m : Nat) : Int) := fun l => by
        induction l with
        | nil => exact fun ns h => da_nil h
        | cons a l ih =>
          intro ns h
          obtain ⟨u, us, rfl, h1, h2⟩ := da_cons h
          rw [dp_int h1, ih us h2]; rfl
      exact this _ _ han
    subst hns
    have hf2 : H2 fo = some (.lst []) := e2.lst upd_same
    have few : h.evs.length ≤ 100 := wf.len
    refine for_go (H := H) (ws_enum (es_evs (h := h) rfl hx)) x0
      (fun i σ H' => ∃ y3 y4 y5 acc, σ = [some x, some (.ref fo), some (.ref nm), y3, y4, y5] ∧ Ext H H' ∧ H' fo = some (.lst acc) ∧ H' nm = some (.lst ((numsM h.evs).map fun m => V.int ((m : Nat) : Int))) ∧ DpAll K H' acc ((sgOf (h.evs.take i)).ops.map dOp))
      ⟨none, none, none, [], rfl, x0, hf2, hnm, .nil⟩ (fun i σ' H' _ p => ?_) (fun i y σ' H3 H4 hi p hy => ?_) fun σ' H' p => ?_
    · obtain ⟨_, _, _, _, _, e, _⟩ := p
      exact e
    · obtain ⟨y3, y4, y5, acc, rfl, e3, hfo, hnm3, hacc⟩ := p
      obtain ⟨Tp, y1, dd, rfl, nT, rfl, hdd, hy⟩ := hy
      rw [List.length_map] at hi
      rw [List.getElem?_map, List.getElem?_eq_getElem hi] at hdd
      cases hdd
      have he : h.evs[i]? = some h.evs[i] := List.getElem?_eq_getElem hi
      have ok := wf.ev he
      have inv := wf.inv i
      have hst := sg_take he
      have hnum := numsM_get he
      have hp : (sgOf (h.evs.take i)).p = i := by rw [sg_p', List.length_take]; omega
      have hol : (sgOf (h.evs.take i)).ops.length ≤ 9 := Nat.le_trans (sg_ops_take _ _) wf.ops
      have x4 : Ext H3 (upd H3 Tp (.tup [.int ((i : Nat) : Int), y1])) := .new nT
      refine ⟨Tp, _, rfl, .of upd_same, rfl, _, _, rfl, _, _, rfl, rfl, ?_⟩
      have hy4 := hy.ext x4
      have hfo4 := x4.lst hfo
      have hnm4 := x4.lst hnm3
      have hacc4 := hacc.ext x4
      have e4 := e3.trans x4
      clear hy hfo hnm3 hacc e3
      generalize upd H3 Tp (.tup [.int ((i : Nat) : Int), y1]) = H4 at hy4 hfo4 hnm4 hacc4 e4 x4 ⊢
      generalize h.evs[i] = ev at hy4 ok hst hnum
      cases ev with
      | call c n o a =>
        refine if_go (H := H4) (eb_eqS (K := K) (a := "call") (ev_ix (i := 0) (ev_var rfl hy4) ev_int rfl) ev_str) (.refl H4) (fun _ H5 x5 _ => ?_) fun hb => absurd hb (by decide)
        have hsl : EvD K (tSl (rSlD K) (tVar 4) (tPart (tC (.int 1))) tNoPart) [some x, some (.ref fo), some (.ref nm), some (.int ((i : Nat) : Int)), some y1, y5] H5 (.tuple (cutD [.str "call", .str c, .str n, .str o, dInts a] (some 1) none)) := ev_sl (ev_var rfl (hy4.ext x5)) (eo_some (K := K) ev_int) eo_none
        rw [cut_from] at hsl
        refine app_go (K := K) (d := dOp ⟨c, n, o, a, none, i, none⟩) rfl (x5.lst hfo4) (by rw [da_len hacc4, List.length_map]; omega) (ev_cat hsl (ev_tup (ea_cons ev_non (ea_cons (ev_var rfl (.int _)) (ea_cons ev_non ea_nil)))) (by simp)) fun u H6 x6 hu hf6 => ?_
        refine ⟨_, _, y5, acc ++ [u], rfl, ((e4.trans x5).trans x6).mut nf, upd_same, (upd_ne nfm).trans ((x5.trans x6).lst hnm4), ?_⟩
        rw [hst]
        show DpAll K _ _ (((sgOf (h.evs.take i)).ops ++ [(⟨c, n, o, a, none, (sgOf (h.evs.take i)).p, none⟩ : Op)]).map dOp)
        rw [hp, List.map_append]
        exact da_append ((hacc4.ext (x5.trans x6)).extL (d := fo) (noL_ops _) extB_upd ⟨acc, hf6⟩) (da_one (hu.extL (d := fo) (noL_op _) extB_upd ⟨acc, hf6⟩))
      | ret c r =>
        refine if_go (H := H4) (eb_eqS (K := K) (a := "return") (ev_ix (i := 0) (ev_var rfl hy4) ev_int rfl) ev_str) (.refl H4) (fun hb => absurd hb (by decide)) fun _ H5 x5 _ => ?_
        obtain ⟨m, hm⟩ := inv.ow c ok
        obtain ⟨op, hop, hoc, _⟩ := inv.wl c m hm
        have hna : numAt (sgOf (h.evs.take i)) (.ret c r) = m := by show ((sgOf (h.evs.take i)).w c).getD 0 = m; rw [hm]; rfl
        rw [hna] at hnum
        have hml := (List.getElem?_eq_some_iff.mp hop).1
        have hda : ((sgOf (h.evs.take i)).ops.map dOp)[m]? = some (dOp op) := by rw [List.getElem?_map, hop]; rfl
        refine set_go (K := K) (d := .int ((m : Nat) : Int)) (ev_ixL (i := i) (ev_var rfl (.lst (.of (x5.lst hnm4)) (da_nums _ _))) (ev_var rfl (.int _)) (by rw [List.getElem?_map, hnum]; rfl)) (.refl H5) fun u H6 x6 _ hu => ?_
        rw [dp_int hu]
        have hacc6 := hacc4.ext (x5.trans x6)
        have hfo6 := (x5.trans x6).lst hfo4
        have efo : EvD K (tOp (rIxD' K) (tVar 1) (tVar 5)) [some x, some (.ref fo), some (.ref nm), some (.int ((i : Nat) : Int)), some y1, some (.int ((m : Nat) : Int))] H6 (dOp op) := ev_ixL (i := m) (ev_var rfl (.lst (.of hfo6) hacc6)) (ev_var rfl (.int _)) hda
        have hsl : EvD K (tSl (rSlD K) (tOp (rIxD' K) (tVar 1) (tVar 5)) tNoPart (tPart (tC (.int 4)))) [some x, some (.ref fo), some (.ref nm), some (.int ((i : Nat) : Int)), some y1, some (.int ((m : Nat) : Int))] H6 (.tuple (cutD [.str op.c, .str op.n, .str op.o, dInts op.a, dOKey op.r, .int ((op.called : Nat) : Int), dONat op.ret] none (some 4))) := ev_sl efo eo_none (eo_some (K := K) (n := 4) ev_int)
        rw [cut_to] at hsl
        have hy6 := hy4.ext (x5.trans x6)
        refine EvD.go (K := K) (d := dOp { op with r := some r, ret := some i }) (ev_cat hsl (ev_tup (ea_cons (ev_ix (i := 2) (ev_var rfl hy6) ev_int rfl) (ea_cons (ev_ix (i := 5) efo ev_int rfl) (ea_cons (ev_var rfl (.int _)) ea_nil)))) (by simp)) fun v H7 x7 hv => ?_
        have hfo7 := x7.lst hfo6
        have hal : acc.length = (sgOf (h.evs.take i)).ops.length := by rw [da_len hacc4, List.length_map]
        refine ⟨_, rfl, _, rfl, fo, acc, m, m, rfl, rfl, hfo7, ?_, ?_⟩
        · unfold ixN
          rw [if_pos (by omega), if_pos (by omega), Int.toNat_natCast]
        · refine ⟨_, _, _, acc.set m v, rfl, (((e4.trans x5).trans x6).trans x7).mut nf, upd_same, (upd_ne nfm).trans (((x5.trans x6).trans x7).lst hnm4), ?_⟩
          rw [hst]
          show DpAll K _ _ (((sgOf (h.evs.take i)).ops.modify (((sgOf (h.evs.take i)).w c).getD 0) (fun op => { op with r := some r, ret := some (sgOf (h.evs.take i)).p })).map dOp)
          have em : ((sgOf (h.evs.take i)).ops.modify (((sgOf (h.evs.take i)).w c).getD 0) (fun op => { op with r := some r, ret := some (sgOf (h.evs.take i)).p })).map dOp = ((sgOf (h.evs.take i)).ops.map dOp).set m (dOp { op with r := some r, ret := some i }) := by
            rw [hm, hp]
            apply List.ext_getElem?
            intro k
            rw [List.getElem?_map, Option.getD_some, get_modify, List.getElem?_set]
            by_cases hk : m = k
            · subst hk
              rw [if_pos rfl, if_pos rfl, hop, if_pos (by rw [List.length_map]; exact hml)]; rfl
            · rw [if_neg hk, if_neg hk, List.getElem?_map]
          rw [em]
          exact da_set (hv.extL (d := fo) (noL_op _) extB_upd ⟨_, hfo7⟩) m ((hacc6.ext x7).extL (d := fo) (noL_ops _) extB_upd ⟨_, hfo7⟩)
    · obtain ⟨y3, y4, y5, acc, rfl, e3, hfo, hnm3, hacc⟩ := p
      rw [List.length_map, sg_whole] at hacc
      exact ⟨_, rfl, q fo acc H' e3 nf hfo hacc⟩
def spKept (K : PySem.W.Frag) : Sp := fun vs H Q _ => ∃ (h : Hist) (wn : List Nat) (x y z : V), vs = [x, y, z] ∧ Dp K H x (dHist h) ∧ Wf h ∧ Dp K H y (dObjs h.objs) ∧ Dp K H z (dNums wn) ∧ Ret K (dHist ⟨h.objs, keptE h.evs wn⟩) H Q
theorem g_kept {H : Hp} {h : Hist} {wn : List Nat} (wf : Wf h) : Gives K (spKept K) H [dHist h, dObjs h.objs, dNums wn] (dHist ⟨h.objs, keptE h.evs wn⟩) := fun H1 e vs hv Q E q => by
  obtain ⟨v, vs, rfl, h1, hv⟩ := da_cons hv
  obtain ⟨v2, vs, rfl, h2, hv⟩ := da_cons hv
  obtain ⟨v3, vs, rfl, h3, hv⟩ := da_cons hv
  rw [da_nil hv]
  exact ⟨h, wn, v, v2, v3, rfl, h1, wf, h2, h3, q⟩
theorem w_kept {code : Addr} (D : DF K mg "kept" s_kept code) (T : Bn mg) (c_numbered : C8.Cal P w K mg base 1 "numbered" (spNumbered K) []) : C8.Cal P w K mg base 2 "kept" (spKept K) [] := by
  refine calD D sc_kept (fun _ _ _ _ _ _ us hl => match us, hl with | [_, _, _], _ => rfl) (fun vs H Q E h => ?_) (fun f A outer s H vs Q E hr h => ?_)
  · obtain ⟨h, wn, x, y, z, rfl, _⟩ := h; rfl
  · obtain ⟨h, wn, x, y, z, rfl, hx, wf, hy, hz, q⟩ := h
    refine ⟨_, (pss_cons (ps_set (i := 3) sc_kept.nd rfl (by first | exact .inl rfl | exact .inr rfl) (C8.pe_c c_numbered hr (by decide) (by rfl) (pa_cons (pv 0) pa_nil)))
      (pss_cons (ps_setLc (i := 4) (own := [("place", 5), ("event", 6)]) (g := (gTup K 2 (gCons (gName 5) (gCons (gName 6) gNil)))) (tt := (tTest (tOp (rIn K false) (tOp (rIxD' K) (tVar 3) (tVar 5)) (tVar 2)))) (te := (tVar 6)) rfl sc_kept.nd rfl rfl (sw_true rfl rfl rfl (by decide +kernel)) (pi_enumT (by rfl) T.enumerate (pa_cons (pe_ix ixD (pv 0) pe_int (fun _ _ => rfl)) pa_nil)) (blkOk_by (N := N_kept) (sc := defScope s_kept) (by decide +kernel)) (fun _ _ _ _ _ => (pg_tup rfl (pgs_cons (pg_name (i := 5) sc_kept.nd rfl (by first | exact .inl rfl | exact .inr rfl)) (pgs_cons (pg_name (i := 6) sc_kept.nd rfl (by first | exact .inl rfl | exact .inr rfl)) pgs_nil)))) (fun _ _ _ _ _ => pts_one (pt_cmpR op_in_seq (pe_ix ixD (pv 3) (pv 5) (fun _ _ => rfl)) (pv 2) rfl)) (fun _ _ _ _ _ => (pv 6)))
      (pss_one (ps_ret (pe_tup (pa_cons (pv 1) (pa_cons (pe_tupleOf (by rfl) T.tuple (pv 4)) pa_nil))))))), ?_⟩
    refine set_go (K := K) (ev_call (ea_cons (ev_var rfl hx) ea_nil) (g_numbered wf)) (.refl H) fun nm H2 x2 _ hnm => ?_
    have hx2 := hx.ext x2
    have hz2 := hz.ext x2
    have few : h.evs.length ≤ 100 := wf.len
    refine set_go (K := K) (ev_lc (fun i => ((((numsM h.evs).zip h.evs)[i]?).bind fun q => if q.1 ∈ wn then some q.2 else none).map dEv) (wd_of (ws_enum (es_evs (h := h) rfl hx2))) (by rw [List.length_map]; omega) (fun i d hi hd => ?_) fun i v H3 H4 hi e3 hv => ?_) (.refl H2) fun v H5 x5 _ hv => ?_
    · obtain ⟨e, he, rfl⟩ := Option.map_eq_some_iff.mp hd
      exact noL_ev e
    · obtain ⟨Tp, u, d, rfl, nT, rfl, hd, hu⟩ := hv
      rw [List.length_map] at hi
      rw [List.getElem?_map, List.getElem?_eq_getElem hi] at hd
      cases hd
      have hn := numsM_get (List.getElem?_eq_getElem hi)
      have hzip : ((numsM h.evs).zip h.evs)[i]? = some (numAt (sgOf (h.evs.take i)) h.evs[i], h.evs[i]) := List.getElem?_zip_eq_some.mpr ⟨hn, List.getElem?_eq_getElem hi⟩
      rw [hzip]
      refine turn_pair (b := decide (numAt (sgOf (h.evs.take i)) h.evs[i] ∈ wn)) nT rfl rfl (eb_inL (ev_ixL (i := i) (ev_var rfl (hnm.ext e3)) (ev_var rfl (.int _)) (by rw [List.getElem?_map, hn]; rfl)) (ev_var rfl (hz2.ext e3))) (fun hb => ?_) fun hb => ?_
      · refine ⟨dEv h.evs[i], ?_, ev_var rfl hu⟩
        rw [Option.bind_some, if_pos (pdec hb)]; rfl
      · rw [Option.bind_some, if_neg (of_decide_eq_false hb)]; rfl
    · have hl : h.evs.length = ((numsM h.evs).zip h.evs).length := by rw [List.length_zip, numsM, numsFrom_len, Nat.min_self]
      have e : (List.range (h.evs.map dEv).length).filterMap (fun i => ((((numsM h.evs).zip h.evs)[i]?).bind fun q => if q.1 ∈ wn then some q.2 else none).map dEv) = (keptE h.evs wn).map dEv := by
        unfold keptE
        rw [List.length_map, hl, List.map_filterMap]
        refine Eq.trans ?_ (fmr (fun q : Nat × Ev => (if q.1 ∈ wn then some q.2 else none).map dEv) ((numsM h.evs).zip h.evs))
        congr 1
        funext i
        cases ((numsM h.evs).zip h.evs)[i]? <;> rfl
      rw [e] at hv
      exact (ev_tup (ea_cons (ev_var rfl ((hy.ext x2).ext x5)) (ea_cons (ev_tuple (ev_var rfl hv)) ea_nil))).ret (fun v' H6 e6 hv' => q v' H6 ((x2.trans x5).trans e6) hv') (.refl H5)
def spWithout (K : PySem.W.Frag) : Sp := fun vs H Q _ => ∃ (h : Hist) (dn : List Nat) (x y : V), vs = [x, y] ∧ Dp K H x (dHist h) ∧ Wf h ∧ Dp K H y (dNums dn) ∧ Ret K (dHist ⟨h.objs, keptE h.evs (wantedM h.evs dn)⟩) H Q
theorem g_without {H : Hp} {h : Hist} {dn : List Nat} (wf : Wf h) : Gives K (spWithout K) H [dHist h, dNums dn] (dHist ⟨h.objs, keptE h.evs (wantedM h.evs dn)⟩) := fun H1 e vs hv Q E q => by
  obtain ⟨v, vs, rfl, h1, hv⟩ := da_cons hv
  obtain ⟨v2, vs, rfl, h2, hv⟩ := da_cons hv
  rw [da_nil hv]
  exact ⟨h, dn, v, v2, rfl, h1, wf, h2, q⟩
theorem w_without {code : Addr} (D : DF K mg "without" s_without code) (T : Bn mg) (c_operations : C8.Cal P w K mg base 2 "operations" (spOps K) []) (c_kept : C8.Cal P w K mg base 2 "kept" (spKept K) []) : C8.Cal P w K mg base 3 "without" (spWithout K) [] := by
  refine calD D sc_without (fun _ _ _ _ _ _ us hl => match us, hl with | [_, _], _ => rfl) (fun vs H Q E h => ?_) (fun f A outer s H vs Q E hr h => ?_)
  · obtain ⟨h, dn, x, y, rfl, _⟩ := h; rfl
  · obtain ⟨h, dn, x, y, rfl, hx, wf, hy, q⟩ := h
    refine ⟨_, (pss_cons (ps_setLc (i := 2) (own := [("k", 3)]) (g := (gName 3)) (tt := (tTest (tOp (rIn K true) (tVar 3) (tVar 1)))) (te := (tVar 3)) rfl sc_without.nd rfl rfl (sw_true rfl rfl rfl (by decide +kernel)) (pi_range1 (by rfl) T.range (pa_cons (pe_callB lenD (by rfl) T.len PySem.boot_len (pa_cons (C8.pe_c c_operations hr (by decide) (by rfl) (pa_cons (pv 0) pa_nil)) pa_nil)) pa_nil)) (blkOk_by (N := N_without) (sc := defScope s_without) (by decide +kernel)) (fun _ _ _ _ _ => (pg_name (i := 3) sc_without.nd rfl (by first | exact .inl rfl | exact .inr rfl))) (fun _ _ _ _ _ => pts_one (pt_cmpR op_notIn_seq (pv 3) (pv 1) rfl)) (fun _ _ _ _ _ => (pv 3)))
      (pss_one (ps_ret (C8.pe_c c_kept hr (by decide) (by rfl) (pa_cons (pv 0) (pa_cons (pe_ix ixD (pv 0) pe_int (fun _ _ => rfl)) (pa_cons (pv 2) pa_nil))))))), ?_⟩
    have h9 := wf.ops
    have hlen : EvD K _ (start N_without [x, y]) H (.int (((opsM h.evs).map dOp).length : Nat)) := ev_lenL (ea_cons (ev_call (E := C8.E0) (ea_cons (ev_var (i := 0) rfl hx) ea_nil) (g_ops wf)) ea_nil)
    rw [List.length_map] at hlen
    refine set_go (K := K) (ev_lc (fun i => if i ∈ dn then none else some (.int ((i : Nat) : Int))) (wd_range (ea_cons hlen ea_nil) (by omega)) (by omega) (fun i d hi hd => ?_) fun i v H3 H4 hi e3 hv => ?_) (.refl H) fun v H5 x5 _ hv => ?_
    · split at hd
      · cases hd
      · cases hd; rfl
    · obtain ⟨e4, rfl⟩ := hv
      refine turn_name e4 rfl (eb_notInL (ev_var rfl (.int _)) (ev_var rfl (hy.ext e3))) (fun hb => ?_) fun hb => ?_
      · refine ⟨_, if_neg (by simpa using hb), ev_var rfl (.int _)⟩
      · exact if_pos (by simpa using hb)
    · have e : (List.range (opsM h.evs).length).filterMap (fun i => if i ∈ dn then none else some (PyData.int ((i : Nat) : Int))) = (wantedM h.evs dn).map fun n => PyData.int ((n : Nat) : Int) := by
        unfold wantedM
        generalize List.range (opsM h.evs).length = l
        induction l with
        | nil => rfl
        | cons a l ih =>
          rw [List.filterMap_cons, List.filter_cons]
          by_cases hd : a ∈ dn
          · simp [hd, ih]
          · simp [hd, ih]
      rw [e] at hv
      exact (ev_call (ea_cons (ev_var rfl (hx.ext x5)) (ea_cons (es_objs (h := h) rfl (hx.ext x5)).ev (ea_cons (ev_var rfl hv) ea_nil))) (g_kept wf)).ret (fun v' H6 e6 hv' => q v' H6 (x5.trans e6) hv') (.refl H5)
end
end K22

-- W3
set_option maxHeartbeats 4000000
/-! Walks: orders. -/
namespace K22
open PySem PySem.Spec PyProof.Rows L2
section
variable {P : Program} {w : World} {K : PySem.W.Frag} {mg : Str → Option Value} {base : Heap}
theorem dop_get {l : List Op} {k : Nat} (h : k < l.length) : (l.map dOp)[k]? = some (dOp (opAt l k)) := by rw [List.getElem?_map, opAt_get h]; rfl
def spBefore (K : PySem.W.Frag) : Sp := fun vs H Q _ => ∃ (l : List Op) (m : Mdl) (i j : Nat) (x : V), vs = [x, .str m.str, .int ((i : Nat) : Int), .int ((j : Nat) : Int)] ∧ Dp K H x (dOps l) ∧ i < l.length ∧ j < l.length ∧ Ret K (.bool (isBefore m (opAt l i) (opAt l j))) H Q
theorem g_before {H : Hp} {l : List Op} {m : Mdl} {i j : Nat} (hi : i < l.length) (hj : j < l.length) : Gives K (spBefore K) H [dOps l, .str m.str, .int ((i : Nat) : Int), .int ((j : Nat) : Int)] (.bool (isBefore m (opAt l i) (opAt l j))) := fun H1 e vs hv Q E q => by
  obtain ⟨v, vs, rfl, h1, hv⟩ := da_cons hv
  obtain ⟨v2, vs, rfl, h2, hv⟩ := da_cons hv
  obtain ⟨v3, vs, rfl, h3, hv⟩ := da_cons hv
  obtain ⟨v4, vs, rfl, h4, hv⟩ := da_cons hv
  rw [da_nil hv, dp_str h2, dp_int h3, dp_int h4]
  exact ⟨l, m, i, j, v, rfl, h1, hi, hj, q⟩
theorem w_before {code : Addr} (D : DF K mg "is_before" s_is_before code) : C8.Cal P w K mg base 1 "is_before" (spBefore K) [] := by
  refine calD D sc_is_before (fun _ _ _ _ _ _ us hl => match us, hl with | [_, _, _, _], _ => rfl) (fun vs H Q E h => ?_) (fun f A outer s H vs Q E hr h => ?_)
  · obtain ⟨l, m, i, j, x, rfl, _⟩ := h; rfl
  · obtain ⟨l, m, i, j, x, rfl, hx, hi, hj, q⟩ := h
    refine ⟨_, (pss_cons (ps_set (i := 4) sc_is_before.nd rfl (by first | exact .inl rfl | exact .inr rfl) (pe_ix ixD (pv 0) (pv 2) (fun _ _ => rfl)))
      (pss_cons (ps_set (i := 5) sc_is_before.nd rfl (by first | exact .inl rfl | exact .inr rfl) (pe_ix ixD (pv 0) (pv 3) (fun _ _ => rfl)))
      (pss_cons (ps_if (pt_cmpR op_eq (pv 1) pe_str (nomark _)) (pss_one (ps_ret (pe_and (pe_cmp (pc_notN (pe_ix ixD (pv 4) pe_int (fun _ _ => rfl)))) (pe_one (pe_cmpR op_lt (pe_ix ixD (pv 4) pe_int (fun _ _ => rfl)) (pe_ix ixD (pv 5) pe_int (fun _ _ => rfl)) (nomark _)))))) pss_nil)
      (pss_one (ps_ret (pe_and (pe_cmpR op_eq (pe_ix ixD (pv 4) pe_int (fun _ _ => rfl)) (pe_ix ixD (pv 5) pe_int (fun _ _ => rfl)) (nomark _)) (pe_one (pe_cmpR op_lt (pe_ix ixD (pv 4) pe_int (fun _ _ => rfl)) (pe_ix ixD (pv 5) pe_int (fun _ _ => rfl)) (nomark _))))))))), ?_⟩
    refine set_go (K := K) (ev_ixL (i := i) (ev_var rfl hx) (ev_var rfl (.int _)) (dop_get hi)) (.refl H) fun a H2 x2 _ ha => ?_
    refine set_go (K := K) (ev_ixL (i := j) (ev_var rfl (hx.ext x2)) (ev_var rfl (.int _)) (dop_get hj)) (.refl H2) fun b H3 x3 _ hb => ?_
    have ha3 := ha.ext x3
    have q3 : Ret K (.bool (isBefore m (opAt l i) (opAt l j))) H3 Q := fun v H4 e hv => q v H4 ((x2.trans x3).trans e) hv
    have ea : ∀ (k : Nat) d, [PyData.str (opAt l i).c, .str (opAt l i).n, .str (opAt l i).o, dInts (opAt l i).a, dOKey (opAt l i).r, .int (((opAt l i).called : Nat) : Int), dONat (opAt l i).ret][k]? = some d → EvD K (tOp (rIxD' K) (tVar 4) (tC (.int (k : Nat)))) [some x, some (.str m.str), some (.int ((i : Nat) : Int)), some (.int ((j : Nat) : Int)), some a, some b] H3 d := fun k d h => ev_ix (ev_var rfl ha3) ev_int h
    have eb : ∀ (k : Nat) d, [PyData.str (opAt l j).c, .str (opAt l j).n, .str (opAt l j).o, dInts (opAt l j).a, dOKey (opAt l j).r, .int (((opAt l j).called : Nat) : Int), dONat (opAt l j).ret][k]? = some d → EvD K (tOp (rIxD' K) (tVar 5) (tC (.int (k : Nat)))) [some x, some (.str m.str), some (.int ((i : Nat) : Int)), some (.int ((j : Nat) : Int)), some a, some b] H3 d := fun k d h => ev_ix (ev_var rfl hb) ev_int h
    have hlt : ∀ p q : Nat, decide (((p : Nat) : Int) < ((q : Nat) : Int)) = decide (p < q) := fun p q => decide_eq_decide.mpr Int.ofNat_lt
    cases m with
    | real =>
      refine if_go (eb_eqS (K := K) (a := "real") (ev_var rfl (.str _)) ev_str) (.refl H3) (fun _ H4 x4 _ => ?_) fun h => absurd h (by decide)
      cases hr : (opAt l i).ret with
      | none =>
        have q4 : Ret K (.bool (false && false)) H3 Q := by
          have : isBefore .real (opAt l i) (opAt l j) = false := by unfold isBefore; rw [hr]
          rw [this] at q3; exact q3
        exact (ev_and (c := false) (ev_notN (ea 6 (dONat none) (by rw [hr]; rfl))) fun h => absurd h (by decide)).ret q4 x4
      | some p =>
        have q4 : Ret K (.bool (true && decide (((p : Nat) : Int) < (((opAt l j).called : Nat) : Int)))) H3 Q := by
          have : isBefore .real (opAt l i) (opAt l j) = decide (p < (opAt l j).called) := by unfold isBefore; rw [hr]
          rw [this] at q3
          rw [hlt]
          exact q3
        exact (ev_and (b := true) (ev_notN (ea 6 (dONat (some p)) (by rw [hr]; rfl))) fun _ => ev_lt (ea 6 _ (by rw [hr]; rfl)) (eb 5 _ rfl)).ret q4 x4
    | client =>
      refine if_go (eb_eqS (K := K) (a := "client") (ev_var rfl (.str _)) ev_str) (.refl H3) (fun h => absurd h (by decide)) fun _ H4 x4 _ => ?_
      have q4 : Ret K (.bool (decide ((opAt l i).c = (opAt l j).c) && decide ((((opAt l i).called : Nat) : Int) < (((opAt l j).called : Nat) : Int)))) H3 Q := by
        rw [hlt]
        exact q3
      exact (ev_and (ev_eqS (ea 0 _ rfl) (eb 0 _ rfl)) fun _ => ev_lt (ea 5 _ rfl) (eb 5 _ rfl)).ret q4 x4
def spFirsts (K : PySem.W.Frag) : Sp := fun vs H Q _ => ∃ (h : Hist) (x : V), vs = [x] ∧ Dp K H x (dHist h) ∧ Wf h ∧ Ret K (dStts (firstsM h.objs)) H Q
theorem g_firsts {H : Hp} {h : Hist} (wf : Wf h) : Gives K (spFirsts K) H [dHist h] (dStts (firstsM h.objs)) := fun H1 e vs hv Q E q => by
  obtain ⟨v, vs, rfl, h1, h2⟩ := da_cons hv
  rw [da_nil h2]
  exact ⟨h, v, rfl, h1, wf, q⟩
theorem noL_stt (s : Stt) : noL (dStt s) = true := by
  cases s with
  | num i => rfl
  | seq l => exact noL_ints l
theorem w_firsts {code : Addr} (D : DF K mg "first_states" s_first_states code) (T : Bn mg) (c_first_state : C8.Cal P w K mg base 1 "first_state" (spFirst K) []) : C8.Cal P w K mg base 2 "first_states" (spFirsts K) [] := by
  refine calD D sc_first_states (fun _ _ _ _ _ _ us hl => match us, hl with | [_], _ => rfl) (fun vs H Q E h => ?_) (fun f A outer s H vs Q E hr h => ?_)
  · obtain ⟨h, x, rfl, _⟩ := h; rfl
  · obtain ⟨h, x, rfl, hx, wf, q⟩ := h
    refine ⟨_, (pss_one (ps_ret (pe_tupleOf (by rfl) T.tuple (pe_lc (own := [("name", 1), ("kind", 2)]) (g := (gTup K 2 (gCons (gName 1) (gCons (gName 2) gNil)))) (tt := tYes) (te := (tCall (spFirst K) [] C8.E0 (tCons (tVar 2) tNil))) rfl sc_first_states.nd (pi_tup (pe_ix ixD (pv 0) pe_int (fun _ _ => rfl))) (blkOk_by (N := N_first_states) (sc := defScope s_first_states) (by decide +kernel)) (fun _ _ _ _ _ => (pg_tup rfl (pgs_cons (pg_name (i := 1) sc_first_states.nd rfl (by first | exact .inl rfl | exact .inr rfl)) (pgs_cons (pg_name (i := 2) sc_first_states.nd rfl (by first | exact .inl rfl | exact .inr rfl)) pgs_nil)))) (fun _ _ _ _ _ => pts_nil) (fun _ _ _ _ _ => (C8.pe_c c_first_state hr (by decide) (by rfl) (pa_cons (pv 2) pa_nil))))))), ?_⟩
    have few := wf.few
    have hlc : EvD K _ (start N_first_states [x]) H (.list ((List.range (h.objs.map dObj).length).filterMap fun i => (h.objs[i]?).map fun x => dStt x.2.first)) := ev_lc (g := gTup K 2 (gCons (gName 1) (gCons (gName 2) gNil))) (tt := tYes) (te := tCall (spFirst K) [] C8.E0 (tCons (tVar 2) tNil)) (vs := [1, 2]) _ (wd_tup (es_objs (i := 0) (h := h) rfl hx).ev) (by rw [List.length_map]; omega) (fun i d hi hd => by
        obtain ⟨y, hy, rfl⟩ := Option.map_eq_some_iff.mp hd
        exact noL_stt _) fun i y H3 H4 hi e3 hy => by
      obtain ⟨e4, d, hd, hy⟩ := hy
      rw [List.length_map] at hi
      rw [List.getElem?_map, List.getElem?_eq_getElem hi] at hd
      cases hd
      refine turn_pairD (b := true) e4 hy (fun _ _ => rfl) (fun _ _ _ _ => eb_yes) (fun _ => ⟨_, by rw [List.getElem?_eq_getElem hi]; rfl, fun y z hy hz => ?_⟩) fun h => absurd h (by decide)
      exact ev_call (ea_cons (ev_var rfl hz) ea_nil) g_first
    have e : (List.range (h.objs.map dObj).length).filterMap (fun i => (h.objs[i]?).map fun x => dStt x.2.first) = (firstsM h.objs).map dStt := by
      have := fmr (fun x : Str × Kd => some (dStt x.2.first)) h.objs
      rw [List.length_map]
      refine Eq.trans ?_ (this.trans ?_)
      · congr 1
        funext i
        cases h.objs[i]? <;> rfl
      · unfold firstsM
        rw [List.map_map, List.filterMap_eq_map']
        rfl
    rw [e] at hlc
    exact (ev_tuple hlc).ret q (.refl H)
def spDone (K : PySem.W.Frag) : Sp := fun vs H Q _ => ∃ (h : Hist) (st : List Stt) (k b : Nat) (x y z : V), vs = [x, y, z, .int ((k : Nat) : Int)] ∧ Dp K H x (dHist h) ∧ Wf h ∧ Dp K H y (dOps (opsM h.evs)) ∧ Dp K H z (dStts st) ∧ k < (opsM h.evs).length ∧ StsOk b h.objs st ∧ b ≤ 999 ∧
  Ret K (.tuple [dStts (doneM h.objs st (opAt (opsM h.evs) k)).1, dKey (doneM h.objs st (opAt (opsM h.evs) k)).2]) H Q
theorem g_done {H : Hp} {h : Hist} {st : List Stt} {k b : Nat} (wf : Wf h) (hk : k < (opsM h.evs).length) (hs : StsOk b h.objs st) (hb : b ≤ 999) : Gives K (spDone K) H [dHist h, dOps (opsM h.evs), dStts st, .int ((k : Nat) : Int)] (.tuple [dStts (doneM h.objs st (opAt (opsM h.evs) k)).1, dKey (doneM h.objs st (opAt (opsM h.evs) k)).2]) := fun H1 e vs hv Q E q => by
  obtain ⟨v, vs, rfl, h1, hv⟩ := da_cons hv
  obtain ⟨v2, vs, rfl, h2, hv⟩ := da_cons hv
  obtain ⟨v3, vs, rfl, h3, hv⟩ := da_cons hv
  obtain ⟨v4, vs, rfl, h4, hv⟩ := da_cons hv
  rw [da_nil hv, dp_int h4]
  exact ⟨h, st, k, b, v, v2, v3, rfl, h1, wf, h2, h3, hk, hs, hb, q⟩
theorem g_step {H : Hp} {kd : Kd} {st : Stt} {o : Str} {a : List Int} {b : Nat} (hs : StOk b kd st) (hb : b ≤ 1000) (ho : OpOk kd o a) : Gives K (spStep' K) H [.str kd.str, dStt st, .str o, dInts a] (.tuple [dStt (stepM kd st o a).1, dKey (stepM kd st o a).2]) := fun H1 e vs hv Q E q => by
  obtain ⟨v, vs, rfl, h1, hv⟩ := da_cons hv
  obtain ⟨v2, vs, rfl, h2, hv⟩ := da_cons hv
  obtain ⟨v3, vs, rfl, h3, hv⟩ := da_cons hv
  obtain ⟨v4, vs, rfl, h4, hv⟩ := da_cons hv
  rw [da_nil hv, dp_str h1, dp_str h3]
  exact ⟨kd, st, o, a, v2, v4, b, rfl, h2, h4, hs, hb, ho, q⟩
theorem names_of {σ : L2.St} {H : Hp} {i u j z : Nat} {x : V} {h : Hist} (e : σ[i]? = some (some x)) (hx : Dp K H x (dHist h)) (few : h.objs.length ≤ 3) (hw : ∀ y z', wipe (((wipe σ [u, j]).set u (some y)).set j (some z')) [u, j] = wipe σ [u, j]) (hu : ∀ (y z' : V), (((wipe σ [u, j]).set u (some y)).set j (some z'))[u]? = some (some y)) :
    EvD K (tLc (iTup K (tOp (rIxD' K) (tVar i) (tC (.int 0)))) (gTup K 2 (gCons (gName u) (gCons (gName j) gNil))) tYes (tVar u) [u, j]) σ H (.list ((h.objs.map (·.1)).map PyData.str)) := by
  have hlc : EvD K (tLc (iTup K (tOp (rIxD' K) (tVar i) (tC (.int 0)))) (gTup K 2 (gCons (gName u) (gCons (gName j) gNil))) tYes (tVar u) [u, j]) σ H (.list ((List.range (h.objs.map dObj).length).filterMap fun i => (h.objs[i]?).map fun x => PyData.str x.1)) := ev_lc _ (wd_tup (es_objs e hx).ev) (by rw [List.length_map]; omega) (fun i d hi hd => by
      obtain ⟨y, hy, rfl⟩ := Option.map_eq_some_iff.mp hd
      rfl) fun i y H3 H4 hi e3 hy => by
    obtain ⟨e4, d, hd, hy⟩ := hy
    rw [List.length_map] at hi
    rw [List.getElem?_map, List.getElem?_eq_getElem hi] at hd
    cases hd
    refine turn_pairD (b := true) e4 hy hw (fun _ _ _ _ => eb_yes) (fun _ => ⟨_, by rw [List.getElem?_eq_getElem hi]; rfl, fun y z hy hz => ?_⟩) fun h => absurd h (by decide)
    exact ev_var (hu y z) hy
  have e : (List.range (h.objs.map dObj).length).filterMap (fun i => (h.objs[i]?).map fun x => PyData.str x.1) = (h.objs.map (·.1)).map PyData.str := by
    have := fmr (fun x : Str × Kd => some (PyData.str x.1)) h.objs
    rw [List.length_map]
    refine Eq.trans ?_ (this.trans ?_)
    · congr 1
      funext i
      cases h.objs[i]? <;> rfl
    · rw [List.map_map, List.filterMap_eq_map']
      rfl
  rw [e] at hlc
  exact hlc
theorem w_done {code : Addr} (D : DF K mg "done" s_done code) (c_step : C8.Cal P w K mg base 3 "step" (spStep' K) []) : C8.Cal P w K mg base 4 "done" (spDone K) [] := by
  refine calD D sc_done (fun _ _ _ _ _ _ us hl => match us, hl with | [_, _, _, _], _ => rfl) (fun vs H Q E h => ?_) (fun f A outer s H vs Q E hr h => ?_)
  · obtain ⟨h, st, k, b, x, y, z, rfl, _⟩ := h; rfl
  · obtain ⟨h, st, k, b, x, y, z, rfl, hx, wf, hy, hz, hk, hs, hb, q⟩ := h
    refine ⟨_, (pss_cons (ps_setLc (i := 4) (own := [("name", 9), ("kind", 6)]) (g := (gTup K 2 (gCons (gName 9) (gCons (gName 6) gNil)))) (tt := tYes) (te := (tVar 9)) rfl sc_done.nd rfl rfl (sw_true rfl rfl rfl (by decide +kernel)) (pi_tup (pe_ix ixD (pv 0) pe_int (fun _ _ => rfl))) (blkOk_by (N := N_done) (sc := defScope s_done) (by decide +kernel)) (fun _ _ _ _ _ => (pg_tup rfl (pgs_cons (pg_name (i := 9) sc_done.nd rfl (by first | exact .inl rfl | exact .inr rfl)) (pgs_cons (pg_name (i := 6) sc_done.nd rfl (by first | exact .inl rfl | exact .inr rfl)) pgs_nil)))) (fun _ _ _ _ _ => pts_nil) (fun _ _ _ _ _ => (pv 9)))
      (pss_cons (ps_set (i := 5) sc_done.nd rfl (by first | exact .inl rfl | exact .inr rfl) (pe_bm PySem.F.plainAttrs_list PySem.F.slot_list_index PySem.F.type_list_index mt_index (pv 4) (pa_cons (pe_ix ixD (pe_ix ixD (pv 1) (pv 3) (fun _ _ => rfl)) pe_int (fun _ _ => rfl)) pa_nil)))
      (pss_cons (ps_set (i := 6) sc_done.nd rfl (by first | exact .inl rfl | exact .inr rfl) (pe_ix ixD (pe_ix ixD (pe_ix ixD (pv 0) pe_int (fun _ _ => rfl)) (pv 5) (fun _ _ => rfl)) pe_int (fun _ _ => rfl)))
      (pss_cons (ps_asg (C8.pe_c c_step hr (by decide) (by rfl) (pa_cons (pv 6) (pa_cons (pe_ix ixD (pv 2) (pv 5) (fun _ _ => rfl)) (pa_cons (pe_ix ixD (pe_ix ixD (pv 1) (pv 3) (fun _ _ => rfl)) pe_int (fun _ _ => rfl)) (pa_cons (pe_ix ixD (pe_ix ixD (pv 1) (pv 3) (fun _ _ => rfl)) pe_int (fun _ _ => rfl)) pa_nil))))) (pg_tup rfl (pgs_cons (pg_name (i := 7) sc_done.nd rfl (by first | exact .inl rfl | exact .inr rfl)) (pgs_cons (pg_name (i := 8) sc_done.nd rfl (by first | exact .inl rfl | exact .inr rfl)) pgs_nil))))
      (pss_one (ps_ret (pe_tup (pa_cons (pe_op catD (pe_op catD (pe_slice slD (pv 2) po_none (po_some (pv 5))) (pe_tup (pa_cons (pv 7) pa_nil))) (pe_slice slD (pv 2) (po_some (pe_op op_add (pv 5) pe_int)) po_none)) (pa_cons (pv 8) pa_nil))))))))), ?_⟩
    have few := wf.few
    obtain ⟨kd, s0, ho1, ho2, ho3, ho4⟩ := sts_at hs (wf.opIn hk)
    have hda := doneM_at (op := opAt (opsM h.evs) k) ho1 ho2
    rw [hda] at q
    obtain ⟨op, hop⟩ : ∃ op, opAt (opsM h.evs) k = op := ⟨_, rfl⟩
    have hd := dop_get hk
    rw [hop] at ho1 ho2 ho4 q hd
    obtain ⟨pl, hpl⟩ : ∃ pl, objAt h.objs op.n = pl := ⟨_, rfl⟩
    rw [hpl] at ho1 ho2 q
    have hpl3 : pl < h.objs.length := (List.getElem?_eq_some_iff.mp ho1).1
    refine set_go (K := K) (names_of (i := 0) (u := 9) (j := 6) (z := 0) (h := h) rfl hx few (fun _ _ => rfl) (fun _ _ => rfl)) (.refl H) fun v1 H1 x1 _ h1 => ?_
    have eop : EvD K (tOp (rIxD' K) (tVar 1) (tVar 3)) [some x, some y, some z, some (.int ((k : Nat) : Int)), some v1, none, none, none, none, none] H1 (dOp op) := ev_ixL (i := k) (ev_var rfl (hy.ext x1)) (ev_var rfl (.int _)) hd
    refine set_go (K := K) (ev_index (ev_var rfl h1) (ev_ix (i := 1) eop ev_int rfl) (List.mem_map.mpr ⟨(op.n, kd), List.mem_of_getElem? ho1, rfl⟩) fun m y hm hy => idx_before hm hy) (.refl H1) fun v2 H2 x2 _ h2 => ?_
    have e2 := dp_int h2
    have hpl' : (h.objs.map (·.1)).idxOf op.n = pl := hpl
    rw [hpl'] at e2
    subst e2
    have hx2 := (hx.ext x1).ext x2
    refine set_go (K := K) (d := .str kd.str) (ev_ix (i := 1) (ev_ix (i := pl) (es_objs (i := 0) (h := h) rfl hx2).ev (ev_var rfl (.int _)) (by rw [List.getElem?_map, ho1]; rfl)) ev_int rfl) (.refl H2) fun v3 H3 x3 _ h3 => ?_
    have hz3 := (((hz.ext x1).ext x2).ext x3)
    have hy3 := (((hy.ext x1).ext x2).ext x3)
    have eop3 : EvD K (tOp (rIxD' K) (tVar 1) (tVar 3)) [some x, some y, some z, some (.int ((k : Nat) : Int)), some v1, some (.int ((pl : Nat) : Int)), some v3, none, none, none] H3 (dOp op) := ev_ixL (i := k) (ev_var rfl hy3) (ev_var rfl (.int _)) hd
    refine asg_pair (K := K) (ev_call (ea_cons (ev_var rfl h3) (ea_cons (ev_ix (i := pl) (d := dStt s0) (ev_var rfl hz3) (ev_var rfl (.int _)) (by rw [List.getElem?_map, ho2]; rfl)) (ea_cons (ev_ix (i := 2) eop3 ev_int rfl) (ea_cons (ev_ix (i := 3) eop3 ev_int rfl) ea_nil)))) (g_step ho3 (by omega) ho4)) (.refl H3) fun v4 v5 H4 x4 _ h4 h5 => ?_
    have hz4 := hz3.ext x4
    have hst : st.length = h.objs.length := hs.1
    have es1 : EvD K (tSl (rSlD K) (tVar 2) tNoPart (tPart (tVar 5))) [some x, some y, some z, some (.int ((k : Nat) : Int)), some v1, some (.int ((pl : Nat) : Int)), some v3, some v4, some v5, none] H4 (.tuple (cutD (st.map dStt) none (some pl))) := ev_sl (ev_var rfl hz4) eo_none (eo_some (K := K) (ev_var rfl (.int _)))
    have ep : EvD K (tOp (rI0 fun i j => .int (i + j)) (tVar 5) (tC (.int 1))) [some x, some y, some z, some (.int ((k : Nat) : Int)), some v1, some (.int ((pl : Nat) : Int)), some v3, some v4, some v5, none] H4 (.int ((pl + 1 : Nat) : Int)) := ev_add (i := ((pl : Nat) : Int)) (j := 1) (ev_var rfl (.int _)) ev_int
    have es2 : EvD K (tSl (rSlD K) (tVar 2) (tPart (tOp (rI0 fun i j => .int (i + j)) (tVar 5) (tC (.int 1)))) tNoPart) [some x, some y, some z, some (.int ((k : Nat) : Int)), some v1, some (.int ((pl : Nat) : Int)), some v3, some v4, some v5, none] H4 (.tuple (cutD (st.map dStt) (some (pl + 1)) none)) := ev_sl (ev_var rfl hz4) (eo_some (K := K) (n := pl + 1) ep) eo_none
    rw [cut_to] at es1
    rw [cut_from] at es2
    have e : (st.set pl (stepM kd s0 op.o op.a).1).map dStt = (st.map dStt).take pl ++ [dStt (stepM kd s0 op.o op.a).1] ++ (st.map dStt).drop (pl + 1) := by
      rw [List.set_eq_take_append_cons_drop, if_pos (by omega), List.map_append, List.map_cons, List.map_take, List.map_drop]
      simp
    have q4 : Ret K (.tuple [.tuple ((st.map dStt).take pl ++ [dStt (stepM kd s0 op.o op.a).1] ++ (st.map dStt).drop (pl + 1)), dKey (stepM kd s0 op.o op.a).2]) H4 Q := fun v H5 e5 hv => q v H5 ((((x1.trans x2).trans x3).trans x4).trans e5) (by
      show Dp K H5 v (.tuple [.tuple ((st.set pl (stepM kd s0 op.o op.a).1).map dStt), _])
      rw [e]
      exact hv)
    exact (ev_tup (ea_cons (ev_cat (ev_cat es1 (ev_tup (ea_cons (ev_var rfl h4) ea_nil)) (by simp; omega)) es2 (by simp; omega)) (ea_cons (ev_var rfl h5) ea_nil))).ret q4 (.refl H4)
def spResults (K : PySem.W.Frag) : Sp := fun vs H Q _ => ∃ (h : Hist) (row : List Nat) (x y : V), vs = [x, y] ∧ Dp K H x (dHist h) ∧ Wf h ∧ Dp K H y (dNats row) ∧ (∀ k ∈ row, k < (opsM h.evs).length) ∧ row.length ≤ 100 ∧ RetL K ((resM h row).map dKey) H Q
theorem g_results {H : Hp} {h : Hist} {row : List Nat} (wf : Wf h) (hr : ∀ k ∈ row, k < (opsM h.evs).length) (hl : row.length ≤ 100) : Gives K (spResults K) H [dHist h, dNats row] (.list ((resM h row).map dKey)) := fun H1 e vs hv Q E q => by
  obtain ⟨v, vs, rfl, h1, hv⟩ := da_cons hv
  obtain ⟨v2, vs, rfl, h2, hv⟩ := da_cons hv
  rw [da_nil hv]
  exact ⟨h, row, v, v2, rfl, h1, wf, h2, hr, hl, .of q⟩
theorem noL_keys (l : List KeyR) : noLs (l.map dKey) = true := noLs_map fun r _ => noL_key r
theorem w_results {code : Addr} (D : DF K mg "results" s_results code) (c_operations : C8.Cal P w K mg base 2 "operations" (spOps K) []) (c_first_states : C8.Cal P w K mg base 2 "first_states" (spFirsts K) []) (c_done : C8.Cal P w K mg base 4 "done" (spDone K) []) : C8.Cal P w K mg base 5 "results" (spResults K) [] := by
  refine calD D sc_results (fun _ _ _ _ _ _ us hl => match us, hl with | [_, _], _ => rfl) (fun vs H Q E h => ?_) (fun f A outer s H vs Q E hr h => ?_)
  · obtain ⟨h, row, x, y, rfl, _⟩ := h; rfl
  · obtain ⟨h, row, x, y, rfl, hx, wf, hy, hrow, hl, q⟩ := h
    refine ⟨_, (pss_cons (ps_set (i := 2) sc_results.nd rfl (by first | exact .inl rfl | exact .inr rfl) (C8.pe_c c_operations hr (by decide) (by rfl) (pa_cons (pv 0) pa_nil)))
      (pss_cons (ps_set (i := 3) sc_results.nd rfl (by first | exact .inl rfl | exact .inr rfl) (C8.pe_c c_first_states hr (by decide) (by rfl) (pa_cons (pv 0) pa_nil)))
      (pss_cons (ps_set (i := 4) sc_results.nd rfl (by first | exact .inl rfl | exact .inr rfl) (pe_lst pa_nil))
      (pss_cons (ps_for PassesOwn.never rfl (pi_tup (pv 1)) (pg_name (i := 5) sc_results.nd rfl (by first | exact .inl rfl | exact .inr rfl)) (pss_cons (ps_asg (C8.pe_c c_done hr (by decide) (by rfl) (pa_cons (pv 0) (pa_cons (pv 2) (pa_cons (pv 3) (pa_cons (pv 5) pa_nil))))) (pg_tup rfl (pgs_cons (pg_name (i := 3) sc_results.nd rfl (by first | exact .inl rfl | exact .inr rfl)) (pgs_cons (pg_name (i := 6) sc_results.nd rfl (by first | exact .inl rfl | exact .inr rfl)) pgs_nil))))
      (pss_one (ps_expr (pe_bm PySem.F.plainAttrs_list PySem.F.slot_list_append PySem.F.type_list_append mt_append (pv 4) (pa_cons (pv 6) pa_nil))))))
      (pss_one (ps_ret (pv 4))))))), ?_⟩
    refine set_go (K := K) (ev_call (ea_cons (ev_var rfl hx) ea_nil) (g_ops wf)) (.refl H) fun v1 H1 x1 _ h1 => ?_
    refine set_go (K := K) (ev_call (ea_cons (ev_var rfl (hx.ext x1)) ea_nil) (g_firsts wf)) (.refl H1) fun v2 H2 x2 _ h2 => ?_
    refine ⟨Nat.zero_le _, fun fo nf => ?_⟩
    have x12 := x1.trans x2
    have hx2 := hx.ext x12
    have hy2 := hy.ext x12
    have h12 := h1.ext x2
    have nf0 : H fo = none := x12.free nf
    refine for_go (H := H2) (ws_tup (es_var (i := 1) rfl hy2)) (.new nf)
      (fun i σ H' => ∃ y5 y6 v3 acc, σ = [some x, some y, some v1, some v3, some (.ref fo), y5, y6] ∧ Ext H2 H' ∧ Dp K H' v3 (dStts (stGo h.objs (opsM h.evs) (firstsM h.objs) (row.take i))) ∧ H' fo = some (.lst acc) ∧ DpAll K H' acc ((resGo h.objs (opsM h.evs) (firstsM h.objs) (row.take i)).map dKey))
      ⟨none, none, v2, [], rfl, .new nf, h2.ext (.new nf), upd_same, .nil⟩ (fun i σ' H' _ p => ?_) (fun i u σ' H3 H4 hi p hu => ?_) fun σ' H' p => ?_
    · obtain ⟨_, _, _, _, _, e, _⟩ := p
      exact e
    · obtain ⟨y5, y6, v3, acc, rfl, e3, hst, hfo, hacc⟩ := p
      obtain ⟨rfl, d, hd, hu⟩ := hu
      rw [List.length_map] at hi
      have hri : row[i]? = some row[i] := List.getElem?_eq_getElem hi
      rw [List.getElem?_map, hri] at hd
      cases hd
      have hkk := hrow _ (List.mem_of_getElem? hri)
      have ht : row.take (i + 1) = row.take i ++ [row[i]] := by rw [List.take_add_one, hri]; rfl
      generalize row[i] = k at hkk ht hu
      have hu' := dp_int hu
      subst hu'
      have sok := stGo_ok wf (row.take i) (firstsM h.objs) 0 (firsts_ok h.objs) fun k hk => hrow k (List.mem_of_mem_take hk)
      have hlt : 0 + (row.take i).length ≤ 999 := by rw [List.length_take]; omega
      refine asg_pair (K := K) (ev_call (ea_cons (ev_var rfl (hx2.ext e3)) (ea_cons (ev_var rfl (h12.ext e3)) (ea_cons (ev_var rfl hst) (ea_cons (ev_var rfl (.int _)) ea_nil)))) (g_done wf hkk sok hlt)) (.refl H4) fun v4 v5 H5 x5 _ h4 h5 => ?_
      refine app_go (K := K) rfl (x5.lst hfo) (by rw [da_len hacc, List.length_map, resGo_len, List.length_take]; omega) (ev_var rfl h5) fun v6 H6 x6 h6 hf6 => ?_
      refine ⟨_, _, v4, acc ++ [v6], rfl, ((e3.trans x5).trans x6).mut nf, ?_, upd_same, ?_⟩
      · rw [ht, stGo_snoc]
        exact (h4.ext x6).extL (d := fo) (noLs_map fun s _ => noL_stt s) extB_upd ⟨acc, hf6⟩
      · rw [ht, resGo_snoc, List.map_append]
        exact da_append ((hacc.ext (x5.trans x6)).extL (d := fo) (noL_keys _) extB_upd ⟨acc, hf6⟩) (da_one (h6.extL (d := fo) (noL_key _) extB_upd ⟨acc, hf6⟩))
    · obtain ⟨y5, y6, v3, acc, rfl, e3, hst, hfo, hacc⟩ := p
      rw [List.length_map, List.take_length] at hacc
      exact ⟨_, rfl, q fo acc H' (x12.trans e3) nf0 hfo hacc⟩
end
end K22

-- W4
set_option maxHeartbeats 4000000
/-! Walks: tables. -/
namespace K22
open PySem PySem.Spec PyProof.Rows L2
theorem hu64 {A : Around} {k : Nat} (hr : Room k A) : A.units + 64 < cLine := by have := hr.un; omega
section
variable {P : Program} {w : World} {K : PySem.W.Frag} {mg : Str → Option Value} {base : Heap}
@[reducible] def dPos (q : Ps) : PyData := .tuple [dNats q.1, dStts q.2]
def spPos0 (K : PySem.W.Frag) : Sp := fun vs H Q _ => ∃ (h : Hist) (x : V), vs = [x] ∧ Dp K H x (dHist h) ∧ Wf h ∧ Ret K (dPos ([], firstsM h.objs)) H Q
theorem g_pos0 {H : Hp} {h : Hist} (wf : Wf h) : Gives K (spPos0 K) H [dHist h] (dPos ([], firstsM h.objs)) := fun H1 e vs hv Q E q => by
  obtain ⟨v, vs, rfl, h1, h2⟩ := da_cons hv
  rw [da_nil h2]
  exact ⟨h, v, rfl, h1, wf, q⟩
theorem w_pos0 {code : Addr} (D : DF K mg "first_position" s_first_position code) (c_first_states : C8.Cal P w K mg base 2 "first_states" (spFirsts K) []) : C8.Cal P w K mg base 3 "first_position" (spPos0 K) [] := by
  refine calD D sc_first_position (fun _ _ _ _ _ _ us hl => match us, hl with | [_], _ => rfl) (fun vs H Q E h => ?_) (fun f A outer s H vs Q E hr h => ?_)
  · obtain ⟨h, x, rfl, _⟩ := h; rfl
  · obtain ⟨h, x, rfl, hx, wf, q⟩ := h
    refine ⟨_, (pss_one (ps_ret (pe_tup (pa_cons (pe_tup pa_nil) (pa_cons (C8.pe_c c_first_states hr (by decide) (by rfl) (pa_cons (pv 0) pa_nil)) pa_nil))))), ?_⟩
    exact (ev_tup (ea_cons (ev_tup ea_nil) (ea_cons (ev_call (ea_cons (ev_var rfl hx) ea_nil) (g_firsts wf)) ea_nil))).ret q (.refl H)
def spCan (K : PySem.W.Frag) (P1 : Addr) : Sp := fun vs H Q _ => ∃ (l : List Op) (m : Mdl) (pl : List Nat) (k : Nat) (x y : V), vs = [x, .str m.str, y, .int ((k : Nat) : Int)] ∧ Dp K H x (dOps l) ∧ Dp K H y (dNats pl) ∧ k < l.length ∧ l.length ≤ 9 ∧ TabG H P1 ∧ Ret K (.bool (canCome l m pl k)) H Q
theorem g_can {P1 : Addr} {H : Hp} {l : List Op} {m : Mdl} {pl : List Nat} {k : Nat} (hk : k < l.length) (h9 : l.length ≤ 9) (hT : TabG H P1) : Gives K (spCan K P1) H [dOps l, .str m.str, dNats pl, .int ((k : Nat) : Int)] (.bool (canCome l m pl k)) := fun H1 e vs hv Q E q => by
  obtain ⟨v, vs, rfl, h1, hv⟩ := da_cons hv
  obtain ⟨v2, vs, rfl, h2, hv⟩ := da_cons hv
  obtain ⟨v3, vs, rfl, h3, hv⟩ := da_cons hv
  obtain ⟨v4, vs, rfl, h4, hv⟩ := da_cons hv
  rw [da_nil hv, dp_str h2, dp_int h4]
  exact ⟨l, m, pl, k, v, v3, rfl, h1, h3, hk, h9, hT.ext e, q⟩
theorem w_can {code P1 : Addr} (D : DF K mg "can_come" s_can_come code) (T : Bn mg) (TB : GxR.TabB base mg code P1) (c_is_before : C8.Cal P w K mg base 1 "is_before" (spBefore K) []) : C8.Cal P w K mg base 3 "can_come" (spCan K P1) [] := by
  refine calD D sc_can_come (fun _ _ _ _ _ _ us hl => match us, hl with | [_, _, _, _], _ => rfl) (fun vs H Q E h => ?_) (fun f A outer s H vs Q E hr h => ?_)
  · obtain ⟨l, m, pl, k, x, y, rfl, _⟩ := h; rfl
  · obtain ⟨l, m, pl, k, x, y, rfl, hx, hy, hk, h9, hT, q⟩ := h
    refine ⟨_, (pss_cons (ps_if (pt_cmpR op_in_seq (pv 3) (pv 2) rfl) (pss_one (ps_ret pe_bl)) pss_nil)
      (pss_one (ps_ret (pe_allG (x := "other") (j := 4) (k := 1) (tt := (tB (tCall (spBefore K) [] C8.E0 (tCons (tVar 0) (tCons (tVar 1) (tCons (tVar 4) (tCons (tVar 3) tNil))))))) (te := (tOp (rIn K false) (tVar 4) (tVar 2))) hr rfl sc_can_come.nd (by rfl) T.all (by decide +kernel) TB rfl rfl (by decide +kernel) (by rfl) (by rfl) (by rfl) (blkOk_by (N := N_can_come) (sc := defScope s_can_come) (by decide +kernel)) (pi_range1 (by rfl) T.range (pa_cons (pe_callB lenD (by rfl) T.len PySem.boot_len (pa_cons (pv 0) pa_nil)) pa_nil)) (fun _ => rfl) (fun _ _ _ _ _ _ _ hA => pts_one (pt_val (C8.pe_c c_is_before hA (by decide) (by rfl) (pa_cons (pv 0) (pa_cons (pv 1) (pa_cons (pv 4) (pa_cons (pv 3) pa_nil))))))) (fun _ _ _ _ _ _ _ hA => (pe_cmpR op_in_seq (pv 4) (pv 2) rfl)))))), ?_⟩
    refine if_go (eb_inN (K := K) (n := k) (ns := pl) (ev_var rfl (.int _)) (ev_var rfl hy)) (.refl H) (fun h H1 x1 _ => ?_) fun h H1 x1 _ => ?_
    · have : canCome l m pl k = false := by unfold canCome; rw [h]; rfl
      rw [this] at q
      exact (ev_bl (K := K)).ret q x1
    · have e : canCome l m pl k = (List.range l.length).all fun j => !isBefore m (opAt l j) (opAt l k) || decide (j ∈ pl) := by unfold canCome; rw [h]; rfl
      rw [e] at q
      have hlen : EvD K _ (start N_can_come [x, .str m.str, y, .int ((k : Nat) : Int)]) H (.int ((l.map dOp).length : Nat)) := ev_lenL (ea_cons (ev_var (i := 0) rfl hx) ea_nil)
      rw [List.length_map] at hlen
      refine (ev_all _ hT (wd_range (ea_cons hlen ea_nil) (by omega)) fun i u H3 H4 hi e3 hu => ?_).ret q x1
      obtain ⟨rfl, rfl⟩ := hu
      exact ⟨.refl _, _, _, eb_val (K := K) (ev_call (ea_cons (ev_var rfl (hx.ext e3)) (ea_cons (ev_var rfl (.str _)) (ea_cons (ev_var rfl (.int _)) (ea_cons (ev_var rfl (.int _)) ea_nil)))) (g_before hi hk)), fun _ => ev_inN (ev_var rfl (.int _)) (ev_var rfl (hy.ext e3)), rfl⟩
def spWhole (K : PySem.W.Frag) (P2 : Addr) : Sp := fun vs H Q _ => ∃ (l : List Op) (q : Ps) (x y : V), vs = [x, y] ∧ Dp K H x (dOps l) ∧ Dp K H y (dPos q) ∧ l.length ≤ 9 ∧ TabG H P2 ∧ Ret K (.bool (isWhole l q.1)) H Q
theorem g_whole {P2 : Addr} {H : Hp} {l : List Op} {p : Ps} (h9 : l.length ≤ 9) (hT : TabG H P2) : Gives K (spWhole K P2) H [dOps l, dPos p] (.bool (isWhole l p.1)) := fun H1 e vs hv Q E q => by
  obtain ⟨v, vs, rfl, h1, hv⟩ := da_cons hv
  obtain ⟨v2, vs, rfl, h2, hv⟩ := da_cons hv
  rw [da_nil hv]
  exact ⟨l, p, v, v2, rfl, h1, h2, h9, hT.ext e, q⟩
theorem w_whole {code P2 : Addr} (D : DF K mg "is_whole" s_is_whole code) (T : Bn mg) (TB : GxR.TabB base mg code P2) : C8.Cal P w K mg base 2 "is_whole" (spWhole K P2) [] := by
  refine calD D sc_is_whole (fun _ _ _ _ _ _ us hl => match us, hl with | [_, _], _ => rfl) (fun vs H Q E h => ?_) (fun f A outer s H vs Q E hr h => ?_)
  · obtain ⟨l, p, x, y, rfl, _⟩ := h; rfl
  · obtain ⟨l, p, x, y, rfl, hx, hy, h9, hT, q⟩ := h
    refine ⟨_, (pss_one (ps_ret (pe_allG (x := "number") (j := 2) (k := 0) (tt := (tB (tNotN (tOp (rIxD' K) (tOp (rIxD' K) (tVar 0) (tVar 2)) (tC (.int 6)))))) (te := (tOp (rIn K false) (tVar 2) (tOp (rIxD' K) (tVar 1) (tC (.int 0))))) hr rfl sc_is_whole.nd (by rfl) T.all (by decide +kernel) TB rfl rfl (by decide +kernel) (by rfl) (by rfl) (by rfl) (blkOk_by (N := N_is_whole) (sc := defScope s_is_whole) (by decide +kernel)) (pi_range1 (by rfl) T.range (pa_cons (pe_callB lenD (by rfl) T.len PySem.boot_len (pa_cons (pv 0) pa_nil)) pa_nil)) (fun _ => rfl) (fun _ _ _ _ _ _ _ hA => pts_one (pt_cmp (pc_notN (pe_ix ixD (pe_ix ixD (pv 0) (pv 2) (fun _ _ => rfl)) pe_int (fun _ _ => rfl))))) (fun _ _ _ _ _ _ _ hA => (pe_cmpR op_in_seq (pv 2) (pe_ix ixD (pv 1) pe_int (fun _ _ => rfl)) rfl))))), ?_⟩
    have hlen : EvD K _ (start N_is_whole [x, y]) H (.int ((l.map dOp).length : Nat)) := ev_lenL (ea_cons (ev_var (i := 0) rfl hx) ea_nil)
    rw [List.length_map] at hlen
    refine (ev_all _ hT (wd_range (ea_cons hlen ea_nil) (by omega)) fun i u H3 H4 hi e3 hu => ?_).ret q (.refl H)
    obtain ⟨rfl, rfl⟩ := hu
    refine ⟨.refl _, _, _, eb_val (K := K) (ev_notN (ev_ix (i := 6) (ev_ixL (i := i) (ev_var rfl (hx.ext e3)) (ev_var rfl (.int _)) (dop_get hi)) ev_int rfl)), fun _ => ev_inN (ev_var rfl (.int _)) (ev_ix (i := 0) (ev_var rfl (hy.ext e3)) ev_int rfl), ?_⟩
    cases (opAt l i).ret <;> rfl
@[reducible] def dMove (x : Nat × Ps) : PyData := .tuple [.int ((x.1 : Nat) : Int), dPos x.2]
theorem noL_nats (l : List Nat) : noL (dNats l) = true := noLs_map fun _ _ => rfl
theorem noL_stts (l : List Stt) : noL (dStts l) = true := noLs_map fun s _ => noL_stt s
theorem noL_pos (q : Ps) : noL (dPos q) = true := by
  show noLs [dNats q.1, dStts q.2] = true
  simp only [noLs, noL_nats, noL_stts]; rfl
theorem noL_move (x : Nat × Ps) : noL (dMove x) = true := by
  show noLs [.int ((x.1 : Nat) : Int), dPos x.2] = true
  simp only [noLs, noL_pos]; rfl
/-- tuple(sorted(t)) -/
theorem ev_sortN {te : TE} {σ : L2.St} {H : Hp} {l : List Nat} {k : Nat} (h : EvD K te σ H (.tuple ((l ++ [k]).map fun n => PyData.int ((n : Nat) : Int)))) (hs : l.Pairwise (· ≤ ·)) (hl : l.length ≤ 60) : EvD K (tThen (tCB (rSortedTI K) (tCons te tNil)) (kTup K)) σ H (dNats (ins k l)) := fun H1 x Q q =>
  h H1 x _ fun v H2 e2 hv => by
    rw [nats_ints] at hv
    obtain ⟨a, rfl, ha⟩ := dp_ints hv
    refine ⟨a, _, rfl, ha, by simp; omega, fun ns p hp hns np => ?_⟩
    have e : ns = (ins k l).map fun n => ((n : Nat) : Int) := by
      refine sorted_uniq (hp.trans ?_) hns ?_
      · refine List.Perm.map _ ?_
        exact (List.perm_append_singleton k l).trans (ins_perm k l).symm
      · rw [List.pairwise_map]
        exact (ins_sorted k hs).imp fun {a b} h => Int.ofNat_le.mpr h
    subst e
    refine .inl ⟨p, _, rfl, .of upd_same, fun p2 np2 => q _ _ ((e2.trans (.new np)).trans (.new np2)) ?_⟩
    show Dp K _ _ (.tuple ((ins k l).map fun n => PyData.int ((n : Nat) : Int)))
    rw [nats_ints]
    exact dp_tupNew upd_same (da_ints _)
theorem eqv_key (o : Option KeyR) (r : KeyR) : PyData.eqv (dOKey o) (dKey r) = decide (o = some r) := by
  match o, r with
  | none, .inl i => rfl
  | none, .inr i => rfl
  | some (.inl i), .inl j =>
    show (i == j) = _
    by_cases h : i = j <;> simp [h]
  | some (.inl i), .inr j =>
    show false = _
    simp
  | some (.inr i), .inl j =>
    show false = _
    simp
  | some (.inr i), .inr j =>
    show (i == j) = _
    by_cases h : i = j <;> simp [h]
theorem shp_key {r : KeyR} (h : kOk r = true) : SeqAt.shaped (dKey r) = true := by
  cases r with
  | inl i => rfl
  | inr s =>
    have h : PyData.strOk s = true := h
    show (PyData.strOk s && decide (0 ≤ 64)) = true
    rw [h]; rfl
theorem shp_okey {r : Option KeyR} (h : rTxt r = true) : SeqAt.shaped (dOKey r) = true := by
  cases r with
  | none => rfl
  | some r => exact shp_key h
def spMoves (K : PySem.W.Frag) (P1 : Addr) : Sp := fun vs H Q _ => ∃ (h : Hist) (m : Mdl) (p : Ps) (x y z : V), vs = [x, y, .str m.str, z] ∧ Dp K H x (dHist h) ∧ Wf h ∧ Dp K H y (dOps (opsM h.evs)) ∧ Dp K H z (dPos p) ∧ PsOk h p ∧ TabG H P1 ∧ RetL K ((movesM h.objs (opsM h.evs) m p).map dMove) H Q
theorem g_moves {P1 : Addr} {H : Hp} {h : Hist} {m : Mdl} {p : Ps} (wf : Wf h) (hp : PsOk h p) (hT : TabG H P1) : Gives K (spMoves K P1) H [dHist h, dOps (opsM h.evs), .str m.str, dPos p] (.list ((movesM h.objs (opsM h.evs) m p).map dMove)) := fun H1 e vs hv Q E q => by
  obtain ⟨v, vs, rfl, h1, hv⟩ := da_cons hv
  obtain ⟨v2, vs, rfl, h2, hv⟩ := da_cons hv
  obtain ⟨v3, vs, rfl, h3, hv⟩ := da_cons hv
  obtain ⟨v4, vs, rfl, h4, hv⟩ := da_cons hv
  rw [da_nil hv, dp_str h3]
  exact ⟨h, m, p, v, v2, v4, rfl, h1, wf, h2, h4, hp, hT.ext e, .of q⟩
theorem w_moves {code P1 : Addr} (D : DF K mg "moves" s_moves code) (T : Bn mg) (c_can_come : C8.Cal P w K mg base 3 "can_come" (spCan K P1) []) (c_done : C8.Cal P w K mg base 4 "done" (spDone K) []) : C8.Cal P w K mg base 5 "moves" (spMoves K P1) [] := by
  refine calD D sc_moves (fun _ _ _ _ _ _ us hl => match us, hl with | [_, _, _, _], _ => rfl) (fun vs H Q E h => ?_) (fun f A outer s H vs Q E hr h => ?_)
  · obtain ⟨h, m, p, x, y, z, rfl, _⟩ := h; rfl
  · obtain ⟨h, m, p, x, y, z, rfl, hx, wf, hy, hz, hp, hT, q⟩ := h
    refine ⟨_, (pss_cons (ps_asg (pv 3) (pg_tup rfl (pgs_cons (pg_name (i := 4) sc_moves.nd rfl (by first | exact .inl rfl | exact .inr rfl)) (pgs_cons (pg_name (i := 5) sc_moves.nd rfl (by first | exact .inl rfl | exact .inr rfl)) pgs_nil))))
      (pss_cons (ps_set (i := 6) sc_moves.nd rfl (by first | exact .inl rfl | exact .inr rfl) (pe_lst pa_nil))
      (pss_cons (ps_for PassesOwn.never rfl (pi_range1 (by rfl) T.range (pa_cons (pe_callB lenD (by rfl) T.len PySem.boot_len (pa_cons (pv 1) pa_nil)) pa_nil)) (pg_name (i := 7) sc_moves.nd rfl (by first | exact .inl rfl | exact .inr rfl)) (pss_one (ps_if (pt_val (C8.pe_c c_can_come hr (by decide) (by rfl) (pa_cons (pv 1) (pa_cons (pv 2) (pa_cons (pv 4) (pa_cons (pv 7) pa_nil)))))) (pss_cons (ps_asg (C8.pe_c c_done hr (by decide) (by rfl) (pa_cons (pv 0) (pa_cons (pv 1) (pa_cons (pv 5) (pa_cons (pv 7) pa_nil))))) (pg_tup rfl (pgs_cons (pg_name (i := 8) sc_moves.nd rfl (by first | exact .inl rfl | exact .inr rfl)) (pgs_cons (pg_name (i := 9) sc_moves.nd rfl (by first | exact .inl rfl | exact .inr rfl)) pgs_nil))))
      (pss_one (ps_if (PW.pt (pw_or (pt_cmp (pc_isN (pe_ix ixD (pe_ix ixD (pv 1) (pv 7) (fun _ _ => rfl)) pe_int (fun _ _ => rfl)))) (pw_or1 (pt_cmpR (op_eqD (hu64 hr)) (pe_ix ixD (pe_ix ixD (pv 1) (pv 7) (fun _ _ => rfl)) pe_int (fun _ _ => rfl)) (pv 9) (nomark _))))) (pss_one (ps_expr (pe_bm PySem.F.plainAttrs_list PySem.F.slot_list_append PySem.F.type_list_append mt_append (pv 6) (pa_cons (pe_tup (pa_cons (pv 7) (pa_cons (pe_tup (pa_cons (pe_tupleOf (by rfl) T.tuple (pe_callB cr_sortedTI (by rfl) T.sorted (by decide +kernel) (pa_cons (pe_op catD (pv 4) (pe_tup (pa_cons (pv 7) pa_nil))) pa_nil))) (pa_cons (pv 8) pa_nil))) pa_nil))) pa_nil)))) pss_nil))) pss_nil)))
      (pss_one (ps_ret (pv 6)))))), ?_⟩
    have h9 := wf.ops
    have hpl := hp.len
    refine asg_pair (K := K) (ev_var rfl hz) (.refl H) fun a b H1 x1 _ ha hb => ?_
    refine ⟨Nat.zero_le _, fun fo nf => ?_⟩
    have nf0 : H fo = none := x1.free nf
    have hlen : EvS K (tCB (rLenD K) (tCons (tVar 1) tNil)) [some x, some y, some (.str m.str), some z, some a, some b, some (.ref fo), none, none, none] H1 (.int (((opsM h.evs).length : Nat) : Int)) := fun H2 x2 Q2 q2 => by
      refine ⟨y, rfl, y, _, rfl, .inr ((hy.ext x1).ext x2), ?_⟩
      rw [List.length_map]
      exact q2 _ (.int _)
    obtain ⟨g, hg⟩ : ∃ g : Nat → Option (Nat × Ps), g = fun k => if canCome (opsM h.evs) m p.1 k then (let z := doneM h.objs p.2 (opAt (opsM h.evs) k); if (opAt (opsM h.evs) k).ret = none ∨ (opAt (opsM h.evs) k).r = some z.2 then some (k, (ins k p.1, z.1)) else none) else none := ⟨_, rfl⟩
    have hmv : movesM h.objs (opsM h.evs) m p = (List.range (opsM h.evs).length).filterMap g := by rw [hg]; rfl
    refine for_go (H := H1) (ws_range hlen (by omega)) (.new nf)
      (fun i σ H' => ∃ y7 y8 y9 acc, σ = [some x, some y, some (.str m.str), some z, some a, some b, some (.ref fo), y7, y8, y9] ∧ Ext H1 H' ∧ H' fo = some (.lst acc) ∧ acc.length ≤ i ∧ DpAll K H' acc (((List.range i).filterMap g).map dMove))
      ⟨none, none, none, [], rfl, .new nf, upd_same, Nat.le_refl _, .nil⟩ (fun i σ' H' _ pv => ?_) (fun i u σ' H3 H4 hi pv hu => ?_) fun σ' H' pv => ?_
    · obtain ⟨_, _, _, _, _, e, _⟩ := pv
      exact e
    · obtain ⟨y7, y8, y9, acc, rfl, e3, hfo, hal, hacc⟩ := pv
      obtain ⟨rfl, rfl⟩ := hu
      have none' : g i = none → ((List.range (i + 1)).filterMap g).map dMove = ((List.range i).filterMap g).map dMove := fun hgi => by
        rw [List.range_succ, List.filterMap_append]
        have : List.filterMap g [i] = [] := by rw [List.filterMap_cons, hgi]; rfl
        rw [this, List.append_nil]
      have x13 := x1.trans e3
      refine if_go (eb_val (K := K) (ev_call (ea_cons (ev_var rfl (hy.ext x13)) (ea_cons (ev_var rfl (.str _)) (ea_cons (ev_var rfl (ha.ext e3)) (ea_cons (ev_var rfl (.int _)) ea_nil)))) (g_can hi h9 (hT.ext x13)))) (.refl H4) (fun hc H5 x5 _ => ?_) fun hc H5 x5 _ => ?_
      · refine asg_pair (K := K) (ev_call (ea_cons (ev_var rfl ((hx.ext x13).ext x5)) (ea_cons (ev_var rfl ((hy.ext x13).ext x5)) (ea_cons (ev_var rfl ((hb.ext e3).ext x5)) (ea_cons (ev_var rfl (.int _)) ea_nil)))) (g_done wf hi hp.st (by omega))) (.refl H5) fun v8 v9 H6 x6 _ h8 h9' => ?_
        obtain ⟨op, hop⟩ : ∃ op, opAt (opsM h.evs) i = op := ⟨_, rfl⟩
        have hot := wf.optxt hi
        have hgi : g i = if op.ret = none ∨ op.r = some (doneM h.objs p.2 op).2 then some (i, (ins i p.1, (doneM h.objs p.2 op).1)) else none := by rw [hg]; simp only [hc, if_true, hop]
        have hda := dop_get hi
        rw [hop] at h8 h9' hda hot
        have hrt : rTxt op.r = true := by
          unfold opTxt at hot
          simp only [Bool.and_eq_true] at hot
          exact hot.2
        have x56 := x5.trans x6
        have x16 := x13.trans x56
        have eop : ∀ H', Ext H6 H' → EvD K (tOp (rIxD' K) (tVar 1) (tVar 7)) [some x, some y, some (.str m.str), some z, some a, some b, some (.ref fo), some (.int ((i : Nat) : Int)), some v8, some v9] H' (dOp op) := fun H' e => ev_ixL (i := i) (ev_var rfl ((hy.ext x16).ext e)) (ev_var rfl (.int _)) hda
        have hcmp : EvB (tTest (tOp (rEqD K) (tOp (rIxD' K) (tOp (rIxD' K) (tVar 1) (tVar 7)) (tC (.int 4))) (tVar 9))) [some x, some y, some (.str m.str), some z, some a, some b, some (.ref fo), some (.int ((i : Nat) : Int)), some v8, some v9] H6 (decide (op.r = some (doneM h.objs p.2 op).2)) := eb_cmp (K := K) (ev_ix (i := 4) (eop H6 (.refl _)) ev_int rfl) (ev_var rfl h9') fun u w' H7 Q7 e7 hu hw q7 => ⟨_, _, hu, hw, shp_okey hrt, shp_key (doneM_txt _ _ _), by rw [eqv_key]; exact q7⟩
        refine if_go (eb_or (eb_val (K := K) (ev_isN (ev_ix (i := 6) (eop H6 (.refl _)) ev_int rfl))) fun _ => hcmp) (.refl H6) (fun hb2 H7 x7 _ => ?_) fun hb2 H7 x7 _ => ?_
        · have hcond : op.ret = none ∨ op.r = some (doneM h.objs p.2 op).2 := by
            rw [Bool.or_eq_true, decide_eq_true_eq] at hb2
            refine hb2.imp (fun z => ?_) id
            cases hr : op.ret with
            | none => rfl
            | some q => rw [hr] at z; cases z
          rw [if_pos hcond] at hgi
          refine app_go (K := K) (d := dMove (i, (ins i p.1, (doneM h.objs p.2 op).1))) rfl ((x56.trans x7).lst hfo) (by omega) (ev_tup (ea_cons (ev_var rfl (.int _)) (ea_cons (ev_tup (ea_cons (ev_sortN (l := p.1) (by
              rw [List.map_append]
              exact ev_cat (ev_var rfl (ha.ext (e3.trans (x56.trans x7)))) (ev_tup (ea_cons (ev_var rfl (.int _)) ea_nil)) (by simp; omega)) hp.srt (by omega)) (ea_cons (ev_var rfl (h8.ext x7)) ea_nil))) ea_nil))) fun v H8 x8 hv hf8 => ?_
          refine ⟨_, _, _, acc ++ [v], rfl, (((e3.trans x56).trans x7).trans x8).mut nf, upd_same, by rw [List.length_append]; show _ + 1 ≤ _; omega, ?_⟩
          rw [List.range_succ, List.filterMap_append]
          have : List.filterMap g [i] = [(i, (ins i p.1, (doneM h.objs p.2 op).1))] := by rw [List.filterMap_cons, hgi]; rfl
          rw [this, List.map_append]
          exact da_append ((hacc.ext ((x56.trans x7).trans x8)).extL (d := fo) (noLs_map fun x _ => noL_move x) extB_upd ⟨acc, hf8⟩) (da_one (hv.extL (d := fo) (noL_move _) extB_upd ⟨acc, hf8⟩))
        · have hcond : ¬ (op.ret = none ∨ op.r = some (doneM h.objs p.2 op).2) := fun z => by
            rw [Bool.or_eq_false_iff, decide_eq_false_iff_not] at hb2
            rcases z with z | z
            · rw [z] at hb2; exact absurd hb2.1 (by decide)
            · exact hb2.2 z
          rw [if_neg hcond] at hgi
          exact ⟨_, _, _, acc, rfl, (e3.trans x56).trans x7, (x56.trans x7).lst hfo, by omega, by rw [none' hgi]; exact hacc.ext (x56.trans x7)⟩
      · have hgi : g i = none := by rw [hg]; simp only [hc, Bool.false_eq_true, if_false]
        exact ⟨_, _, _, acc, rfl, e3.trans x5, x5.lst hfo, by omega, by rw [none' hgi]; exact hacc.ext x5⟩
    · obtain ⟨y7, y8, y9, acc, rfl, e3, hfo, hal, hacc⟩ := pv
      rw [← hmv] at hacc
      exact ⟨_, rfl, q fo acc H' (x1.trans e3) nf0 hfo hacc⟩
end
end K22

-- W5
set_option maxHeartbeats 4000000
/-! Walks: the search. -/
namespace K22
open PySem PySem.Spec PyProof.Rows L2
/-! ### positions as keys -/
def kNats (l : List Nat) : NestedKey := .tup (l.map fun n => .num ((n : Nat) : Int))
def kStt : Stt → NestedKey
  | .num i => .num i
  | .seq l => .tup (l.map .num)
def kPos (q : Ps) : NestedKey := .tup [kNats q.1, .tup (q.2.map kStt)]
theorem datas_map {α : Type} (f : α → NestedKey) : ∀ l : List α, NestedKey.datas (l.map f) = l.map fun a => (f a).data
  | [] => rfl
  | a :: l => by rw [List.map_cons, List.map_cons, NestedKey.datas, datas_map f l]
theorem kNats_data (l : List Nat) : (kNats l).data = dNats l := by
  unfold kNats
  rw [NestedKey.data, datas_map]
  rfl
theorem kStt_data (s : Stt) : (kStt s).data = dStt s := by
  cases s with
  | num i => rfl
  | seq l => unfold kStt; rw [NestedKey.data, datas_map]; rfl
theorem kPos_data (q : Ps) : (kPos q).data = dPos q := by
  unfold kPos
  have h : (NestedKey.tup (q.2.map kStt)).data = dStts q.2 := by
    rw [NestedKey.data, datas_map]
    show PyData.tuple _ = PyData.tuple _
    congr 1
    exact List.map_congr_left fun s _ => kStt_data s
  rw [NestedKey.data, NestedKey.datas, NestedKey.datas, NestedKey.datas, h, kNats_data]
theorem map_inj' {α β : Type} {f : α → β} (hf : ∀ a b, f a = f b → a = b) : ∀ {l m : List α}, l.map f = m.map f → l = m
  | [], [], _ => rfl
  | a :: l, b :: m, h => by
    rw [List.map_cons, List.map_cons] at h
    obtain ⟨h1, h2⟩ := List.cons.inj h
    rw [hf _ _ h1, map_inj' hf h2]
  | [], _ :: _, h => by simp at h
  | _ :: _, [], h => by simp at h
theorem kStt_inj : ∀ a b : Stt, kStt a = kStt b → a = b
  | .num i, .num j, h => by cases h; rfl
  | .seq l, .seq m, h => by
    have h : NestedKey.tup (l.map .num) = .tup (m.map .num) := h
    rw [map_inj' (fun a b z => NestedKey.num.inj z) (NestedKey.tup.inj h)]
  | .num _, .seq _, h => by cases h
  | .seq _, .num _, h => by cases h
theorem kPos_inj {p q : Ps} (h : kPos p = kPos q) : p = q := by
  obtain ⟨p1, p2⟩ := p
  obtain ⟨q1, q2⟩ := q
  have h := NestedKey.tup.inj h
  have h1 := (List.cons.inj h).1
  have h2 := (List.cons.inj (List.cons.inj h).2).1
  have e1 := map_inj' (fun a b z => by have := NestedKey.num.inj z; omega) (NestedKey.tup.inj h1)
  have e2 := map_inj' kStt_inj (NestedKey.tup.inj h2)
  simp only at e1 e2
  rw [e1, e2]
theorem depth_all {α : Type} {f : α → NestedKey} {n : Nat} (h : ∀ a, (f a).depth ≤ n) : ∀ l : List α, NestedKey.depthAll (l.map f) ≤ n
  | [] => Nat.zero_le _
  | a :: l => by
    rw [List.map_cons, NestedKey.depthAll]
    exact Nat.max_le.mpr ⟨h a, depth_all h l⟩
theorem kPos_kn (q : Ps) : Kn (kPos q) := by
  refine ⟨⟨_, rfl⟩, ?_⟩
  have h1 : (kNats q.1).depth ≤ 1 := by
    unfold kNats
    rw [NestedKey.depth]
    have := depth_all (n := 0) (f := fun n : Nat => NestedKey.num ((n : Nat) : Int)) (fun _ => Nat.le_refl _) q.1
    omega
  have h2 : (NestedKey.tup (q.2.map kStt)).depth ≤ 2 := by
    rw [NestedKey.depth]
    have := depth_all (n := 1) (f := kStt) (fun s => by
      cases s with
      | num i => exact Nat.zero_le _
      | seq l =>
        show (NestedKey.tup (l.map .num)).depth ≤ 1
        rw [NestedKey.depth]
        have := depth_all (n := 0) (f := NestedKey.num) (fun _ => Nat.le_refl _) l
        omega) q.2
    omega
  unfold kPos
  simp only [NestedKey.depth, NestedKey.depthAll]
  rw [NestedKey.depth] at h2
  omega
mutual
theorem noL_data : ∀ k : NestedKey, noL k.data = true
  | .none => rfl
  | .num _ => rfl
  | .text _ => rfl
  | .tup ks => by rw [NestedKey.data, noL]; exact noLs_datas ks
theorem noLs_datas : ∀ ks : List NestedKey, noLs (NestedKey.datas ks) = true
  | [] => rfl
  | k :: ks => by rw [NestedKey.datas, noLs, noL_data k, noLs_datas ks]; rfl
end
/-- the keys are positions, each once -/
structure KeysOk (h : Hist) (ks : List NestedKey) : Prop where
  nd : ks.Nodup
  ps : ∀ k ∈ ks, ∃ q, Reach h q ∧ k = kPos q
theorem KeysOk.few {h : Hist} {ks : List NestedKey} (wf : Wf h) (o : KeysOk h ks) : ks.length ≤ 990000 := by
  have := sub_len (m := (allPaths (opsM h.evs).length).map fun a => kPos (posOf h a)) o.nd fun k hk => by
    obtain ⟨q, hq, rfl⟩ := o.ps k hk
    obtain ⟨a, ha, rfl⟩ := List.mem_map.mp (reach_all hq)
    exact List.mem_map.mpr ⟨a, ha, rfl⟩
  rw [List.length_map] at this
  exact Nat.le_trans this (allPaths_len wf.ops)
theorem KeysOk.put {h : Hist} {ks : List NestedKey} (o : KeysOk h ks) {q : Ps} (hq : Reach h q) : KeysOk h (if kPos q ∈ ks then ks else ks ++ [kPos q]) := by
  split
  · exact o
  · rename_i hn
    refine ⟨List.nodup_append.mpr ⟨o.nd, List.pairwise_singleton _ _, fun a ha b hb => ?_⟩, fun k hk => ?_⟩
    · rw [List.mem_singleton.mp hb]
      intro z
      exact hn (z ▸ ha)
    · rcases List.mem_append.mp hk with z | z
      · exact o.ps k z
      · exact ⟨q, hq, List.mem_singleton.mp z⟩
/-- what is hopeless has no order -/
def HopeOk (h : Hist) (m : Mdl) (ks : List NestedKey) : Prop := ∀ q, Reach h q → kPos q ∈ ks → orderM h.objs (opsM h.evs) m q = none
theorem HopeOk.put {h : Hist} {m : Mdl} {ks : List NestedKey} (o : HopeOk h m ks) {q : Ps} (hn : orderM h.objs (opsM h.evs) m q = none) : HopeOk h m (if kPos q ∈ ks then ks else ks ++ [kPos q]) := by
  split
  · exact o
  · intro q' hr hk
    rcases List.mem_append.mp hk with z | z
    · exact o q' hr z
    · rw [kPos_inj (List.mem_singleton.mp z)]
      exact hn
section
variable {P : Program} {w : World} {K : PySem.W.Frag} {mg : Str → Option Value} {base : Heap}
@[reducible] def dOrd : Option (List Nat) → PyData
  | none => .none
  | some o => dNats o
theorem dp_tag {H : Hp} {v : V} {q : Ps} (h : Dp K H v (dPos q)) : ∃ a, v = .ref a ∧ Dp K H (.ref a) (kPos q).data := by
  obtain ⟨a, xs, rfl, h1, h2⟩ := dp_tup h
  rw [kPos_data]
  exact ⟨a, rfl, h⟩
def spFrom (P : Program) (w : World) (K : PySem.W.Frag) (P1 P2 : Addr) (f : Nat) : Sp := fun vs H Q _ => ∃ (h : Hist) (m : Mdl) (p : Ps) (x y z : V) (d : Addr) (ks : List NestedKey), vs = [x, y, .str m.str, z, .ref d] ∧ Dp K H x (dHist h) ∧ Wf h ∧ Dp K H y (dOps (opsM h.evs)) ∧ Dp K H z (dPos p) ∧ Reach h p ∧ (opsM h.evs).length - p.1.length < f ∧
  TabG H P1 ∧ TabG H P2 ∧ DN P w K H d ks ∧ KeysOk h ks ∧ HopeOk h m ks ∧
  ∀ v H' ks', ExtB d H H' → DN P w K H' d ks' → KeysOk h ks' → HopeOk h m ks' → Dp K H' v (dOrd (orderM h.objs (opsM h.evs) m p)) → Q v H'
theorem tabG_ne {H : Hp} {P1 d : Addr} {ks : List NestedKey} (t : TabG H P1) (hd : DN P w K H d ks) : P1 ≠ d := fun z => by
  subst z
  obtain ⟨ps, h1, _⟩ := t
  obtain ⟨xs, h2, _⟩ := hd
  rw [h1] at h2
  unfold dnO at h2
  cases h2
theorem w_from {code P1 P2 : Addr} (D : DF K mg "order_from" s_order_from code) (T : Bn mg) (c_is_whole : C8.Cal P w K mg base 2 "is_whole" (spWhole K P2) []) (c_moves : C8.Cal P w K mg base 5 "moves" (spMoves K P1) []) : ∀ f, C8.Cal P w K mg base (6 + f) "order_from" (spFrom P w K P1 P2 f) []
  | 0 => by
    refine calD D (k := 5) sc_order_from (fun _ _ _ _ _ _ us hl => match us, hl with | [_, _, _, _, _], _ => rfl) (fun vs H Q E h => ?_) (fun f A outer s H vs Q E hr h => ?_)
    · obtain ⟨h, m, p, x, y, z, d, ks, rfl, _⟩ := h; rfl
    · obtain ⟨h, m, p, x, y, z, d, ks, rfl, hx, wf, hy, hz, hp, hlt, _⟩ := h
      exact absurd hlt (Nat.not_lt_zero _)
  | f + 1 => by
    have c_order_from := w_from D T c_is_whole c_moves f
    refine calD D (k := 6 + f) sc_order_from (fun _ _ _ _ _ _ us hl => match us, hl with | [_, _, _, _, _], _ => rfl) (fun vs H Q E h => ?_) (fun fa A outer s H vs Q E hr h => ?_)
    · obtain ⟨h, m, p, x, y, z, d, ks, rfl, _⟩ := h; rfl
    · obtain ⟨h, m, p, x, y, z, d, ks, rfl, hx, wf, hy, hz, hp, hlt, t1, t2, hd, hk, ho, q⟩ := h
      refine ⟨_, (pss_cons (ps_if (pt_val (C8.pe_c c_is_whole hr (by first | decide | omega) (by rfl) (pa_cons (pv 1) (pa_cons (pv 3) pa_nil)))) (pss_one (ps_ret (pe_tup pa_nil))) pss_nil)
      (pss_cons (ps_if (pt_cmpR (op_inN (hu64 hr)) (pv 3) (pv 4) rfl) (pss_one (ps_ret pe_non)) pss_nil)
      (pss_cons (ps_for PassesOwn.never rfl (pi_list (C8.pe_c c_moves hr (by first | decide | omega) (by rfl) (pa_cons (pv 0) (pa_cons (pv 1) (pa_cons (pv 2) (pa_cons (pv 3) pa_nil)))))) (pg_tup rfl (pgs_cons (pg_name (i := 5) sc_order_from.nd rfl (by first | exact .inl rfl | exact .inr rfl)) (pgs_cons (pg_name (i := 6) sc_order_from.nd rfl (by first | exact .inl rfl | exact .inr rfl)) pgs_nil))) (pss_cons (ps_set (i := 7) sc_order_from.nd rfl (by first | exact .inl rfl | exact .inr rfl) (C8.pe_c c_order_from hr (by first | decide | omega) (by rfl) (pa_cons (pv 0) (pa_cons (pv 1) (pa_cons (pv 2) (pa_cons (pv 6) (pa_cons (pv 4) pa_nil)))))))
      (pss_one (ps_if (pt_cmp (pc_notN (pv 7))) (pss_one (ps_ret (pe_op catD (pe_tup (pa_cons (pv 5) pa_nil)) (pv 7)))) pss_nil))))
      (pss_cons (ps_asg pe_bl (pg_sub (pv 4) (pv 3) (set_dn (hu64 hr))))
      (pss_one (ps_ret pe_non)))))), ?_⟩
      have h9 := wf.ops
      have pok := hp.ok wf
      have oe := order_eq (m := m) wf pok
      obtain ⟨a, rfl, hza⟩ := dp_tag hz
      refine if_go (eb_val (K := K) (ev_call (ea_cons (ev_var rfl hy) (ea_cons (ev_var rfl hz) ea_nil)) (g_whole h9 t2))) (.refl H) (fun hw H1 x1 _ => ?_) fun hw H1 x1 _ => ?_
      · rw [if_pos hw] at oe
        rw [oe] at q
        exact ⟨Nat.zero_le _, fun u nu => q _ _ ks (x1.trans (.new nu)).but (hd.ext (x1.trans (.new nu))) hk ho (dp_tupNew upd_same .nil)⟩
      · rw [if_neg (by rw [hw]; decide)] at oe
        have hd1 := hd.ext x1
        refine ⟨.ref a, rfl, .ref d, rfl, a, d, kPos p, ks, rfl, rfl, hza.ext x1, kPos_kn p, hd1, _, rfl, ite2 (fun hin => ?_) fun hin => ?_⟩
        · have hn := ho p hp (of_decide_eq_true hin)
          rw [hn] at q
          exact q _ H1 ks x1.but hd1 hk ho .non
        · have hin' : kPos p ∉ ks := fun z => hin (decide_eq_true z)
          refine ⟨x, rfl, y, rfl, .str m.str, rfl, .ref a, rfl, h, m, p, x, y, .ref a, rfl, hx.ext x1, wf, hy.ext x1, hz.ext x1, pok, t1.ext x1, fun mv mvs H2 x2 nmv hmv hmvs => ?_⟩
          obtain ⟨ms, hms⟩ : ∃ ms, movesM h.objs (opsM h.evs) m p = ms := ⟨_, rfl⟩
          rw [hms] at hmvs oe
          have hml := da_len hmvs
          rw [List.length_map] at hml
          have x12 := x1.trans x2
          have hd2 := hd.ext x12
          have nd2 : mv ≠ d := fun z => by
            obtain ⟨xs, e, _⟩ := hd1
            rw [z, e] at nmv; cases nmv
          refine ⟨mv, rfl, ⟨mvs, .of hmv⟩, for_it walk_list (G := fun H' => SqL K H' mv mvs)
            (fun i σ H' => ∃ y5 y6 y7 ks', σ = [some x, some y, some (.str m.str), some (.ref a), some (.ref d), y5, y6, y7] ∧ ExtB d H2 H' ∧ DN P w K H' d ks' ∧ KeysOk h ks' ∧ HopeOk h m ks' ∧ ∀ j b, j < i → ms[j]? = some b → orderM h.objs (opsM h.evs) m b.2 = none)
            ⟨none, none, none, ks, rfl, (Ext.refl _).but, hd2, hk, ho, fun j b hj => absurd hj (Nat.not_lt_zero _)⟩ (fun i σ' H' _ pv => ?_) (fun i u σ' H3 H4 hi pv hu => ?_) fun σ' H' pv => ?_⟩
          · obtain ⟨_, _, _, _, _, e, _⟩ := pv
            exact .inl (e.rdL hd2.noSeq (.inl hmv))
          · obtain ⟨y5, y6, y7, ks', rfl, e3, hd3, hk3, ho3, hno⟩ := pv
            obtain ⟨rfl, hu⟩ := hu
            have hlt' : i < ms.length := by rw [← hml]; exact hi
            obtain ⟨dd, hdd, hud⟩ := da_at hmvs hu
            rw [List.getElem?_map, List.getElem?_eq_getElem hlt'] at hdd
            cases hdd
            have hmi : ms[i]? = some ms[i] := List.getElem?_eq_getElem hlt'
            generalize ms[i] = b at hud hmi
            have sb : StepOk h.objs (opsM h.evs) m p b := mem_moves.mp (by rw [hms]; exact List.mem_of_getElem? hmi)
            have rb := hp.next sb
            have lb := (sb.next wf pok).2
            have hud3 := hud.extB e3 hd2.noSeq
            obtain ⟨T1, xs1, rfl, k1, k2⟩ := dp_tup hud3
            obtain ⟨w1, xs1, rfl, k3, k2⟩ := da_cons k2
            obtain ⟨w2, xs1, rfl, k4, k2⟩ := da_cons k2
            have := da_nil k2
            subst this
            refine ⟨T1, _, rfl, k1, rfl, w1, _, rfl, w2, _, rfl, rfl, ?_⟩
            have hx3 := (hx.ext x12).extB e3 hd2.noSeq
            have hy3 := (hy.ext x12).extB e3 hd2.noSeq
            have hlen' : (opsM h.evs).length - b.2.1.length < f := by have := (sb.next wf pok).1.len; rw [lb] at this ⊢; omega
            refine ⟨x, rfl, y, rfl, .str m.str, rfl, w2, rfl, .ref d, rfl, h, m, b.2, x, y, w2, d, ks', rfl, hx3, wf, hy3, k4, rb, hlen', (t1.ext x12).extB e3 (tabG_ne (t1.ext x12) hd2), (t2.ext x12).extB e3 (tabG_ne (t2.ext x12) hd2), hd3, hk3, ho3, fun rv H5 ks5 e5 hd5 hk5 ho5 hrv => ?_⟩
            have e25 := e3.trans e5
            cases hob : orderM h.objs (opsM h.evs) m b.2 with
            | none =>
              rw [hob] at hrv
              cases hrv
              refine ⟨.non, rfl, _, rfl, ?_⟩
              show if (!decide (V.non = V.non)) = true then _ else _
              rw [if_neg (by decide)]
              refine ⟨_, _, _, ks5, rfl, e25, hd5, hk5, ho5, fun j b' hj hb' => ?_⟩
              rcases Nat.lt_or_eq_of_le (Nat.le_of_lt_succ hj) with z | z
              · exact hno j b' z hb'
              · subst z
                rw [hmi] at hb'
                cases hb'
                exact hob
            | some o =>
              rw [hob] at hrv
              have eo : orderM h.objs (opsM h.evs) m p = some (b.1 :: o) := by
                rw [oe]
                exact firstSome_at (f := fun x => (orderM h.objs (opsM h.evs) m x.2).map (x.1 :: ·)) (i := i) (a := b) (fun j b' hj hb' => by rw [hno j b' hj hb']; rfl) hmi (by rw [hob]; rfl)
              rw [eo] at q
              obtain ⟨ra, rfl, hra⟩ : ∃ ra, rv = .ref ra ∧ True := by
                obtain ⟨ra, _, e, _⟩ := dp_tup hrv
                exact ⟨ra, e, trivial⟩
              refine ⟨.ref ra, rfl, _, rfl, ?_⟩
              show if (!decide (V.ref ra = V.non)) = true then _ else _
              rw [if_pos (by simp)]
              have hol : o.length ≤ 9 := by
                have : ∀ (g : Nat) (q' : Ps) (o : List Nat), orderGo h.objs (opsM h.evs) m g q' = some o → o.length ≤ g := fun g => by
                  induction g with
                  | zero =>
                    intro q' o e
                    unfold orderGo at e
                    split at e
                    · cases e; exact Nat.le_refl _
                    · cases e
                  | succ g ih =>
                    intro q' o e
                    unfold orderGo at e
                    split at e
                    · cases e; exact Nat.zero_le _
                    · obtain ⟨x', _, hx'⟩ := firstSome_some e
                      obtain ⟨o', ho', rfl⟩ := Option.map_eq_some_iff.mp hx'
                      have := ih _ _ ho'
                      rw [List.length_cons]
                      omega
                exact Nat.le_trans (this _ _ _ hob) (by omega)
              refine EvD.go (K := K) (d := dNats (b.1 :: o)) (ev_cat (ds := [.int ((b.1 : Nat) : Int)]) (ev_tup (ea_cons (ev_var rfl (k3.extB e5 hd3.noSeq)) ea_nil)) (ev_var rfl hrv) (by simp; omega)) fun v H6 x6 hv => ?_
              exact q v H6 ks5 (x12.but.trans (e25.trans x6.but)) (hd5.ext x6) hk5 ho5 hv
          · obtain ⟨y5, y6, y7, ks', rfl, e3, hd3, hk3, ho3, hno⟩ := pv
            have en : orderM h.objs (opsM h.evs) m p = none := by
              rw [oe]
              refine firstSome_none.mpr fun b hb => ?_
              obtain ⟨j, hj⟩ := List.mem_iff_getElem?.mp hb
              rw [hno j b (by rw [hml]; exact (List.getElem?_eq_some_iff.mp hj).1) hj]
              rfl
            rw [en] at q
            have hk9 := hk3.few wf
            refine ⟨.ref d, rfl, .ref a, rfl, a, d, kPos p, ks', rfl, rfl, (hza.ext x12).extB e3 hd2.noSeq, kPos_kn p, hd3, line_lt (by omega), fun H4 e4 hd4 _ => ?_⟩
            exact q _ H4 _ (x12.but.trans (e3.trans e4)) hd4 (hk3.put hp) (ho3.put en) .non
theorem DN.extL {H H' : Hp} {d e : Addr} {ks : List NestedKey} (h : DN P w K H d ks) (x : ExtB e H H') (n : IsL (H e)) : DN P w K H' d ks := by
  obtain ⟨xs, e1, e2, e3⟩ := h
  have nd : d ≠ e := fun z => by
    obtain ⟨ys, n⟩ := n
    rw [z, n] at e1
    unfold dnO at e1
    cases e1
  refine ⟨xs, ?_, e2, fun y hy => ⟨(e3 y hy).1.extL (noL_data _) x n, (e3 y hy).2⟩⟩
  rcases x d _ nd e1 with z | ⟨ps, _, z, _⟩
  · exact z
  · exact absurd z (dnO_tbl ps)
theorem alike_ints : ∀ l m : List Int, PySem.W.alikeAll (l.map PyData.int) (m.map PyData.int) = true
  | [], [] => rfl
  | [], _ :: _ => rfl
  | _ :: _, [] => rfl
  | _ :: l, _ :: m => by
    show (true && PySem.W.alikeAll (l.map PyData.int) (m.map PyData.int)) = true
    rw [alike_ints l m]; rfl
theorem alike_nats : ∀ l m : List Nat, PySem.W.alikeAll (l.map fun n => PyData.int ((n : Nat) : Int)) (m.map fun n => PyData.int ((n : Nat) : Int)) = true := fun l m => by
  rw [nats_ints, nats_ints]
  exact alike_ints _ _
theorem alike_stts {b c : Nat} : ∀ {objs : List (Str × Kd)} {st su : List Stt}, StsOk b objs st → StsOk c objs su → PySem.W.alikeAll (st.map dStt) (su.map dStt) = true
  | [], st, su, h1, h2 => by
    have e1 : st = [] := List.eq_nil_of_length_eq_zero h1.1
    have e2 : su = [] := List.eq_nil_of_length_eq_zero h2.1
    rw [e1, e2]; rfl
  | x :: objs, [], _, h1, _ => absurd h1.1 (by simp)
  | x :: objs, _ :: _, [], _, h2 => absurd h2.1 (by simp)
  | x :: objs, s :: st, t :: su, h1, h2 => by
    have hs := h1.2 0 x s rfl rfl
    have ht := h2.2 0 x t rfl rfl
    have r1 : StsOk b objs st := ⟨by have := h1.1; simpa using this, fun i y z a b => h1.2 (i + 1) y z a b⟩
    have r2 : StsOk c objs su := ⟨by have := h2.1; simpa using this, fun i y z a b => h2.2 (i + 1) y z a b⟩
    have ih := alike_stts r1 r2
    have h0 : PySem.W.alike (dStt s) (dStt t) = true := by
      obtain ⟨n, kd⟩ := x
      match kd, s, t, hs, ht with
      | .reg, .num _, .num _, _, _ => rfl
      | .cnt, .num _, .num _, _, _ => rfl
      | .set, .seq l, .seq m, _, _ => exact alike_ints l m
      | .que, .seq l, .seq m, _, _ => exact alike_ints l m
    show (PySem.W.alike (dStt s) (dStt t) && PySem.W.alikeAll (st.map dStt) (su.map dStt)) = true
    rw [h0, ih]; rfl
theorem alike_pos {h : Hist} (wf : Wf h) {p q : Ps} (hp : Reach h p) (hq : Reach h q) : PySem.W.alike (dPos p) (dPos q) = true := by
  show (PySem.W.alike (dNats p.1) (dNats q.1) && (PySem.W.alike (dStts p.2) (dStts q.2) && true)) = true
  have h1 : PySem.W.alike (dNats p.1) (dNats q.1) = true := alike_nats _ _
  have h2 : PySem.W.alike (dStts p.2) (dStts q.2) = true := alike_stts (hp.ok wf).st (hq.ok wf).st
  rw [h1, h2]; rfl
theorem depth_map {α : Type} {f : α → PyData} {n : Nat} (h : ∀ a, (f a).depth ≤ n) : ∀ l : List α, PyData.depthAll (l.map f) ≤ n
  | [] => Nat.zero_le _
  | a :: l => by
    rw [List.map_cons, PyData.depthAll]
    exact Nat.max_le.mpr ⟨h a, depth_map h l⟩
theorem depth_ints (l : List Int) : (PyData.tuple (l.map PyData.int)).depth ≤ 1 := by
  rw [PyData.depth]
  have := depth_map (n := 0) (f := PyData.int) (fun _ => Nat.le_refl _) l
  omega
theorem depth_pos (q : Ps) : (dPos q).depth ≤ 8 := by
  have h1 : (dNats q.1).depth ≤ 1 := by
    show (PyData.tuple (q.1.map fun n => PyData.int ((n : Nat) : Int))).depth ≤ 1
    rw [nats_ints]
    exact depth_ints _
  have h2 : (dStts q.2).depth ≤ 2 := by
    show (PyData.tuple (q.2.map dStt)).depth ≤ 2
    rw [PyData.depth]
    have := depth_map (n := 1) (f := dStt) (fun s => by
      cases s with
      | num i => exact Nat.zero_le _
      | seq l => exact depth_ints l) q.2
    omega
  show (PyData.tuple [dNats q.1, dStts q.2]).depth ≤ 8
  rw [PyData.depth, PyData.depthAll, PyData.depthAll, PyData.depthAll]
  omega
theorem DN.len {H : Hp} {d : Addr} {ks : List NestedKey} (h : DN P w K H d ks) : True := trivial
def spTold (K : PySem.W.Frag) (P1 : Addr) : Sp := fun vs H Q _ => ∃ (h : Hist) (m : Mdl) (x : V), vs = [x, .str m.str] ∧ Dp K H x (dHist h) ∧ Wf h ∧ TabG H P1 ∧ ∀ v H', Ext H H' → Q v H'
theorem w_told {code P1 : Addr} (D : DF K mg "told_table" s_told_table code) (T : Bn mg) (c_operations : C8.Cal P w K mg base 2 "operations" (spOps K) []) (c_first_position : C8.Cal P w K mg base 3 "first_position" (spPos0 K) []) (c_moves : C8.Cal P w K mg base 5 "moves" (spMoves K P1) []) : C8.Cal P w K mg base 6 "told_table" (spTold K P1) [] := by
  refine calD D sc_told_table (fun _ _ _ _ _ _ us hl => match us, hl with | [_, _], _ => rfl) (fun vs H Q E h => ?_) (fun fa A outer s H vs Q E hr h => ?_)
  · obtain ⟨h, m, x, rfl, _⟩ := h; rfl
  · obtain ⟨h, m, x, rfl, hx, wf, hT, q⟩ := h
    refine ⟨_, (pss_cons (ps_set (i := 2) sc_told_table.nd rfl (by first | exact .inl rfl | exact .inr rfl) (C8.pe_c c_operations hr (by first | decide | omega) (by rfl) (pa_cons (pv 0) pa_nil)))
      (pss_cons (ps_set (i := 3) sc_told_table.nd rfl (by first | exact .inl rfl | exact .inr rfl) (C8.pe_c c_first_position hr (by first | decide | omega) (by rfl) (pa_cons (pv 0) pa_nil)))
      (pss_cons (ps_set (i := 4) sc_told_table.nd rfl (by first | exact .inl rfl | exact .inr rfl) (pe_dispN (hu64 hr) (pv 3) pe_bl))
      (pss_cons (ps_set (i := 5) sc_told_table.nd rfl (by first | exact .inl rfl | exact .inr rfl) (pe_lst (pa_cons (pv 3) pa_nil)))
      (pss_cons (ps_while PassesOwn.never (pt_truth (pv 5) (fun _ => rfl)) (pss_one (ps_for PassesOwn.never rfl (pi_list (C8.pe_c c_moves hr (by first | decide | omega) (by rfl) (pa_cons (pv 0) (pa_cons (pv 2) (pa_cons (pv 1) (pa_cons (pe_bm0 PySem.F.plainAttrs_list PySem.F.slot_list_pop PySem.F.type_list_pop mt_pop (pv 5)) pa_nil)))))) (pg_tup rfl (pgs_cons (pg_name (i := 6) sc_told_table.nd rfl (by first | exact .inl rfl | exact .inr rfl)) (pgs_cons (pg_name (i := 7) sc_told_table.nd rfl (by first | exact .inl rfl | exact .inr rfl)) pgs_nil))) (pss_one (ps_if (pt_cmpR (op_notInN (hu64 hr)) (pv 7) (pv 4) rfl) (pss_cons (ps_asg pe_bl (pg_sub (pv 4) (pv 7) (set_dn (hu64 hr))))
      (pss_one (ps_expr (pe_bm PySem.F.plainAttrs_list PySem.F.slot_list_append PySem.F.type_list_append mt_append (pv 5) (pa_cons (pv 7) pa_nil))))) pss_nil)))))
      (pss_one (ps_ret (pe_tupleOf (by rfl) T.tuple (pe_callB (cr_sortedN (hu64 hr) rfl) (by rfl) T.sorted (by decide +kernel) (pa_cons (pv 4) pa_nil)))))))))), ?_⟩
    refine set_go (K := K) (ev_call (ea_cons (ev_var rfl hx) ea_nil) (g_ops wf)) (.refl H) fun v2 H1 x1 _ h2 => ?_
    refine set_go (K := K) (ev_call (ea_cons (ev_var rfl (hx.ext x1)) ea_nil) (g_pos0 wf)) (.refl H1) fun v3 H2 x2 _ h3 => ?_
    obtain ⟨a, rfl, h3a⟩ := dp_tag h3
    have x12 := x1.trans x2
    have hx2 := hx.ext x12
    have hy2 := h2.ext x2
    have r0 := reach0 h
    -- found = {first: True}
    refine fun fd nfd => ⟨.ref a, rfl, a, kPos ([], firstsM h.objs), rfl, upd_same, h3a.ext (.new nfd), kPos_kn _, fun H3 e3 hd3 _ => ?_⟩
    have x23 : Ext H2 H3 := (Ext.new nfd).glue nfd e3
    -- waiting = [first]
    refine ⟨.ref a, rfl, by show 1 ≤ sizeLine; exact line_of (by decide), fun wt nwt => ?_⟩
    have x24 : Ext H2 (upd H3 wt (.lst [.ref a])) := x23.trans (.new nwt)
    have nwt2 : H2 wt = none := x23.free nwt
    have nfw : fd ≠ wt := fun z => by
      obtain ⟨xs, e, _⟩ := hd3
      rw [z, nwt] at e
      cases e
    refine ⟨fun mm σ H' => ∃ (y6 y7 : Option V) (ks : List NestedKey) (ws : List Ps) (acc : List V), σ = [some x, some (.str m.str), some v2, some (.ref a), some (.ref fd), some (.ref wt), y6, y7] ∧ Ext H2 H' ∧ DN P w K H' fd ks ∧ KeysOk h ks ∧ H' wt = some (.lst acc) ∧ DpAll K H' acc (ws.map dPos) ∧ (∀ p ∈ ws, Reach h p) ∧ ws.length ≤ ks.length ∧ mm = 2 * (990000 - ks.length) + ws.length,
      ⟨_, none, none, [kPos ([], firstsM h.objs)], [([], firstsM h.objs)], [.ref a], rfl, x24, hd3.ext (.new nwt), ⟨List.pairwise_singleton _ _, fun k hk => ⟨_, r0, List.mem_singleton.mp hk⟩⟩, upd_same, .cons (h3.ext x24) .nil, fun p hp => by rw [List.mem_singleton.mp hp]; exact r0, Nat.le_refl _, rfl⟩, fun mm σ H' hW => ?_⟩
    obtain ⟨y6, y7, ks, ws, acc, rfl, xe, hdn, hko, hwt, hacc, hws, hle, rfl⟩ := hW
    have hfew := hko.few wf
    have hal := da_len hacc
    rw [List.length_map] at hal
    refine ⟨.ref wt, rfl, !acc.isEmpty, .inl ⟨acc, .of hwt, rfl⟩, ?_⟩
    cases hemp : acc.isEmpty with
    | true =>
      show if (!true) = true then _ else _
      rw [if_neg (by decide)]
      refine ⟨.ref fd, rfl, fd, ks, rfl, hdn, ?_, ?_, ?_, line_of (by omega), fun p5 ys np5 _ => ?_⟩
      · intro d1 hd1 d2 hd2
        obtain ⟨k1, hk1, rfl⟩ := List.mem_map.mp hd1
        obtain ⟨k2, hk2, rfl⟩ := List.mem_map.mp hd2
        obtain ⟨q1, r1, rfl⟩ := hko.ps k1 hk1
        obtain ⟨q2, r2, rfl⟩ := hko.ps k2 hk2
        rw [kPos_data, kPos_data]
        exact alike_pos wf r1 r2
      · intro k hk
        obtain ⟨q1, r1, rfl⟩ := hko.ps k hk
        rw [kPos_data]
        exact ⟨_, _, rfl⟩
      · intro k hk
        obtain ⟨q1, r1, rfl⟩ := hko.ps k hk
        rw [kPos_data]
        exact depth_pos q1
      · exact .inl ⟨p5, ys, rfl, .of upd_same, fun p6 np6 => q _ _ ((x12.trans xe).trans ((Ext.new np5).trans (.new np6)))⟩
    | false =>
      show if (!false) = true then _ else _
      rw [if_pos (by decide)]
      have hne : ws ≠ [] := fun z => by
        rw [z] at hacc
        rw [da_nil hacc] at hemp
        cases hemp
      -- the last one
      obtain ⟨ws', p, rfl⟩ : ∃ ws' p, ws = ws' ++ [p] := ⟨ws.dropLast, ws.getLast hne, (List.dropLast_concat_getLast hne).symm⟩
      rw [List.length_append] at hle hal
      have hle : ws'.length + 1 ≤ ks.length := hle
      have hal : acc.length = ws'.length + 1 := hal
      have hdl : DpAll K H' acc.dropLast (ws'.map dPos) := by
        have := da_take ws'.length hacc
        rw [List.map_append, List.take_left' (by rw [List.length_map])] at this
        have e : acc.dropLast = acc.take ws'.length := by rw [List.dropLast_eq_take, hal]; rfl
        rw [e]
        exact this
      obtain ⟨u, hu, hup⟩ := da_get (i := ws'.length) (d := dPos p) hacc (by rw [List.map_append, List.getElem?_append_right (by rw [List.length_map]; exact Nat.le_refl _), List.length_map, Nat.sub_self]; rfl)
      have hu' : acc[acc.length - 1]? = some u := by rw [hal]; exact hu
      have rp := hws p (List.mem_append_right _ (List.mem_singleton.mpr rfl))
      have nwt' : H' wt = some (.lst acc) := hwt
      refine ⟨fun σ2 H2' => ∃ m', m' < 2 * (990000 - ks.length) + (ws' ++ [p]).length ∧ ∃ (y6 y7 : Option V) (ks : List NestedKey) (ws : List Ps) (acc : List V), σ2 = [some x, some (.str m.str), some v2, some (.ref a), some (.ref fd), some (.ref wt), y6, y7] ∧ Ext H2 H2' ∧ DN P w K H2' fd ks ∧ KeysOk h ks ∧ H2' wt = some (.lst acc) ∧ DpAll K H2' acc (ws.map dPos) ∧ (∀ p ∈ ws, Reach h p) ∧ ws.length ≤ ks.length ∧ m' = 2 * (990000 - ks.length) + ws.length, fun σ' H'' hN => hN, ?_⟩
      -- moves(.., waiting.pop())
      have eB : ExtB wt H' (upd H' wt (.lst acc.dropLast)) := extB_upd
      have iL : IsL (H' wt) := ⟨acc, hwt⟩
      have xe5 : Ext H2 (upd H' wt (.lst acc.dropLast)) := xe.mut nwt2
      have hup5 := hup.extL (noL_pos p) eB iL
      refine ⟨x, rfl, v2, rfl, .str m.str, rfl, .ref wt, rfl, .inl ⟨rfl, acc, .of hwt⟩, wt, acc, u, rfl, rfl, hwt, hu', h, m, p, x, v2, u, rfl, hx2.ext xe5, wf, hy2.ext xe5, hup5, rp.ok wf, hT.ext (x12.trans xe5), fun mv mvs H6 x6 nmv hmv hmvs => ?_⟩
      have xe6 := xe5.trans x6
      have hdn6 := (hdn.extL eB iL).ext x6
      have hwt6 : H6 wt = some (.lst acc.dropLast) := x6.lst upd_same
      have hdl6 := (hdl.extL (noLs_map fun p _ => noL_pos p) eB iL).ext x6
      have nmw : mv ≠ wt := fun z => by rw [z, upd_same] at nmv; cases nmv
      obtain ⟨ms, hms⟩ : ∃ ms, movesM h.objs (opsM h.evs) m p = ms := ⟨_, rfl⟩
      rw [hms] at hmvs
      have hml := da_len hmvs
      rw [List.length_map] at hml
      refine ⟨mv, rfl, ⟨mvs, .of hmv⟩, for_it walk_list (G := fun H' => SqL K H' mv mvs)
        (fun i σ H' => ∃ (y6 y7 : Option V) (ks2 : List NestedKey) (ws2 : List Ps) (acc2 : List V), σ = [some x, some (.str m.str), some v2, some (.ref a), some (.ref fd), some (.ref wt), y6, y7] ∧ Ext H2 H' ∧ DN P w K H' fd ks2 ∧ KeysOk h ks2 ∧ H' wt = some (.lst acc2) ∧ DpAll K H' acc2 (ws2.map dPos) ∧ (∀ p ∈ ws2, Reach h p) ∧ ws2.length ≤ ks2.length ∧ H' mv = some (.lst mvs) ∧ DpAll K H' mvs (ms.map dMove) ∧ 2 * (990000 - ks2.length) + ws2.length < 2 * (990000 - ks.length) + (ws' ++ [p]).length)
        ⟨_, _, ks, ws', acc.dropLast, rfl, xe6, hdn6, hko, hwt6, hdl6, fun p' hp' => hws p' (List.mem_append_left _ hp'), by omega, hmv, hmvs, by rw [List.length_append]; show _ < _ + (_ + 1); omega⟩ (fun i σ' H' _ pv => ?_) (fun i u σ' H7 H8 hi pv hu => ?_) fun σ' H' pv => ?_⟩
      · obtain ⟨_, _, _, _, _, _, _, _, _, _, _, _, _, e, _⟩ := pv
        exact .of e
      · obtain ⟨y6, y7, ks2, ws2, acc2, rfl, x7, hdn7, hko7, hwt7, hacc7, hws7, hle7, hmv7, hmvs7, hlt7⟩ := pv
        obtain ⟨rfl, hu⟩ := hu
        have hlt' : i < ms.length := by rw [← hml]; exact hi
        obtain ⟨dd, hdd, hud⟩ := da_at hmvs7 hu
        rw [List.getElem?_map, List.getElem?_eq_getElem hlt'] at hdd
        cases hdd
        have hmi : ms[i]? = some ms[i] := List.getElem?_eq_getElem hlt'
        generalize ms[i] = b at hud hmi
        have sb : StepOk h.objs (opsM h.evs) m p b := mem_moves.mp (by rw [hms]; exact List.mem_of_getElem? hmi)
        have rb := rp.next sb
        obtain ⟨T1, xs1, rfl, k1, k2⟩ := dp_tup hud
        obtain ⟨w1, xs1, rfl, k3, k2⟩ := da_cons k2
        obtain ⟨w2, xs1, rfl, k4, k2⟩ := da_cons k2
        have := da_nil k2
        subst this
        obtain ⟨b2, rfl, k4a⟩ := dp_tag k4
        refine ⟨T1, _, rfl, k1, rfl, w1, _, rfl, .ref b2, _, rfl, rfl, ?_⟩
        refine ⟨.ref b2, rfl, .ref fd, rfl, b2, fd, kPos b.2, ks2, rfl, rfl, k4a, kPos_kn _, hdn7, _, rfl, ite2 (fun hin => ?_) fun hin => ?_⟩
        · have hnin : kPos b.2 ∉ ks2 := by simpa using hin
          have hfew7 := hko7.few wf
          have hput := hko7.put rb
          have hfewp := hput.few wf
          rw [if_neg hnin] at hput hfewp
          rw [List.length_append] at hfewp
          have hfewp : ks2.length + 1 ≤ 990000 := hfewp
          -- found[later] = True
          refine ⟨.ref fd, rfl, .ref b2, rfl, b2, fd, kPos b.2, ks2, rfl, rfl, k4a, kPos_kn _, hdn7, line_lt (by omega), fun H9 e9 hdn9 same9 => ?_⟩
          rw [if_neg hnin] at hdn9
          have hsq := hdn7.noSeq
          have nfd2 : H2 fd = none := nfd
          have x9 : Ext H2 H9 := x7.glue nfd2 e9
          have hwt9 : H9 wt = some (.lst acc2) := (same9 wt nfw.symm).trans hwt7
          have nmf : mv ≠ fd := fun z => by
            obtain ⟨xs, e, _⟩ := hdn7
            rw [← z, hmv7] at e
            unfold dnO at e
            cases e
          have hmv9 : H9 mv = some (.lst mvs) := (same9 mv nmf).trans hmv7
          have hacc9 : DpAll K H9 acc2 (ws2.map dPos) := dpAll_monoB e9 hsq _ _ hacc7
          have hmvs9 : DpAll K H9 mvs (ms.map dMove) := dpAll_monoB e9 hsq _ _ hmvs7
          have k49 := k4.extB e9 hsq
          have hal9 := da_len hacc9
          rw [List.length_map] at hal9
          -- waiting.append(later)
          refine app_go (K := K) (d := dPos b.2) rfl hwt9 (by omega) (ev_var rfl k49) fun v H10 x10 hv hwt10 => ?_
          have iL2 : IsL (H10 wt) := ⟨acc2, hwt10⟩
          refine ⟨_, _, ks2 ++ [kPos b.2], ws2 ++ [b.2], acc2 ++ [v], rfl, (x9.trans x10).mut nwt2, (hdn9.ext x10).extL extB_upd iL2, hput, upd_same, ?_, fun p' hp' => ?_, ?_, (upd_ne nmw).trans (x10.lst hmv9), (hmvs9.ext x10).extL (noLs_map fun x _ => noL_move x) extB_upd iL2, ?_⟩
          · rw [List.map_append]
            exact da_append ((hacc9.ext x10).extL (noLs_map fun p _ => noL_pos p) extB_upd iL2) (da_one (hv.extL (noL_pos _) extB_upd iL2))
          · rcases List.mem_append.mp hp' with z | z
            · exact hws7 p' z
            · rw [List.mem_singleton.mp z]; exact rb
          · rw [List.length_append, List.length_append]; show _ + 1 ≤ _ + 1; omega
          · rw [List.length_append, List.length_append]; show 2 * (990000 - (_ + 1)) + (_ + 1) < _; omega
        · exact ⟨_, _, ks2, ws2, acc2, rfl, x7, hdn7, hko7, hwt7, hacc7, hws7, hle7, hmv7, hmvs7, hlt7⟩
      · obtain ⟨y6, y7, ks2, ws2, acc2, rfl, x7, hdn7, hko7, hwt7, hacc7, hws7, hle7, hmv7, hmvs7, hlt7⟩ := pv
        exact ⟨_, hlt7, y6, y7, ks2, ws2, acc2, rfl, x7, hdn7, hko7, hwt7, hacc7, hws7, hle7, rfl⟩
end
end K22

-- W6
set_option maxHeartbeats 4000000
/-! Walks: find, fits, the endings. -/
namespace K22
open PySem PySem.Spec PyProof.Rows L2
section
variable {P : Program} {w : World} {K : PySem.W.Frag} {mg : Str → Option Value} {base : Heap}
/-- what find tells: an order, or a table (of which no more is known) -/
def RetF (K : PySem.W.Frag) (o : Option (List Nat)) (H : Hp) (Q : VK) : Prop := ∀ a xs H', Ext H H' → SqT K H' a xs → (∀ l, o = some l → DpAll K H' xs [.str "order", dNats l]) → (o = none → ∃ u, xs = [.str "table", u]) → Q (.ref a) H'
def spFind (K : PySem.W.Frag) (P1 P2 : Addr) : Sp := fun vs H Q _ => ∃ (h : Hist) (m : Mdl) (x : V), vs = [x, .str m.str] ∧ Dp K H x (dHist h) ∧ Wf h ∧ TabG H P1 ∧ TabG H P2 ∧ RetF K (findM h m) H Q
theorem w_find {code P1 P2 : Addr} (D : DF K mg "find" s_find code) (T : Bn mg) (c_operations : C8.Cal P w K mg base 2 "operations" (spOps K) []) (c_first_position : C8.Cal P w K mg base 3 "first_position" (spPos0 K) []) (c_told_table : C8.Cal P w K mg base 6 "told_table" (spTold K P1) [])
    (c_order_from : C8.Cal P w K mg base 16 "order_from" (spFrom P w K P1 P2 10) []) : C8.Cal P w K mg base 17 "find" (spFind K P1 P2) [] := by
  refine calD D sc_find (fun _ _ _ _ _ _ us hl => match us, hl with | [_, _], _ => rfl) (fun vs H Q E h => ?_) (fun fa A outer s H vs Q E hr h => ?_)
  · obtain ⟨h, m, x, rfl, _⟩ := h; rfl
  · obtain ⟨h, m, x, rfl, hx, wf, t1, t2, q⟩ := h
    refine ⟨_, (pss_cons (ps_set (i := 2) sc_find.nd rfl (by first | exact .inl rfl | exact .inr rfl) (C8.pe_c c_order_from hr (by first | decide | omega) (by rfl) (pa_cons (pv 0) (pa_cons (C8.pe_c c_operations hr (by first | decide | omega) (by rfl) (pa_cons (pv 0) pa_nil)) (pa_cons (pv 1) (pa_cons (C8.pe_c c_first_position hr (by first | decide | omega) (by rfl) (pa_cons (pv 0) pa_nil)) (pa_cons pe_dnewN pa_nil)))))))
      (pss_cons (ps_if (pt_cmp (pc_isN (pv 2))) (pss_one (ps_ret (pe_tup (pa_cons pe_str (pa_cons (C8.pe_c c_told_table hr (by first | decide | omega) (by rfl) (pa_cons (pv 0) (pa_cons (pv 1) pa_nil))) pa_nil))))) pss_nil)
      (pss_one (ps_ret (pe_tup (pa_cons pe_str (pa_cons (pv 2) pa_nil))))))), ?_⟩
    have h9 := wf.ops
    refine ⟨x, rfl, EvD.go (K := K) (ev_call (ea_cons (ev_var rfl hx) ea_nil) (g_ops wf)) fun v1 H1 x1 h1 => ⟨.str m.str, rfl, EvD.go (K := K) (ev_call (ea_cons (ev_var rfl (hx.ext x1)) ea_nil) (g_pos0 wf)) fun v2 H2 x2 h2 => fun d nd => ?_⟩⟩
    have x12 := x1.trans x2
    have x13 := x12.trans (Ext.new (o := dnO P w d []) nd)
    refine ⟨h, m, ([], firstsM h.objs), x, v1, v2, d, [], rfl, hx.ext x13, wf, h1.ext (x2.trans (.new nd)), h2.ext (.new nd), reach0 h, by show (opsM h.evs).length - 0 < 10; omega, t1.ext x13, t2.ext x13, DN.new, ⟨List.nodup_nil, fun k hk => by cases hk⟩, (fun q hq hk => by cases hk), fun v H3 ks' e3 hd3 _ _ hv => ?_⟩
    have x3 : Ext H2 H3 := (Ext.new nd).glue nd e3
    have x13 := x12.trans x3
    have hv : Dp K H3 v (dOrd (findM h m)) := hv
    cases ho : findM h m with
    | none =>
      rw [ho] at hv q
      cases hv
      refine ⟨_, rfl, _, rfl, ?_⟩
      show if decide (V.non = V.non) = true then _ else _
      rw [if_pos (by decide)]
      refine ⟨x, rfl, .str m.str, rfl, h, m, x, rfl, hx.ext x13, wf, t1.ext x13, fun v H4 x4 => ⟨by show 2 ≤ sizeLine; exact line_of (by decide), fun p np => ?_⟩⟩
      exact q p _ _ ((x13.trans x4).trans (.new np)) (.of upd_same) (fun l e => by cases e) fun _ => ⟨v, rfl⟩
    | some o =>
      rw [ho] at hv q
      obtain ⟨ra, rfl⟩ : ∃ ra, v = .ref ra := by
        obtain ⟨ra, _, e, _⟩ := dp_tup hv
        exact ⟨ra, e⟩
      refine ⟨.ref ra, rfl, _, rfl, ?_⟩
      show if decide (V.ref ra = V.non) = true then _ else _
      rw [if_neg (by simp)]
      refine ⟨.ref ra, rfl, by show 2 ≤ sizeLine; exact line_of (by decide), fun p np => ?_⟩
      refine q p _ _ (x13.trans (.new np)) (.of upd_same) (fun l e => ?_) fun e => by cases e
      cases e
      exact .cons (.str _) (.cons (hv.ext (.new np)) .nil)
def spFits (K : PySem.W.Frag) (P1 P2 : Addr) : Sp := fun vs H Q _ => ∃ (h : Hist) (m : Mdl) (x : V), vs = [x, .str m.str] ∧ Dp K H x (dHist h) ∧ Wf h ∧ TabG H P1 ∧ TabG H P2 ∧ Ret K (.bool (findM h m).isSome) H Q
theorem g_fits {P1 P2 : Addr} {H : Hp} {h : Hist} {m : Mdl} (wf : Wf h) (t1 : TabG H P1) (t2 : TabG H P2) : Gives K (spFits K P1 P2) H [dHist h, .str m.str] (.bool (findM h m).isSome) := fun H1 e vs hv Q E q => by
  obtain ⟨v, vs, rfl, h1, hv⟩ := da_cons hv
  obtain ⟨v2, vs, rfl, h2, hv⟩ := da_cons hv
  rw [da_nil hv, dp_str h2]
  exact ⟨h, m, v, rfl, h1, wf, t1.ext e, t2.ext e, q⟩
theorem w_fits {code P1 P2 : Addr} (D : DF K mg "fits" s_fits code) (c_find : C8.Cal P w K mg base 17 "find" (spFind K P1 P2) []) : C8.Cal P w K mg base 18 "fits" (spFits K P1 P2) [] := by
  refine calD D sc_fits (fun _ _ _ _ _ _ us hl => match us, hl with | [_, _], _ => rfl) (fun vs H Q E h => ?_) (fun fa A outer s H vs Q E hr h => ?_)
  · obtain ⟨h, m, x, rfl, _⟩ := h; rfl
  · obtain ⟨h, m, x, rfl, hx, wf, t1, t2, q⟩ := h
    refine ⟨_, (pss_one (ps_ret (pe_cmpR op_eq (pe_ix ix_tup (C8.pe_c c_find hr (by first | decide | omega) (by rfl) (pa_cons (pv 0) (pa_cons (pv 1) pa_nil))) pe_int (fun _ _ => rfl)) pe_str (nomark _)))), ?_⟩
    refine ⟨x, rfl, .str m.str, rfl, h, m, x, rfl, hx, wf, t1, t2, fun a xs H1 x1 hs h1 h2 => ?_⟩
    cases ho : findM h m with
    | none =>
      rw [ho] at q
      obtain ⟨u, rfl⟩ := h2 ho
      refine ⟨a, _, 0, .str "table", rfl, rfl, hs, rfl, rfl, ?_⟩
      have e : decide (V.str "table" = V.str "order") = false := by decide
      rw [e]
      exact q _ H1 x1 (.bl _)
    | some o =>
      rw [ho] at q
      obtain ⟨y, ys, rfl, hy, hys⟩ := da_cons (h1 o ho)
      have hy := dp_str hy
      subst hy
      refine ⟨a, _, 0, .str "order", rfl, rfl, hs, atI_get (i := 0) rfl, rfl, ?_⟩
      rw [decide_eq_true rfl]
      exact q _ H1 x1 (.bl _)
end
end K22

-- W7
set_option maxHeartbeats 4000000
/-! Walks: serial, is_serial, finished. -/
namespace K22
open PySem PySem.Spec PyProof.Rows L2
section
variable {P : Program} {w : World} {K : PySem.W.Frag} {mg : Str → Option Value} {base : Heap}
theorem serialE_app {l : List Op} {k : Nat} {r : KeyR} : ∀ {o : List Nat} {rs : List KeyR}, o.length = rs.length → serialE l (o ++ [k]) (rs ++ [r]) = serialE l o rs ++ [.call (opAt l k).c (opAt l k).n (opAt l k).o (opAt l k).a, .ret (opAt l k).c r]
  | [], [], _ => rfl
  | k0 :: o, r0 :: rs, h => by
    show _ :: _ :: serialE l (o ++ [k]) (rs ++ [r]) = _
    rw [serialE_app (Nat.succ.inj h)]; rfl
  | [], _ :: _, h => by cases h
  | _ :: _, [], h => by cases h
theorem asg_four {te : TE} {σ : L2.St} {H : Hp} {i j k l : Nat} {d1 d2 d3 d4 : PyData} {D : Ends} {H1 : Hp} (h : EvD K te σ H (.tuple [d1, d2, d3, d4])) (x : Ext H H1) (q : ∀ y z u v H2, Ext H H2 → Ext H1 H2 → Dp K H2 y d1 → Dp K H2 z d2 → Dp K H2 u d3 → Dp K H2 v d4 → D.nx ((((σ.set i (some y)).set j (some z)).set k (some u)).set l (some v)) H2) : tAsg te (gTup K 4 (gCons (gName i) (gCons (gName j) (gCons (gName k) (gCons (gName l) gNil))))) D σ H1 :=
  h H1 x _ fun v H2 e2 hv => by
    obtain ⟨a, xs, rfl, h1, h2⟩ := dp_tup hv
    obtain ⟨y, xs, rfl, h3, h2⟩ := da_cons h2
    obtain ⟨z, xs, rfl, h4, h2⟩ := da_cons h2
    obtain ⟨u, xs, rfl, h5, h2⟩ := da_cons h2
    obtain ⟨v, xs, rfl, h6, h2⟩ := da_cons h2
    have := da_nil h2
    subst this
    exact ⟨a, _, rfl, h1, rfl, y, _, rfl, z, _, rfl, u, _, rfl, v, _, rfl, rfl, q y z u v H2 (x.trans e2) e2 h3 h4 h5 h6⟩
theorem da_at' : ∀ {vs : List V} {ds : List PyData} {H : Hp} {i : Nat} {v : V}, DpAll K H vs ds → vs[i]? = some v → ∃ d, ds[i]? = some d ∧ Dp K H v d
  | [], _, _, _, _, _, h => by simp at h
  | a :: vs, ds, H, i, v, hd, h => by
    cases hd with
    | cons h1 h2 =>
      cases i with
      | zero => cases (Option.some.inj h); exact ⟨_, rfl, h1⟩
      | succ i => 
        have h' : vs[i]? = some v := h
        obtain ⟨d, g1, g2⟩ := da_at' h2 h'
        exact ⟨d, g1, g2⟩
def spSerial (K : PySem.W.Frag) : Sp := fun vs H Q _ => ∃ (h : Hist) (row : List Nat) (x y : V), vs = [x, y] ∧ Dp K H x (dHist h) ∧ Wf h ∧ Dp K H y (dNats row) ∧ (∀ k ∈ row, k < (opsM h.evs).length) ∧ row.length ≤ 100 ∧ Ret K (dHist (serialM h row)) H Q
theorem w_serial {code : Addr} (D : DF K mg "serial" s_serial code) (T : Bn mg) (c_operations : C8.Cal P w K mg base 2 "operations" (spOps K) []) (c_results : C8.Cal P w K mg base 5 "results" (spResults K) []) : C8.Cal P w K mg base 6 "serial" (spSerial K) [] := by
  refine calD D sc_serial (fun _ _ _ _ _ _ us hl => match us, hl with | [_, _], _ => rfl) (fun vs H Q E h => ?_) (fun f A outer s H vs Q E hr h => ?_)
  · obtain ⟨h, row, x, y, rfl, _⟩ := h; rfl
  · obtain ⟨h, row, x, y, rfl, hx, wf, hy, hrow, hl, q⟩ := h
    refine ⟨_, (pss_cons (ps_set (i := 2) sc_serial.nd rfl (by first | exact .inl rfl | exact .inr rfl) (C8.pe_c c_operations hr (by first | decide | omega) (by rfl) (pa_cons (pv 0) pa_nil)))
      (pss_cons (ps_set (i := 3) sc_serial.nd rfl (by first | exact .inl rfl | exact .inr rfl) (pe_lst pa_nil))
      (pss_cons (ps_for PassesOwn.never rfl (pi_zipM (by rfl) T.zip (pa_cons (pv 1) (pa_cons (C8.pe_c c_results hr (by first | decide | omega) (by rfl) (pa_cons (pv 0) (pa_cons (pv 1) pa_nil))) pa_nil))) (pg_tup rfl (pgs_cons (pg_name (i := 4) sc_serial.nd rfl (by first | exact .inl rfl | exact .inr rfl)) (pgs_cons (pg_name (i := 5) sc_serial.nd rfl (by first | exact .inl rfl | exact .inr rfl)) pgs_nil))) (pss_cons (ps_asg (pe_slice slD (pe_ix ixD (pv 2) (pv 4) (fun _ _ => rfl)) po_none (po_some pe_int)) (pg_tup rfl (pgs_cons (pg_name (i := 6) sc_serial.nd rfl (by first | exact .inl rfl | exact .inr rfl)) (pgs_cons (pg_name (i := 7) sc_serial.nd rfl (by first | exact .inl rfl | exact .inr rfl)) (pgs_cons (pg_name (i := 8) sc_serial.nd rfl (by first | exact .inl rfl | exact .inr rfl)) (pgs_cons (pg_name (i := 9) sc_serial.nd rfl (by first | exact .inl rfl | exact .inr rfl)) pgs_nil))))))
      (pss_cons (ps_expr (pe_bm PySem.F.plainAttrs_list PySem.F.slot_list_append PySem.F.type_list_append mt_append (pv 3) (pa_cons (pe_tup (pa_cons pe_str (pa_cons (pv 6) (pa_cons (pv 7) (pa_cons (pv 8) (pa_cons (pv 9) pa_nil)))))) pa_nil)))
      (pss_one (ps_expr (pe_bm PySem.F.plainAttrs_list PySem.F.slot_list_append PySem.F.type_list_append mt_append (pv 3) (pa_cons (pe_tup (pa_cons pe_str (pa_cons (pv 6) (pa_cons (pv 5) pa_nil)))) pa_nil)))))))
      (pss_one (ps_ret (pe_tup (pa_cons (pe_ix ixD (pv 0) pe_int (fun _ _ => rfl)) (pa_cons (pe_tupleOf (by rfl) T.tuple (pv 3)) pa_nil)))))))), ?_⟩
    refine set_go (K := K) (ev_call (ea_cons (ev_var rfl hx) ea_nil) (g_ops wf)) (.refl H) fun v1 H2 x2 _ h1 => ?_
    refine ⟨Nat.zero_le _, fun fo nf => ?_⟩
    have hx2 := hx.ext x2
    have hy2 := hy.ext x2
    have e1 : Ext H2 (upd H2 fo (.lst [])) := .new nf
    refine ⟨y, rfl, x, rfl, y, rfl, h, row, x, y, rfl, hx2.ext e1, wf, hy2.ext e1, hrow, hl, fun b ys H3 e3 nb hb hys => ?_⟩
    obtain ⟨a, xs, rfl, ha, hxs⟩ := dp_tup hy2
    have hbf : b ≠ fo := fun z => by
      subst z
      rw [upd_same] at nb; cases nb
    have lx : xs.length = row.length := by rw [da_len hxs, List.length_map]
    have ly : ys.length = row.length := by rw [da_len hys, List.length_map, resM_len]
    have e23 := e1.trans e3
    refine ⟨a, b, xs, ys, rfl, e23.seqT ha, .inl (.inl hb), for_it (walk_zipM lx ly) (fun i σ H' => ∃ y4 y5 y6 y7 y8 y9 acc, σ = [some x, some (.ref a), some v1, some (.ref fo), y4, y5, y6, y7, y8, y9] ∧ Ext H2 H' ∧ H' b = some (.lst ys) ∧ H' fo = some (.lst acc) ∧ acc.length = 2 * i ∧ DpAll K H' acc ((serialE (opsM h.evs) (row.take i) ((resM h row).take i)).map dEv))
      ⟨none, none, none, none, none, none, [], rfl, e23, hb, e3.lst upd_same, rfl, .nil⟩ (fun i σ' H' hi p => ?_) (fun i u σ' H4 H5 hi p hu => ?_) fun σ' H' p => ?_⟩
    · obtain ⟨_, _, _, _, _, _, _, _, e, hb', _⟩ := p
      exact ⟨e.seqT ha, .inl (.inl hb')⟩
    · obtain ⟨y4, y5, y6, y7, y8, y9, acc, rfl, e4, hb4, hfo, hal, hacc⟩ := p
      obtain ⟨Tp, uk, ur, rfl, nT, rfl, huk, hur⟩ := hu
      have hri : row[i]? = some row[i] := List.getElem?_eq_getElem hi
      obtain ⟨dk, hdk, vk⟩ := da_at' hxs huk
      obtain ⟨dr, hdr, vr⟩ := da_at' hys hur
      have hlr : i < (resM h row).length := by rw [resM_len]; exact hi
      have hrs : (resM h row)[i]? = some (resM h row)[i] := List.getElem?_eq_getElem hlr
      rw [List.getElem?_map, hri] at hdk
      rw [List.getElem?_map, hrs] at hdr
      cases hdk
      cases hdr
      have tk : row.take (i + 1) = row.take i ++ [row[i]] := by rw [List.take_add_one, hri]; rfl
      have tr : (resM h row).take (i + 1) = (resM h row).take i ++ [(resM h row)[i]] := by rw [List.take_add_one, hrs]; rfl
      have hkk := hrow _ (List.mem_of_getElem? hri)
      generalize row[i] = k at hkk vk tk
      generalize (resM h row)[i] = r at vr tr
      have hvk := dp_int vk
      subst hvk
      obtain ⟨H5, hH5⟩ : ∃ H5, H5 = upd H4 Tp (.tup [.int ((k : Nat) : Int), ur]) := ⟨_, rfl⟩
      have x5 : Ext H4 H5 := by rw [hH5]; exact .new nT
      have hT5 : H5 Tp = some (.tup [.int ((k : Nat) : Int), ur]) := by rw [hH5]; exact upd_same
      rw [← hH5]
      clear hH5
      have e5 := e4.trans x5
      refine ⟨Tp, [.int ((k : Nat) : Int), ur], rfl, .inl (.of hT5), rfl, _, _, rfl, _, _, rfl, rfl, ?_⟩
      have eop : EvD K (tOp (rIxD' K) (tVar 2) (tVar 4)) [some x, some (.ref a), some v1, some (.ref fo), some (.int ((k : Nat) : Int)), some ur, y6, y7, y8, y9] H5 (dOp (opAt (opsM h.evs) k)) := ev_ixL (i := k) (ev_var rfl (h1.ext e5)) (ev_var rfl (.int _)) (dop_get hkk)
      have hr5 : Dp K H5 ur (dKey r) := vr.ext (Ext.refl _) |> fun z => by
        cases r with
        | inl i => cases z; exact .int _
        | inr s => cases z; exact .str _
      obtain ⟨op, hop⟩ : ∃ op, opAt (opsM h.evs) k = op := ⟨_, rfl⟩
      rw [hop] at eop
      have esl : EvD K (tSl (rSlD K) (tOp (rIxD' K) (tVar 2) (tVar 4)) tNoPart (tPart (tC (.int 4)))) [some x, some (.ref a), some v1, some (.ref fo), some (.int ((k : Nat) : Int)), some ur, y6, y7, y8, y9] H5 (.tuple [.str op.c, .str op.n, .str op.o, dInts op.a]) := ev_sl (l := none) (h := some 4) eop eo_none (eo_some (K := K) (t := tC (.int 4)) ev_int)
      refine asg_four (K := K) esl (.refl H5) fun vc vn vo va H6 x6 _ hc hn ho hva => ?_
      have h9 : 2 * i < 1000 := by omega
      have hfo6 := (x5.trans x6).lst hfo
      refine app_go (K := K) (d := dEv (.call op.c op.n op.o op.a)) rfl hfo6 (by omega) (ev_tup (ea_cons ev_str (ea_cons (ev_var rfl hc) (ea_cons (ev_var rfl hn) (ea_cons (ev_var rfl ho) (ea_cons (ev_var rfl hva) ea_nil)))))) fun w1 H7 x7 hw1 hf7 => ?_
      obtain ⟨H8, hH8⟩ : ∃ H8, H8 = upd H7 fo (.lst (acc ++ [w1])) := ⟨_, rfl⟩
      have xb : ExtB fo H7 H8 := by rw [hH8]; exact extB_upd
      have hf8 : H8 fo = some (.lst (acc ++ [w1])) := by rw [hH8]; exact upd_same
      have hb8 : H8 b = some (.lst ys) := by
        rw [hH8, upd_ne hbf]
        exact (x5.trans (x6.trans x7)).lst hb4
      have e8 : Ext H2 H8 := by rw [hH8]; exact ((e5.trans x6).trans x7).mut nf
      have hL7 : IsL (H7 fo) := ⟨acc, hf7⟩
      have hc8 := dp_str (hc.ext x7)
      subst hc8
      rw [← hH8]
      clear hH8
      have hr8 : Dp K H8 ur (dKey r) := by
        cases r with
        | inl i => cases hr5; exact .int _
        | inr s => cases hr5; exact .str _
      refine app_go (K := K) (d := dEv (.ret op.c r)) rfl hf8 (by rw [List.length_append]; show acc.length + 1 < _; omega) (ev_tup (ea_cons ev_str (ea_cons (ev_var rfl (.str _)) (ea_cons (ev_var rfl hr8) ea_nil)))) fun w2 H9 x9 hw2 hf9 => ?_
      refine ⟨_, _, _, _, _, _, (acc ++ [w1]) ++ [w2], rfl, (e8.trans x9).mut nf, by rw [upd_ne hbf]; exact x9.lst hb8, upd_same, by simp only [List.length_append, List.length_cons, List.length_nil]; omega, ?_⟩
      rw [tk, tr, serialE_app (by rw [List.length_take, List.length_take, resM_len]), List.map_append, hop]
      have hL9 : IsL (H9 fo) := ⟨_, hf9⟩
      have ha8 : DpAll K H8 (acc ++ [w1]) ((serialE (opsM h.evs) (row.take i) ((resM h row).take i)).map dEv ++ [dEv (.call op.c op.n op.o op.a)]) := da_append ((hacc.ext (x5.trans (x6.trans x7))).extL (noLs_map fun e _ => noL_ev e) xb hL7) (da_one (hw1.extL (noL_ev _) xb hL7))
      have ha9 := da_append ((ha8.ext x9).extL (d := fo) (H' := upd H9 fo (.lst ((acc ++ [w1]) ++ [w2]))) (by
        have := noLs_map (f := dEv) (l := serialE (opsM h.evs) (row.take i) ((resM h row).take i) ++ [.call op.c op.n op.o op.a]) fun e _ => noL_ev e
        rw [List.map_append] at this
        exact this) extB_upd hL9) (da_one (hw2.extL (d := fo) (H' := upd H9 fo (.lst ((acc ++ [w1]) ++ [w2]))) (noL_ev _) extB_upd hL9))
      rw [show List.map dEv [Ev.call op.c op.n op.o op.a, Ev.ret op.c r] = [dEv (.call op.c op.n op.o op.a)] ++ [dEv (.ret op.c r)] from rfl, ← List.append_assoc]
      exact ha9
    · obtain ⟨y4, y5, y6, y7, y8, y9, acc, rfl, e4, hb4, hfo, hal, hacc⟩ := p
      rw [List.take_length, ← resM_len h row, List.take_length] at hacc
      have hE : Ext H H' := x2.trans e4
      refine (ev_tup (ea_cons (ev_ix (i := 0) (ev_var rfl (hx2.ext e4)) ev_int rfl) (ea_cons (ev_tuple (ev_var rfl (.lst (.of hfo) hacc))) ea_nil))).ret (fun v' H6 e6 hv' => q v' H6 (hE.trans e6) hv') (.refl H')
theorem g_serial {H : Hp} {h : Hist} {row : List Nat} (wf : Wf h) (hr : ∀ k ∈ row, k < (opsM h.evs).length) (hl : row.length ≤ 100) : Gives K (spSerial K) H [dHist h, dNats row] (dHist (serialM h row)) := fun H1 e vs hv Q E q => by
  obtain ⟨v, vs, rfl, h1, hv⟩ := da_cons hv
  obtain ⟨v2, vs, rfl, h2, hv⟩ := da_cons hv
  rw [da_nil hv]
  exact ⟨h, row, v, v2, rfl, h1, wf, h2, hr, hl, q⟩
/-- call, return, call, return -/
def SerEv (es : List Ev) (m : Nat) : Prop := ∀ j, j < m → ∃ c n o a r, es[2 * j]? = some (.call c n o a) ∧ es[2 * j + 1]? = some (.ret c r)
def spIsSerial (K : PySem.W.Frag) : Sp := fun vs H Q _ => ∃ (h : Hist) (m : Nat) (x : V), vs = [x] ∧ Dp K H x (dHist h) ∧ h.evs.length = 2 * m ∧ m < 10 ∧ SerEv h.evs m ∧ Ret K (.bool true) H Q
theorem g_is_serial {H : Hp} {h : Hist} {m : Nat} (hl : h.evs.length = 2 * m) (hm : m < 10) (hs : SerEv h.evs m) : Gives K (spIsSerial K) H [dHist h] (.bool true) := fun H1 e vs hv Q E q => by
  obtain ⟨v, vs, rfl, h1, hv⟩ := da_cons hv
  rw [da_nil hv]
  exact ⟨h, m, v, rfl, h1, hl, hm, hs, q⟩
theorem eb_neS' {ta tb : TE} {σ : L2.St} {H : Hp} {a : Str} (ha : EvD K ta σ H (.str a)) (hb : EvD K tb σ H (.str a)) : EvB (tTest (tOp rNe ta tb)) σ H false := by
  have := eb_neS ha hb
  rw [decide_eq_true rfl] at this
  exact this
theorem rg2 : ∀ m, m < 10 → RgC 0 ((2 * m : Nat) : Int) 2 m := by unfold RgC; decide +kernel
theorem w_is_serial {code : Addr} (D : DF K mg "is_serial" s_is_serial code) (T : Bn mg) : C8.Cal P w K mg base 1 "is_serial" (spIsSerial K) [] := by
  refine calD D sc_is_serial (fun _ _ _ _ _ _ us hl => match us, hl with | [_], _ => rfl) (fun vs H Q E h => ?_) (fun f A outer s H vs Q E hr h => ?_)
  · obtain ⟨h, m, x, rfl, _⟩ := h; rfl
  · obtain ⟨h, m, x, rfl, hx, hl, hm, hs, q⟩ := h
    refine ⟨_, (pss_cons (ps_set (i := 1) sc_is_serial.nd rfl (by first | exact .inl rfl | exact .inr rfl) (pe_ix ixD (pv 0) pe_int (fun _ _ => rfl)))
      (pss_cons (ps_for PassesOwn.never rfl (pi_range3 (by rfl) T.range (pa_cons pe_int (pa_cons (pe_callB lenD (by rfl) T.len PySem.boot_len (pa_cons (pv 1) pa_nil)) (pa_cons pe_int pa_nil)))) (pg_name (i := 2) sc_is_serial.nd rfl (by first | exact .inl rfl | exact .inr rfl)) (pss_cons (ps_if (pt_cmpR op_ne (pe_ix ixD (pe_ix ixD (pv 1) (pv 2) (fun _ _ => rfl)) pe_int (fun _ _ => rfl)) pe_str (nomark _)) (pss_one (ps_ret pe_bl)) pss_nil)
      (pss_one (ps_if (PW.pt (pw_and (pt_cmpR op_lt (pe_op op_add (pv 2) pe_int) (pe_callB lenD (by rfl) T.len PySem.boot_len (pa_cons (pv 1) pa_nil)) (nomark _)) (pw_and1 (PW.pt (pw_or (pt_cmpR op_ne (pe_ix ixD (pe_ix ixD (pv 1) (pe_op op_add (pv 2) pe_int) (fun _ _ => rfl)) pe_int (fun _ _ => rfl)) pe_str (nomark _)) (pw_or1 (pt_cmpR op_ne (pe_ix ixD (pe_ix ixD (pv 1) (pe_op op_add (pv 2) pe_int) (fun _ _ => rfl)) pe_int (fun _ _ => rfl)) (pe_ix ixD (pe_ix ixD (pv 1) (pv 2) (fun _ _ => rfl)) pe_int (fun _ _ => rfl)) (nomark _)))))))) (pss_one (ps_ret pe_bl)) pss_nil))))
      (pss_one (ps_ret pe_bl)))), ?_⟩
    refine set_go (K := K) (es_evs (h := h) rfl hx).ev (.refl H) fun v1 H1 x1 _ h1 => ?_
    refine ⟨v1, rfl, v1, _, rfl, .inl h1, 0, ((2 * m : Nat) : Int), 2, m, by rw [List.length_map, hl], rg2 m hm, ?_⟩
    refine for_it walk_rangeC (fun i σ H' => ∃ y2, σ = [some x, some v1, y2] ∧ Ext H1 H') ⟨none, rfl, .refl H1⟩ (fun _ _ _ _ _ => trivial) (fun i u σ' H3 H4 hi p hu => ?_) fun σ' H' p => ?_
    · obtain ⟨y2, rfl, e3⟩ := p
      obtain ⟨rfl, rfl⟩ := hu
      obtain ⟨c, n, o, a, r, s1, s2⟩ := hs i hi
      have hi0 : (0 : Int) + (i : Nat) * 2 = ((2 * i : Nat) : Int) := by omega
      show gName 2 (V.int (0 + (i : Nat) * 2)) _ _ _
      rw [hi0]
      have h13 := h1.ext e3
      have he : ∀ H', Ext H4 H' → EvD K (tOp (rIxD' K) (tVar 1) (tVar 2)) [some x, some v1, some (.int ((2 * i : Nat) : Int))] H' (dEv (.call c n o a)) := fun H' e => ev_ix (i := 2 * i) (ev_var rfl (h13.ext e)) (ev_var rfl (.int _)) (by rw [List.getElem?_map, s1]; rfl)
      have hp1 : ∀ H', EvD K (tOp (rI0 fun i j => V.int (i + j)) (tVar 2) (tC (V.int 1))) [some x, some v1, some (.int ((2 * i : Nat) : Int))] H' (.int ((2 * i + 1 : Nat) : Int)) := fun H' => ev_add (i := ((2 * i : Nat) : Int)) (j := 1) (ev_var rfl (.int _)) ev_int
      have he2 : ∀ H', Ext H4 H' → EvD K (tOp (rIxD' K) (tVar 1) (tOp (rI0 fun i j => V.int (i + j)) (tVar 2) (tC (V.int 1)))) [some x, some v1, some (.int ((2 * i : Nat) : Int))] H' (dEv (.ret c r)) := fun H' e => ev_ix (i := 2 * i + 1) (ev_var rfl (h13.ext e)) (hp1 H') (by rw [List.getElem?_map, s2]; rfl)
      refine if_go (eb_neS (K := K) (a := "call") (b := "call") (ev_ix (i := 0) (he H4 (.refl _)) ev_int rfl) ev_str) (.refl H4) (fun h => absurd h (by decide)) fun _ H5 x5 _ => ?_
      refine if_go (b := decide (((2 * i + 1 : Nat) : Int) < ((2 * m : Nat) : Int)) && (false || false)) (eb_and (eb_lt (hp1 H5) (by
        have := ev_len (K := K) (σ := [some x, some v1, some (.int ((2 * i : Nat) : Int))]) (ea_cons (ev_var (i := 1) rfl (h13.ext x5)) ea_nil)
        rw [List.length_map, hl] at this
        exact this)) fun _ => eb_or (eb_neS (K := K) (a := "return") (b := "return") (ev_ix (i := 0) (he2 H5 x5) ev_int rfl) ev_str) fun _ => eb_neS' (K := K) (a := c) (ev_ix (i := 1) (he2 H5 x5) ev_int rfl) (ev_ix (i := 1) (he H5 x5) ev_int rfl)) (.refl H5) (fun h => ?_) fun _ H6 x6 _ => ?_
      · rw [Bool.or_false, Bool.and_false] at h
        cases h
      · exact ⟨_, rfl, (e3.trans x5).trans x6⟩
    · obtain ⟨y2, rfl, e3⟩ := p
      exact q _ H' (x1.trans e3) (.bl _)
end
end K22

-- W8
set_option maxHeartbeats 4000000
/-! Walks: finished. -/
namespace K22
open PySem PySem.Spec PyProof.Rows L2
section
variable {P : Program} {w : World} {K : PySem.W.Frag} {mg : Str → Option Value} {base : Heap}
theorem fm_if {α β : Type} (p : α → Bool) (g : α → β) : ∀ l : List α, l.filterMap (fun i => if p i = true then some (g i) else none) = (l.filter p).map g
  | [] => rfl
  | a :: l => by
    rw [List.filterMap_cons, List.filter_cons, fm_if p g l]
    cases p a <;> rfl
theorem dp_keyAny {H H' : Hp} {v : V} {r : KeyR} (h : Dp K H v (dKey r)) : Dp K H' v (dKey r) := by
  cases r with
  | inl i => cases h; exact .int _
  | inr s => cases h; exact .str _
theorem resOf_cons {k0 k : Nat} {r0 : KeyR} {t : List Nat} {rs : List KeyR} : resOf (k0 :: t) (r0 :: rs) k = if k0 = k then some r0 else resOf t rs k := by
  unfold resOf
  rw [List.zip_cons_cons, List.find?_cons]
  by_cases h : k0 = k
  · subst h
    rw [beq_self_eq_true, if_pos rfl]; rfl
  · have : ((k0, r0).1 == k) = false := by simpa using h
    rw [this, if_neg h]
theorem told_kv {H : Hp} : ∀ {row : List Nat} {rs : List KeyR} {ys : List V} {kvs : List (Key × V)}, row.Nodup → DpAll K H ys (rs.map dKey) → rs.length = row.length → ∀ k : Nat,
    (k ∈ row → ∃ v r, resOf row rs k = some r ∧ valV (mergeK kvs (zipK (row.map fun n => ((n : Nat) : Int)) ys)) (.inl ((k : Nat) : Int)) = some v ∧ ∀ H', Dp K H' v (dKey r)) ∧ (k ∉ row → valV (mergeK kvs (zipK (row.map fun n => ((n : Nat) : Int)) ys)) (.inl ((k : Nat) : Int)) = valV kvs (.inl ((k : Nat) : Int)))
  | [], _, _, _, _, _, _, k => ⟨(fun h => by cases h), fun _ => by unfold zipK; simp [mergeK]⟩
  | k0 :: row, [], _, _, _, _, hl, k => by cases hl
  | k0 :: row, r0 :: rs, ys, kvs, nd, hd, hl, k => by
    obtain ⟨nd1, nd2⟩ := List.nodup_cons.mp nd
    obtain ⟨v0, vs, rfl, h1, h2⟩ := da_cons hd
    have e : mergeK kvs (zipK ((k0 :: row).map fun n => ((n : Nat) : Int)) (v0 :: vs)) = mergeK (putK kvs (.inl ((k0 : Nat) : Int)) v0) (zipK (row.map fun n => ((n : Nat) : Int)) vs) := rfl
    rw [e]
    obtain ⟨i1, i2⟩ := told_kv (kvs := putK kvs (.inl ((k0 : Nat) : Int)) v0) nd2 h2 (Nat.succ.inj hl) k
    constructor
    · intro hk
      rw [resOf_cons]
      by_cases hz : k0 = k
      · subst hz
        rw [if_pos rfl, i2 nd1, valV_put, if_pos rfl]
        exact ⟨v0, r0, rfl, rfl, fun H' => dp_keyAny h1⟩
      · rw [if_neg hz]
        exact i1 ((List.mem_cons.mp hk).resolve_left fun z => hz z.symm)
    · intro hk
      have hz : k0 ≠ k := fun z => hk (z ▸ List.mem_cons_self ..)
      rw [i2 fun z => hk (List.mem_cons_of_mem _ z), valV_put, if_neg]
      intro z
      have := Sum.inl.inj z
      omega
@[reducible] def dOHist : Option Hist → PyData
  | none => .none
  | some h => dHist h
def spFin (K : PySem.W.Frag) (P1 P2 : Addr) : Sp := fun vs H Q _ => ∃ (h : Hist) (m : Mdl) (x : V), vs = [x, .str m.str] ∧ Dp K H x (dHist h) ∧ Wf h ∧ TabG H P1 ∧ TabG H P2 ∧ Ret K (dOHist (finishM h m)) H Q
theorem g_fin {P1 P2 : Addr} {H : Hp} {h : Hist} {m : Mdl} (wf : Wf h) (t1 : TabG H P1) (t2 : TabG H P2) : Gives K (spFin K P1 P2) H [dHist h, .str m.str] (dOHist (finishM h m)) := fun H1 e vs hv Q E q => by
  obtain ⟨v, vs, rfl, h1, hv⟩ := da_cons hv
  obtain ⟨v2, vs, rfl, h2, hv⟩ := da_cons hv
  rw [da_nil hv, dp_str h2]
  exact ⟨h, m, v, rfl, h1, wf, t1.ext e, t2.ext e, q⟩
theorem w_fin {code P1 P2 : Addr} (D : DF K mg "finished" s_finished code) (T : Bn mg) (c_find : C8.Cal P w K mg base 17 "find" (spFind K P1 P2) []) (c_operations : C8.Cal P w K mg base 2 "operations" (spOps K) []) (c_results : C8.Cal P w K mg base 5 "results" (spResults K) []) (c_without : C8.Cal P w K mg base 3 "without" (spWithout K) []) : C8.Cal P w K mg base 18 "finished" (spFin K P1 P2) [] := by
  refine calD D sc_finished (fun _ _ _ _ _ _ us hl => match us, hl with | [_, _], _ => rfl) (fun vs H Q E h => ?_) (fun f A outer s H vs Q E hr h => ?_)
  · obtain ⟨h, m, x, rfl, _⟩ := h; rfl
  · obtain ⟨h, m, x, rfl, hx, wf, t1, t2, q⟩ := h
    refine ⟨_, (pss_cons (ps_asg (C8.pe_c c_find hr (by first | decide | omega) (by rfl) (pa_cons (pv 0) (pa_cons (pv 1) pa_nil))) (pg_tup rfl (pgs_cons (pg_name (i := 2) sc_finished.nd rfl (by first | exact .inl rfl | exact .inr rfl)) (pgs_cons (pg_name (i := 3) sc_finished.nd rfl (by first | exact .inl rfl | exact .inr rfl)) pgs_nil))))
      (pss_cons (ps_if (pt_cmpR op_ne (pv 2) pe_str (nomark _)) (pss_one (ps_ret pe_non)) pss_nil)
      (pss_cons (ps_set (i := 4) sc_finished.nd rfl (by first | exact .inl rfl | exact .inr rfl) (C8.pe_c c_operations hr (by first | decide | omega) (by rfl) (pa_cons (pv 0) pa_nil)))
      (pss_cons (ps_set (i := 5) sc_finished.nd rfl (by first | exact .inl rfl | exact .inr rfl) (pe_dictZip rfl (by rfl) T.dict (by rfl) T.zip (pa_cons (pv 3) (pa_cons (C8.pe_c c_results hr (by first | decide | omega) (by rfl) (pa_cons (pv 0) (pa_cons (pv 3) pa_nil))) pa_nil))))
      (pss_cons (ps_setLc (i := 6) (own := [("number", 10)]) (g := (gName 10)) (tt := (tB (tIsN (tOp (rIxD' K) (tOp (rIxD' K) (tVar 4) (tVar 10)) (tC (.int 6)))))) (te := (tVar 10)) rfl sc_finished.nd rfl rfl (sw_true rfl rfl rfl (by decide +kernel)) (pi_range1 (by rfl) T.range (pa_cons (pe_callB lenD (by rfl) T.len PySem.boot_len (pa_cons (pv 4) pa_nil)) pa_nil)) (blkOk_by (N := N_finished) (sc := defScope s_finished) (by decide +kernel)) (fun _ _ _ _ _ => (pg_name (i := 10) sc_finished.nd rfl (by first | exact .inl rfl | exact .inr rfl))) (fun _ _ _ _ _ => pts_one (pt_cmp (pc_isN (pe_ix ixD (pe_ix ixD (pv 4) (pv 10) (fun _ _ => rfl)) pe_int (fun _ _ => rfl))))) (fun _ _ _ _ _ => (pv 10)))
      (pss_cons (ps_asg (C8.pe_c c_without hr (by first | decide | omega) (by rfl) (pa_cons (pv 0) (pa_cons (pe_lc (own := [("number", 10)]) (g := (gName 10)) (tt := (tB (tDNotIn (tVar 10) (tVar 5)))) (te := (tVar 10)) rfl sc_finished.nd (pi_list (pv 6)) (blkOk_by (N := N_finished) (sc := defScope s_finished) (by decide +kernel)) (fun _ _ _ _ _ => (pg_name (i := 10) sc_finished.nd rfl (by first | exact .inl rfl | exact .inr rfl))) (fun _ _ _ _ _ => pts_one (pt_cmp (pc_dnotin (hu_of hr) (pv 10) (pv 5)))) (fun _ _ _ _ _ => (pv 10))) pa_nil))) (pg_tup rfl (pgs_cons (pg_name (i := 7) sc_finished.nd rfl (by first | exact .inl rfl | exact .inr rfl)) (pgs_cons (pg_name (i := 8) sc_finished.nd rfl (by first | exact .inl rfl | exact .inr rfl)) pgs_nil))))
      (pss_cons (ps_setLc (i := 9) (own := [("number", 10)]) (g := (gName 10)) (tt := (tB (tDIn (tVar 10) (tVar 5)))) (te := (tTup (tCons (tC (.str "return")) (tCons (tOp (rIxD' K) (tOp (rIxD' K) (tVar 4) (tVar 10)) (tC (.int 0))) (tCons (tDGet (tVar 5) (tVar 10)) tNil))))) rfl sc_finished.nd rfl rfl (sw_true rfl rfl rfl (by decide +kernel)) (pi_list (pv 6)) (blkOk_by (N := N_finished) (sc := defScope s_finished) (by decide +kernel)) (fun _ _ _ _ _ => (pg_name (i := 10) sc_finished.nd rfl (by first | exact .inl rfl | exact .inr rfl))) (fun _ _ _ _ _ => pts_one (pt_cmp (pc_din (hu_of hr) (pv 10) (pv 5)))) (fun _ _ _ _ _ => (pe_tup (pa_cons pe_str (pa_cons (pe_ix ixD (pe_ix ixD (pv 4) (pv 10) (fun _ _ => rfl)) pe_int (fun _ _ => rfl)) (pa_cons (pe_dget (hu_of hr) (pv 5) (pv 10) (fun _ _ => rfl)) pa_nil))))))
      (pss_one (ps_ret (pe_tup (pa_cons (pv 7) (pa_cons (pe_op catD (pv 8) (pe_tupleOf (by rfl) T.tuple (pv 9))) pa_nil)))))))))))), ?_⟩
    refine ⟨x, rfl, .str m.str, rfl, h, m, x, rfl, hx, wf, t1, t2, fun a xs H1 x1 hs h1 h2 => ?_⟩
    unfold finishM at q
    cases ho : findM h m with
    | none =>
      rw [ho] at q
      obtain ⟨u, rfl⟩ := h2 ho
      refine ⟨a, _, rfl, hs, rfl, _, _, rfl, _, _, rfl, rfl, ?_⟩
      refine if_go (eb_neS (K := K) (a := "table") (b := "order") (ev_var rfl (.str _)) ev_str) (.refl H1) (fun _ H2 x2 _ => ?_) fun z => absurd z (by decide)
      exact q _ H2 (x1.trans x2) .non
    | some o =>
      rw [ho] at q
      obtain ⟨y, ys, rfl, hy, hys⟩ := da_cons (h1 o ho)
      obtain ⟨z, ys, rfl, hz, hys⟩ := da_cons hys
      have := da_nil hys
      subst this
      have hy := dp_str hy
      subst hy
      have ok := find_ok wf ho
      have h9 := wf.ops
      have ho9 := ok.len wf
      refine ⟨a, _, rfl, hs, rfl, _, _, rfl, _, _, rfl, rfl, ?_⟩
      refine if_go (eb_neS (K := K) (a := "order") (b := "order") (ev_var rfl (.str _)) ev_str) (.refl H1) (fun z => absurd z (by decide)) fun _ H2 x2 _ => ?_
      have x12 := x1.trans x2
      refine set_go (K := K) (ev_call (ea_cons (ev_var rfl (hx.ext x12)) ea_nil) (g_ops wf)) (.refl H2) fun v4 H3 x3 _ h4 => ?_
      have x13 := x12.trans x3
      have hx3 := hx.ext x13
      have hz3 := (hz.ext x2).ext x3
      refine ⟨z, rfl, x, rfl, z, rfl, h, o, x, z, rfl, hx3, wf, hz3, (fun k hk => ok.lt hk), by omega, fun b us H4 x4 nb hb hus => ?_⟩
      have hz4 := hz3.ext x4
      have hzi : Dp K H4 z (.tuple ((o.map fun n => ((n : Nat) : Int)).map PyData.int)) := by rw [← nats_ints]; exact hz4
      obtain ⟨az, rfl, haz⟩ := dp_ints hzi
      refine ⟨az, b, o.map fun n => ((n : Nat) : Int), us, rfl, haz, .inl (.inl hb), by rw [List.length_map, da_len hus, List.length_map, resM_len], by rw [List.length_map]; omega, fun d nd => ?_⟩
      obtain ⟨kvs, hkvs⟩ : ∃ kvs, kvs = mergeK [] (zipK (o.map fun n => ((n : Nat) : Int)) us) := ⟨_, rfl⟩
      have htk := told_kv (kvs := []) ok.nd hus (resM_len h o)
      rw [← hkvs] at htk ⊢
      have x45 : Ext H4 (upd H4 d (.dK kvs)) := .new nd
      obtain ⟨H5, hH5⟩ : ∃ H5, H5 = upd H4 d (.dK kvs) := ⟨_, rfl⟩
      rw [← hH5] at x45 ⊢
      have hd5 : H5 d = some (.dK kvs) := by rw [hH5]; exact upd_same
      clear hH5
      obtain ⟨T', hT'⟩ : ∃ T' : Nat → Option KeyR, T' = fun k => resOf o (resM h o) k := ⟨_, rfl⟩
      have hts : ∀ k : Nat, (valV kvs (.inl ((k : Nat) : Int))).isSome = (T' k).isSome := fun k => by
        rw [hT']
        by_cases hk : k ∈ o
        · obtain ⟨v, r, e1, e2, _⟩ := (htk k).1 hk
          rw [e2]
          show _ = (resOf o (resM h o) k).isSome
          rw [e1]; rfl
        · rw [(htk k).2 hk]
          show _ = (resOf o (resM h o) k).isSome
          rw [resOf_none hk]; rfl
      have htv : ∀ (k : Nat) r, T' k = some r → ∃ v, valV kvs (.inl ((k : Nat) : Int)) = some v ∧ ∀ H', Dp K H' v (dKey r) := fun k r e => by
        rw [hT'] at e
        have e : resOf o (resM h o) k = some r := e
        by_cases hk : k ∈ o
        · obtain ⟨v, r', e1, e2, e3⟩ := (htk k).1 hk
          rw [e1] at e
          cases e
          exact ⟨v, e2, e3⟩
        · rw [resOf_none hk] at e; cases e
      have hfe : finishE h o = keptE h.evs (wantedM h.evs ((pendM (opsM h.evs)).filter fun k => (T' k).isNone)) ++ (pendM (opsM h.evs)).filterMap fun k => (T' k).map fun r => .ret (opAt (opsM h.evs) k).c r := by rw [hT']; rfl
      have q : Ret K (dHist ⟨h.objs, finishE h o⟩) H Q := q
      rw [hfe] at q
      clear hT' htk hkvs hfe
      have h45 := (h4.ext x4).ext x45
      have hx5 := (hx3.ext x4).ext x45
      have x15 := (x13.trans x4).trans x45
      obtain ⟨l, hl⟩ : ∃ l, l = opsM h.evs := ⟨_, rfl⟩
      rw [← hl] at h45 h9
      have hlen : EvD K _ [some x, some (.str m.str), some (.str "order"), some (.ref az), some v4, some (.ref d), none, none, none, none, none] H5 (.int ((l.map dOp).length : Nat)) := ev_lenL (ea_cons (ev_var (i := 4) rfl h45) ea_nil)
      rw [List.length_map] at hlen
      refine set_go (K := K) (ev_lc (fun i => if (opAt l i).ret.isNone then some (.int ((i : Nat) : Int)) else none) (wd_range (ea_cons hlen ea_nil) (by omega)) (by omega) (fun i d hi hd => ?_) fun i v H6 H7 hi e6 hv => ?_) (.refl H5) fun v6 H6 x6 _ h6 => ?_
      · split at hd
        · cases hd; rfl
        · cases hd
      · obtain ⟨e7, rfl⟩ := hv
        refine turn_name (b := (opAt l i).ret.isNone) e7 rfl (eb_val (K := K) ?_) (fun hb => ⟨_, if_pos hb, ev_var rfl (.int _)⟩) (fun hb => by rw [hb]; rfl)
        have := ev_isN (K := K) (ev_ix (i := 6) (ev_ixL (i := i) (ev_var (i := 4) (σ := (wipe [some x, some (.str m.str), some (.str "order"), some (.ref az), some v4, some (.ref d), none, none, none, none, none] [10]).set 10 (some (.int ((i : Nat) : Int)))) rfl (h45.ext e6)) (ev_var (i := 10) rfl (.int _)) (dop_get hi)) ev_int rfl)
        cases hr : (opAt l i).ret <;> (rw [hr] at this; exact this)
      · have e : (List.range l.length).filterMap (fun i => if (opAt l i).ret.isNone then some (PyData.int ((i : Nat) : Int)) else none) = (pendM l).map fun n => PyData.int ((n : Nat) : Int) := by
          exact fm_if (fun i => (opAt l i).ret.isNone) _ _
        rw [e] at h6
        have h46 := h45.ext x6
        have hd6 := x6.dK hd5
        have hx6 := hx5.ext x6
        have hp9 : (pendM l).length ≤ 9 := Nat.le_trans (List.length_filter_le _ _) (by rw [List.length_range]; exact h9)
        have hpl : ((pendM l).map fun n => PyData.int ((n : Nat) : Int)).length ≤ 1000000 := by rw [List.length_map]; omega
        rw [← hl] at q
        have hdrop : EvD K (tLc (iList K (tVar 6)) (gName 10) (tB (tDNotIn (tVar 10) (tVar 5))) (tVar 10) [10]) [some x, some (.str m.str), some (.str "order"), some (.ref az), some v4, some (.ref d), some v6, none, none, none, none] H6 (dNums ((pendM l).filter fun k => (T' k).isNone)) := by
          have := ev_lc (K := K) (σ := [some x, some (.str m.str), some (.str "order"), some (.ref az), some v4, some (.ref d), some v6, none, none, none, none]) (H := H6) (g := gName 10) (tt := tB (tDNotIn (tVar 10) (tVar 5))) (te := tVar 10) (vs := [10]) (fun i => ((pendM l)[i]?).bind fun k => if (T' k).isNone = true then some (PyData.int ((k : Nat) : Int)) else none) (wd_list (ev_var (i := 6) rfl h6)) hpl (fun i d hi hd => by
            obtain ⟨k, hk, hd⟩ := Option.bind_eq_some_iff.mp hd
            split at hd
            · cases hd; rfl
            · cases hd) fun i v H7 H8 hi e7 hv => by
              obtain ⟨e8, d1, hd1, hv⟩ := hv
              rw [List.length_map] at hi
              rw [List.getElem?_map, List.getElem?_eq_getElem hi] at hd1
              cases hd1
              rw [List.getElem?_eq_getElem hi]
              generalize (pendM l)[i] = k at hv
              have := dp_int hv
              subst this
              refine turn_name (b := !(valV kvs (.inl ((k : Nat) : Int))).isSome) e8 rfl (eb_dnotin (i := 5) rfl (e7.dK hd6) (key_int (ev_var (K := K) (i := 10) rfl (.int _)))) (fun hb => ?_) fun hb => ?_
              · rw [hts] at hb
                refine ⟨_, ?_, ev_var rfl (.int _)⟩
                rw [Option.bind_some, if_pos]
                cases hT : T' k with
                | none => rfl
                | some r => rw [hT] at hb; cases hb
              · rw [hts] at hb
                rw [Option.bind_some, if_neg]
                cases hT : T' k with
                | none => rw [hT] at hb; cases hb
                | some r => exact fun z => by cases z
          rw [List.length_map, fmr (fun k => if (T' k).isNone = true then some (PyData.int ((k : Nat) : Int)) else none), fm_if (fun k => (T' k).isNone)] at this
          exact this
        refine asg_pair (K := K) (ev_call (ea_cons (ev_var rfl hx6) (ea_cons hdrop ea_nil)) (g_without wf)) (.refl H6) fun v7 v8 H7 x7 _ h7 h8 => ?_
        have hd7 := x7.dK hd6
        have h47 := h46.ext x7
        have h67 := h6.ext x7
        have hmore : EvD K (tLc (iList K (tVar 6)) (gName 10) (tB (tDIn (tVar 10) (tVar 5))) (tTup (tCons (tC (.str "return")) (tCons (tOp (rIxD' K) (tOp (rIxD' K) (tVar 4) (tVar 10)) (tC (.int 0))) (tCons (tDGet (tVar 5) (tVar 10)) tNil)))) [10]) [some x, some (.str m.str), some (.str "order"), some (.ref az), some v4, some (.ref d), some v6, some v7, some v8, none, none] H7 (.list (((pendM l).filterMap fun k => (T' k).map fun r => Ev.ret (opAt l k).c r).map dEv)) := by
          have := ev_lc (K := K) (σ := [some x, some (.str m.str), some (.str "order"), some (.ref az), some v4, some (.ref d), some v6, some v7, some v8, none, none]) (H := H7) (g := gName 10) (tt := tB (tDIn (tVar 10) (tVar 5))) (te := tTup (tCons (tC (.str "return")) (tCons (tOp (rIxD' K) (tOp (rIxD' K) (tVar 4) (tVar 10)) (tC (.int 0))) (tCons (tDGet (tVar 5) (tVar 10)) tNil)))) (vs := [10]) (fun i => ((pendM l)[i]?).bind fun k => ((T' k).map fun r => Ev.ret (opAt l k).c r).map dEv) (wd_list (ev_var (i := 6) rfl h67)) hpl (fun i d hi hd => by
            obtain ⟨k, hk, hd⟩ := Option.bind_eq_some_iff.mp hd
            obtain ⟨e, he, rfl⟩ := Option.map_eq_some_iff.mp hd
            exact noL_ev e) fun i v H8 H9 hi e7 hv => by
              obtain ⟨e8, d1, hd1, hv⟩ := hv
              rw [List.length_map] at hi
              rw [List.getElem?_map, List.getElem?_eq_getElem hi] at hd1
              cases hd1
              have hmem := (mem_pend.mp (List.getElem_mem hi)).1
              rw [List.getElem?_eq_getElem hi]
              generalize (pendM l)[i] = k at hv hmem
              have := dp_int hv
              subst this
              refine turn_name (b := (valV kvs (.inl ((k : Nat) : Int))).isSome) e8 rfl (eb_din (i := 5) rfl (e7.dK hd7) (key_int (ev_var (K := K) (i := 10) rfl (.int _)))) (fun hb => ?_) fun hb => ?_
              · rw [hts] at hb
                cases hT : T' k with
                | none => rw [hT] at hb; cases hb
                | some r =>
                  obtain ⟨vv, g1, g2⟩ := htv k r hT
                  refine ⟨dEv (.ret (opAt l k).c r), by rw [Option.bind_some, hT]; rfl, ?_⟩
                  exact ev_tup (ea_cons ev_str (ea_cons (ev_ix (i := 0) (ev_ixL (i := k) (ev_var (i := 4) rfl (h47.ext e7)) (ev_var (i := 10) rfl (.int _)) (dop_get hmem)) ev_int rfl) (ea_cons (ev_dget (i := 5) rfl (e7.dK hd7) (key_int (ev_var (K := K) (i := 10) rfl (.int _))) g1 (g2 H8)) ea_nil)))
              · rw [hts] at hb
                cases hT : T' k with
                | none => rw [Option.bind_some, hT]; rfl
                | some r => rw [hT] at hb; cases hb
          rw [List.length_map, fmr (fun k => ((T' k).map fun r => Ev.ret (opAt l k).c r).map dEv), ← List.map_filterMap] at this
          exact this
        refine set_go (K := K) hmore (.refl H7) fun v9 H8 x8 _ h9' => ?_
        have hlk : (keptE h.evs (wantedM h.evs ((pendM l).filter fun k => (T' k).isNone))).length ≤ 100 := by
          unfold keptE
          refine Nat.le_trans (List.length_filterMap_le ..) ?_
          rw [List.length_zip]
          exact Nat.le_trans (Nat.min_le_right _ _) wf.len
        have hlm : ((pendM l).filterMap fun k => (T' k).map fun r => Ev.ret (opAt l k).c r).length ≤ 9 := Nat.le_trans (List.length_filterMap_le ..) hp9
        have hcat := ev_tup (K := K) (σ := [some x, some (.str m.str), some (.str "order"), some (.ref az), some v4, some (.ref d), some v6, some v7, some v8, some v9, none]) (ea_cons (ev_var (i := 7) rfl (h7.ext x8)) (ea_cons (ev_cat (ev_var (i := 8) rfl (h8.ext x8)) (ev_tuple (ev_var (i := 9) rfl h9')) (by rw [List.length_map, List.length_map]; exact Nat.le_trans (Nat.add_le_add hlk hlm) (by decide))) ea_nil))
        rw [← List.map_append] at hcat
        exact hcat.ret (fun v' H9 e9 hv' => q v' H9 (((((x15.trans x6).trans x7).trans x8)).trans e9) hv') (.refl H8)
end
end K22

-- L1
set_option maxHeartbeats 4000000
/-! Walks: the law's draws. -/
namespace K22
open PySem PySem.Spec PyProof.Rows L2
section
variable {P : Program} {w : World} {K : PySem.W.Frag} {mg : Str → Option Value} {base : Heap}
@[reducible] def dIntL (l : List Int) : PyData := .list (l.map PyData.int)
def RetI (H : Hp) (Q : VK) : Prop := ∀ i H', Ext H H' → Q (.int i) H'
def spLCell (K : PySem.W.Frag) : Sp := fun vs H Q _ => ∃ (ns : List Int) (k : Nat) (x : V), vs = [x, .int ((k : Nat) : Int)] ∧ Dp K H x (dIntL ns) ∧ RetI H Q
theorem w_cell {code : Addr} (D : DF K mg "_law_cell" s_law_cell code) (T : Bn mg) : C8.Cal P w K mg base 1 "_law_cell" (spLCell K) [] := by
  refine calD D sc_law_cell (fun _ _ _ _ _ _ us hl => match us, hl with | [_, _], _ => rfl) (fun vs H Q E h => ?_) (fun f A outer s H vs Q E hr h => ?_)
  · obtain ⟨ns, k, x, rfl, _⟩ := h; rfl
  · obtain ⟨ns, k, x, rfl, hx, q⟩ := h
    refine ⟨_, (pss_cons (ps_if (pt_cmpR op_lt (pv 1) (pe_callB lenD (by rfl) T.len PySem.boot_len (pa_cons (pv 0) pa_nil)) (nomark _)) (pss_one (ps_ret (pe_ix ixD (pv 0) (pv 1) (fun _ _ => rfl)))) pss_nil)
      (pss_one (ps_ret pe_int))), ?_⟩
    refine if_go (eb_lt (K := K) (i := ((k : Nat) : Int)) (ev_var rfl (.int _)) (ev_lenL (ea_cons (ev_var rfl hx) ea_nil))) (.refl H) (fun hb H2 x2 _ => ?_) fun hb H2 x2 _ => ?_
    · have hk : k < ns.length := by
        have := pdec hb
        rw [List.length_map] at this
        omega
      refine (ev_ixL (K := K) (i := k) (d := .int ns[k]) (ev_var rfl (hx.ext x2)) (ev_var rfl (.int _)) (by rw [List.getElem?_map, List.getElem?_eq_getElem hk]; rfl)).go fun v H3 x3 hv => ?_
      rw [dp_int hv]
      exact q _ _ (x2.trans x3)
    · exact q _ _ x2
/-- digits within their sizes -/
def DrawOk : List Int → List Int → Prop
  | [], [] => True
  | s :: ss, d :: ds => (0 ≤ d ∧ d < s) ∧ DrawOk ss ds
  | _, _ => False
theorem DrawOk.len : ∀ {ss ds : List Int}, DrawOk ss ds → ds.length = ss.length
  | [], [], _ => rfl
  | _ :: _, _ :: _, h => by rw [List.length_cons, List.length_cons, h.2.len]
theorem DrawOk.at : ∀ {ss ds : List Int}, DrawOk ss ds → ∀ {i : Nat} {s : Int}, ss[i]? = some s → ∃ d, ds[i]? = some d ∧ 0 ≤ d ∧ d < s
  | [], [], _, i, s, h => by simp at h
  | s0 :: ss, d :: ds, h, 0, s, e => by
    cases (Option.some.inj e)
    exact ⟨d, rfl, h.1.1, h.1.2⟩
  | s0 :: ss, d :: ds, h, i + 1, s, e => h.2.at (i := i) e
theorem DrawOk.snoc : ∀ {ss ds : List Int}, DrawOk ss ds → ∀ {s d : Int}, 0 ≤ d → d < s → DrawOk (ss ++ [s]) (ds ++ [d])
  | [], [], _, _, _, h1, h2 => ⟨⟨h1, h2⟩, trivial⟩
  | _ :: _, _ :: _, h, _, _, h1, h2 => ⟨h.1, h.2.snoc h1 h2⟩
def RetDraw (K : PySem.W.Frag) (ss : List Int) (H : Hp) (Q : VK) : Prop := ∀ v H' ds, Ext H H' → DrawOk ss ds → Dp K H' v (dIntL ds) → Q v H'
def spDraw (K : PySem.W.Frag) : Sp := fun vs H Q _ => ∃ (ns : List Int) (k : Nat) (ss : List Int) (x y : V), vs = [x, .int ((k : Nat) : Int), y] ∧ Dp K H x (dIntL ns) ∧ k ≤ 1000 ∧ Dp K H y (dIntL ss) ∧ (∀ s ∈ ss, 0 < s ∧ s < 1000) ∧ ss.length ≤ 1000 ∧ RetDraw K ss H Q
theorem ev_mod {ta tb : TE} {σ : L2.St} {H : Hp} {i j : Int} (ha : EvD K ta σ H (.int i)) (hb : EvD K tb σ H (.int j)) (h : 0 < j) : EvD K (tOp (rI (fun _ j => 0 < j) fun i j => .int (i % j)) ta tb) σ H (.int (i % j)) := fun H1 x Q q =>
  ha H1 x _ fun v1 H2 x2 h1 => hb H2 (x.trans x2) _ fun v2 H3 x3 h2 => ⟨i, j, dp_int h1, dp_int h2, h, q _ _ (x2.trans x3) (.int _)⟩
theorem ev_div {ta tb : TE} {σ : L2.St} {H : Hp} {i j : Int} (ha : EvD K ta σ H (.int i)) (hb : EvD K tb σ H (.int j)) (h : 0 < j) (h2 : j < 1073741824) : EvD K (tOp (rI CDiv fun i j => .int (i / j)) ta tb) σ H (.int (i / j)) := fun H1 x Q q =>
  ha H1 x _ fun v1 H2 x2 h1 => hb H2 (x.trans x2) _ fun v2 H3 x3 h2' => ⟨i, j, dp_int h1, dp_int h2', ⟨h, h2⟩, q _ _ (x2.trans x3) (.int _)⟩
theorem ev_mul {ta tb : TE} {σ : L2.St} {H : Hp} {i j : Int} (ha : EvD K ta σ H (.int i)) (hb : EvD K tb σ H (.int j)) (h : CMul i j) : EvD K (tOp (rI CMul fun i j => .int (i * j)) ta tb) σ H (.int (i * j)) := fun H1 x Q q =>
  ha H1 x _ fun v1 H2 x2 h1 => hb H2 (x.trans x2) _ fun v2 H3 x3 h2' => ⟨i, j, dp_int h1, dp_int h2', h, q _ _ (x2.trans x3) (.int _)⟩
theorem ev_pow {ta tb : TE} {σ : L2.St} {H : Hp} {i j : Int} (ha : EvD K ta σ H (.int i)) (hb : EvD K tb σ H (.int j)) (h : CPow i j) : EvD K (tOp (rI CPow fun i j => .int (i ^ j.toNat)) ta tb) σ H (.int (i ^ j.toNat)) := fun H1 x Q q =>
  ha H1 x _ fun v1 H2 x2 h1 => hb H2 (x.trans x2) _ fun v2 H3 x3 h2' => ⟨i, j, dp_int h1, dp_int h2', h, q _ _ (x2.trans x3) (.int _)⟩
theorem ev_sub {ta tb : TE} {σ : L2.St} {H : Hp} {i j : Int} (ha : EvD K ta σ H (.int i)) (hb : EvD K tb σ H (.int j)) : EvD K (tOp (rI0 fun i j => .int (i - j)) ta tb) σ H (.int (i - j)) := ev_I ha hb fun _ => .int _
theorem eb_ge {ta tb : TE} {σ : L2.St} {H : Hp} {i j : Int} (ha : EvD K ta σ H (.int i)) (hb : EvD K tb σ H (.int j)) : EvB (tTest (tOp (rI0 fun i j => .bl (decide (j ≤ i))) ta tb)) σ H (decide (j ≤ i)) := eb_cmp ha hb fun _ _ _ _ _ hx hy q => ⟨i, j, dp_int hx, dp_int hy, q⟩
theorem gname_go {i : Nat} {v : V} {σ : L2.St} {H : Hp} {k : L2.St → Hp → Prop} (h : k (σ.set i (some v)) H) : gName i v σ H k := h
theorem mid_if {σ : L2.St} {H H1 : Hp} {tc : TT} {t u : TS} {D : Ends} {b : Bool} (Mid : L2.St → Hp → Prop) (h : EvB tc σ H b) (x : Ext H H1)
    (h1 : ∀ Z : L2.St → Hp → Prop, (∀ σ' H', Mid σ' H' → Z σ' H') → b = true → ∀ H2, Ext H H2 → Ext H1 H2 → t { D with nx := Z } σ H2) (h2 : ∀ Z : L2.St → Hp → Prop, (∀ σ' H', Mid σ' H' → Z σ' H') → b = false → ∀ H2, Ext H H2 → Ext H1 H2 → u { D with nx := Z } σ H2) (tail : ∀ σ' H', Mid σ' H' → D.nx σ' H') : tIfS tc t u D σ H1 :=
  if_go h x (h1 D.nx tail) (h2 D.nx tail)
theorem ev_neg {t : TE} {σ : L2.St} {H : Hp} {i : Int} (h : EvD K t σ H (.int i)) : EvD K (tUn (rU fun i => .int (-i)) t) σ H (.int (-i)) := fun H1 x Q q => h H1 x _ fun v H2 x2 hv => ⟨i, dp_int hv, q _ _ x2 (.int _)⟩
theorem da_intsL (H : Hp) : ∀ l : List Int, DpAll K H (l.map V.int) (l.map PyData.int)
  | [] => .nil
  | _ :: l => .cons (.int _) (da_intsL H l)
theorem cmul_r {i j : Int} (h1 : -(2 ^ 64) < j) (h2 : j < 2 ^ 64) : CMul i j := .inr ⟨h1, h2⟩
theorem w_draw {code : Addr} (D : DF K mg "_law_draw" s_law_draw code) (T : Bn mg) (c_law_cell : C8.Cal P w K mg base 1 "_law_cell" (spLCell K) []) : C8.Cal P w K mg base 2 "_law_draw" (spDraw K) [] := by
  refine calD D sc_law_draw (fun _ _ _ _ _ _ us hl => match us, hl with | [_, _, _], _ => rfl) (fun vs H Q E h => ?_) (fun f A outer s H vs Q E hr h => ?_)
  · obtain ⟨ns, k, ss, x, y, rfl, _⟩ := h; rfl
  · obtain ⟨ns, k, ss, x, y, rfl, hx, hk, hy, hss, hl, q⟩ := h
    refine ⟨_, (pss_cons (ps_set (i := 3) sc_law_draw.nd rfl (by first | exact .inl rfl | exact .inr rfl) (C8.pe_c c_law_cell hr (by first | decide | omega) (by rfl) (pa_cons (pv 0) (pa_cons (pv 1) pa_nil))))
      (pss_cons (ps_if (pt_cmpR op_lt (pv 3) pe_int (nomark _)) (pss_one (ps_set (i := 3) sc_law_draw.nd rfl (by first | exact .inl rfl | exact .inr rfl) (pe_un un_neg (pv 3)))) pss_nil)
      (pss_cons (ps_set (i := 4) sc_law_draw.nd rfl (by first | exact .inl rfl | exact .inr rfl) (pe_lst pa_nil))
      (pss_cons (ps_if (pt_cmpR op_ge (pv 3) (pe_op op_pow pe_int pe_int) (nomark _)) (pss_cons (ps_set (i := 3) sc_law_draw.nd rfl (by first | exact .inl rfl | exact .inr rfl) (pe_op op_sub (pv 3) (pe_op op_pow pe_int pe_int)))
      (pss_cons (ps_for PassesOwn.never rfl (pi_list (pv 2)) (pg_name (i := 7) sc_law_draw.nd rfl (by first | exact .inl rfl | exact .inr rfl)) (pss_cons (ps_expr (pe_bm PySem.F.plainAttrs_list PySem.F.slot_list_append PySem.F.type_list_append mt_append (pv 4) (pa_cons (pe_op op_mod (pv 3) (pv 7)) pa_nil)))
      (pss_one (ps_set (i := 3) sc_law_draw.nd rfl (by first | exact .inl rfl | exact .inr rfl) (pe_op op_fdiv (pv 3) (pv 7))))))
      (pss_one (ps_ret (pv 4))))) pss_nil)
      (pss_cons (ps_set (i := 5) sc_law_draw.nd rfl (by first | exact .inl rfl | exact .inr rfl) (pe_op op_mod (pe_op op_add (pe_op op_add (pv 3) pe_int) (pe_op op_mul pe_int (pv 1))) pe_int))
      (pss_cons (ps_for PassesOwn.never rfl (pi_range1 (by rfl) T.range (pa_cons (pe_callB lenD (by rfl) T.len PySem.boot_len (pa_cons (pv 2) pa_nil)) pa_nil)) (pg_name (i := 6) sc_law_draw.nd rfl (by first | exact .inl rfl | exact .inr rfl)) (pss_cons (ps_set (i := 5) sc_law_draw.nd rfl (by first | exact .inl rfl | exact .inr rfl) (pe_op op_mod (pe_op op_add (pe_op op_add (pe_op op_mul (pv 5) pe_int) pe_int) (pv 6)) pe_int))
      (pss_cons (ps_set (i := 5) sc_law_draw.nd rfl (by first | exact .inl rfl | exact .inr rfl) (pe_op op_mod (pe_op op_add (pe_op op_mul (pv 5) pe_int) pe_int) pe_int))
      (pss_one (ps_expr (pe_bm PySem.F.plainAttrs_list PySem.F.slot_list_append PySem.F.type_list_append mt_append (pv 4) (pa_cons (pe_op op_mod (pe_op op_fdiv (pv 5) pe_int) (pe_ix ixD (pv 2) (pv 6) (fun _ _ => rfl))) pa_nil)))))))
      (pss_one (ps_ret (pv 4))))))))), ?_⟩
    refine ⟨x, rfl, .int ((k : Nat) : Int), rfl, ns, k, x, rfl, hx, fun c H1 x1 => ?_⟩
    have hx1 := hx.ext x1
    have hy1 := hy.ext x1
    refine mid_if (fun σ' H' => Ext H H' ∧ ∃ c' : Int, σ' = [some x, some (.int ((k : Nat) : Int)), some y, some (.int c'), none, none, none, none]) (eb_lt (K := K) (i := c) (j := 0) (ev_var rfl (.int _)) ev_int) (.refl H1) (fun Z tail _ H2 x2 _ => ?_) (fun Z tail _ H2 x2 _ => ?_) fun σ' H2 p => ?_
    · refine set_go (K := K) (ev_neg (i := c) (ev_var rfl (.int _))) (.refl H2) fun v H3 x3 _ hv => ?_
      rw [dp_int hv]
      exact tail _ _ ⟨(x1.trans x2).trans x3, _, rfl⟩
    · exact tail _ _ ⟨x1.trans x2, _, rfl⟩
    · obtain ⟨x2, c', rfl⟩ := p
      have hy2 := hy.ext x2
      refine ⟨Nat.zero_le _, fun fo nf => ?_⟩
      have nf0 : H fo = none := x2.free nf
      have xn : Ext H2 (upd H2 fo (.lst [])) := .new nf
      have hpw : ∀ {σ : L2.St} {H : Hp}, EvD K (tOp (rI CPow fun i j => .int (i ^ j.toNat)) (tC (.int 10)) (tC (.int 18))) σ H (.int (10 ^ 18)) := fun {σ H} => ev_pow (i := 10) (j := 18) ev_int ev_int ⟨by decide, by decide, by decide⟩
      have hH := hy2.ext xn
      obtain ⟨H3, hH3⟩ : ∃ H3, H3 = upd H2 fo (.lst []) := ⟨_, rfl⟩
      have hfo : H3 fo = some (.lst []) := by rw [hH3]; exact upd_same
      rw [← hH3] at xn hH ⊢
      clear hH3
      refine if_go (eb_ge (K := K) (i := c') (j := 10 ^ 18) (ev_var rfl (.int _)) hpw) (.refl H3) (fun _ H4 x4 _ => ?_) fun _ H4 x4 _ => ?_
      · refine set_go (K := K) (ev_sub (i := c') (j := 10 ^ 18) (ev_var rfl (.int _)) hpw) (.refl H4) fun v H5 x5 _ hv => ?_
        have hv := dp_int hv
        subst hv
        have x35 := x4.trans x5
        refine for_go (H := H2) (ws_list (es_var (i := 2) rfl hy2)) (xn.trans x35)
          (fun i σ H' => ∃ (c : Int) (y7 : Option V) (ds : List Int), σ = [some x, some (.int ((k : Nat) : Int)), some y, some (.int c), some (.ref fo), none, none, y7] ∧ Ext H2 H' ∧ H' fo = some (.lst (ds.map V.int)) ∧ DrawOk (ss.take i) ds)
          ⟨_, none, [], rfl, xn.trans x35, x35.lst hfo, trivial⟩ (fun i σ' H' _ p => ?_) (fun i u σ' H6 H7 hi p hu => ?_) fun σ' H' p => ?_
        · obtain ⟨_, _, _, _, e, _⟩ := p
          exact e
        · obtain ⟨c, y7, ds, rfl, e6, hf6, hd⟩ := p
          obtain ⟨rfl, d, hd1, hu⟩ := hu
          rw [List.length_map] at hi
          have hsi : ss[i]? = some ss[i] := List.getElem?_eq_getElem hi
          rw [List.getElem?_map, hsi] at hd1
          cases hd1
          have hs0 := hss _ (List.mem_of_getElem? hsi)
          have tk : ss.take (i + 1) = ss.take i ++ [ss[i]] := by rw [List.take_add_one, hsi]; rfl
          generalize ss[i] = sz at hs0 hu tk
          have hu := dp_int hu
          subst hu
          refine app_go (K := K) (d := .int (c % sz)) rfl hf6 (by rw [List.length_map, hd.len, List.length_take]; omega) (ev_mod (ev_var rfl (.int _)) (ev_var rfl (.int _)) hs0.1) fun v H8 x8 hv hf8 => ?_
          have hv := dp_int hv
          subst hv
          refine set_go (K := K) (ev_div (i := c) (j := sz) (ev_var rfl (.int _)) (ev_var rfl (.int _)) hs0.1 (by omega)) (.refl _) fun v H9 x9 _ hv => ?_
          rw [dp_int hv]
          refine ⟨_, _, ds ++ [c % sz], rfl, ((e6.trans x8).mut nf).trans x9, ?_, ?_⟩
          · have := x9.lst (upd_same (H := H8) (a := fo) (o := .lst (ds.map V.int ++ [.int (c % sz)])))
            rw [List.map_append]
            exact this
          · rw [tk]
            exact hd.snoc (Int.emod_nonneg _ (by omega)) (Int.emod_lt_of_pos _ hs0.1)
        · obtain ⟨c, y7, ds, rfl, e6, hf6, hd⟩ := p
          rw [List.length_map, List.take_length] at hd
          exact ⟨_, rfl, q _ _ ds (x2.trans e6) hd (.lst (.of hf6) (da_intsL _ ds))⟩
      · have hfo4 := x4.lst hfo
        have xn4 := xn.trans x4
        refine set_go (K := K) (ev_mod (ev_add (i := c' + 1) (j := 31 * ((k : Nat) : Int)) (ev_add (i := c') (j := 1) (ev_var rfl (.int _)) ev_int) (ev_mul (i := 31) (j := ((k : Nat) : Int)) ev_int (ev_var rfl (.int _)) (.inl ⟨by decide, by decide⟩))) (ev_int (i := 2147483647)) (by decide)) (.refl H4) fun v H5 x5 _ hv => ?_
        have hv := dp_int hv
        subst hv
        have hlen : EvS K (tCB (rLenD K) (tCons (tVar 2) tNil)) [some x, some (.int ((k : Nat) : Int)), some y, some (.int c'), some (.ref fo), some (.int ((c' + 1 + 31 * ((k : Nat) : Int)) % 2147483647)), none, none] H2 (.int ((ss.length : Nat) : Int)) := fun H2 x2 Q2 q2 => by
          refine ⟨y, rfl, y, _, rfl, .inr (hy2.ext x2), ?_⟩
          rw [List.length_map]
          exact q2 _ (.int _)
        refine for_go (H := H2) (ws_range hlen (by omega)) (xn4.trans x5)
          (fun i σ H' => ∃ (c : Int) (y6 : Option V) (ds : List Int), σ = [some x, some (.int ((k : Nat) : Int)), some y, some (.int c'), some (.ref fo), some (.int c), y6, none] ∧ Ext H2 H' ∧ H' fo = some (.lst (ds.map V.int)) ∧ DrawOk (ss.take i) ds)
          ⟨_, none, [], rfl, xn4.trans x5, x5.lst hfo4, trivial⟩ (fun i σ' H' _ p => ?_) (fun i u σ' H6 H7 hi p hu => ?_) fun σ' H' p => ?_
        · obtain ⟨_, _, _, _, e, _⟩ := p
          exact e
        · obtain ⟨c, y6, ds, rfl, e6, hf6, hd⟩ := p
          obtain ⟨rfl, rfl⟩ := hu
          have hsi : ss[i]? = some ss[i] := List.getElem?_eq_getElem hi
          have hs0 := hss _ (List.mem_of_getElem? hsi)
          have tk : ss.take (i + 1) = ss.take i ++ [ss[i]] := by rw [List.take_add_one, hsi]; rfl
          generalize ss[i] = sz at hs0 hsi tk
          refine set_go (K := K) (ev_mod (ev_add (i := c * 48271 + 11) (j := ((i : Nat) : Int)) (ev_add (i := c * 48271) (j := 11) (ev_mul (i := c) (j := 48271) (ev_var rfl (.int _)) ev_int (cmul_r (by decide) (by decide))) ev_int) (ev_var rfl (.int _))) (ev_int (i := 2147483647)) (by decide)) (.refl _) fun v H8 x8 _ hv => ?_
          have hv := dp_int hv
          subst hv
          generalize (c * 48271 + 11 + ((i : Nat) : Int)) % 2147483647 = c1
          refine set_go (K := K) (ev_mod (ev_add (i := c1 * 69621) (j := 3) (ev_mul (i := c1) (j := 69621) (ev_var rfl (.int _)) ev_int (cmul_r (by decide) (by decide))) ev_int) (ev_int (i := 2147483647)) (by decide)) (.refl _) fun v H9 x9 _ hv => ?_
          have hv := dp_int hv
          subst hv
          generalize (c1 * 69621 + 3) % 2147483647 = c2
          have x89 := x8.trans x9
          refine app_go (K := K) (d := .int (c2 / 7 % sz)) rfl (x89.lst hf6) (by rw [List.length_map, hd.len, List.length_take]; omega) (ev_mod (ev_div (i := c2) (j := 7) (ev_var rfl (.int _)) ev_int (by decide) (by decide)) (ev_ixL (i := i) (d := .int sz) (ev_var rfl (hy2.ext (e6.trans x89))) (ev_var rfl (.int _)) (by rw [List.getElem?_map, hsi]; rfl)) hs0.1) fun v H10 x10 hv hf10 => ?_
          have hv := dp_int hv
          subst hv
          refine ⟨_, _, ds ++ [c2 / 7 % sz], rfl, ((e6.trans x89).trans x10).mut nf, ?_, ?_⟩
          · rw [List.map_append]
            exact upd_same
          · rw [tk]
            exact hd.snoc (Int.emod_nonneg _ (by omega)) (Int.emod_lt_of_pos _ hs0.1)
        · obtain ⟨c, y6, ds, rfl, e6, hf6, hd⟩ := p
          rw [List.take_length] at hd
          exact ⟨_, rfl, q _ _ ds (x2.trans e6) hd (.lst (.of hf6) (da_intsL _ ds))⟩
end
end K22

-- L2
set_option maxHeartbeats 4000000
/-! Walks: the law's words and steps. -/
namespace K22
open PySem PySem.Spec PyProof.Rows L2
section
variable {P : Program} {w : World} {K : PySem.W.Frag} {mg : Str → Option Value} {base : Heap}
def wordsOf : Kd → List Str
  | .reg => ["write", "read", "swap"]
  | .cnt => ["add", "get"]
  | .set => ["insert", "remove", "has"]
  | .que => ["put", "take"]
@[reducible] def dStrL (l : List Str) : PyData := .list (l.map PyData.str)
def spNames (K : PySem.W.Frag) : Sp := fun vs H Q _ => ∃ kd : Kd, vs = [.str kd.str] ∧ Ret K (dStrL (wordsOf kd)) H Q
theorem g_names {H : Hp} {kd : Kd} : Gives K (spNames K) H [.str kd.str] (dStrL (wordsOf kd)) := fun H1 e vs hv Q E q => by
  obtain ⟨v, vs, rfl, h1, hv⟩ := da_cons hv
  rw [da_nil hv, dp_str h1]
  exact ⟨kd, rfl, q⟩
theorem w_names {code : Addr} (D : DF K mg "_law_names" s_law_names code) : C8.Cal P w K mg base 1 "_law_names" (spNames K) [] := by
  refine calD D sc_law_names (fun _ _ _ _ _ _ us hl => match us, hl with | [_], _ => rfl) (fun vs H Q E h => ?_) (fun f A outer s H vs Q E hr h => ?_)
  · obtain ⟨kd, rfl, _⟩ := h; rfl
  · obtain ⟨kd, rfl, q⟩ := h
    refine ⟨_, (pss_one (ps_ret (pe_dget (hu_of hr) (pe_disp (pps_cons pe_str (pe_lst (pa_cons pe_str (pa_cons pe_str (pa_cons pe_str pa_nil)))) (pps_cons pe_str (pe_lst (pa_cons pe_str (pa_cons pe_str pa_nil))) (pps_cons pe_str (pe_lst (pa_cons pe_str (pa_cons pe_str (pa_cons pe_str pa_nil)))) (pps_cons pe_str (pe_lst (pa_cons pe_str (pa_cons pe_str pa_nil))) pps_nil)))) (by rfl) (by rfl) (by simp) (by decide)) (pv 0) (fun _ _ => rfl)))), ?_⟩
    intro p np
    refine ⟨by show 3 ≤ sizeLine; exact line_of (by decide), fun p1 n1 => ?_⟩
    refine ⟨by show 2 ≤ sizeLine; exact line_of (by decide), fun p2 n2 => ?_⟩
    refine ⟨by show 3 ≤ sizeLine; exact line_of (by decide), fun p3 n3 => ?_⟩
    refine ⟨by show 2 ≤ sizeLine; exact line_of (by decide), fun p4 n4 => ?_⟩
    have x0 : Ext H (upd H p (.dK [])) := .new np
    obtain ⟨H0, h0⟩ : ∃ H0, H0 = upd H p (.dK []) := ⟨_, rfl⟩
    have hp0 : H0 p = some (.dK []) := by rw [h0]; exact upd_same
    rw [← h0] at x0 n1 n2 n3 n4 ⊢
    clear h0
    obtain ⟨H1, h1⟩ : ∃ H1, H1 = upd H0 p1 (.lst [.str "write", .str "read", .str "swap"]) := ⟨_, rfl⟩
    have x1 : Ext H0 H1 := by rw [h1]; exact .new n1
    have hp1 : H1 p1 = some (.lst [.str "write", .str "read", .str "swap"]) := by rw [h1]; exact upd_same
    have e1 : upd H0 p1 (.lst [.str "write", .str "read", .str "swap"]) = H1 := h1.symm
    rw [e1] at n2 n3 n4 ⊢
    clear h1 e1
    obtain ⟨H2, h2⟩ : ∃ H2, H2 = upd H1 p2 (.lst [.str "add", .str "get"]) := ⟨_, rfl⟩
    have x2 : Ext H1 H2 := by rw [h2]; exact .new n2
    have hp2 : H2 p2 = some (.lst [.str "add", .str "get"]) := by rw [h2]; exact upd_same
    have e1 : upd H1 p2 (.lst [.str "add", .str "get"]) = H2 := h2.symm
    rw [e1] at n3 n4 ⊢
    clear h2 e1
    obtain ⟨H3, h3⟩ : ∃ H3, H3 = upd H2 p3 (.lst [.str "insert", .str "remove", .str "has"]) := ⟨_, rfl⟩
    have x3 : Ext H2 H3 := by rw [h3]; exact .new n3
    have hp3 : H3 p3 = some (.lst [.str "insert", .str "remove", .str "has"]) := by rw [h3]; exact upd_same
    have e1 : upd H2 p3 (.lst [.str "insert", .str "remove", .str "has"]) = H3 := h3.symm
    rw [e1] at n4 ⊢
    clear h3 e1
    obtain ⟨H4, h4⟩ : ∃ H4, H4 = upd H3 p4 (.lst [.str "put", .str "take"]) := ⟨_, rfl⟩
    have x4 : Ext H3 H4 := by rw [h4]; exact .new n4
    have hp4 : H4 p4 = some (.lst [.str "put", .str "take"]) := by rw [h4]; exact upd_same
    have e1 : upd H3 p4 (.lst [.str "put", .str "take"]) = H4 := h4.symm
    rw [e1]
    clear h4 e1
    have x14 := x2.trans (x3.trans x4)
    have g1 := x14.lst hp1
    have g2 := (x3.trans x4).lst hp2
    have g3 := x4.lst hp3
    have hp := (x1.trans x14).dK hp0
    have xs : Ext H H4 := x0.trans (x1.trans x14)
    have ne : ∀ {b : Addr} {xs : List V}, H4 b = some (.lst xs) → b ≠ p := fun h z => by
      subst z
      rw [hp] at h; cases h
    refine ⟨hp, [(.inr "register", .ref p1), (.inr "counter", .ref p2), (.inr "set", .ref p3), (.inr "queue", .ref p4)], rfl, by show 4 ≤ 15; decide, .str kd.str, rfl, p, ?_⟩
    cases kd with
    | reg => exact ⟨.ref p1, rfl, DGet.k (k := .inr "register") upd_same, q _ _ (xs.mut np) (.lst (.of (by rw [upd_ne (ne g1)]; exact g1)) (.cons (.str _) (.cons (.str _) (.cons (.str _) .nil))))⟩
    | cnt => exact ⟨.ref p2, rfl, DGet.k (k := .inr "counter") upd_same, q _ _ (xs.mut np) (.lst (.of (by rw [upd_ne (ne g2)]; exact g2)) (.cons (.str _) (.cons (.str _) .nil)))⟩
    | set => exact ⟨.ref p3, rfl, DGet.k (k := .inr "set") upd_same, q _ _ (xs.mut np) (.lst (.of (by rw [upd_ne (ne g3)]; exact g3)) (.cons (.str _) (.cons (.str _) (.cons (.str _) .nil))))⟩
    | que => exact ⟨.ref p4, rfl, DGet.k (k := .inr "queue") upd_same, q _ _ (xs.mut np) (.lst (.of (by rw [upd_ne (ne hp4)]; exact hp4)) (.cons (.str _) (.cons (.str _) .nil)))⟩
end
end K22

-- L3
set_option maxHeartbeats 4000000
/-! Walks: the law's steps. -/
namespace K22
open PySem PySem.Spec PyProof.Rows L2
section
variable {P : Program} {w : World} {K : PySem.W.Frag} {mg : Str → Option Value} {base : Heap}
def oneArg : List Str := ["write", "add", "insert", "remove", "has", "put"]
def manyM (o : Str) : Nat := if o = "swap" then 2 else if o ∈ oneArg then 1 else 0
def spMany (K : PySem.W.Frag) : Sp := fun vs H Q _ => ∃ o : Str, vs = [.str o] ∧ Ret K (.int ((manyM o : Nat) : Int)) H Q
theorem w_many {code : Addr} (D : DF K mg "_law_many" s_law_many code) (T : Bn mg) : C8.Cal P w K mg base 1 "_law_many" (spMany K) [] := by
  refine calD D sc_law_many (fun _ _ _ _ _ _ us hl => match us, hl with | [_], _ => rfl) (fun vs H Q E h => ?_) (fun f A outer s H vs Q E hr h => ?_)
  · obtain ⟨o, rfl, _⟩ := h; rfl
  · obtain ⟨o, rfl, q⟩ := h
    refine ⟨_, (pss_cons (ps_if (pt_cmpR op_eq (pv 0) pe_str (nomark _)) (pss_one (ps_ret pe_int)) pss_nil)
      (pss_one (ps_ret (pe_callTy call_int1 (by rfl) T.int (by decide +kernel) (pa_cons (pe_cmpR op_in_seq (pv 0) (pe_lst (pa_cons pe_str (pa_cons pe_str (pa_cons pe_str (pa_cons pe_str (pa_cons pe_str (pa_cons pe_str pa_nil))))))) rfl) pa_nil))))), ?_⟩
    refine if_go (eb_eqS (K := K) (a := o) (b := "swap") (ev_var rfl (.str _)) ev_str) (.refl H) (fun hb H2 x2 _ => ?_) fun hb H2 x2 _ => ?_
    · have := pdec hb
      subst this
      exact q _ _ x2 (.int _)
    · have hl := ev_lst (K := K) (σ := start N_law_many [.str o]) (H := H2) (ea_cons (ev_str (s := "write")) (ea_cons (ev_str (s := "add")) (ea_cons (ev_str (s := "insert")) (ea_cons (ev_str (s := "remove")) (ea_cons (ev_str (s := "has")) (ea_cons (ev_str (s := "put")) ea_nil))))))
      have hin : EvD K (tOp (rIn K false) (tVar 0) _) (start N_law_many [.str o]) H2 (.bool (decide (o ∈ oneArg))) := ev_cmp (ev_var (i := 0) rfl (.str _)) hl fun x y H1 Q' _ hx hy q' => by
        obtain ⟨a, xs, rfl, h1, h2⟩ := dp_list hy
        have e : xs = oneArg.map V.str := da_strs (ns := oneArg) h2
        subst e
        rw [dp_str hx]
        exact ⟨a, _, rfl, .inl h1, rfl, rfl, by rw [if_neg Bool.false_ne_true, inV_strs]; exact q'⟩
      refine hin.go fun v H3 x3 hv => ?_
      cases hv
      refine .inr ⟨_, rfl, ?_⟩
      have : (if decide (o ∈ oneArg) = true then (1 : Int) else 0) = ((manyM o : Nat) : Int) := by
        unfold manyM
        rw [if_neg (of_decide_eq_false hb)]
        by_cases h : o ∈ oneArg
        · rw [if_pos (decide_eq_true h), if_pos h]; rfl
        · rw [if_neg (by simpa using h), if_neg h]; rfl
      rw [this]
      exact q _ _ (x2.trans x3) (.int _)
theorem g_many {H : Hp} {o : Str} : Gives K (spMany K) H [.str o] (.int ((manyM o : Nat) : Int)) := fun H1 e vs hv Q E q => by
  obtain ⟨v, vs, rfl, h1, hv⟩ := da_cons hv
  rw [da_nil hv, dp_str h1]
  exact ⟨o, rfl, q⟩
def argsM (o : Str) (a b : Int) : List Int := [a % 4, b % 4].take (manyM o)
def spArgs (K : PySem.W.Frag) : Sp := fun vs H Q _ => ∃ (o : Str) (a b : Int), vs = [.str o, .int a, .int b] ∧ Ret K (dInts (argsM o a b)) H Q
theorem g_args {H : Hp} {o : Str} {a b : Int} : Gives K (spArgs K) H [.str o, .int a, .int b] (dInts (argsM o a b)) := fun H1 e vs hv Q E q => by
  obtain ⟨v, vs, rfl, h1, hv⟩ := da_cons hv
  obtain ⟨v2, vs, rfl, h2, hv⟩ := da_cons hv
  obtain ⟨v3, vs, rfl, h3, hv⟩ := da_cons hv
  rw [da_nil hv, dp_str h1, dp_int h2, dp_int h3]
  exact ⟨o, a, b, rfl, q⟩
theorem ev_slL {te : TE} {tl th : TO} {σ : L2.St} {H : Hp} {ds : List PyData} {l h : Option Nat} (he : EvD K te σ H (.list ds)) (hl : EvO tl σ H l) (hh : EvO th σ H h) : EvD K (tSl (rSlL K) te tl th) σ H (.list (cutD ds l h)) := fun H1 x Q q =>
  he H1 x _ fun v H2 e2 hv => hl H2 (x.trans e2) _ fun H3 e3 => hh H3 ((x.trans e2).trans e3) _ fun H4 e4 => by
    obtain ⟨a, xs, rfl, h1, h2⟩ := dp_list hv
    refine ⟨a, xs, rfl, (e3.trans e4).seqL h1, fun p np => ?_⟩
    exact q _ _ (((e2.trans e3).trans e4).trans (.new np)) (.lst (.of upd_same) ((da_cut h2 l h).ext ((e3.trans e4).trans (.new np))))
theorem w_args {code : Addr} (D : DF K mg "_law_args" s_law_args code) (T : Bn mg) (c_law_many : C8.Cal P w K mg base 1 "_law_many" (spMany K) []) : C8.Cal P w K mg base 2 "_law_args" (spArgs K) [] := by
  refine calD D sc_law_args (fun _ _ _ _ _ _ us hl => match us, hl with | [_, _, _], _ => rfl) (fun vs H Q E h => ?_) (fun f A outer s H vs Q E hr h => ?_)
  · obtain ⟨o, a, b, rfl, _⟩ := h; rfl
  · obtain ⟨o, a, b, rfl, q⟩ := h
    refine ⟨_, (pss_one (ps_ret (pe_tupleOf (by rfl) T.tuple (pe_slice sl_list (pe_lst (pa_cons (pe_op op_mod (pv 1) pe_int) (pa_cons (pe_op op_mod (pv 2) pe_int) pa_nil))) po_none (po_some (C8.pe_c c_law_many hr (by first | decide | omega) (by rfl) (pa_cons (pv 0) pa_nil))))))), ?_⟩
    have hn : EvO (tPart (tCall (spMany K) [] C8.E0 (tCons (tVar 0) tNil))) (start N_law_args [.str o, .int a, .int b]) H (some (manyM o)) := eo_some (K := K) (ev_call (ea_cons (ev_var rfl (.str _)) ea_nil) g_many)
    have hs := ev_slL (ev_lst (K := K) (σ := start N_law_args [.str o, .int a, .int b]) (H := H) (ea_cons (ev_mod (i := a) (j := 4) (ev_var (i := 1) rfl (.int _)) ev_int (by decide)) (ea_cons (ev_mod (i := b) (j := 4) (ev_var (i := 2) rfl (.int _)) ev_int (by decide)) ea_nil))) eo_none hn
    rw [cut_to] at hs
    have e : [PyData.int (a % 4), .int (b % 4)].take (manyM o) = (argsM o a b).map PyData.int := by
      unfold argsM
      rw [List.map_take]; rfl
    rw [e] at hs
    exact (ev_tuple hs).ret q (.refl H)
theorem args_len {kd : Kd} {o : Str} {n : Nat} (h : need kd o = some n) (a b : Int) : (argsM o a b).length = n := by
  have : manyM o = n := by
    cases kd <;> (unfold need at h; simp only at h) <;> (repeat' split at h) <;> first | (cases h; subst_vars; decide) | cases h
  unfold argsM
  rw [List.length_take, this]
  have : n ≤ 2 := by
    cases kd <;> (unfold need at h; simp only at h) <;> (repeat' split at h) <;> first | (cases h; decide) | cases h
  simp
  omega
theorem args_ok {kd : Kd} {o : Str} {n : Nat} (h : need kd o = some n) (a b : Int) : OpOk kd o (argsM o a b) := by
  refine ⟨by rw [args_len h a b]; exact h, fun x hx => ?_⟩
  have hx := List.mem_of_mem_take hx
  simp only [List.mem_cons, List.mem_nil_iff, or_false] at hx
  rcases hx with rfl | rfl <;> constructor <;> omega
def spFirstL (K : PySem.W.Frag) : Sp := fun vs H Q _ => ∃ kd : Kd, vs = [.str kd.str] ∧ Ret K (dStt kd.first) H Q
theorem w_firstL {code : Addr} (D : DF K mg "_law_first" s_law_first code) : C8.Cal P w K mg base 1 "_law_first" (spFirstL K) [] := by
  refine calD D sc_law_first (fun _ _ _ _ _ _ us hl => match us, hl with | [_], _ => rfl) (fun vs H Q E h => ?_) (fun f A outer s H vs Q E hr h => ?_)
  · obtain ⟨kd, rfl, _⟩ := h; rfl
  · obtain ⟨kd, rfl, q⟩ := h
    refine ⟨_, (pss_cons (ps_if (PW.pt (pw_or (pt_cmpR op_eq (pv 0) pe_str (nomark _)) (pw_or1 (pt_cmpR op_eq (pv 0) pe_str (nomark _))))) (pss_one (ps_ret pe_int)) pss_nil)
      (pss_one (ps_ret (pe_tup pa_nil)))), ?_⟩
    refine if_go (b := decide (kd.str = "register") || decide (kd.str = "counter")) (eb_or (eb_eqS (K := K) (ev_var rfl (.str _)) ev_str) fun _ => eb_eqS (K := K) (ev_var rfl (.str _)) ev_str) (.refl H) (fun hb H2 x2 _ => ?_) fun hb H2 x2 _ => ?_
    · cases kd with
      | reg => exact q _ _ x2 (.int _)
      | cnt => exact q _ _ x2 (.int _)
      | set => exact absurd hb (by decide)
      | que => exact absurd hb (by decide)
    · cases kd with
      | reg => exact absurd hb (by decide)
      | cnt => exact absurd hb (by decide)
      | set => exact (ev_tup (K := K) (σ := start N_law_first [.str "set"]) ea_nil).ret q x2
      | que => exact (ev_tup (K := K) (σ := start N_law_first [.str "queue"]) ea_nil).ret q x2
/-- a state as the law keeps it -/
def LSt (b : Nat) : Kd → Stt → Prop
  | .reg, .num _ => True
  | .cnt, .num _ => True
  | .set, .seq l => l.length ≤ b
  | .que, .seq l => l.length ≤ b
  | _, _ => False
theorem LSt.mono {b c : Nat} {kd : Kd} {s : Stt} (h : LSt b kd s) (hb : b ≤ c) : LSt c kd s := by
  cases kd <;> cases s <;> first | trivial | exact Nat.le_trans h hb | exact h
theorem LSt.first {b : Nat} (kd : Kd) : LSt b kd kd.first := by
  cases kd <;> first | trivial | exact Nat.zero_le _
theorem op_reg {o : Str} {a : List Int} (h : OpOk .reg o a) : (o = "write" ∧ ∃ x, a = [x]) ∨ (o = "read" ∧ a = []) ∨ (o = "swap" ∧ ∃ x y, a = [x, y]) := by
  have h := h.1
  unfold need at h
  simp only at h
  split at h
  · next e => exact .inl ⟨e, List.length_eq_one_iff.mp (Option.some.inj h).symm⟩
  · split at h
    · next e => exact .inr (.inl ⟨e, List.length_eq_zero_iff.mp (Option.some.inj h).symm⟩)
    · split at h
      · next e =>
        refine .inr (.inr ⟨e, ?_⟩)
        match a, h with
        | [x, y], _ => exact ⟨x, y, rfl⟩
      · cases h
theorem op_cnt {o : Str} {a : List Int} (h : OpOk .cnt o a) : (o = "add" ∧ ∃ x, a = [x]) ∨ (o = "get" ∧ a = []) := by
  have h := h.1
  unfold need at h
  simp only at h
  split at h
  · next e => exact .inl ⟨e, List.length_eq_one_iff.mp (Option.some.inj h).symm⟩
  · split at h
    · next e => exact .inr ⟨e, List.length_eq_zero_iff.mp (Option.some.inj h).symm⟩
    · cases h
theorem op_set {o : Str} {a : List Int} (h : OpOk .set o a) : (o = "insert" ∨ o = "remove" ∨ o = "has") ∧ ∃ x, a = [x] := by
  have h := h.1
  unfold need at h
  simp only at h
  split at h
  · next e => exact ⟨.inl e, List.length_eq_one_iff.mp (Option.some.inj h).symm⟩
  · split at h
    · next e => exact ⟨.inr (.inl e), List.length_eq_one_iff.mp (Option.some.inj h).symm⟩
    · split at h
      · next e => exact ⟨.inr (.inr e), List.length_eq_one_iff.mp (Option.some.inj h).symm⟩
      · cases h
theorem op_que {o : Str} {a : List Int} (h : OpOk .que o a) : (o = "put" ∧ ∃ x, a = [x]) ∨ (o = "take" ∧ a = []) := by
  have h := h.1
  unfold need at h
  simp only at h
  split at h
  · next e => exact .inl ⟨e, List.length_eq_one_iff.mp (Option.some.inj h).symm⟩
  · split at h
    · next e => exact .inr ⟨e, List.length_eq_zero_iff.mp (Option.some.inj h).symm⟩
    · cases h
theorem lc_fresh {σ : L2.St} {H : Hp} {wi : TI} {g : TG} {tt : TT} {te : TE} {vs : List Nat} {n : Nat} {Y : Nat → Hp → V → Hp → Prop} (f : Nat → Option PyData) (hw : WalkD wi σ H n Y) (hn : n ≤ 1000000) (hz : ∀ i d, i < n → f i = some d → noL d = true)
    (hb : ∀ i x H3 H4, i < n → Ext H H3 → Y i H3 x H4 → TurnC K g tt te σ vs (f i) x H3 H4) : ∀ H1, Ext H H1 → ∀ Q : VK, (∀ D acc H2, Ext H1 H2 → H2 D = some (.lst acc) → DpAll K H2 acc ((List.range n).filterMap f) → Q (.ref D) H2) → tLc wi g tt te vs σ H1 Q := fun H1 x Q q =>
  hw H1 x _ fun J H2 G e2 wk hG D nD => by
    have e0 : Ext H2 (upd H2 D (.lst [])) := .new nD
    refine lc_it wk (fun i H3 => Ext H2 H3 ∧ ∃ acc, H3 D = some (.lst acc) ∧ acc.length ≤ i ∧ DpAll K H3 acc ((List.range i).filterMap f)) ⟨e0, [], upd_same, Nat.le_refl _, .nil⟩ (fun i H3 _ p => hG H3 p.1) (fun i y H3 H4 hi p hy => ?_) fun H3 p => ?_
    · obtain ⟨e3, acc, hD, hl, ha⟩ := p
      have zs : noLs ((List.range i).filterMap f) = true := by
        have : ∀ (l : List Nat), (∀ j ∈ l, j < n) → noLs (l.filterMap f) = true := fun l => by
          induction l with
          | nil => intro _; rfl
          | cons a l ih =>
            intro hl
            rw [List.filterMap_cons]
            cases hf : f a with
            | none => exact ih fun j hj => hl j (List.mem_cons_of_mem _ hj)
            | some d =>
              show noLs (d :: _) = true
              rw [noLs, hz a d (hl a List.mem_cons_self) hf, ih fun j hj => hl j (List.mem_cons_of_mem _ hj)]
              rfl
        exact this _ fun j hj => Nat.lt_trans (List.mem_range.mp hj) hi
      refine hb i y H3 H4 hi ((x.trans e2).trans e3) hy _ _ (fun d hd z H7 e7 hz7 => ?_) (fun hd H6 e6 => ?_)
      · have hD7 := e7.lst hD
        refine ⟨acc, hD7, line_lt (by omega), ?_, acc ++ [z], upd_same, by rw [List.length_append]; show _ + 1 ≤ _; omega, ?_⟩
        · exact (e3.trans e7).mut nD
        · rw [List.range_succ, List.filterMap_append]
          have : List.filterMap f [i] = [d] := by rw [List.filterMap_cons, hd]; rfl
          rw [this]
          exact da_append ((ha.ext e7).extL zs extB_upd ⟨_, hD7⟩) (da_one (hz7.extL (hz i d hi hd) extB_upd ⟨_, hD7⟩))
      · refine ⟨e3.trans e6, acc, e6.lst hD, by omega, ?_⟩
        rw [List.range_succ, List.filterMap_append]
        have : List.filterMap f [i] = [] := by rw [List.filterMap_cons, hd]; rfl
        rw [this, List.append_nil]
        exact ha.ext e6
    · obtain ⟨e3, acc, hD, hl, ha⟩ := p
      exact q _ _ _ (e2.trans e3) hD ha
theorem r_neB {a b : Bool} {x y : V} {H1 : Hp} {Q : VK} (hx : Dp K H1 x (.bool a)) (hy : Dp K H1 y (.bool b)) (q : Q (.bl (a != b)) H1) : rNe x y H1 Q := by
  cases hx
  cases hy
  refine ⟨rfl, ?_⟩
  have : (!decide (V.bl a = V.bl b)) = (a != b) := by cases a <;> cases b <;> rfl
  rw [this]
  exact q
theorem ev_intB {t : TE} {σ : L2.St} {H : Hp} {b : Bool} (h : EvD K t σ H (.bool b)) : EvD K (tCB (fun xs H Q => (∃ i, xs = [.int i] ∧ Q (.int i) H) ∨ ∃ k, xs = [.bl k] ∧ Q (.int (if k then 1 else 0)) H) (tCons t tNil)) σ H (.int (((if b then 1 else 0 : Nat) : Nat) : Int)) := fun H1 x Q q => h H1 x _ fun v H2 x2 hv => by
  cases hv
  refine .inr ⟨_, rfl, ?_⟩
  cases b <;> exact q _ H2 x2 (.int _)
theorem then_go {ta : TE} {k : V → Hp → VK → Prop} {σ : L2.St} {H : Hp} {Q : VK} (h : ta σ H fun x H1 => k x H1 Q) : tThen ta k σ H Q := h
theorem cb1_go {r : List V → Hp → VK → Prop} {t : TE} {σ : L2.St} {H : Hp} {Q : VK} (h : t σ H fun v H1 => r [v] H1 Q) : tCB r (tCons t tNil) σ H Q := h
theorem op_go {r : R2} {ta tb : TE} {σ : L2.St} {H : Hp} {Q : VK} (h : ta σ H fun x H1 => tb σ H1 fun y H2 => r x y H2 Q) : tOp r ta tb σ H Q := h
theorem if_no {te : TE} {σ : L2.St} {H : Hp} {a b : Str} {t u : TS} {D : Ends} (he : EvD K te σ H (.str a)) (hab : ¬ a = b) (q : ∀ H2, Ext H H2 → u D σ H2) : tIfS (tTest (tOp rEq te (tC (.str b)))) t u D σ H := if_go (eb_eqS he ev_str) (.refl H) (fun h => absurd (pdec h) hab) fun _ H2 x _ => q H2 x
theorem if_yes {te : TE} {σ : L2.St} {H : Hp} {a : Str} {t u : TS} {D : Ends} (he : EvD K te σ H (.str a)) (q : ∀ H2, Ext H H2 → t D σ H2) : tIfS (tTest (tOp rEq te (tC (.str a)))) t u D σ H := if_go (eb_eqS he ev_str) (.refl H) (fun _ H2 x _ => q H2 x) fun h => absurd rfl (of_decide_eq_false h)
theorem if_no2 {te : TE} {σ : L2.St} {H : Hp} {a b c : Str} {t u : TS} {D : Ends} (he : ∀ H, EvD K te σ H (.str a)) (hab : ¬ a = b) (hac : ¬ a = c) (q : ∀ H2, Ext H H2 → u D σ H2) : tIfS (tOr (tTest (tOp rEq te (tC (.str b)))) (tTest (tOp rEq te (tC (.str c))))) t u D σ H := if_go (eb_or (eb_eqS (he H) ev_str) fun _ => eb_eqS (he H) ev_str) (.refl H) (fun h => by
  rw [decide_eq_false hab, decide_eq_false hac] at h
  cases h) fun _ H2 x _ => q H2 x
theorem if_yes2 {te : TE} {σ : L2.St} {H : Hp} {a b c : Str} {t u : TS} {D : Ends} (he : ∀ H, EvD K te σ H (.str a)) (hab : a = b ∨ a = c) (q : ∀ H2, Ext H H2 → t D σ H2) : tIfS (tOr (tTest (tOp rEq te (tC (.str b)))) (tTest (tOp rEq te (tC (.str c))))) t u D σ H := if_go (eb_or (eb_eqS (he H) ev_str) fun _ => eb_eqS (he H) ev_str) (.refl H) (fun _ H2 x _ => q H2 x) fun h => by
  rw [Bool.or_eq_false_iff] at h
  rcases hab with z | z
  · exact absurd z (of_decide_eq_false h.1)
  · exact absurd z (of_decide_eq_false h.2)
def RetStep (K : PySem.W.Frag) (b : Nat) (kd : Kd) (H : Hp) (Q : VK) : Prop := ∀ v H' st' r, Ext H H' → Dp K H' v (.tuple [dStt st', dKey r]) → LSt (b + 1) kd st' → kOk r = true → Q v H'
def spLStep (K : PySem.W.Frag) : Sp := fun vs H Q _ => ∃ (kd : Kd) (st : Stt) (o : Str) (a : List Int) (b : Nat) (x y : V), vs = [.str kd.str, x, .str o, y] ∧ Dp K H x (dStt st) ∧ Dp K H y (dInts a) ∧ LSt b kd st ∧ b ≤ 60 ∧ OpOk kd o a ∧ RetStep K b kd H Q
theorem w_lstep {code : Addr} (D : DF K mg "_law_step" s_law_step code) (T : Bn mg) : C8.Cal P w K mg base 1 "_law_step" (spLStep K) [] := by
  refine calD D sc_law_step (fun _ _ _ _ _ _ us hl => match us, hl with | [_, _, _, _], _ => rfl) (fun vs H Q E h => ?_) (fun f A outer s H vs Q E hr h => ?_)
  · obtain ⟨kd, st, o, a, b, x, y, rfl, _⟩ := h; rfl
  · obtain ⟨kd, st, o, a, b, x, y, rfl, hx, hy, hst, hb, ho, q⟩ := h
    refine ⟨_, (pss_cons (ps_if (pt_cmpR op_eq (pv 2) pe_str (nomark _)) (pss_one (ps_ret (pe_tup (pa_cons (pe_ix ixD (pv 3) pe_int (fun _ _ => rfl)) (pa_cons pe_str pa_nil))))) pss_nil)
      (pss_cons (ps_if (PW.pt (pw_or (pt_cmpR op_eq (pv 2) pe_str (nomark _)) (pw_or1 (pt_cmpR op_eq (pv 2) pe_str (nomark _))))) (pss_one (ps_ret (pe_tup (pa_cons (pv 1) (pa_cons (pv 1) pa_nil))))) pss_nil)
      (pss_cons (ps_if (pt_cmpR op_eq (pv 2) pe_str (nomark _)) (pss_cons (ps_if (pt_cmpR op_eq (pv 1) (pe_ix ixD (pv 3) pe_int (fun _ _ => rfl)) (nomark _)) (pss_one (ps_ret (pe_tup (pa_cons (pe_ix ixD (pv 3) pe_int (fun _ _ => rfl)) (pa_cons pe_str pa_nil))))) pss_nil)
      (pss_one (ps_ret (pe_tup (pa_cons (pv 1) (pa_cons pe_str pa_nil)))))) pss_nil)
      (pss_cons (ps_if (pt_cmpR op_eq (pv 2) pe_str (nomark _)) (pss_one (ps_ret (pe_tup (pa_cons (pe_op op_add (pv 1) (pe_ix ixD (pv 3) pe_int (fun _ _ => rfl))) (pa_cons pe_str pa_nil))))) pss_nil)
      (pss_cons (ps_if (pt_cmpR op_eq (pv 2) pe_str (nomark _)) (pss_one (ps_ret (pe_tup (pa_cons (pe_op catD (pv 1) (pe_tup (pa_cons (pe_ix ixD (pv 3) pe_int (fun _ _ => rfl)) pa_nil))) (pa_cons pe_str pa_nil))))) pss_nil)
      (pss_cons (ps_if (pt_cmpR op_eq (pv 2) pe_str (nomark _)) (pss_cons (ps_if (pt_cmpR op_eq (pe_callB lenD (by rfl) T.len PySem.boot_len (pa_cons (pv 1) pa_nil)) pe_int (nomark _)) (pss_one (ps_ret (pe_tup (pa_cons (pv 1) (pa_cons pe_str pa_nil))))) pss_nil)
      (pss_one (ps_ret (pe_tup (pa_cons (pe_slice slD (pv 1) (po_some pe_int) po_none) (pa_cons (pe_ix ixD (pv 1) pe_int (fun _ _ => rfl)) pa_nil)))))) pss_nil)
      (pss_cons (ps_set (i := 4) sc_law_step.nd rfl (by first | exact .inl rfl | exact .inr rfl) (pe_ix ixD (pe_lst (pa_cons pe_str (pa_cons pe_str pa_nil))) (pe_callTy call_int1 (by rfl) T.int (by decide +kernel) (pa_cons (pe_cmpR op_ne (pe_cmpR op_in_seq (pe_ix ixD (pv 3) pe_int (fun _ _ => rfl)) (pv 1) rfl) (pe_cmpR op_eq (pv 2) pe_str (nomark _)) (nomark _)) pa_nil)) (fun _ _ => rfl)))
      (pss_cons (ps_if (pt_cmpR op_eq (pv 2) pe_str (nomark _)) (pss_one (ps_ret (pe_tup (pa_cons (pe_tupleOf (by rfl) T.tuple (pe_callB cr_sorted (by rfl) T.sorted (by decide +kernel) (pa_cons (pe_op op_cat (pe_lc (own := [("_law_v", 5)]) (g := (gName 5)) (tt := (tTest (tOp rNe (tVar 5) (tOp (rIxD' K) (tVar 3) (tC (.int 0)))))) (te := (tVar 5)) rfl sc_law_step.nd (pi_tup (pv 1)) (blkOk_by (N := N_law_step) (sc := defScope s_law_step) (by decide +kernel)) (fun _ _ _ _ _ => (pg_name (i := 5) sc_law_step.nd rfl (by first | exact .inl rfl | exact .inr rfl))) (fun _ _ _ _ _ => pts_one (pt_cmpR op_ne (pv 5) (pe_ix ixD (pv 3) pe_int (fun _ _ => rfl)) (nomark _))) (fun _ _ _ _ _ => (pv 5))) (pe_lst (pa_cons (pe_ix ixD (pv 3) pe_int (fun _ _ => rfl)) pa_nil))) pa_nil))) (pa_cons (pv 4) pa_nil))))) pss_nil)
      (pss_cons (ps_if (pt_cmpR op_eq (pv 2) pe_str (nomark _)) (pss_one (ps_ret (pe_tup (pa_cons (pe_tupleOf (by rfl) T.tuple (pe_lc (own := [("_law_v", 5)]) (g := (gName 5)) (tt := (tTest (tOp rNe (tVar 5) (tOp (rIxD' K) (tVar 3) (tC (.int 0)))))) (te := (tVar 5)) rfl sc_law_step.nd (pi_tup (pv 1)) (blkOk_by (N := N_law_step) (sc := defScope s_law_step) (by decide +kernel)) (fun _ _ _ _ _ => (pg_name (i := 5) sc_law_step.nd rfl (by first | exact .inl rfl | exact .inr rfl))) (fun _ _ _ _ _ => pts_one (pt_cmpR op_ne (pv 5) (pe_ix ixD (pv 3) pe_int (fun _ _ => rfl)) (nomark _))) (fun _ _ _ _ _ => (pv 5)))) (pa_cons (pv 4) pa_nil))))) pss_nil)
      (pss_one (ps_ret (pe_tup (pa_cons (pv 1) (pa_cons (pv 4) pa_nil)))))))))))))), ?_⟩
    have vo : ∀ H', EvD K (tVar 2) (start N_law_step [.str kd.str, x, .str o, y]) H' (.str o) := fun H' => ev_var rfl (.str _)
    have va : ∀ H', Ext H H' → ∀ (i : Nat) z, a[i]? = some z → EvD K (tOp (rIxD' K) (tVar 3) (tC (.int ((i : Nat) : Int)))) (start N_law_step [.str kd.str, x, .str o, y]) H' (.int z) := fun H' e i z hz => ev_ix (i := i) (ev_var rfl (hy.ext e)) ev_int (by rw [List.getElem?_map, hz]; rfl)
    have vx : ∀ H', Ext H H' → EvD K (tVar 1) (start N_law_step [.str kd.str, x, .str o, y]) H' (dStt st) := fun H' e => ev_var rfl (hx.ext e)
    cases kd with
    | reg =>
      cases st with
      | seq l => exact absurd hst id
      | num i =>
        rcases op_reg ho with ⟨rfl, z, rfl⟩ | ⟨rfl, rfl⟩ | ⟨rfl, z, z2, rfl⟩
        · refine if_yes (vo _) fun H2 x2 => ?_
          exact (ev_tup (ea_cons (va H2 x2 0 z rfl) (ea_cons (ev_str (s := "ok")) ea_nil))).go fun v H3 x3 hv => q v H3 (.num z) (.inr "ok") (x2.trans x3) hv trivial (by decide +kernel)
        · refine if_no (vo _) (by decide) fun H2 x2 => ?_
          refine if_yes2 vo (.inl rfl) fun H3 x3 => ?_
          exact (ev_tup (ea_cons (vx H3 (x2.trans x3)) (ea_cons (vx H3 (x2.trans x3)) ea_nil))).go fun v H4 x4 hv => q v H4 (.num i) (.inl i) ((x2.trans x3).trans x4) hv trivial rfl
        · refine if_no (vo _) (by decide) fun H2 x2 => ?_
          refine if_no2 vo (by decide) (by decide) fun H3 x3 => ?_
          refine if_yes (vo _) fun H4 x4 => ?_
          have x24 := (x2.trans x3).trans x4
          refine if_go (eb_eqI (K := K) (a := i) (b := z) (vx H4 x24) (va H4 x24 0 z rfl)) (.refl H4) (fun _ H5 x5 _ => ?_) fun _ H5 x5 _ => ?_
          · exact (ev_tup (ea_cons (va H5 (x24.trans x5) 1 z2 rfl) (ea_cons (ev_str (s := "yes")) ea_nil))).go fun v H6 x6 hv => q v H6 (.num z2) (.inr "yes") ((x24.trans x5).trans x6) hv trivial (by decide +kernel)
          · exact (ev_tup (ea_cons (vx H5 (x24.trans x5)) (ea_cons (ev_str (s := "no")) ea_nil))).go fun v H6 x6 hv => q v H6 (.num i) (.inr "no") ((x24.trans x5).trans x6) hv trivial (by decide +kernel)
    | cnt =>
      cases st with
      | seq l => exact absurd hst id
      | num i =>
        rcases op_cnt ho with ⟨rfl, z, rfl⟩ | ⟨rfl, rfl⟩
        · refine if_no (vo _) (by decide) fun H2 x2 => ?_
          refine if_no2 vo (by decide) (by decide) fun H3 x3 => ?_
          refine if_no (vo _) (by decide) fun H4 x4 => ?_
          refine if_yes (vo _) fun H5 x5 => ?_
          have x25 := ((x2.trans x3).trans x4).trans x5
          exact (ev_tup (ea_cons (ev_add (i := i) (j := z) (vx H5 x25) (va H5 x25 0 z rfl)) (ea_cons (ev_str (s := "ok")) ea_nil))).go fun v H6 x6 hv => q v H6 (.num (i + z)) (.inr "ok") (x25.trans x6) hv trivial (by decide +kernel)
        · refine if_no (vo _) (by decide) fun H2 x2 => ?_
          refine if_yes2 vo (.inr rfl) fun H3 x3 => ?_
          exact (ev_tup (ea_cons (vx H3 (x2.trans x3)) (ea_cons (vx H3 (x2.trans x3)) ea_nil))).go fun v H4 x4 hv => q v H4 (.num i) (.inl i) ((x2.trans x3).trans x4) hv trivial rfl
    | que =>
      cases st with
      | num i => exact absurd hst id
      | seq l =>
        have hlb : l.length ≤ b := hst
        rcases op_que ho with ⟨rfl, z, rfl⟩ | ⟨rfl, rfl⟩
        · refine if_no (vo _) (by decide) fun H2 x2 => ?_
          refine if_no2 vo (by decide) (by decide) fun H3 x3 => ?_
          refine if_no (vo _) (by decide) fun H4 x4 => ?_
          refine if_no (vo _) (by decide) fun H5 x5 => ?_
          refine if_yes (vo _) fun H6 x6 => ?_
          have x26 := (((x2.trans x3).trans x4).trans x5).trans x6
          have hc := ev_tup (ea_cons (ev_cat (vx H6 x26) (ev_tup (ea_cons (va H6 x26 0 z rfl) ea_nil)) (by rw [List.length_map]; simp; omega)) (ea_cons (ev_str (s := "ok")) ea_nil))
          exact hc.go fun v H7 x7 hv => q v H7 (.seq (l ++ [z])) (.inr "ok") (x26.trans x7) (by
            show Dp K H7 v (.tuple [.tuple ((l ++ [z]).map PyData.int), _])
            rw [List.map_append]
            exact hv) (by show (l ++ [z]).length ≤ b + 1; rw [List.length_append]; show l.length + 1 ≤ b + 1; omega) (by decide +kernel)
        · refine if_no (vo _) (by decide) fun H2 x2 => ?_
          refine if_no2 vo (by decide) (by decide) fun H3 x3 => ?_
          refine if_no (vo _) (by decide) fun H4 x4 => ?_
          refine if_no (vo _) (by decide) fun H5 x5 => ?_
          refine if_no (vo _) (by decide) fun H6 x6 => ?_
          refine if_yes (vo _) fun H7 x7 => ?_
          have x27 := ((((x2.trans x3).trans x4).trans x5).trans x6).trans x7
          have hlen := ev_len (K := K) (ea_cons (vx H7 x27) ea_nil)
          rw [List.length_map] at hlen
          refine if_go (eb_eqI (K := K) (a := ((l.length : Nat) : Int)) (b := 0) hlen ev_int) (.refl H7) (fun h0 H8 x8 _ => ?_) fun h0 H8 x8 _ => ?_
          · have hl0 : l = [] := List.length_eq_zero_iff.mp (by have := pdec h0; omega)
            subst hl0
            exact (ev_tup (ea_cons (vx H8 (x27.trans x8)) (ea_cons (ev_str (s := "empty")) ea_nil))).go fun v H9 x9 hv => q v H9 (.seq []) (.inr "empty") ((x27.trans x8).trans x9) hv (Nat.zero_le _) (by decide +kernel)
          · cases l with
            | nil => exact absurd rfl (of_decide_eq_false h0)
            | cons z l =>
              have hs := ev_sl (l := some 1) (h := none) (vx H8 (x27.trans x8)) (eo_some (K := K) (t := tC (.int 1)) ev_int) eo_none
              rw [cut_from] at hs
              exact (ev_tup (ea_cons hs (ea_cons (ev_ix (i := 0) (d := .int z) (vx H8 (x27.trans x8)) ev_int rfl) ea_nil))).go fun v H9 x9 hv => q v H9 (.seq l) (.inl z) ((x27.trans x8).trans x9) hv (by show l.length ≤ b + 1; have : l.length + 1 ≤ b := hlb; omega) rfl
    | set =>
      cases st with
      | num i => exact absurd hst id
      | seq l =>
        have hlb : l.length ≤ b := hst
        obtain ⟨hw, z, rfl⟩ := op_set ho
        have nw : ∀ c : Str, c ∈ (["write", "read", "get", "swap", "add", "put", "take"] : List Str) → ¬ o = c := fun c hc z => by
          subst z
          rcases hw with h | h | h <;> (subst h; revert hc; decide)
        refine if_no (vo _) (nw _ (by decide)) fun H2 x2 => ?_
        refine if_no2 vo (nw _ (by decide)) (nw _ (by decide)) fun H3 x3 => ?_
        refine if_no (vo _) (nw _ (by decide)) fun H4 x4 => ?_
        refine if_no (vo _) (nw _ (by decide)) fun H5 x5 => ?_
        refine if_no (vo _) (nw _ (by decide)) fun H6 x6 => ?_
        refine if_no (vo _) (nw _ (by decide)) fun H7 x7 => ?_
        have x27 := ((((x2.trans x3).trans x4).trans x5).trans x6).trans x7
        obtain ⟨bb, hbb⟩ : ∃ bb : Bool, bb = (decide (z ∈ l) != decide (o = "insert")) := ⟨_, rfl⟩
        have hne : EvD K (tOp rNe (tOp (rIn K false) (tOp (rIxD' K) (tVar 3) (tC (.int 0))) (tVar 1)) (tOp rEq (tVar 2) (tC (.str "insert")))) (start N_law_step [.str Kd.set.str, x, .str o, y]) H7 (.bool bb) := by
          rw [hbb]
          exact ev_cmp (ev_inT (va H7 x27 0 z rfl) (vx H7 x27)) (ev_eqS (vo _) ev_str) fun _ _ _ _ _ hx hy q => r_neB hx hy q
        have hans : EvD K (tOp (rIxD' K) (tLst (tCons (tC (.str "no")) (tCons (tC (.str "yes")) tNil))) _) (start N_law_step [.str Kd.set.str, x, .str o, y]) H7 (.str (if bb then "yes" else "no")) := ev_ixL (i := if bb then 1 else 0) (ev_lst (ea_cons ev_str (ea_cons ev_str ea_nil))) (ev_intB hne) (by cases bb <;> rfl)
        refine set_go (K := K) hans (.refl H7) fun v4 H8 x8 _ h4 => ?_
        have x28 := x27.trans x8
        have kr : kOk (.inr (if bb then "yes" else "no")) = true := by cases bb <;> decide +kernel
        have q' : ∀ v H' st', Ext H H' → Dp K H' v (.tuple [dStt st', .str (if bb then "yes" else "no")]) → LSt (b + 1) .set st' → Q v H' := fun v H' st' e hv hs => q v H' st' (.inr (if bb then "yes" else "no")) e hv hs kr
        have wo : ∀ H', EvD K (tVar 2) [some (.str Kd.set.str), some x, some (.str o), some y, some v4, none] H' (.str o) := fun H' => ev_var rfl (.str _)
        have wa : ∀ H' v5, Ext H H' → EvD K (tOp (rIxD' K) (tVar 3) (tC (.int 0))) [some (.str Kd.set.str), some x, some (.str o), some y, some v4, v5] H' (.int z) := fun H' v5 e => ev_ix (i := 0) (ev_var rfl (hy.ext e)) ev_int rfl
        have turn : ∀ H', Ext H H' → ∀ i u H3 H4, i < (l.map PyData.int).length → Ext H' H3 → YD K (l.map PyData.int) i H3 u H4 → TurnC K (gName 5) (tTest (tOp rNe (tVar 5) (tOp (rIxD' K) (tVar 3) (tC (.int 0))))) (tVar 5) [some (.str Kd.set.str), some x, some (.str o), some y, some v4, none] [5] ((l[i]?).bind fun k => if (!decide (k = z)) = true then some (PyData.int k) else none) u H3 H4 := fun H' e i u H3 H4 hi e3 hu => by
          obtain ⟨e4, d, hd, hu⟩ := hu
          rw [List.length_map] at hi
          rw [List.getElem?_map, List.getElem?_eq_getElem hi] at hd
          cases hd
          rw [List.getElem?_eq_getElem hi]
          generalize l[i] = k at hu
          have hu := dp_int hu
          subst hu
          exact turn_name (b := !decide (k = z)) e4 rfl (eb_neI (ev_var (i := 5) rfl (.int _)) (wa _ _ (e.trans e3))) (fun hb => ⟨_, by rw [Option.bind_some, if_pos hb], ev_var (i := 5) rfl (.int _)⟩) fun hb => by rw [Option.bind_some, if_neg (by rw [hb]; exact Bool.false_ne_true)]
        have hfm : (List.range (l.map PyData.int).length).filterMap (fun i => (l[i]?).bind fun k => if (!decide (k = z)) = true then some (PyData.int k) else none) = (l.filter fun k => !decide (k = z)).map PyData.int := by
          rw [List.length_map, fmr (fun k => if (!decide (k = z)) = true then some (PyData.int k) else none), fm_if (fun k => !decide (k = z))]
        have hfl : (l.filter fun k => !decide (k = z)).length ≤ l.length := List.length_filter_le _ _
        have hz : ∀ i d, i < (l.map PyData.int).length → ((l[i]?).bind fun k => if (!decide (k = z)) = true then some (PyData.int k) else none) = some d → noL d = true := fun i d _ hd => by
          obtain ⟨k, _, hd⟩ := Option.bind_eq_some_iff.mp hd
          split at hd
          · cases hd; rfl
          · cases hd
        have wl : ∀ H', Ext H H' → WalkD (iTup K (tVar 1)) [some (.str Kd.set.str), some x, some (.str o), some y, some v4, none] H' (l.map PyData.int).length (YD K (l.map PyData.int)) := fun H' e => wd_tup (ev_var rfl (hx.ext e))
        refine if_go (eb_eqS (wo H8) ev_str) (.refl H8) (fun _ H9 x9 _ => ?_) fun _ H9 x9 _ => ?_
        · have x29 := x28.trans x9
          have srt : ∀ Q' : VK, (∀ (v : V) (H10 : Hp) (ns : List Int), Ext H9 H10 → Dp K H10 v (.tuple (ns.map PyData.int)) → ns.length ≤ l.length + 1 → Q' v H10) → tThen (tCB (rSorted K) (tCons (tOp rCat (tLc (iTup K (tVar 1)) (gName 5) (tTest (tOp rNe (tVar 5) (tOp (rIxD' K) (tVar 3) (tC (.int 0))))) (tVar 5) [5]) (tLst (tCons (tOp (rIxD' K) (tVar 3) (tC (.int 0))) tNil))) tNil)) (kTup K) [some (.str Kd.set.str), some x, some (.str o), some y, some v4, none] H9 Q' := fun Q' q2 => by
            refine then_go (cb1_go (op_go (lc_fresh (K := K) (H := H9) _ (wl H9 x29) (by rw [List.length_map]; omega) hz (turn H9 x29) H9 (.refl H9) _ fun D acc H10 x10 hD hacc => ?_)))
            rw [hfm] at hacc
            refine (wa H10 none (x29.trans x10)).go fun v H11 x11 hv => ⟨by show 1 ≤ sizeLine; exact line_of (by decide), fun p np => ?_⟩
            have hv := dp_int hv
            subst hv
            have x12 : Ext H11 (upd H11 p (.lst [.int z])) := .new np
            have hacc' : acc = (l.filter fun k => !decide (k = z)).map V.int := da_ofInts hacc
            subst hacc'
            refine ⟨D, p, _, _, rfl, rfl, (x11.trans x12).lst hD, upd_same, line_of (by rw [List.length_map]; show _ + 1 ≤ _; omega), fun p2 np2 => ?_⟩
            refine ⟨p2, (l.filter fun k => !decide (k = z)) ++ [z], rfl, .inl (.inl (by rw [List.map_append]; exact upd_same)), by rw [List.length_append]; show _ + 1 < 64; omega, fun ns p3 hp _ np3 => ?_⟩
            refine .inl ⟨p3, _, rfl, .of upd_same, fun p4 np4 => ?_⟩
            refine q2 _ _ ns ((((((x10.trans x11).trans x12).trans (.new np2)).trans (.new np3)).trans (.new np4))) (dp_tupNew upd_same (da_ints _)) ?_
            rw [hp.length_eq, List.length_append]
            show _ + 1 ≤ _
            omega
          exact srt _ fun v H10 ns x10 hv hn => ⟨v4, rfl, by show 2 ≤ sizeLine; exact line_of (by decide), fun p np => q' _ _ (.seq ns) ((x29.trans x10).trans (.new np)) (dp_tupNew upd_same (.cons (hv.ext (.new np)) (.cons (((h4.ext x9).ext x10).ext (.new np)) .nil))) (by show ns.length ≤ b + 1; omega)⟩
        · have x29 := x28.trans x9
          refine if_go (eb_eqS (wo H9) ev_str) (.refl H9) (fun _ H10 x10 _ => ?_) fun _ H10 x10 _ => ?_
          · have hlc := ev_lc (K := K) _ (wl H10 (x29.trans x10)) (by rw [List.length_map]; omega) hz (turn H10 (x29.trans x10))
            rw [hfm] at hlc
            exact (ev_tup (ea_cons (ev_tuple hlc) (ea_cons (ev_var (i := 4) rfl ((h4.ext x9).ext x10)) ea_nil))).go fun v H11 x11 hv => q' v H11 (.seq (l.filter fun k => !decide (k = z))) ((x29.trans x10).trans x11) hv (by show (l.filter _).length ≤ b + 1; omega)
          · exact (ev_tup (ea_cons (ev_var (i := 1) rfl (hx.ext (x29.trans x10))) (ea_cons (ev_var (i := 4) rfl ((h4.ext x9).ext x10)) ea_nil))).go fun v H11 x11 hv => q' v H11 (.seq l) ((x29.trans x10).trans x11) hv (by show l.length ≤ b + 1; omega)
end
end K22

-- L4
set_option maxHeartbeats 4000000
/-! Walks: a dict without a key; the law's objects. -/
namespace K22
open PySem PySem.Spec PyProof.Rows L2
section
variable {P : Program} {w : World} {K : PySem.W.Frag} {mg : Str → Option Value} {base : Heap}
theorem valV_mem {κ : Type} [DecidableEq κ] : ∀ {kvs : List (κ × V)} {i : Nat} {k : κ} {v : V}, kvs[i]? = some (k, v) → ∃ v', valV kvs k = some v'
  | [], i, k, v, h => by simp at h
  | p :: r, 0, k, v, h => by
    have : p = (k, v) := Option.some.inj h
    exact ⟨p.2, valV_pos (by rw [this])⟩
  | p :: r, i + 1, k, v, h => by
    by_cases e : p.1 = k
    · exact ⟨p.2, valV_pos e⟩
    · obtain ⟨v', h'⟩ := valV_mem (kvs := r) (i := i) h
      exact ⟨v', by rw [valV_neg e]; exact h'⟩
theorem valV_in {κ : Type} [DecidableEq κ] : ∀ {kvs : List (κ × V)} {k : κ} {v : V}, valV kvs k = some v → ∃ i : Nat, kvs[i]? = some (k, v)
  | [], k, v, h => by rw [valV_nil] at h; cases h
  | p :: r, k, v, h => by
    by_cases e : p.1 = k
    · rw [valV_pos e] at h
      exact ⟨0, by rw [← e, ← Option.some.inj h]; rfl⟩
    · rw [valV_neg e] at h
      obtain ⟨i, hi⟩ := valV_in h
      exact ⟨i + 1, hi⟩
theorem Ext.unlock {H H' : Hp} {d : Addr} {od : Obj} {u : HO} (e : Ext (upd H d (.frz od u)) H') (hd : H d = some u) : Ext H (upd H' d u) := fun b o h => by
  by_cases hb : b = d
  · subst hb
    rw [hd] at h
    cases h
    exact .inl upd_same
  · rw [upd_ne hb]
    exact e b o (by rw [upd_ne hb]; exact h)
/-- string keys, and one dropped -/
def StrK (kvs : List (Key × V)) : Prop := ∀ kv ∈ kvs, ∃ s : Str, kv.1 = .inr s
structure DropOk (c : Str) (kvs kvs' : List (Key × V)) : Prop where
  st : StrK kvs'
  at_ : ∀ j : Str, valV kvs' (.inr j) = if j = c then none else valV kvs (.inr j)
  len : kvs'.length ≤ kvs.length
theorem StrK.put {kvs : List (Key × V)} (h : StrK kvs) (s : Str) (v : V) : StrK (putK kvs (.inr s) v) := fun kv hk => by
  unfold putK at hk
  split at hk
  · obtain ⟨kv', h1, h2⟩ := List.mem_map.mp hk
    obtain ⟨s', hs'⟩ := h kv' h1
    refine ⟨s', ?_⟩
    rw [← h2]
    split <;> exact hs'
  · rcases List.mem_append.mp hk with z | z
    · exact h kv z
    · exact ⟨s, by rw [List.mem_singleton.mp z]⟩
def spDrop : Sp := fun vs H Q _ => ∃ (d : Addr) (c : Str) (kvs : List (Key × V)), vs = [.ref d, .str c] ∧ H d = some (.dK kvs) ∧ StrK kvs ∧ kvs.length ≤ 1000 ∧ ∀ p kvs' H', Ext H H' → H p = none → H' p = some (.dK kvs') → DropOk c kvs kvs' → Q (.ref p) H'
open Classical in
theorem w_drop {code : Addr} (D : DF K mg "_law_dropped" s_law_dropped code) : C8.Cal P w K mg base 1 "_law_dropped" spDrop [] := by
  refine calD D sc_law_dropped (fun _ _ _ _ _ _ us hl => match us, hl with | [_, _], _ => rfl) (fun vs H Q E h => ?_) (fun f A outer s H vs Q E hr h => ?_)
  · obtain ⟨d, c, kvs, rfl, _⟩ := h; rfl
  · obtain ⟨d, c, kvs, rfl, hd, hk, hl, q⟩ := h
    refine ⟨_, (pss_cons (ps_set (i := 2) sc_law_dropped.nd rfl (by first | exact .inl rfl | exact .inr rfl) pe_dnewK)
      (pss_cons (ps_lock (ps_for PassesOwn.never rfl (pi_keys (pv 0)) (pg_name (i := 3) sc_law_dropped.nd rfl (by first | exact .inl rfl | exact .inr rfl)) (pss_one (ps_if (pt_cmpR op_ne (pv 3) (pv 1) (nomark _)) (pss_one (ps_dput (hu_of hr) (pv 2) (pv 3) (pe_dget (hu_of hr) (pv 0) (pv 3) (fun _ _ => rfl)) rfl)) pss_nil))))
      (pss_one (ps_ret (pv 2))))), ?_⟩
    intro p np
    have hpd : d ≠ p := fun z => by subst z; rw [hd] at np; cases np
    have hd1 : upd H p (.dK []) d = some (.dK kvs) := by rw [upd_ne hpd]; exact hd
    refine ⟨d, .dK kvs, hd1, ?_, fun od => ?_⟩
    · exact trivial
    · obtain ⟨H1, hH1⟩ : ∃ H1, H1 = upd (upd H p (.dK [])) d (.frz od (.dK kvs)) := ⟨_, rfl⟩
      have hd2 : H1 d = some (.frz od (.dK kvs)) := by rw [hH1]; exact upd_same
      have hp2 : H1 p = some (.dK []) := by rw [hH1, upd_ne (fun z => hpd z.symm)]; exact upd_same
      have hp0 : upd H d (.frz od (.dK kvs)) p = none := by rw [upd_ne (fun z => hpd z.symm)]; exact np
      have x1 : Ext (upd H d (.frz od (.dK kvs))) H1 := fun b o hb => .inl (by
        rw [hH1]
        by_cases hbd : b = d
        · rw [hbd, upd_same] at hb ⊢; exact hb
        · rw [upd_ne hbd] at hb ⊢
          rw [upd_ne (ne_of_none hb np)]
          exact hb)
      rw [← hH1]
      clear hH1
      refine ⟨.ref d, rfl, d, od, rfl, .inl ⟨kvs, hd2, for_it walk_keys (fun i σ H' => ∃ y3 acc, σ = [some (.ref d), some (.str c), some (.ref p), y3] ∧ Ext (upd H d (.frz od (.dK kvs))) H' ∧ H' p = some (.dK acc) ∧ StrK acc ∧ acc.length ≤ i ∧ ∀ j : Str, valV acc (.inr j) = if j ≠ c ∧ ∃ m v, m < i ∧ kvs[m]? = some (.inr j, v) then valV kvs (.inr j) else none)
        ⟨none, [], rfl, x1, hp2, (fun kv hk => by cases hk), Nat.le_refl _, fun j => ?_⟩ (fun i σ' H' _ p => ?_) (fun i u σ' H3 H4 hi pv hu => ?_) fun σ' H' pv => ?_⟩⟩
      · rw [if_neg]
        · rfl
        · rintro ⟨_, m, _, h, _⟩
          exact absurd h (Nat.not_lt_zero _)
      · obtain ⟨_, _, _, e, _⟩ := p
        rcases e d _ upd_same with z | ⟨_, _, z, _⟩
        · exact z
        · cases z
      · obtain ⟨y3, acc, rfl, e3, hp3, hst, hal, hv⟩ := pv
        obtain ⟨rfl, k, v0, hkv, rfl⟩ := hu
        obtain ⟨sk, hsk⟩ := hk _ (List.mem_of_getElem? hkv)
        have hsk : k = .inr sk := hsk
        subst hsk
        have keep : ∀ (Z : Prop), True := fun _ => trivial
        refine if_go (eb_neS (K := K) (a := sk) (b := c) (ev_var (i := 3) rfl (.str _)) (ev_var (i := 1) rfl (.str _))) (.refl _) (fun hb H5 x5 _ => ?_) fun hb H5 x5 _ => ?_
        · have hne : sk ≠ c := by simpa using hb
          obtain ⟨v', hv'⟩ := valV_mem hkv
          have hd5 : H5 d = some (.frz od (.dK kvs)) := by
            rcases (e3.trans x5) d _ upd_same with z | ⟨_, _, z, _⟩
            · exact z
            · cases z
          have hp5 := x5.dK hp3
          refine ⟨.ref d, rfl, kV (.inr sk), rfl, d, v', rfl, .inl ⟨kvs, .inr sk, .inr ⟨od, hd5⟩, rfl, hv'.symm⟩, .ref p, rfl, kV (.inr sk), rfl, p, _, rfl, DPut.k hp5 (line_lt (by omega)), ?_⟩
          refine ⟨_, putK acc (.inr sk) v', rfl, (e3.trans x5).mut hp0, upd_same, hst.put sk v', Nat.le_trans (length_putK _ _ _) (Nat.succ_le_succ hal), fun j => ?_⟩
          rw [valV_put]
          by_cases hj : (Sum.inr j : Key) = .inr sk
          · have hj' : j = sk := Sum.inr.inj hj
            subst hj'
            rw [if_pos rfl, if_pos ⟨hne, i, v0, Nat.lt_succ_self _, hkv⟩, hv']
          · rw [if_neg hj, hv j]
            have : (j ≠ c ∧ ∃ m v, m < i ∧ kvs[m]? = some (Sum.inr j, v)) ↔ (j ≠ c ∧ ∃ m v, m < i + 1 ∧ kvs[m]? = some (Sum.inr j, v)) := by
              refine and_congr_right fun _ => ⟨fun ⟨m, v, h1, h2⟩ => ⟨m, v, Nat.lt_succ_of_lt h1, h2⟩, fun ⟨m, v, h1, h2⟩ => ?_⟩
              rcases Nat.lt_or_eq_of_le (Nat.le_of_lt_succ h1) with z | z
              · exact ⟨m, v, z, h2⟩
              · subst z
                rw [hkv] at h2
                exact absurd (Prod.mk.inj (Option.some.inj h2)).1.symm hj
            by_cases hc : j ≠ c ∧ ∃ m v, m < i ∧ kvs[m]? = some (Sum.inr j, v)
            · rw [if_pos hc, if_pos (this.1 hc)]
            · rw [if_neg hc, if_neg fun z => hc (this.2 z)]
        · have heq : sk = c := by simpa using hb
          refine ⟨_, acc, rfl, e3.trans x5, x5.dK hp3, hst, Nat.le_succ_of_le hal, fun j => ?_⟩
          rw [hv j]
          have : (j ≠ c ∧ ∃ m v, m < i ∧ kvs[m]? = some (Sum.inr j, v)) ↔ (j ≠ c ∧ ∃ m v, m < i + 1 ∧ kvs[m]? = some (Sum.inr j, v)) := by
            refine and_congr_right fun hjc => ⟨fun ⟨m, v, h1, h2⟩ => ⟨m, v, Nat.lt_succ_of_lt h1, h2⟩, fun ⟨m, v, h1, h2⟩ => ?_⟩
            rcases Nat.lt_or_eq_of_le (Nat.le_of_lt_succ h1) with z | z
            · exact ⟨m, v, z, h2⟩
            · subst z
              rw [hkv] at h2
              have := Sum.inr.inj (Prod.mk.inj (Option.some.inj h2)).1
              exact absurd (this.symm.trans heq) hjc
          by_cases hc : j ≠ c ∧ ∃ m v, m < i ∧ kvs[m]? = some (Sum.inr j, v)
          · rw [if_pos hc, if_pos (this.1 hc)]
          · rw [if_neg hc, if_neg fun z => hc (this.2 z)]
      · obtain ⟨y3, acc, rfl, e3, hp3, hst, hal, hv⟩ := pv
        refine ⟨?_, .ref p, rfl, ?_⟩
        · rcases e3 d _ upd_same with z | ⟨_, _, z, _⟩
          · exact z
          · cases z
        · refine q p acc _ (e3.unlock hd) np (by rw [upd_ne (fun z => hpd z.symm)]; exact hp3) ⟨hst, fun j => ?_, hal⟩
          rw [hv j]
          by_cases hj : j = c
          · rw [if_pos hj, if_neg (fun z => z.1 hj)]
          · rw [if_neg hj]
            cases hvj : valV kvs (.inr j) with
            | none => split <;> rfl
            | some v =>
              obtain ⟨m, hm⟩ := valV_in hvj
              rw [if_pos ⟨hj, m, v, (List.getElem?_eq_some_iff.mp hm).1, hm⟩]
end
end K22

-- L5
set_option maxHeartbeats 4000000
/-! Walks: the law's objects. -/
namespace K22
open PySem PySem.Spec PyProof.Rows L2
section
variable {P : Program} {w : World} {K : PySem.W.Frag} {mg : Str → Option Value} {base : Heap}
theorem callset_go {sp : Sp} {E : XK} {t : TA} {i : Nat} {D : Ends} {σ : L2.St} {H : Hp} {ds : List PyData} (h : EvA K t σ H ds) (g : ∀ H1 vs, Ext H H1 → DpAll K H1 vs ds → sp vs H1 (fun v H2 => D.nx (σ.set i (some v)) H2) E) : tAsg (tCall sp [] E t) (gName i) D σ H := h H (.refl H) _ fun vs H1 x hv => by
  rw [List.append_nil]
  exact g H1 vs x hv
theorem g_draw {ns : List Int} {k : Nat} {ss : List Int} {H : Hp} {vs : List V} {Q : VK} {E : XK} (hv : DpAll K H vs [dIntL ns, .int ((k : Nat) : Int), dIntL ss]) (hk : k ≤ 1000) (hs : ∀ s ∈ ss, 0 < s ∧ s < 1000) (hl : ss.length ≤ 1000) (q : RetDraw K ss H Q) : spDraw K vs H Q E := by
  obtain ⟨v, vs, rfl, h1, hv⟩ := da_cons hv
  obtain ⟨v2, vs, rfl, h2, hv⟩ := da_cons hv
  obtain ⟨v3, vs, rfl, h3, hv⟩ := da_cons hv
  rw [da_nil hv, dp_int h2]
  exact ⟨ns, k, ss, v, v3, rfl, h1, hk, h3, hs, hl, q⟩
theorem for_rng {t : TA} {g : TG} {tb : TS} {D : Ends} {σ : L2.St} {H1 : Hp} {n : Nat} (h : EvA K t σ H1 [.int ((n : Nat) : Int)]) (hn : n ≤ 1000000) (Pv : Nat → L2.St → Hp → Prop) (h0 : ∀ H2, Ext H1 H2 → Pv 0 σ H2)
    (hs : ∀ i σ' H3, i < n → Pv i σ' H3 → g (.int ((i : Nat) : Int)) σ' H3 fun σ2 H2 => tb { D with nx := Pv (i + 1), ct := Pv (i + 1), bk := D.nx } σ2 H2) (hd : ∀ σ' H', Pv n σ' H' → D.nx σ' H') : tFor (iRng1 t) g tb D σ H1 :=
  h H1 (.refl H1) _ fun vs H2 x hv => by
    obtain ⟨v, vs, rfl, h1, hv⟩ := da_cons hv
    rw [da_nil hv, dp_int h1]
    refine ⟨n, rfl, by omega, by omega, ?_⟩
    have w := walk_range (lo := 0) (n := ((n : Nat) : Int).toNat)
    rw [Int.toNat_natCast] at w ⊢
    refine for_it w Pv (h0 H2 x) (fun _ _ _ _ _ => trivial) (fun i y σ' H3 H4 hi p hy => ?_) hd
    obtain ⟨rfl, rfl⟩ := hy
    have := hs i σ' H4 hi p
    show g (V.int (0 + ((i : Nat) : Int))) _ _ _
    rw [Int.zero_add]
    exact this
def nms : List Str := ["a1", "q", "zz"]
def kdAt (i : Int) : Kd := if i = 0 then .reg else if i = 1 then .cnt else if i = 2 then .set else .que
def RetObjs (K : PySem.W.Frag) (H : Hp) (Q : VK) : Prop := ∀ v H' (kds : List Kd), Ext H H' → 1 ≤ kds.length → kds.length ≤ 3 → Dp K H' v (.list ((nms.zip kds).map dObj)) → Q v H'
def spObjs (K : PySem.W.Frag) : Sp := fun vs H Q _ => ∃ (ns : List Int) (k : Nat) (x : V), vs = [x, .int ((k : Nat) : Int)] ∧ Dp K H x (dIntL ns) ∧ k ≤ 900 ∧ RetObjs K H Q
theorem zip_snoc {α β : Type} : ∀ {l : List α} {m : List β} {a : α} {b : β}, l[m.length]? = some a → l.zip (m ++ [b]) = l.zip m ++ [(a, b)]
  | [], m, a, b, h => by simp at h
  | x :: l, [], a, b, h => by
    cases (Option.some.inj h)
    cases l <;> rfl
  | x :: l, y :: m, a, b, h => by
    show (x, y) :: l.zip (m ++ [b]) = _
    rw [zip_snoc (l := l) (m := m) (by exact h)]
    rfl
theorem w_objs {code : Addr} (D : DF K mg "_law_objects" s_law_objects code) (T : Bn mg) (c_law_draw : C8.Cal P w K mg base 2 "_law_draw" (spDraw K) []) : C8.Cal P w K mg base 3 "_law_objects" (spObjs K) [] := by
  refine calD D sc_law_objects (fun _ _ _ _ _ _ us hl => match us, hl with | [_, _], _ => rfl) (fun vs H Q E h => ?_) (fun f A outer s H vs Q E hr h => ?_)
  · obtain ⟨ns, k, x, rfl, _⟩ := h; rfl
  · obtain ⟨ns, k, x, rfl, hx, hk, q⟩ := h
    refine ⟨_, (pss_cons (ps_set (i := 2) sc_law_objects.nd rfl (by first | exact .inl rfl | exact .inr rfl) (C8.pe_c c_law_draw hr (by first | decide | omega) (by rfl) (pa_cons (pv 0) (pa_cons (pv 1) (pa_cons (pe_lst (pa_cons pe_int (pa_cons pe_int (pa_cons pe_int (pa_cons pe_int pa_nil))))) pa_nil)))))
      (pss_cons (ps_set (i := 3) sc_law_objects.nd rfl (by first | exact .inl rfl | exact .inr rfl) (pe_lst (pa_cons pe_str (pa_cons pe_str (pa_cons pe_str (pa_cons pe_str pa_nil))))))
      (pss_cons (ps_set (i := 4) sc_law_objects.nd rfl (by first | exact .inl rfl | exact .inr rfl) (pe_lst pa_nil))
      (pss_cons (ps_for PassesOwn.never rfl (pi_range1 (by rfl) T.range (pa_cons (pe_ix ixD (pe_lst (pa_cons pe_int (pa_cons pe_int (pa_cons pe_int (pa_cons pe_int (pa_cons pe_int pa_nil)))))) (pe_ix ixD (pv 2) pe_int (fun _ _ => rfl)) (fun _ _ => rfl)) pa_nil)) (pg_name (i := 5) sc_law_objects.nd rfl (by first | exact .inl rfl | exact .inr rfl)) (pss_one (ps_expr (pe_bm PySem.F.plainAttrs_list PySem.F.slot_list_append PySem.F.type_list_append mt_append (pv 4) (pa_cons (pe_tup (pa_cons (pe_ix ixD (pe_lst (pa_cons pe_str (pa_cons pe_str (pa_cons pe_str pa_nil)))) (pv 5) (fun _ _ => rfl)) (pa_cons (pe_ix ixD (pv 3) (pe_ix ixD (pv 2) (pv 5) (fun _ _ => rfl)) (fun _ _ => rfl)) pa_nil))) pa_nil)))))
      (pss_one (ps_ret (pv 4))))))), ?_⟩
    refine callset_go (K := K) (ea_cons (ev_var rfl hx) (ea_cons (ev_var rfl (.int _)) (ea_cons (ev_lst (ea_cons (ev_int (i := 4)) (ea_cons (ev_int (i := 4)) (ea_cons (ev_int (i := 4)) (ea_cons (ev_int (i := 5)) ea_nil))))) ea_nil))) fun H1 vs x1 hv => ?_
    refine g_draw (ss := [4, 4, 4, 5]) hv (by omega) (by decide) (by decide) fun v H2 ds x2 hok hds => ?_
    have x12 := x1.trans x2
    refine set_go (K := K) (ev_lst (ea_cons (ev_str (s := "register")) (ea_cons (ev_str (s := "counter")) (ea_cons (ev_str (s := "set")) (ea_cons (ev_str (s := "queue")) ea_nil))))) (.refl H2) fun v3 H3 x3 _ h3 => ?_
    refine ⟨Nat.zero_le _, fun fo nf => ?_⟩
    have hds3 := hds.ext x3
    obtain ⟨d3, e3, l3, u3⟩ := hok.at (i := 3) (s := 5) rfl
    obtain ⟨n, hn1, hn3, hn⟩ : ∃ n : Nat, 1 ≤ n ∧ n ≤ 3 ∧ ([.int 1, .int 1, .int 2, .int 2, .int 3] : List PyData)[d3.toNat]? = some (.int ((n : Nat) : Int)) := by
      have : d3 = 0 ∨ d3 = 1 ∨ d3 = 2 ∨ d3 = 3 ∨ d3 = 4 := by omega
      rcases this with rfl | rfl | rfl | rfl | rfl
      · exact ⟨1, by decide, by decide, rfl⟩
      · exact ⟨1, by decide, by decide, rfl⟩
      · exact ⟨2, by decide, by decide, rfl⟩
      · exact ⟨2, by decide, by decide, rfl⟩
      · exact ⟨3, by decide, by decide, rfl⟩
    have nf0 : H fo = none := (x12.trans x3).free nf
    have xn : Ext H3 (upd H3 fo (.lst [])) := .new nf
    obtain ⟨H4, hH4⟩ : ∃ H4, H4 = upd H3 fo (.lst []) := ⟨_, rfl⟩
    have hfo : H4 fo = some (.lst []) := by rw [hH4]; exact upd_same
    rw [← hH4] at xn ⊢
    clear hH4
    have hrng : EvD K (tOp (rIxD' K) (tLst (tCons (tC (.int 1)) (tCons (tC (.int 1)) (tCons (tC (.int 2)) (tCons (tC (.int 2)) (tCons (tC (.int 3)) tNil)))))) (tOp (rIxD' K) (tVar 2) (tC (.int 3)))) [some x, some (.int ((k : Nat) : Int)), some v, some v3, some (.ref fo), none] H4 (.int ((n : Nat) : Int)) := by
      have hd : EvD K (tOp (rIxD' K) (tVar 2) (tC (.int 3))) [some x, some (.int ((k : Nat) : Int)), some v, some v3, some (.ref fo), none] H4 (.int ((d3.toNat : Nat) : Int)) := by
        rw [Int.toNat_of_nonneg l3]
        exact ev_ixL (i := 3) (ev_var rfl (hds3.ext xn)) ev_int (by rw [List.getElem?_map, e3]; rfl)
      exact ev_ixL (i := d3.toNat) (ev_lst (ea_cons ev_int (ea_cons ev_int (ea_cons ev_int (ea_cons ev_int (ea_cons ev_int ea_nil)))))) hd hn
    refine for_rng (K := K) (n := n) (ea_cons hrng ea_nil) (by omega)
      (fun i σ H' => ∃ y5 acc kds, σ = [some x, some (.int ((k : Nat) : Int)), some v, some v3, some (.ref fo), y5] ∧ Ext H3 H' ∧ H' fo = some (.lst acc) ∧ kds.length = i ∧ DpAll K H' acc ((nms.zip kds).map dObj))
      (fun H5 x5 => ⟨none, [], [], rfl, xn.trans x5, x5.lst hfo, rfl, .nil⟩) (fun i σ' H5 hi p => ?_) fun σ' H5 p => ?_
    · obtain ⟨y5, acc, kds, rfl, e5, hf5, hkl, hacc⟩ := p
      have hnm : ∃ nm, nms[i]? = some nm := ⟨nms[i]'(by show i < 3; omega), List.getElem?_eq_getElem _⟩
      obtain ⟨nm, hnm⟩ := hnm
      obtain ⟨di, ei, li, ui⟩ := hok.at (i := i) (s := 4) (by
        have : i = 0 ∨ i = 1 ∨ i = 2 := by omega
        rcases this with rfl | rfl | rfl <;> rfl)
      have hkd : ([.str "register", .str "counter", .str "set", .str "queue"] : List PyData)[di.toNat]? = some (.str (kdAt di).str) := by
        have : di = 0 ∨ di = 1 ∨ di = 2 ∨ di = 3 := by omega
        rcases this with rfl | rfl | rfl | rfl <;> rfl
      have hdi : EvD K (tOp (rIxD' K) (tVar 2) (tVar 5)) [some x, some (.int ((k : Nat) : Int)), some v, some v3, some (.ref fo), some (.int ((i : Nat) : Int))] H5 (.int ((di.toNat : Nat) : Int)) := by
        rw [Int.toNat_of_nonneg li]
        exact ev_ixL (i := i) (ev_var rfl (hds3.ext e5)) (ev_var rfl (.int _)) (by rw [List.getElem?_map, ei]; rfl)
      refine app_go (K := K) (d := dObj (nm, kdAt di)) rfl hf5 (by rw [da_len hacc, List.length_map, List.length_zip]; have := Nat.min_le_right nms.length kds.length; omega) (ev_tup (ea_cons (ev_ixL (i := i) (ds := [.str "a1", .str "q", .str "zz"]) (ev_lst (ea_cons ev_str (ea_cons ev_str (ea_cons ev_str ea_nil)))) (ev_var rfl (.int _)) (by
        have : ([.str "a1", .str "q", .str "zz"] : List PyData) = nms.map PyData.str := rfl
        rw [this, List.getElem?_map, hnm]; rfl)) (ea_cons (ev_ixL (i := di.toNat) (ev_var (i := 3) rfl (h3.ext e5)) hdi hkd) ea_nil))) fun v6 H6 x6 hv6 hf6 => ?_
      refine ⟨_, acc ++ [v6], kds ++ [kdAt di], rfl, (e5.trans x6).mut nf, upd_same, by rw [List.length_append, hkl]; rfl, ?_⟩
      rw [zip_snoc (by rw [hkl]; exact hnm), List.map_append]
      exact da_append ((hacc.ext x6).extL (d := fo) (noLs_map fun x _ => noL_obj x) extB_upd ⟨acc, hf6⟩) (da_one (hv6.extL (d := fo) (noL_obj _) extB_upd ⟨acc, hf6⟩))
    · obtain ⟨y5, acc, kds, rfl, e5, hf5, hkl, hacc⟩ := p
      exact ⟨_, rfl, q _ _ kds ((x12.trans x3).trans e5) (by omega) (by omega) (.lst (.of hf5) hacc)⟩
end
end K22

-- L6
set_option maxHeartbeats 4000000
/-! Walks: the law's events. -/
namespace K22
open PySem PySem.Spec PyProof.Rows L2
section
variable {P : Program} {w : World} {K : PySem.W.Frag} {mg : Str → Option Value} {base : Heap}
/-- tuples stay -/
def Tk (H H' : Hp) : Prop := ∀ b xs, Rd H b (.tup xs) → Rd H' b (.tup xs)
theorem Tk.refl (H : Hp) : Tk H H := fun _ _ h => h
theorem Tk.trans {H H1 H2 : Hp} (a : Tk H H1) (b : Tk H1 H2) : Tk H H2 := fun c xs h => b c xs (a c xs h)
theorem Ext.tk {H H' : Hp} (e : Ext H H') : Tk H H' := fun _ _ h => e.rdT h
theorem tk_upd {H : Hp} {d : Addr} {o o' : HO} (h : H d = some o) (n1 : ∀ xs, o ≠ .tup xs) (n2 : ∀ p xs, o ≠ .frz p (.tup xs)) : Tk H (upd H d o') := fun b xs hb => by
  have hne : b ≠ d := fun z => by
    subst z
    rcases hb with hb | ⟨p, hb⟩
    · rw [h] at hb; exact n1 xs (Option.some.inj hb)
    · rw [h] at hb; exact n2 p xs (Option.some.inj hb)
  rcases hb with hb | ⟨p, hb⟩
  · exact .inl (by rw [upd_ne hne]; exact hb)
  · exact .inr ⟨p, by rw [upd_ne hne]; exact hb⟩
theorem tk_dK {H : Hp} {d : Addr} {kvs : List (Key × V)} {o' : HO} (h : H d = some (.dK kvs)) : Tk H (upd H d o') := tk_upd h (fun _ z => by cases z) fun _ _ z => by cases z
theorem tk_lst {H : Hp} {d : Addr} {xs : List V} {o' : HO} (h : H d = some (.lst xs)) : Tk H (upd H d o') := tk_upd h (fun _ z => by cases z) fun _ _ z => by cases z
mutual
theorem dp_tk {H H' : Hp} (e : Tk H H') : ∀ (x : PyData) (v : V), noL x = true → Dp K H v x → Dp K H' v x
  | .none, _, _, h => by cases h; exact .non
  | .bool _, _, _, h => by cases h; exact .bl _
  | .int _, _, _, h => by cases h; exact .int _
  | .str _, _, _, h => by cases h; exact .str _
  | .list ds, _, z, _ => by cases z
  | .tuple ds, _, z, h => by
    cases h with
    | tup h1 h2 => exact .tup (h1.elim (fun q => .inl (e _ _ q)) .inr) (dpAll_tk e ds _ z h2)
  | .dict _, _, _, h => by cases h
theorem dpAll_tk {H H' : Hp} (e : Tk H H') : ∀ (ds : List PyData) (vs : List V), noLs ds = true → DpAll K H vs ds → DpAll K H' vs ds
  | [], _, _, h => by cases h; exact .nil
  | x :: ds, _, z, h => by
    rw [noLs, Bool.and_eq_true] at z
    cases h with
    | cons h1 h2 => exact .cons (dp_tk e x _ z.1 h1) (dpAll_tk e ds _ z.2 h2)
end
/-- what the weave keeps -/
structure Wv (K : PySem.W.Frag) (objs : List (Str × Kd)) (dS dK dO dE fo : Addr) (b : Nat) (H : Hp) (evs : List Ev) (kk ks ko ke : List (Key × V)) (acc : List V) : Prop where
  nd : [dS, dK, dO, dE].Nodup
  hk : H dK = some (.dK kk)
  hs : H dS = some (.dK ks)
  ho : H dO = some (.dK ko)
  he : H dE = some (.dK ke)
  hf : H fo = some (.lst acc)
  kk : ∀ x ∈ objs, valV kk (.inr x.1) = some (.str x.2.str)
  sl : ks.length ≤ 3 + b
  ss : ∀ x ∈ objs, ∃ v st, valV ks (.inr x.1) = some v ∧ Dp K H v (dStt st) ∧ LSt b x.2 st
  ok : StrK ko
  ol : ko.length ≤ b
  oo : ∀ c : Str, (valV ko (.inr c)).isSome = (sgOf evs).opn c
  ov : ∀ (c : Str) v, valV ko (.inr c) = some v → ∃ x o a, x ∈ objs ∧ Dp K H v (.tuple [.str x.1, .str o, dInts a]) ∧ OpOk x.2 o a
  ek : StrK ke
  el : ke.length ≤ b
  ev : ∀ (c : Str) v, valV ke (.inr c) = some v → ∃ r, Dp K H v (dKey r) ∧ kOk r = true
  ac : DpAll K H acc (evs.map dEv)
theorem nd4 {a b c d : Addr} (h : [a, b, c, d].Nodup) : a ≠ b ∧ a ≠ c ∧ a ≠ d ∧ b ≠ c ∧ b ≠ d ∧ c ≠ d := by
  simp only [List.nodup_cons, List.mem_cons, List.mem_nil_iff, or_false, not_or] at h
  exact ⟨h.1.1, h.1.2.1, h.1.2.2, h.2.1.1, h.2.1.2, h.2.2.1⟩
theorem ne_sh {H : Hp} {a b : Addr} {o o' : HO} (h1 : H a = some o) (h2 : H b = some o') (n : o ≠ o') : a ≠ b := fun z => by
  subst z
  rw [h1] at h2
  exact n (Option.some.inj h2)
theorem noL_call {n o : Str} {a : List Int} : noL (.tuple [.str n, .str o, dInts a]) = true := by
  show noLs [.str n, .str o, dInts a] = true
  simp only [noLs, noL_ints a]; rfl
section
variable {objs : List (Str × Kd)} {dS dK dO dE fo : Addr} {b : Nat} {H H' : Hp} {evs : List Ev} {kk ks ko ke : List (Key × V)} {acc : List V}
theorem Wv.ext (w : Wv K objs dS dK dO dE fo b H evs kk ks ko ke acc) (e : Ext H H') : Wv K objs dS dK dO dE fo b H' evs kk ks ko ke acc :=
  ⟨w.nd, e.dK w.hk, e.dK w.hs, e.dK w.ho, e.dK w.he, e.lst w.hf, w.kk, w.sl, fun x hx => let ⟨v, st, h1, h2, h3⟩ := w.ss x hx; ⟨v, st, h1, h2.ext e, h3⟩, w.ok, w.ol, w.oo, fun c v h => let ⟨x, o, a, h1, h2, h3⟩ := w.ov c v h; ⟨x, o, a, h1, h2.ext e, h3⟩, w.ek, w.el, fun c v h => let ⟨r, h1, h2⟩ := w.ev c v h; ⟨r, h1.ext e, h2⟩, w.ac.ext e⟩
theorem Wv.mono {b2 : Nat} (w : Wv K objs dS dK dO dE fo b H evs kk ks ko ke acc) (h : b ≤ b2) : Wv K objs dS dK dO dE fo b2 H evs kk ks ko ke acc :=
  ⟨w.nd, w.hk, w.hs, w.ho, w.he, w.hf, w.kk, Nat.le_trans w.sl (by omega), fun x hx => let ⟨v, st, h1, h2, h3⟩ := w.ss x hx; ⟨v, st, h1, h2, h3.mono h⟩, w.ok, Nat.le_trans w.ol h, w.oo, w.ov, w.ek, Nat.le_trans w.el h, w.ev, w.ac⟩
/-- an effect: the state of x and what the client c is to be told -/
theorem Wv.eff (w : Wv K objs dS dK dO dE fo b H evs kk ks ko ke acc) {x : Str × Kd} {c : Str} {v1 v2 : V} {st : Stt} {r : KeyR} (hx : x ∈ objs) (un : ∀ y ∈ objs, y.1 = x.1 → y = x) (h1 : Dp K H v1 (dStt st)) (h2 : Dp K H v2 (dKey r)) (hst : LSt (b + 1) x.2 st) (hr : kOk r = true) :
    Wv K objs dS dK dO dE fo (b + 1) (upd (upd H dS (.dK (putK ks (.inr x.1) v1))) dE (.dK (putK ke (.inr c) v2))) evs kk (putK ks (.inr x.1) v1) ko (putK ke (.inr c) v2) acc := by
  obtain ⟨n1, n2, n3, n4, n5, n6⟩ := nd4 w.nd
  have f1 : fo ≠ dS := ne_sh w.hf w.hs (fun z => by cases z)
  have f3 : fo ≠ dE := ne_sh w.hf w.he (fun z => by cases z)
  have hE1 : upd H dS (.dK (putK ks (.inr x.1) v1)) dE = some (.dK ke) := by rw [upd_ne (fun z => n3 z.symm)]; exact w.he
  have tk : Tk H (upd (upd H dS (.dK (putK ks (.inr x.1) v1))) dE (.dK (putK ke (.inr c) v2))) := (tk_dK w.hs).trans (tk_dK hE1)
  refine ⟨w.nd, ?_, ?_, ?_, upd_same, ?_, w.kk, ?_, fun y hy => ?_, w.ok, Nat.le_succ_of_le w.ol, w.oo, fun c' v h => ?_, w.ek.put c v2, ?_, fun c' v h => ?_, dpAll_tk tk _ _ (noLs_map fun e _ => noL_ev e) w.ac⟩
  · rw [upd_ne n5, upd_ne (fun z => n1 z.symm)]; exact w.hk
  · rw [upd_ne n3]; exact upd_same
  · rw [upd_ne n6, upd_ne (fun z => n2 z.symm)]; exact w.ho
  · rw [upd_ne f3, upd_ne f1]; exact w.hf
  · have := length_putK ks (.inr x.1) v1
    have := w.sl
    omega
  · by_cases hxy : y.1 = x.1
    · have := un y hy hxy
      subst this
      exact ⟨v1, st, by rw [valV_put, if_pos rfl], dp_tk tk _ _ (noL_stt _) h1, hst⟩
    · obtain ⟨v, s0, g1, g2, g3⟩ := w.ss y hy
      exact ⟨v, s0, by rw [valV_put, if_neg (fun z => hxy (Sum.inr.inj z))]; exact g1, dp_tk tk _ _ (noL_stt _) g2, g3.mono (Nat.le_succ _)⟩
  · obtain ⟨x', o, a, g1, g2, g3⟩ := w.ov c' v h
    exact ⟨x', o, a, g1, dp_tk tk _ _ noL_call g2, g3⟩
  · exact Nat.le_trans (length_putK _ _ _) (Nat.succ_le_succ w.el)
  · rw [valV_put] at h
    by_cases hc : (Sum.inr c' : Key) = .inr c
    · rw [if_pos hc] at h
      cases h
      exact ⟨r, dp_keyAny h2, hr⟩
    · rw [if_neg hc] at h
      obtain ⟨r', g1, g2⟩ := w.ev c' v h
      exact ⟨r', dp_keyAny g1, g2⟩
theorem sg_snoc (es : List Ev) (e : Ev) : sgOf (es ++ [e]) = (sgOf es).step e := by
  unfold sgOf
  rw [List.foldl_append]; rfl
/-- a call -/
theorem Wv.call (w : Wv K objs dS dK dO dE fo b H evs kk ks ko ke acc) {x : Str × Kd} {c o : Str} {a : List Int} {v1 v2 : V} {H4 : Hp} (hx : x ∈ objs) (ho : OpOk x.2 o a) (h1 : Dp K H v1 (dEv (.call c x.1 o a))) (e : Ext (upd H fo (.lst (acc ++ [v1]))) H4) (h2 : Dp K H4 v2 (.tuple [.str x.1, .str o, dInts a])) :
    Wv K objs dS dK dO dE fo (b + 1) (upd H4 dO (.dK (putK ko (.inr c) v2))) (evs ++ [.call c x.1 o a]) kk ks (putK ko (.inr c) v2) ke (acc ++ [v1]) := by
  obtain ⟨n1, n2, n3, n4, n5, n6⟩ := nd4 w.nd
  have f1 : fo ≠ dS := ne_sh w.hf w.hs (fun z => by cases z)
  have f2 : fo ≠ dO := ne_sh w.hf w.ho (fun z => by cases z)
  have f3 : fo ≠ dE := ne_sh w.hf w.he (fun z => by cases z)
  have f4 : fo ≠ dK := ne_sh w.hf w.hk (fun z => by cases z)
  have kS := e.dK (show upd H fo (.lst (acc ++ [v1])) dS = some (.dK ks) by rw [upd_ne (fun z => f1 z.symm)]; exact w.hs)
  have kK := e.dK (show upd H fo (.lst (acc ++ [v1])) dK = some (.dK kk) by rw [upd_ne (fun z => f4 z.symm)]; exact w.hk)
  have kO := e.dK (show upd H fo (.lst (acc ++ [v1])) dO = some (.dK ko) by rw [upd_ne (fun z => f2 z.symm)]; exact w.ho)
  have kE := e.dK (show upd H fo (.lst (acc ++ [v1])) dE = some (.dK ke) by rw [upd_ne (fun z => f3 z.symm)]; exact w.he)
  have kF := e.lst (upd_same (H := H) (a := fo) (o := .lst (acc ++ [v1])))
  have tk1 : Tk H4 (upd H4 dO (.dK (putK ko (.inr c) v2))) := tk_dK kO
  have tk : Tk H (upd H4 dO (.dK (putK ko (.inr c) v2))) := ((tk_lst w.hf).trans e.tk).trans tk1
  refine ⟨w.nd, ?_, ?_, upd_same, ?_, ?_, w.kk, Nat.le_succ_of_le w.sl, fun y hy => ?_, w.ok.put c v2, Nat.le_trans (length_putK _ _ _) (Nat.succ_le_succ w.ol), fun j => ?_, fun c' v h => ?_, w.ek, Nat.le_succ_of_le w.el, fun c' v h => ?_, ?_⟩
  · rw [upd_ne n4]; exact kK
  · rw [upd_ne n2]; exact kS
  · rw [upd_ne (fun z => n6 z.symm)]; exact kE
  · rw [upd_ne f2]; exact kF
  · obtain ⟨v, s0, g1, g2, g3⟩ := w.ss y hy
    exact ⟨v, s0, g1, dp_tk tk _ _ (noL_stt _) g2, g3.mono (Nat.le_succ _)⟩
  · rw [valV_put, sg_snoc]
    show _ = if j = c then true else (sgOf evs).opn j
    by_cases hj : j = c
    · subst hj; rw [if_pos rfl, if_pos rfl]; rfl
    · rw [if_neg hj, if_neg (fun z => hj (Sum.inr.inj z))]; exact w.oo j
  · rw [valV_put] at h
    by_cases hc : (Sum.inr c' : Key) = .inr c
    · rw [if_pos hc] at h
      cases h
      exact ⟨x, o, a, hx, dp_tk tk1 _ _ noL_call h2, ho⟩
    · rw [if_neg hc] at h
      obtain ⟨x', o', a', g1, g2, g3⟩ := w.ov c' v h
      exact ⟨x', o', a', g1, dp_tk tk _ _ noL_call g2, g3⟩
  · obtain ⟨r', g1, g2⟩ := w.ev c' v h
    exact ⟨r', dp_keyAny g1, g2⟩
  · rw [List.map_append]
    exact da_append (dpAll_tk tk _ _ (noLs_map fun e _ => noL_ev e) w.ac) (da_one (dp_tk tk _ _ (noL_ev _) h1))
/-- a return -/
theorem Wv.ret (w : Wv K objs dS dK dO dE fo b H evs kk ks ko ke acc) {c : Str} {r : KeyR} {v1 : V} {H4 H5 : Hp} {p1 p2 : Addr} {ko' ke' : List (Key × V)} (h1 : Dp K H v1 (dEv (.ret c r))) (e : Ext (upd H fo (.lst (acc ++ [v1]))) H4) (q1 : upd H fo (.lst (acc ++ [v1])) p1 = none) (g1 : H4 p1 = some (.dK ko')) (d1 : DropOk c ko ko')
    (e2 : Ext H4 H5) (q2 : H4 p2 = none) (g2 : H5 p2 = some (.dK ke')) (d2 : DropOk c ke ke') : Wv K objs dS dK p1 p2 fo b H5 (evs ++ [.ret c r]) kk ks ko' ke' (acc ++ [v1]) := by
  obtain ⟨n1, n2, n3, n4, n5, n6⟩ := nd4 w.nd
  have f1 : fo ≠ dS := ne_sh w.hf w.hs (fun z => by cases z)
  have f4 : fo ≠ dK := ne_sh w.hf w.hk (fun z => by cases z)
  have kS0 : upd H fo (.lst (acc ++ [v1])) dS = some (.dK ks) := by rw [upd_ne (fun z => f1 z.symm)]; exact w.hs
  have kK0 : upd H fo (.lst (acc ++ [v1])) dK = some (.dK kk) := by rw [upd_ne (fun z => f4 z.symm)]; exact w.hk
  have kS := e.dK kS0
  have kK := e.dK kK0
  have kF := e.lst (upd_same (H := H) (a := fo) (o := .lst (acc ++ [v1])))
  have tk : Tk H H5 := ((tk_lst w.hf).trans e.tk).trans e2.tk
  have a1 : dS ≠ p1 := ne_of_none kS0 q1
  have a2 : dK ≠ p1 := ne_of_none kK0 q1
  have a3 : dS ≠ p2 := ne_of_none kS q2
  have a4 : dK ≠ p2 := ne_of_none kK q2
  have a5 : p1 ≠ p2 := ne_of_none g1 q2
  refine ⟨?_, e2.dK kK, e2.dK kS, e2.dK g1, g2, e2.lst kF, w.kk, w.sl, fun y hy => ?_, d1.st, Nat.le_trans d1.len w.ol, fun j => ?_, fun c' v h => ?_, d2.st, Nat.le_trans d2.len w.el, fun c' v h => ?_, ?_⟩
  · simp only [List.nodup_cons, List.mem_cons, List.mem_nil_iff, or_false, not_or]
    exact ⟨⟨n1, a1, a3⟩, ⟨a2, a4⟩, a5, id, List.nodup_nil⟩
  · obtain ⟨v, s0, g1, g2, g3⟩ := w.ss y hy
    exact ⟨v, s0, g1, dp_tk tk _ _ (noL_stt _) g2, g3⟩
  · rw [d1.at_, sg_snoc]
    show _ = if j = c then false else (sgOf evs).opn j
    by_cases hj : j = c
    · rw [if_pos hj, if_pos hj]; rfl
    · rw [if_neg hj, if_neg hj]; exact w.oo j
  · rw [d1.at_] at h
    by_cases hc : c' = c
    · rw [if_pos hc] at h; cases h
    · rw [if_neg hc] at h
      obtain ⟨x', o', a', g1, g2, g3⟩ := w.ov c' v h
      exact ⟨x', o', a', g1, dp_tk tk _ _ noL_call g2, g3⟩
  · rw [d2.at_] at h
    by_cases hc : c' = c
    · rw [if_pos hc] at h; cases h
    · rw [if_neg hc] at h
      obtain ⟨r', g1, g2⟩ := w.ev c' v h
      exact ⟨r', dp_keyAny g1, g2⟩
  · rw [List.map_append]
    exact da_append (dpAll_tk tk _ _ (noLs_map fun e _ => noL_ev e) w.ac) (da_one (dp_tk tk _ _ (noL_ev _) h1))
end
end
end K22

-- L7
set_option maxHeartbeats 8000000
/-! Walks: the law's weave. -/
namespace K22
open PySem PySem.Spec PyProof.Rows L2
section
variable {P : Program} {w : World} {K : PySem.W.Frag} {mg : Str → Option Value} {base : Heap}
structure EvsOk (objs : List (Str × Kd)) (evs : List Ev) (n j : Nat) : Prop where
  wf : WfFrom objs sg0 evs
  ops : (opsM evs).length = n
  len : evs.length ≤ j
  txt : ∀ e ∈ evs, evTxt e = true
theorem EvsOk.call {objs : List (Str × Kd)} {evs : List Ev} {n j : Nat} (h : EvsOk objs evs n j) {c nm o : Str} {a : List Int} (h1 : (sgOf evs).opn c = false) (h2 : OpIn objs nm o a) (ht : evTxt (.call c nm o a) = true) : EvsOk objs (evs ++ [.call c nm o a]) (n + 1) (j + 1) := by
  refine ⟨wf_app h.wf ⟨⟨h1, h2⟩, trivial⟩, ?_, ?_, fun e he => ?_⟩
  · unfold opsM
    rw [sg_snoc]
    show ((sgOf evs).ops ++ [_]).length = _
    rw [List.length_append]
    show (opsM evs).length + 1 = _
    rw [h.ops]
  · rw [List.length_append]; exact Nat.succ_le_succ h.len
  · rcases List.mem_append.mp he with z | z
    · exact h.txt e z
    · rw [List.mem_singleton.mp z]; exact ht
theorem EvsOk.ret {objs : List (Str × Kd)} {evs : List Ev} {n j : Nat} (h : EvsOk objs evs n j) {c : Str} {r : KeyR} (h1 : (sgOf evs).opn c = true) (ht : evTxt (.ret c r) = true) : EvsOk objs (evs ++ [.ret c r]) n (j + 1) := by
  refine ⟨wf_app h.wf ⟨h1, trivial⟩, ?_, ?_, fun e he => ?_⟩
  · unfold opsM
    rw [sg_snoc, ret_len]
    exact h.ops
  · rw [List.length_append]; exact Nat.succ_le_succ h.len
  · rcases List.mem_append.mp he with z | z
    · exact h.txt e z
    · rw [List.mem_singleton.mp z]; exact ht
theorem EvsOk.mono {objs : List (Str × Kd)} {evs : List Ev} {n j j2 : Nat} (h : EvsOk objs evs n j) (hj : j ≤ j2) : EvsOk objs evs n j2 := ⟨h.wf, h.ops, Nat.le_trans h.len hj, h.txt⟩
theorem zip_un {kds : List Kd} {x y : Str × Kd} (hx : x ∈ nms.zip kds) (hy : y ∈ nms.zip kds) (e : y.1 = x.1) : y = x := by
  obtain ⟨i, hi⟩ := List.mem_iff_getElem?.mp hx
  obtain ⟨j, hj⟩ := List.mem_iff_getElem?.mp hy
  obtain ⟨i1, i2⟩ := List.getElem?_zip_eq_some.mp hi
  obtain ⟨j1, j2⟩ := List.getElem?_zip_eq_some.mp hj
  have hij : i = j := by
    have hn : nms.Nodup := by decide +kernel
    obtain ⟨li, ei⟩ := List.getElem?_eq_some_iff.mp i1
    obtain ⟨lj, ej⟩ := List.getElem?_eq_some_iff.mp j1
    by_cases h : i = j
    · exact h
    · exfalso
      have hne := List.pairwise_iff_getElem.mp hn
      rcases Nat.lt_or_gt_of_ne h with z | z
      · exact hne i j li lj z (ei.trans (e.symm.trans ej.symm))
      · exact hne j i lj li z (ej.trans (e.trans ei.symm))
  subst hij
  rw [hi] at hj
  exact (Option.some.inj hj).symm
theorem zip_in {kds : List Kd} {x : Str × Kd} (hx : x ∈ nms.zip kds) {o : Str} {a : List Int} (ho : OpOk x.2 o a) : OpIn (nms.zip kds) x.1 o a := by
  have hm : x.1 ∈ (nms.zip kds).map (·.1) := List.mem_map_of_mem hx
  have hl := List.idxOf_lt_length_of_mem hm
  have hl' : objAt (nms.zip kds) x.1 < (nms.zip kds).length := by unfold objAt; rw [List.length_map] at hl; exact hl
  refine ⟨x.2, ?_, ho⟩
  rw [List.getElem?_eq_getElem hl']
  have h1 : ((nms.zip kds)[objAt (nms.zip kds) x.1]).1 = x.1 := by
    have := List.getElem_idxOf hl
    rw [List.getElem_map] at this
    exact this
  rw [zip_un hx (List.getElem_mem hl') h1]
theorem zip_txt {kds : List Kd} {x : Str × Kd} (hx : x ∈ nms.zip kds) : PyData.strOk x.1 = true := by
  have h := (List.of_mem_zip (a := x.1) (b := x.2) hx).1
  have : ∀ s ∈ nms, PyData.strOk s = true := by decide +kernel
  exact this _ h
theorem op_txt {kd : Kd} {o : Str} {n : Nat} (h : need kd o = some n) : PyData.strOk o = true := by
  cases kd <;> (unfold need at h; simp only at h) <;> (repeat' split at h) <;> first | (subst_vars; decide +kernel) | cases h
theorem word_need {kd : Kd} {i : Nat} {o : Str} (h : (wordsOf kd)[i]? = some o) : ∃ n, need kd o = some n := by
  have hm := List.mem_of_getElem? h
  cases kd <;> (unfold wordsOf at hm; simp only [List.mem_cons, List.mem_nil_iff, or_false] at hm) <;> (rcases hm with rfl | rfl | rfl) <;> exact ⟨_, rfl⟩
theorem da_rep {H : Hp} {vs : List V} {ds : List PyData} (h : DpAll K H vs ds) : ∀ n, DpAll K H (List.replicate n vs).flatten (List.replicate n ds).flatten
  | 0 => .nil
  | n + 1 => by
    rw [List.replicate_succ, List.replicate_succ, List.flatten_cons, List.flatten_cons]
    exact da_append h (da_rep h n)
theorem ev_rep {t : TA} {σ : L2.St} {H : Hp} {ds : List PyData} {n : Nat} (h : EvA K t σ H ds) (hd : ds.length ≤ 1000) (hn : n ≤ 1000) : EvD K (tOp rRep (tLst t) (tC (.int ((n : Nat) : Int)))) σ H (.list (List.replicate n ds).flatten) := fun H1 x Q q =>
  h H1 x _ fun vs H2 x2 hv => by
    have hl := da_len hv
    refine ⟨line_of (by omega), fun p np => ⟨p, _, vs, rfl, rfl, upd_same, by omega, by omega, ?_, fun p2 np2 => ?_⟩⟩
    · rw [Int.toNat_natCast, hl]
      exact line_of (Nat.le_trans (Nat.mul_le_mul hd hn) (by decide))
    · rw [Int.toNat_natCast]
      exact q _ _ ((x2.trans (.new np)).trans (.new np2)) (.lst (.of upd_same) (da_rep (hv.ext ((Ext.new np).trans (.new np2))) n))
def fObj (x : Str × Kd) : Key × V := (.inr x.1, .str x.2.str)
theorem merge_skip {n : Str} : ∀ {objs : List (Str × Kd)} {kvs : List (Key × V)}, (∀ x ∈ objs, x.1 ≠ n) → valV (mergeK kvs (objs.map fObj)) (.inr n) = valV kvs (.inr n)
  | [], _, _ => rfl
  | x :: t, kvs, h => by
    show valV (mergeK (putK kvs (.inr x.1) (.str x.2.str)) (t.map fObj)) (.inr n) = _
    rw [merge_skip fun y hy => h y (List.mem_cons_of_mem _ hy), valV_put, if_neg (fun z => h x (List.mem_cons_self ..) (Sum.inr.inj z).symm)]
theorem merge_objs : ∀ {objs : List (Str × Kd)} {kvs : List (Key × V)}, (∀ x ∈ objs, ∀ y ∈ objs, y.1 = x.1 → y = x) → ∀ x ∈ objs, valV (mergeK kvs (objs.map fObj)) (.inr x.1) = some (.str x.2.str)
  | [], _, _, x, hx => by cases hx
  | x0 :: t, kvs, un, x, hx => by
    show valV (mergeK (putK kvs (.inr x0.1) (.str x0.2.str)) (t.map fObj)) (.inr x.1) = _
    have unt : ∀ x ∈ t, ∀ y ∈ t, y.1 = x.1 → y = x := fun x hx y hy => un x (List.mem_cons_of_mem _ hx) y (List.mem_cons_of_mem _ hy)
    by_cases ht : ∃ y ∈ t, y.1 = x.1
    · obtain ⟨y, hy, e⟩ := ht
      have := un x hx y (List.mem_cons_of_mem _ hy) e
      subst this
      exact merge_objs unt y hy
    · have hx0 : x = x0 := (List.mem_cons.mp hx).resolve_right fun z => ht ⟨x, z, rfl⟩
      subst hx0
      rw [merge_skip fun y hy e => ht ⟨y, hy, e⟩, valV_put, if_pos rfl]
theorem dp_objs {H : Hp} : ∀ {objs : List (Str × Kd)} {vs : List V}, DpAll K H vs (objs.map dObj) → ∃ ps : List Addr, vs = ps.map V.ref ∧ Paired (fun p kv => SqT K H p [kV kv.1, kv.2]) ps (objs.map fObj)
  | [], vs, h => ⟨[], da_nil h, .nil⟩
  | x :: t, vs, h => by
    obtain ⟨v, vs, rfl, h1, h2⟩ := da_cons h
    obtain ⟨ps, rfl, hp⟩ := dp_objs h2
    obtain ⟨a, xs, rfl, h3, h4⟩ := dp_tup h1
    obtain ⟨u, us, rfl, h5, h4⟩ := da_cons h4
    obtain ⟨u2, us, rfl, h6, h4⟩ := da_cons h4
    have := da_nil h4
    subst this
    rw [dp_str h5, dp_str h6] at h3
    exact ⟨a :: ps, rfl, .cons h3 hp⟩
theorem g_firstL {H : Hp} {kd : Kd} : Gives K (spFirstL K) H [.str kd.str] (dStt kd.first) := fun H1 e vs hv Q E q => by
  obtain ⟨v, vs, rfl, h1, hv⟩ := da_cons hv
  rw [da_nil hv, dp_str h1]
  exact ⟨kd, rfl, q⟩
def dgs : List Int := (List.replicate 24 [4, 3, 5, 4, 4, 3]).flatten
def cls : List Str := ["c", "d", "e2"]
@[reducible] def Sl (x kv y dg : V) (dS dK fo dO dE : Addr) (n j : Nat) (y6 y7 y14 y15 y16 y17 y18 : Option V) : L2.St := [some x, some kv, some y, some (.int 9), some dg, some (.ref dS), y6, y7, some (.ref dK), some (.ref fo), some (.ref dO), some (.ref dE), some (.int ((n : Nat) : Int)), some (.int ((j : Nat) : Int)), y14, y15, y16, y17, y18]
theorem asg_three {te : TE} {σ : L2.St} {H : Hp} {i j k : Nat} {d1 d2 d3 : PyData} {D : Ends} (h : EvD K te σ H (.tuple [d1, d2, d3])) (q : ∀ y z u H2, Ext H H2 → Dp K H2 y d1 → Dp K H2 z d2 → Dp K H2 u d3 → D.nx (((σ.set i (some y)).set j (some z)).set k (some u)) H2) : tAsg te (gTup K 3 (gCons (gName i) (gCons (gName j) (gCons (gName k) gNil)))) D σ H :=
  h.go fun v H2 e2 hv => by
    obtain ⟨a, xs, rfl, h1, h2⟩ := dp_tup hv
    obtain ⟨y, xs, rfl, h3, h2⟩ := da_cons h2
    obtain ⟨z, xs, rfl, h4, h2⟩ := da_cons h2
    obtain ⟨u, xs, rfl, h5, h2⟩ := da_cons h2
    have := da_nil h2
    subst this
    exact ⟨a, _, rfl, h1, rfl, y, _, rfl, z, _, rfl, u, _, rfl, rfl, q y z u H2 e2 h3 h4 h5⟩
theorem eb_gt {ta tb : TE} {σ : L2.St} {H : Hp} {i j : Int} (ha : EvD K ta σ H (.int i)) (hb : EvD K tb σ H (.int j)) : EvB (tTest (tOp (rI0 fun i j => .bl (decide (j < i))) ta tb)) σ H (decide (j < i)) := eb_cmp ha hb fun _ _ _ _ _ hx hy q => ⟨i, j, dp_int hx, dp_int hy, q⟩
theorem dgs_at : ∀ j, j < 24 → dgs[6 * j]? = some 4 ∧ dgs[6 * j + 1]? = some 3 ∧ dgs[6 * j + 2]? = some 5 ∧ dgs[6 * j + 3]? = some 4 ∧ dgs[6 * j + 4]? = some 4 ∧ dgs[6 * j + 5]? = some 3 := by decide +kernel
theorem cl_at {d : Int} (h0 : 0 ≤ d) (h3 : d < 3) : ∃ c : Str, ([.str "c", .str "d", .str "e2"] : List PyData)[d.toNat]? = some (.str c) ∧ PyData.strOk c = true := by
  have : d = 0 ∨ d = 1 ∨ d = 2 := by omega
  rcases this with rfl | rfl | rfl
  · exact ⟨"c", rfl, by decide +kernel⟩
  · exact ⟨"d", rfl, by decide +kernel⟩
  · exact ⟨"e2", rfl, by decide +kernel⟩
theorem seqset_go {te : TE} {σ : L2.St} {H : Hp} {i : Nat} {d : PyData} {B : TS} {D : Ends} {H1 : Hp} (h : EvD K te σ H d) (x : Ext H H1) (q : ∀ v H2, Ext H H2 → Ext H1 H2 → Dp K H2 v d → B D (σ.set i (some v)) H2) : tSeq (tAsg te (gName i)) B D σ H1 := set_go h x q
theorem callasg_go {sp : Sp} {E : XK} {t : TA} {g : TG} {D : Ends} {σ : L2.St} {H : Hp} {ds : List PyData} (h : EvA K t σ H ds) (q : ∀ H1 vs, Ext H H1 → DpAll K H1 vs ds → sp vs H1 (fun v H2 => g v σ H2 D.nx) E) : tAsg (tCall sp [] E t) g D σ H := h H (.refl H) _ fun vs H1 x hv => by
  rw [List.append_nil]
  exact q H1 vs x hv
theorem eff_go {objs : List (Str × Kd)} {dS dK dO dE fo : Addr} {b : Nat} {H0 H : Hp} {evs : List Ev} {kk ks ko ke : List (Key × V)} {acc : List V} {x kv y dg : V} {n j : Nat} {y6 y7 y14 y15 y16 y17 y18 : Option V} {s : Nat} {c : Str} {D : Ends}
    (hs : ∀ y6 y17 y18, (Sl x kv y dg dS dK fo dO dE n j y6 y7 y14 y15 y16 y17 y18)[s]? = some (some (.str c))) (w : Wv K objs dS dK dO dE fo b H evs kk ks ko ke acc) (un : ∀ x ∈ objs, ∀ y ∈ objs, y.1 = x.1 → y = x) (hb : b ≤ 60) (ho : (valV ko (.inr c)).isSome = true)
    (e0 : Ext H0 H) (nS : H0 dS = none) (nE : H0 dE = none)
    (q : ∀ y6 y17 y18 H' ks' ke', Ext H0 H' → Wv K objs dS dK dO dE fo (b + 1) H' evs kk ks' ko ke' acc → (valV ke' (.inr c)).isSome = true → D.nx (Sl x kv y dg dS dK fo dO dE n j y6 y7 y14 y15 y16 y17 y18) H') :
    tSeq (tAsg (tDGet (tVar 10) (tVar s)) (gTup K 3 (gCons (gName 6) (gCons (gName 17) (gCons (gName 18) gNil))))) (tAsg (tCall (spLStep K) [] C8.E0 (tCons (tDGet (tVar 8) (tVar 6)) (tCons (tDGet (tVar 5) (tVar 6)) (tCons (tVar 17) (tCons (tVar 18) tNil))))) (gTup K 2 (gCons (gSub (tVar 5) (tVar 6) rSetD) (gCons (gSub (tVar 11) (tVar s) rSetD) gNil)))) D (Sl x kv y dg dS dK fo dO dE n j y6 y7 y14 y15 y16 y17 y18) H := by
  cases hv : valV ko (.inr c) with
  | none => rw [hv] at ho; cases ho
  | some v =>
    obtain ⟨z, o, a, hz, hv1, hop⟩ := w.ov c v hv
    refine asg_three (K := K) (ev_dget (i := 10) rfl w.ho (key_str (ev_var (K := K) (hs _ _ _) (.str _))) hv hv1) fun v6 v17 v18 H1 x1 h6 h17 h18 => ?_
    have h6 := dp_str h6
    have h17 := dp_str h17
    subst h6 h17
    have w1 := w.ext x1
    obtain ⟨vs0, st, g1, g2, g3⟩ := w1.ss z hz
    have hargs : EvA K (tCons (tDGet (tVar 8) (tVar 6)) (tCons (tDGet (tVar 5) (tVar 6)) (tCons (tVar 17) (tCons (tVar 18) tNil)))) (Sl x kv y dg dS dK fo dO dE n j (some (.str z.1)) y7 y14 y15 y16 (some (.str o)) (some v18)) H1 [.str z.2.str, dStt st, .str o, dInts a] :=
      ea_cons (ev_dget (i := 8) (v := .str z.2.str) rfl w1.hk (key_str (ev_var (K := K) (i := 6) rfl (.str _))) (w1.kk z hz) (.str _)) (ea_cons (ev_dget (i := 5) rfl w1.hs (key_str (ev_var (K := K) (i := 6) rfl (.str _))) g1 g2) (ea_cons (ev_var (i := 17) rfl (.str _)) (ea_cons (ev_var (i := 18) rfl h18) ea_nil)))
    refine callasg_go (K := K) hargs fun H2 vs x2 hvs => ?_
    obtain ⟨u1, vs, rfl, p1, hvs⟩ := da_cons hvs
    obtain ⟨u2, vs, rfl, p2, hvs⟩ := da_cons hvs
    obtain ⟨u3, vs, rfl, p3, hvs⟩ := da_cons hvs
    obtain ⟨u4, vs, rfl, p4, hvs⟩ := da_cons hvs
    rw [da_nil hvs, dp_str p1, dp_str p3]
    refine ⟨z.2, st, o, a, b, u2, u4, rfl, p2, p4, g3, hb, hop, fun vr H3 st' r x3 hvr hst hkr => ?_⟩
    have x13 := x2.trans x3
    have w3 := w1.ext x13
    obtain ⟨ta, xs, rfl, r1, r2⟩ := dp_tup hvr
    obtain ⟨t1, xs, rfl, r3, r2⟩ := da_cons r2
    obtain ⟨t2, xs, rfl, r4, r2⟩ := da_cons r2
    have := da_nil r2
    subst this
    have hl3 := w3.sl
    have hl4 := w3.el
    obtain ⟨n1, n2, n3, n4, n5, n6⟩ := nd4 w3.nd
    have hE1 : upd H3 dS (.dK (putK ks (.inr z.1) t1)) dE = some (.dK ke) := by rw [upd_ne (fun z => n3 z.symm)]; exact w3.he
    refine ⟨ta, _, rfl, r1, rfl, t1, _, rfl, .ref dS, rfl, .str z.1, rfl, dS, _, rfl, DPut.k (k := .inr z.1) w3.hs (line_lt (by omega)), t2, _, rfl, .ref dE, rfl, .str c, hs _ _ _, dE, _, rfl, DPut.k (k := .inr c) hE1 (line_lt (by omega)), rfl, ?_⟩
    refine q _ _ _ _ _ _ ((((e0.trans x1).trans x13).mut nS).mut nE) (w3.eff (c := c) hz (fun y hy => un z hz y hy) r3 r4 hst hkr) ?_
    rw [valV_put, if_pos rfl]; rfl
def RetEvs (K : PySem.W.Frag) (kds : List Kd) (H : Hp) (Q : VK) : Prop := ∀ v H' evs n, Ext H H' → Dp K H' v (.list (evs.map dEv)) → EvsOk (nms.zip kds) evs n 24 → n ≤ 9 → Q v H'
def spWeave (K : PySem.W.Frag) : Sp := fun vs H Q _ => ∃ (ns : List Int) (k : Nat) (kds : List Kd) (x y : V), vs = [x, .int ((k : Nat) : Int), y, .int 9] ∧ Dp K H x (dIntL ns) ∧ k ≤ 901 ∧ Dp K H y (.list ((nms.zip kds).map dObj)) ∧ 1 ≤ kds.length ∧ kds.length ≤ 3 ∧ RetEvs K kds H Q
theorem w_weave {code : Addr} (D : DF K mg "_law_weave" s_law_weave code) (T : Bn mg) (c_law_draw : C8.Cal P w K mg base 2 "_law_draw" (spDraw K) []) (c_law_first : C8.Cal P w K mg base 1 "_law_first" (spFirstL K) []) (c_law_names : C8.Cal P w K mg base 1 "_law_names" (spNames K) [])
    (c_law_args : C8.Cal P w K mg base 2 "_law_args" (spArgs K) []) (c_law_step : C8.Cal P w K mg base 1 "_law_step" (spLStep K) []) (c_law_dropped : C8.Cal P w K mg base 1 "_law_dropped" spDrop []) : C8.Cal P w K mg base 3 "_law_weave" (spWeave K) [] := by
  refine calD D sc_law_weave (fun _ _ _ _ _ _ us hl => match us, hl with | [_, _, _, _], _ => rfl) (fun vs H Q E h => ?_) (fun f A outer s H vs Q E hr h => ?_)
  · obtain ⟨ns, k, kds, x, y, rfl, _⟩ := h; rfl
  · obtain ⟨ns, k, kds, x, y, rfl, hx, hk, hy, hk1, hk3, q⟩ := h
    refine ⟨_, (pss_cons (ps_set (i := 4) sc_law_weave.nd rfl (by first | exact .inl rfl | exact .inr rfl) (C8.pe_c c_law_draw hr (by first | decide | omega) (by rfl) (pa_cons (pv 0) (pa_cons (pv 1) (pa_cons (pe_op op_rep (pe_lst (pa_cons pe_int (pa_cons pe_int (pa_cons pe_int (pa_cons pe_int (pa_cons pe_int (pa_cons pe_int pa_nil))))))) pe_int) pa_nil)))))
      (pss_cons (ps_set (i := 5) sc_law_weave.nd rfl (by first | exact .inl rfl | exact .inr rfl) pe_dnewK)
      (pss_cons (ps_for PassesOwn.never rfl (pi_list (pv 2)) (pg_tup rfl (pgs_cons (pg_name (i := 6) sc_law_weave.nd rfl (by first | exact .inl rfl | exact .inr rfl)) (pgs_cons (pg_name (i := 7) sc_law_weave.nd rfl (by first | exact .inl rfl | exact .inr rfl)) pgs_nil))) (pss_one (ps_dput (hu_of hr) (pv 5) (pv 6) (C8.pe_c c_law_first hr (by first | decide | omega) (by rfl) (pa_cons (pv 7) pa_nil)) rfl)))
      (pss_cons (ps_set (i := 8) sc_law_weave.nd rfl (by first | exact .inl rfl | exact .inr rfl) (pe_callTy (call_dictP rfl) (by rfl) T.dict (by decide +kernel) (pa_cons (pv 2) pa_nil)))
      (pss_cons (ps_set (i := 9) sc_law_weave.nd rfl (by first | exact .inl rfl | exact .inr rfl) (pe_lst pa_nil))
      (pss_cons (ps_set (i := 10) sc_law_weave.nd rfl (by first | exact .inl rfl | exact .inr rfl) pe_dnewK)
      (pss_cons (ps_set (i := 11) sc_law_weave.nd rfl (by first | exact .inl rfl | exact .inr rfl) pe_dnewK)
      (pss_cons (ps_set (i := 12) sc_law_weave.nd rfl (by first | exact .inl rfl | exact .inr rfl) pe_int)
      (pss_cons (ps_for PassesOwn.never rfl (pi_range1 (by rfl) T.range (pa_cons pe_int pa_nil)) (pg_name (i := 13) sc_law_weave.nd rfl (by first | exact .inl rfl | exact .inr rfl)) (pss_cons (ps_set (i := 14) sc_law_weave.nd rfl (by first | exact .inl rfl | exact .inr rfl) (pe_ix ixD (pe_lst (pa_cons pe_str (pa_cons pe_str (pa_cons pe_str pa_nil)))) (pe_ix ixD (pv 4) (pe_op op_add (pe_op op_mul pe_int (pv 13)) pe_int) (fun _ _ => rfl)) (fun _ _ => rfl)))
      (pss_cons (ps_if (PW.pt (pw_and (pt_cmp (pc_dnotin (hu_of hr) (pv 14) (pv 10))) (pw_and1 (pt_cmpR op_lt (pv 12) (pv 3) (nomark _))))) (pss_cons (ps_set (i := 6) sc_law_weave.nd rfl (by first | exact .inl rfl | exact .inr rfl) (pe_ix ixD (pe_ix ixD (pv 2) (pe_op op_mod (pe_ix ixD (pv 4) (pe_op op_add (pe_op op_mul pe_int (pv 13)) pe_int) (fun _ _ => rfl)) (pe_callB lenD (by rfl) T.len PySem.boot_len (pa_cons (pv 2) pa_nil))) (fun _ _ => rfl)) pe_int (fun _ _ => rfl)))
      (pss_cons (ps_set (i := 16) sc_law_weave.nd rfl (by first | exact .inl rfl | exact .inr rfl) (C8.pe_c c_law_names hr (by first | decide | omega) (by rfl) (pa_cons (pe_dget (hu_of hr) (pv 8) (pv 6) (fun _ _ => rfl)) pa_nil)))
      (pss_cons (ps_set (i := 17) sc_law_weave.nd rfl (by first | exact .inl rfl | exact .inr rfl) (pe_ix ixD (pv 16) (pe_op op_mod (pe_ix ixD (pv 4) (pe_op op_mul pe_int (pv 13)) (fun _ _ => rfl)) (pe_callB lenD (by rfl) T.len PySem.boot_len (pa_cons (pv 16) pa_nil))) (fun _ _ => rfl)))
      (pss_cons (ps_set (i := 18) sc_law_weave.nd rfl (by first | exact .inl rfl | exact .inr rfl) (C8.pe_c c_law_args hr (by first | decide | omega) (by rfl) (pa_cons (pv 17) (pa_cons (pe_ix ixD (pv 4) (pe_op op_add (pe_op op_mul pe_int (pv 13)) pe_int) (fun _ _ => rfl)) (pa_cons (pe_ix ixD (pv 4) (pe_op op_add (pe_op op_mul pe_int (pv 13)) pe_int) (fun _ _ => rfl)) pa_nil)))))
      (pss_cons (ps_expr (pe_bm PySem.F.plainAttrs_list PySem.F.slot_list_append PySem.F.type_list_append mt_append (pv 9) (pa_cons (pe_tup (pa_cons pe_str (pa_cons (pv 14) (pa_cons (pv 6) (pa_cons (pv 17) (pa_cons (pv 18) pa_nil)))))) pa_nil)))
      (pss_cons (ps_dput (hu_of hr) (pv 10) (pv 14) (pe_tup (pa_cons (pv 6) (pa_cons (pv 17) (pa_cons (pv 18) pa_nil)))) rfl)
      (pss_one (ps_set (i := 12) sc_law_weave.nd rfl (by first | exact .inl rfl | exact .inr rfl) (pe_op op_add (pv 12) pe_int))))))))) (pss_one (ps_if (pt_cmp (pc_din (hu_of hr) (pv 14) (pv 10))) (pss_cons (ps_if (pt_cmp (pc_dnotin (hu_of hr) (pv 14) (pv 11))) (pss_cons (ps_asg (pe_dget (hu_of hr) (pv 10) (pv 14) (fun _ _ => rfl)) (pg_tup rfl (pgs_cons (pg_name (i := 6) sc_law_weave.nd rfl (by first | exact .inl rfl | exact .inr rfl)) (pgs_cons (pg_name (i := 17) sc_law_weave.nd rfl (by first | exact .inl rfl | exact .inr rfl)) (pgs_cons (pg_name (i := 18) sc_law_weave.nd rfl (by first | exact .inl rfl | exact .inr rfl)) pgs_nil)))))
      (pss_one (ps_asg (C8.pe_c c_law_step hr (by first | decide | omega) (by rfl) (pa_cons (pe_dget (hu_of hr) (pv 8) (pv 6) (fun _ _ => rfl)) (pa_cons (pe_dget (hu_of hr) (pv 5) (pv 6) (fun _ _ => rfl)) (pa_cons (pv 17) (pa_cons (pv 18) pa_nil))))) (pg_tup rfl (pgs_cons (pg_sub (pv 5) (pv 6) (set_dict (hu_of hr))) (pgs_cons (pg_sub (pv 11) (pv 14) (set_dict (hu_of hr))) pgs_nil)))))) pss_nil)
      (pss_one (ps_if (PW.pt (pw_or (pt_cmpR op_gt (pe_ix ixD (pv 4) (pe_op op_add (pe_op op_mul pe_int (pv 13)) pe_int) (fun _ _ => rfl)) pe_int (nomark _)) (pw_or1 (pt_cmpR op_eq (pv 12) (pv 3) (nomark _))))) (pss_cons (ps_expr (pe_bm PySem.F.plainAttrs_list PySem.F.slot_list_append PySem.F.type_list_append mt_append (pv 9) (pa_cons (pe_tup (pa_cons pe_str (pa_cons (pv 14) (pa_cons (pe_dget (hu_of hr) (pv 11) (pv 14) (fun _ _ => rfl)) pa_nil)))) pa_nil)))
      (pss_cons (ps_set (i := 10) sc_law_weave.nd rfl (by first | exact .inl rfl | exact .inr rfl) (C8.pe_c c_law_dropped hr (by first | decide | omega) (by rfl) (pa_cons (pv 10) (pa_cons (pv 14) pa_nil))))
      (pss_one (ps_set (i := 11) sc_law_weave.nd rfl (by first | exact .inl rfl | exact .inr rfl) (C8.pe_c c_law_dropped hr (by first | decide | omega) (by rfl) (pa_cons (pv 11) (pa_cons (pv 14) pa_nil))))))) pss_nil))) pss_nil)))
      (pss_cons (ps_set (i := 15) sc_law_weave.nd rfl (by first | exact .inl rfl | exact .inr rfl) (pe_ix ixD (pe_lst (pa_cons pe_str (pa_cons pe_str (pa_cons pe_str pa_nil)))) (pe_ix ixD (pv 4) (pe_op op_add (pe_op op_mul pe_int (pv 13)) pe_int) (fun _ _ => rfl)) (fun _ _ => rfl)))
      (pss_one (ps_if (PW.pt (pw_and (pt_cmp (pc_din (hu_of hr) (pv 15) (pv 10))) (pw_and (pt_cmp (pc_dnotin (hu_of hr) (pv 15) (pv 11))) (pw_and1 (pt_cmpR op_eq (pe_ix ixD (pv 4) (pe_op op_add (pe_op op_mul pe_int (pv 13)) pe_int) (fun _ _ => rfl)) pe_int (nomark _)))))) (pss_cons (ps_asg (pe_dget (hu_of hr) (pv 10) (pv 15) (fun _ _ => rfl)) (pg_tup rfl (pgs_cons (pg_name (i := 6) sc_law_weave.nd rfl (by first | exact .inl rfl | exact .inr rfl)) (pgs_cons (pg_name (i := 17) sc_law_weave.nd rfl (by first | exact .inl rfl | exact .inr rfl)) (pgs_cons (pg_name (i := 18) sc_law_weave.nd rfl (by first | exact .inl rfl | exact .inr rfl)) pgs_nil)))))
      (pss_one (ps_asg (C8.pe_c c_law_step hr (by first | decide | omega) (by rfl) (pa_cons (pe_dget (hu_of hr) (pv 8) (pv 6) (fun _ _ => rfl)) (pa_cons (pe_dget (hu_of hr) (pv 5) (pv 6) (fun _ _ => rfl)) (pa_cons (pv 17) (pa_cons (pv 18) pa_nil))))) (pg_tup rfl (pgs_cons (pg_sub (pv 5) (pv 6) (set_dict (hu_of hr))) (pgs_cons (pg_sub (pv 11) (pv 15) (set_dict (hu_of hr))) pgs_nil)))))) pss_nil))))))
      (pss_one (ps_ret (pv 9)))))))))))), ?_⟩
    have hrep : EvD K (tOp rRep (tLst (tCons (tC (.int 4)) (tCons (tC (.int 3)) (tCons (tC (.int 5)) (tCons (tC (.int 4)) (tCons (tC (.int 4)) (tCons (tC (.int 3)) tNil))))))) (tC (.int 24))) (start N_law_weave [x, .int ((k : Nat) : Int), y, .int 9]) H (dIntL dgs) := ev_rep (n := 24) (ea_cons ev_int (ea_cons ev_int (ea_cons ev_int (ea_cons ev_int (ea_cons ev_int (ea_cons ev_int ea_nil)))))) (by simp) (by decide)
    refine callset_go (K := K) (ea_cons (ev_var rfl hx) (ea_cons (ev_var rfl (.int _)) (ea_cons hrep ea_nil))) fun H1 vs x1 hv => ?_
    refine g_draw (ss := dgs) hv (by omega) (by decide) (by decide) fun dg H2 ds x2 hok hds => ?_
    have x12 := x1.trans x2
    intro dS nS
    have hy2 := hy.ext x12
    have few : (nms.zip kds).length ≤ 3 := by rw [List.length_zip]; exact Nat.min_le_left _ _
    refine for_go (H := H2) (ws_list (es_var (i := 2) rfl hy2)) (.new nS)
      (fun i σ H' => ∃ y6 y7 ks, σ = [some x, some (.int ((k : Nat) : Int)), some y, some (.int 9), some dg, some (.ref dS), y6, y7, none, none, none, none, none, none, none, none, none, none, none] ∧ Ext H2 H' ∧ H' dS = some (.dK ks) ∧ ks.length ≤ i ∧ ∀ z ∈ (nms.zip kds).take i, ∃ v, valV ks (.inr z.1) = some v ∧ Dp K H' v (dStt z.2.first))
      ⟨none, none, [], rfl, .new nS, upd_same, Nat.le_refl _, (fun z hz => by cases hz)⟩ (fun i σ' H' _ p => ?_) (fun i u σ' H3 H4 hi p hu => ?_) fun σ' H3 p => ?_
    · obtain ⟨_, _, _, _, e, _⟩ := p
      exact e
    · obtain ⟨y6, y7, ks, rfl, e3, hS, hkl, hks⟩ := p
      obtain ⟨rfl, d, hd, hu⟩ := hu
      rw [List.length_map] at hi
      have hzi : (nms.zip kds)[i]? = some (nms.zip kds)[i] := List.getElem?_eq_getElem hi
      rw [List.getElem?_map, hzi] at hd
      cases hd
      have tk : (nms.zip kds).take (i + 1) = (nms.zip kds).take i ++ [(nms.zip kds)[i]] := by rw [List.take_add_one, hzi]; rfl
      have hin := List.mem_of_getElem? hzi
      generalize (nms.zip kds)[i] = z at hu tk hin
      obtain ⟨a, xs, rfl, u1, u2⟩ := dp_tup hu
      obtain ⟨w1, xs, rfl, u3, u2⟩ := da_cons u2
      obtain ⟨w2, xs, rfl, u4, u2⟩ := da_cons u2
      have := da_nil u2
      subst this
      have u3 := dp_str u3
      have u4 := dp_str u4
      subst u3 u4
      refine ⟨a, _, rfl, u1, rfl, _, _, rfl, _, _, rfl, rfl, ?_⟩
      refine dput_go (K := K) (k := .inr z.1) (d := dStt z.2.first) rfl hS (by omega) (ev_call (ea_cons (ev_var rfl (.str _)) ea_nil) g_firstL) (key_str (ev_var (K := K) (i := 6) rfl (.str _))) fun v H5 x5 hv hS5 => ?_
      have tkk : Tk H5 (upd H5 dS (.dK (putK ks (.inr z.1) v))) := tk_dK hS5
      refine ⟨_, _, putK ks (.inr z.1) v, rfl, (e3.trans x5).mut nS, upd_same, Nat.le_trans (length_putK _ _ _) (Nat.succ_le_succ hkl), fun z' hz' => ?_⟩
      rw [valV_put]
      by_cases hzz : z'.1 = z.1
      · have hz'in : z' ∈ nms.zip kds := List.mem_of_mem_take hz'
        have := zip_un hin hz'in hzz
        subst this
        rw [if_pos rfl]
        exact ⟨v, rfl, dp_tk tkk _ _ (noL_stt _) hv⟩
      · rw [if_neg (fun z => hzz (Sum.inr.inj z))]
        rw [tk] at hz'
        rcases List.mem_append.mp hz' with h' | h'
        · obtain ⟨v', g1, g2⟩ := hks z' h'
          exact ⟨v', g1, dp_tk tkk _ _ (noL_stt _) (g2.ext x5)⟩
        · exact absurd (by rw [List.mem_singleton.mp h']) hzz
    · obtain ⟨y6, y7, ks, rfl, e3, hS, hkl, hks⟩ := p
      rw [List.length_map] at hkl
      rw [List.length_map, List.take_length] at hks
      have hy3 := hy2.ext e3
      obtain ⟨ya, yx, rfl, hya, hyx⟩ := dp_list hy3
      obtain ⟨ps, rfl, hps⟩ := dp_objs hyx
      refine ⟨.ref ya, rfl, ya, ps, _, rfl, hya, hps, fun dK nK => ?_⟩
      have x4 : Ext H3 (upd H3 dK (.dK (mergeK [] ((nms.zip kds).map fObj)))) := .new nK
      obtain ⟨H4, h4⟩ : ∃ H4, H4 = upd H3 dK (.dK (mergeK [] ((nms.zip kds).map fObj))) := ⟨_, rfl⟩
      have hK4 : H4 dK = some (.dK (mergeK [] ((nms.zip kds).map fObj))) := by rw [h4]; exact upd_same
      rw [← h4] at x4 ⊢
      clear h4
      refine ⟨Nat.zero_le _, fun fo nf => ?_⟩
      have x5 : Ext H4 (upd H4 fo (.lst [])) := .new nf
      obtain ⟨H5, h5⟩ : ∃ H5, H5 = upd H4 fo (.lst []) := ⟨_, rfl⟩
      have hf5 : H5 fo = some (.lst []) := by rw [h5]; exact upd_same
      rw [← h5] at x5 ⊢
      clear h5
      intro dO nO
      have x6 : Ext H5 (upd H5 dO (.dK [])) := .new nO
      obtain ⟨H6, h6⟩ : ∃ H6, H6 = upd H5 dO (.dK []) := ⟨_, rfl⟩
      have hO6 : H6 dO = some (.dK []) := by rw [h6]; exact upd_same
      rw [← h6] at x6 ⊢
      clear h6
      intro dE nE
      have x7 : Ext H6 (upd H6 dE (.dK [])) := .new nE
      obtain ⟨H7, h7⟩ : ∃ H7, H7 = upd H6 dE (.dK []) := ⟨_, rfl⟩
      have hE7 : H7 dE = some (.dK []) := by rw [h7]; exact upd_same
      rw [← h7] at x7 ⊢
      clear h7
      have x57 := x6.trans x7
      have x47 := x5.trans x57
      have x37 := x4.trans x47
      have x27 := e3.trans x37
      have nO2 : H2 dO = none := (e3.trans (x4.trans x5)).free nO
      have nE2 : H2 dE = none := (e3.trans (x4.trans (x5.trans x6))).free nE
      have nf2 : H2 fo = none := (e3.trans x4).free nf
      have w0 : Wv K (nms.zip kds) dS dK dO dE fo 0 H7 [] (mergeK [] ((nms.zip kds).map fObj)) ks [] [] [] := by
        refine ⟨?_, x47.dK hK4, x37.dK hS, x7.dK hO6, hE7, x57.lst hf5, merge_objs fun z hz y hy => zip_un hz hy, Nat.le_trans hkl few, fun z hz => ?_, (fun kv h => by cases h), Nat.le_refl _, (fun c => rfl), (fun c v h => by rw [valV_nil] at h; cases h), (fun kv h => by cases h), Nat.le_refl _, (fun c v h => by rw [valV_nil] at h; cases h), .nil⟩
        · have hS4 := x4.dK hS
          have hS5 := x5.dK hS4
          have hK5 := x5.dK hK4
          simp only [List.nodup_cons, List.mem_cons, List.mem_nil_iff, or_false, not_or]
          exact ⟨⟨ne_of_none hS nK, ne_of_none hS5 nO, ne_of_none (x6.dK hS5) nE⟩, ⟨ne_of_none hK5 nO, ne_of_none (x6.dK hK5) nE⟩, ne_of_none hO6 nE, id, List.nodup_nil⟩
        · obtain ⟨v, g1, g2⟩ := hks z hz
          exact ⟨v, _, g1, g2.ext x37, LSt.first z.2⟩
      have ev0 : EvsOk (nms.zip kds) [] 0 0 := ⟨trivial, rfl, Nat.le_refl _, fun e he => by cases he⟩
      refine gname_go ?_
      refine seqset_go (K := K) (ev_int (i := 0)) (.refl H7) fun v12 H8 x8 _ h12 => ?_
      rw [dp_int h12]
      have hyo : ∀ H', Ext H2 H' → Dp K H' (.ref ya) (.list ((nms.zip kds).map dObj)) := fun H' e => hy2.ext e
      have hdg : ∀ H', Ext H2 H' → Dp K H' dg (dIntL ds) := fun H' e => hds.ext e
      refine for_rng (K := K) (n := 24) (ea_cons ev_int ea_nil) (by decide)
        (fun j σ H' => ∃ (dO dE : Addr) (n : Nat) (y6 y13 y14 y15 y16 y17 y18 : Option V) (evs : List Ev) (ks ko ke : List (Key × V)) (acc : List V), σ = [some x, some (.int ((k : Nat) : Int)), some (.ref ya), some (.int 9), some dg, some (.ref dS), y6, y7, some (.ref dK), some (.ref fo), some (.ref dO), some (.ref dE), some (.int ((n : Nat) : Int)), y13, y14, y15, y16, y17, y18] ∧ Ext H2 H' ∧ H2 dO = none ∧ H2 dE = none ∧ Wv K (nms.zip kds) dS dK dO dE fo (2 * j) H' evs (mergeK [] ((nms.zip kds).map fObj)) ks ko ke acc ∧ EvsOk (nms.zip kds) evs n j ∧ n ≤ 9)
        (fun H9 x9 => ⟨dO, dE, 0, y6, none, none, none, none, none, none, [], ks, [], [], [], rfl, (x27.trans x8).trans x9, nO2, nE2, (w0.ext x8).ext x9, ev0, Nat.zero_le _⟩) (fun j σ' H9 hj p => ?_) fun σ' H9 p => ?_
      · obtain ⟨dO, dE, n, y6, y13, y14, y15, y16, y17, y18, evs, ks, ko, ke, acc, rfl, e9, nO2, nE2, wv, eo, hn9⟩ := p
        obtain ⟨t0, t1, t2, t3, t4, t5⟩ := dgs_at j hj
        obtain ⟨d0, e0, l0, u0⟩ := hok.at t0
        obtain ⟨d1, e1, l1, u1⟩ := hok.at t1
        obtain ⟨d2, e2, l2, u2⟩ := hok.at t2
        obtain ⟨d3, e3', l3, u3⟩ := hok.at t3
        obtain ⟨d4, e4, l4, u4⟩ := hok.at t4
        obtain ⟨d5, e5, l5, u5⟩ := hok.at t5
        have ev6 : ∀ {σ : L2.St} {H' : Hp}, σ[13]? = some (some (.int ((j : Nat) : Int))) → EvD K (tOp (rI CMul fun i j => .int (i * j)) (tC (.int 6)) (tVar 13)) σ H' (.int ((6 * j : Nat) : Int)) := fun {σ H'} h13 => ev_mul (i := 6) (j := ((j : Nat) : Int)) ev_int (ev_var h13 (.int _)) (.inl ⟨by decide, by decide⟩)
        have evd : ∀ (i : Nat) d, ds[6 * j + i]? = some d → ∀ {σ : L2.St} {H' : Hp}, Ext H2 H' → σ[4]? = some (some dg) → σ[13]? = some (some (.int ((j : Nat) : Int))) → EvD K (tOp (rIxD' K) (tVar 4) (tOp (rI0 fun i j => .int (i + j)) (tOp (rI CMul fun i j => .int (i * j)) (tC (.int 6)) (tVar 13)) (tC (.int ((i : Nat) : Int))))) σ H' (.int d) := fun i d hd {σ H'} e h4 h13 => ev_ixL (i := 6 * j + i) (ev_var h4 (hdg H' e)) (ev_add (i := ((6 * j : Nat) : Int)) (j := ((i : Nat) : Int)) (ev6 h13) ev_int) (by rw [List.getElem?_map, hd]; rfl)
        have evd0 : ∀ {σ : L2.St} {H' : Hp}, Ext H2 H' → σ[4]? = some (some dg) → σ[13]? = some (some (.int ((j : Nat) : Int))) → EvD K (tOp (rIxD' K) (tVar 4) (tOp (rI CMul fun i j => .int (i * j)) (tC (.int 6)) (tVar 13))) σ H' (.int d0) := fun {σ H'} e h4 h13 => ev_ixL (i := 6 * j) (ev_var h4 (hdg H' e)) (ev6 h13) (by rw [List.getElem?_map, e0]; rfl)
        obtain ⟨c, hc, hct⟩ := cl_at l1 u1
        obtain ⟨c', hc', hct'⟩ := cl_at l5 u5
        refine gname_go ?_
        refine seqset_go (K := K) (d := .str c) (ev_ixL (i := d1.toNat) (ev_lst (ea_cons ev_str (ea_cons ev_str (ea_cons ev_str ea_nil)))) (by rw [Int.toNat_of_nonneg l1]; exact evd 1 d1 e1 e9 rfl rfl) hc) (.refl H9) fun v14 H10 x10 _ h14 => ?_
        rw [dp_str h14]
        have e10 := e9.trans x10
        have wv10 := wv.ext x10
        refine mid_if (fun σ H' => ∃ (dO dE : Addr) (n : Nat) (y6 y15 y16 y17 y18 : Option V) (evs : List Ev) (ks ko ke : List (Key × V)) (acc : List V), σ = Sl x (.int ((k : Nat) : Int)) (.ref ya) dg dS dK fo dO dE n j y6 y7 (some (.str c)) y15 y16 y17 y18 ∧ Ext H2 H' ∧ H2 dO = none ∧ H2 dE = none ∧ Wv K (nms.zip kds) dS dK dO dE fo (2 * j + 1) H' evs (mergeK [] ((nms.zip kds).map fObj)) ks ko ke acc ∧ EvsOk (nms.zip kds) evs n (j + 1) ∧ n ≤ 9)
          (eb_and (eb_dnotin (i := 10) rfl wv10.ho (key_str (ev_var (K := K) (i := 14) rfl (.str _)))) fun _ => eb_lt (K := K) (i := ((n : Nat) : Int)) (j := 9) (ev_var (i := 12) rfl (.int _)) (ev_var (i := 3) rfl (.int _))) (.refl H10) (fun Z tail hb H11 x11 _ => ?_) (fun Z tail hb H11 x11 _ => ?_) fun σ' H11 p => ?_
        · rw [Bool.and_eq_true, Bool.not_eq_true', decide_eq_true_eq] at hb
          obtain ⟨hno, hn⟩ := hb
          have e11 := e10.trans x11
          have wv11 := wv10.ext x11
          have nz : (nms.zip kds).length ≠ 0 := by rw [List.length_zip]; show min 3 kds.length ≠ 0; omega
          have hlo := ev_lenL (K := K) (σ := Sl x (.int ((k : Nat) : Int)) (.ref ya) dg dS dK fo dO dE n j y6 y7 (some (.str c)) y15 y16 y17 y18) (H := H11) (ea_cons (ev_var (i := 2) rfl (hyo H11 e11)) ea_nil)
          rw [List.length_map] at hlo
          have m0 : 0 ≤ d2 % (((nms.zip kds).length : Nat) : Int) := Int.emod_nonneg _ (by omega)
          have m1 : d2 % (((nms.zip kds).length : Nat) : Int) < (((nms.zip kds).length : Nat) : Int) := Int.emod_lt_of_pos _ (by omega)
          obtain ⟨z, hz⟩ : ∃ z, (nms.zip kds)[(d2 % (((nms.zip kds).length : Nat) : Int)).toNat]? = some z := ⟨(nms.zip kds)[(d2 % (((nms.zip kds).length : Nat) : Int)).toNat]'(by omega), List.getElem?_eq_getElem _⟩
          have hzm := List.mem_of_getElem? hz
          have hmod := ev_mod (K := K) (evd 2 d2 e2 e11 (σ := Sl x (.int ((k : Nat) : Int)) (.ref ya) dg dS dK fo dO dE n j y6 y7 (some (.str c)) y15 y16 y17 y18) rfl rfl) hlo (by omega)
          rw [← Int.toNat_of_nonneg m0] at hmod
          refine seqset_go (K := K) (d := .str z.1) (ev_ix (i := 0) (ev_ixL (d := dObj z) (ev_var (i := 2) rfl (hyo H11 e11)) hmod (by rw [List.getElem?_map, hz]; rfl)) ev_int rfl) (.refl H11) fun v6 H12 x12' _ h6 => ?_
          rw [dp_str h6]
          have wv12 := wv11.ext x12'
          have e12 := e11.trans x12'
          refine seqset_go (K := K) (ev_call (ea_cons (ev_dget (i := 8) (v := .str z.2.str) rfl wv12.hk (key_str (ev_var (K := K) (i := 6) rfl (.str _))) (wv12.kk z hzm) (.str _)) ea_nil) g_names) (.refl H12) fun v16 H13 x13 _ h16 => ?_
          have wv13 := wv12.ext x13
          have e13 := e12.trans x13
          have hlw := ev_lenL (K := K) (σ := Sl x (.int ((k : Nat) : Int)) (.ref ya) dg dS dK fo dO dE n j (some (.str z.1)) y7 (some (.str c)) y15 (some v16) y17 y18) (H := H13) (ea_cons (ev_var (i := 16) rfl h16) ea_nil)
          rw [List.length_map] at hlw
          have nw : 0 < (wordsOf z.2).length := by cases z.2 <;> decide
          have m2 : 0 ≤ d0 % (((wordsOf z.2).length : Nat) : Int) := Int.emod_nonneg _ (by omega)
          have m3 : d0 % (((wordsOf z.2).length : Nat) : Int) < (((wordsOf z.2).length : Nat) : Int) := Int.emod_lt_of_pos _ (by omega)
          obtain ⟨o, ho⟩ : ∃ o, (wordsOf z.2)[(d0 % (((wordsOf z.2).length : Nat) : Int)).toNat]? = some o := ⟨(wordsOf z.2)[(d0 % (((wordsOf z.2).length : Nat) : Int)).toNat]'(by omega), List.getElem?_eq_getElem _⟩
          have hmod2 := ev_mod (K := K) (evd0 e13 (σ := Sl x (.int ((k : Nat) : Int)) (.ref ya) dg dS dK fo dO dE n j (some (.str z.1)) y7 (some (.str c)) y15 (some v16) y17 y18) rfl rfl) hlw (by omega)
          rw [← Int.toNat_of_nonneg m2] at hmod2
          refine seqset_go (K := K) (d := .str o) (ev_ixL (ev_var (i := 16) rfl h16) hmod2 (by rw [List.getElem?_map, ho]; rfl)) (.refl H13) fun v17 H14 x14 _ h17 => ?_
          rw [dp_str h17]
          have wv14 := wv13.ext x14
          have e14 := e13.trans x14
          obtain ⟨nn, hnn⟩ := word_need ho
          refine seqset_go (K := K) (ev_call (ea_cons (ev_var (i := 17) rfl (.str _)) (ea_cons (evd 3 d3 e3' e14 rfl rfl) (ea_cons (evd 4 d4 e4 e14 rfl rfl) ea_nil))) g_args) (.refl H14) fun v18 H15 x15 _ h18 => ?_
          have wv15 := wv14.ext x15
          have e15 := e14.trans x15
          have hop := args_ok hnn d3 d4
          generalize argsM o d3 d4 = ar at h18 hop
          have hal : acc.length ≤ j := by
            have := da_len wv15.ac
            rw [List.length_map] at this
            rw [this]
            exact eo.len
          have hol := wv15.ol
          refine app_go (K := K) (i := 9) (d := dEv (.call c z.1 o ar)) rfl wv15.hf (by omega) (ev_tup (ea_cons ev_str (ea_cons (ev_var (i := 14) rfl (.str _)) (ea_cons (ev_var (i := 6) rfl (.str _)) (ea_cons (ev_var (i := 17) rfl (.str _)) (ea_cons (ev_var (i := 18) rfl h18) ea_nil)))))) fun v9 H16 x16 hv9 hf16 => ?_
          have wv16 := wv15.ext x16
          have hO17 : upd H16 fo (.lst (acc ++ [v9])) dO = some (.dK ko) := by rw [upd_ne (ne_sh wv16.ho wv16.hf (fun z => by cases z))]; exact wv16.ho
          have h18' : Dp K (upd H16 fo (.lst (acc ++ [v9]))) v18 (dInts ar) := dp_tk (tk_lst hf16) _ _ (noL_ints ar) (h18.ext x16)
          refine dput_go (K := K) (i := 10) (k := .inr c) (d := .tuple [.str z.1, .str o, dInts ar]) rfl hO17 (by omega) (ev_tup (ea_cons (ev_var (i := 6) rfl (.str _)) (ea_cons (ev_var (i := 17) rfl (.str _)) (ea_cons (ev_var (i := 18) rfl h18') ea_nil)))) (key_str (ev_var (K := K) (i := 14) rfl (.str _))) fun v10 H17 x17 hv10 hO17' => ?_
          have wv17 := wv16.call (c := c) hzm hop hv9 x17 hv10
          refine set_go (K := K) (ev_add (i := ((n : Nat) : Int)) (j := 1) (ev_var (i := 12) rfl (.int _)) ev_int) (.refl _) fun v12 H18 x18 _ h12 => ?_
          rw [dp_int h12]
          have hopn : (sgOf evs).opn c = false := by rw [← wv.oo c]; exact hno
          refine tail _ _ ⟨dO, dE, n + 1, _, _, _, _, _, _, _, _, _, _, rfl, ?_, nO2, nE2, (wv17.ext x18).mono (by omega), eo.call hopn (zip_in hzm hop) (by
            show (PyData.strOk c && PyData.strOk z.1 && PyData.strOk o) = true
            rw [hct, zip_txt hzm, op_txt hnn]; rfl), by omega⟩
          exact (((((e15.trans x16).mut nf2).trans x17).mut nO2).trans x18)
        · have e11 := e10.trans x11
          have wv11 := wv10.ext x11
          refine if_go (eb_din (i := 10) rfl wv11.ho (key_str (ev_var (K := K) (i := 14) rfl (.str _)))) (.refl H11) (fun hin H12 x12' _ => ?_) (fun hno H12 x12' _ => ?_)
          · have e12 := e11.trans x12'
            have wv12 := wv11.ext x12'
            refine mid_if (fun σ H' => ∃ (y6 y17 y18 : Option V) (ks ke : List (Key × V)), σ = Sl x (.int ((k : Nat) : Int)) (.ref ya) dg dS dK fo dO dE n j y6 y7 (some (.str c)) y15 y16 y17 y18 ∧ Ext H2 H' ∧ Wv K (nms.zip kds) dS dK dO dE fo (2 * j + 1) H' evs (mergeK [] ((nms.zip kds).map fObj)) ks ko ke acc ∧ (valV ke (.inr c)).isSome = true)
              (eb_dnotin (i := 11) rfl wv12.he (key_str (ev_var (K := K) (i := 14) rfl (.str _)))) (.refl H12) (fun Z2 tail2 hb2 H13 x13 _ => ?_) (fun Z2 tail2 hb2 H13 x13 _ => ?_) fun σ' H13 p => ?_
            · refine eff_go (K := K) (s := 14) (c := c) (y14 := some (.str c)) (fun _ _ _ => rfl) (wv12.ext x13) (fun z hz y hy => zip_un hz hy) (by omega) hin (e12.trans x13) nS nE2 fun y6 y17 y18 H' ks' ke' eH' w' hi => ?_
              exact tail2 _ _ ⟨_, _, _, _, _, rfl, eH', w', hi⟩
            · exact tail2 _ _ ⟨_, _, _, _, _, rfl, e12.trans x13, (wv12.ext x13).mono (Nat.le_succ _), by simpa using hb2⟩
            · obtain ⟨y6, y17, y18, ks, ke, rfl, e13, wv13, hi⟩ := p
              refine if_go (eb_or (eb_gt (K := K) (evd 5 d5 e5 e13 rfl rfl) ev_int) fun _ => eb_eqI (K := K) (a := ((n : Nat) : Int)) (b := 9) (ev_var (i := 12) rfl (.int _)) (ev_var (i := 3) rfl (.int _))) (.refl H13) (fun _ H14 x14 _ => ?_) fun _ H14 x14 _ => ?_
              · have wv14 := wv13.ext x14
                have e14 := e13.trans x14
                cases hv : valV ke (.inr c) with
                | none => rw [hv] at hi; cases hi
                | some v =>
                  obtain ⟨r, hr1, hr2⟩ := wv14.ev c v hv
                  have hal : acc.length ≤ j := by
                    have := da_len wv14.ac
                    rw [List.length_map] at this
                    rw [this]
                    exact eo.len
                  have hol := wv14.ol
                  have hel := wv14.el
                  refine app_go (K := K) (i := 9) (d := dEv (.ret c r)) rfl wv14.hf (by omega) (ev_tup (ea_cons ev_str (ea_cons (ev_var (i := 14) rfl (.str _)) (ea_cons (ev_dget (i := 11) rfl wv14.he (key_str (ev_var (K := K) (i := 14) rfl (.str _))) hv hr1) ea_nil)))) fun v9 H15 x15 hv9 hf15 => ?_
                  have wv15 := wv14.ext x15
                  have hO16 : upd H15 fo (.lst (acc ++ [v9])) dO = some (.dK ko) := by rw [upd_ne (ne_sh wv15.ho wv15.hf (fun z => by cases z))]; exact wv15.ho
                  have hE16 : upd H15 fo (.lst (acc ++ [v9])) dE = some (.dK ke) := by rw [upd_ne (ne_sh wv15.he wv15.hf (fun z => by cases z))]; exact wv15.he
                  have e16 : Ext H2 (upd H15 fo (.lst (acc ++ [v9]))) := (e14.trans x15).mut nf2
                  refine ⟨.ref dO, rfl, .str c, rfl, dO, c, ko, rfl, hO16, wv15.ok, by omega, fun p1 ko' H17 x17 np1 hp1 dr1 => ?_⟩
                  refine ⟨.ref dE, rfl, .str c, rfl, dE, c, ke, rfl, x17.dK hE16, wv15.ek, by omega, fun p2 ke' H18 x18 np2 hp2 dr2 => ?_⟩
                  have hopn : (sgOf evs).opn c = true := by rw [← wv.oo c]; exact hin
                  refine tail _ _ ⟨p1, p2, n, _, _, _, _, _, _, _, _, _, _, rfl, (e16.trans x17).trans x18, e16.free np1, (e16.trans x17).free np2, wv15.ret hv9 x17 np1 hp1 dr1 x18 np2 hp2 dr2, eo.ret hopn (by
                    show (PyData.strOk c && kOk r) = true
                    rw [hct, hr2]; rfl), hn9⟩
              · exact tail _ _ ⟨_, _, _, _, _, _, _, _, _, _, _, _, _, rfl, e13.trans x14, nO2, nE2, wv13.ext x14, eo.mono (Nat.le_succ _), hn9⟩
          · exact tail _ _ ⟨_, _, _, _, _, _, _, _, _, _, _, _, _, rfl, e11.trans x12', nO2, nE2, (wv11.ext x12').mono (Nat.le_succ _), eo.mono (Nat.le_succ _), hn9⟩
        · obtain ⟨dO, dE, n, y6, y15, y16, y17, y18, evs, ks, ko, ke, acc, rfl, e11, nO2, nE2, wv, eo, hn9⟩ := p
          refine seqset_go (K := K) (d := .str c') (ev_ixL (i := d5.toNat) (ev_lst (ea_cons ev_str (ea_cons ev_str (ea_cons ev_str ea_nil)))) (by rw [Int.toNat_of_nonneg l5]; exact evd 5 d5 e5 e11 rfl rfl) hc') (.refl H11) fun v15 H12 x12' _ h15 => ?_
          rw [dp_str h15]
          have e12 := e11.trans x12'
          have wv12 := wv.ext x12'
          refine if_go (b := (valV ko (.inr c')).isSome && (!(valV ke (.inr c')).isSome && decide (d3 = 0))) (eb_and (eb_din (i := 10) rfl wv12.ho (key_str (ev_var (K := K) (i := 15) rfl (.str _)))) fun _ => eb_and (eb_dnotin (i := 11) rfl wv12.he (key_str (ev_var (K := K) (i := 15) rfl (.str _)))) fun _ => eb_eqI (K := K) (evd 3 d3 e3' e12 rfl rfl) ev_int) (.refl H12) (fun hb H13 x13 _ => ?_) fun hb H13 x13 _ => ?_
          · rw [Bool.and_eq_true] at hb
            refine eff_go (K := K) (s := 15) (c := c') (y15 := some (.str c')) (fun _ _ _ => rfl) (wv12.ext x13) (fun z hz y hy => zip_un hz hy) (by omega) hb.1 (e12.trans x13) nS nE2 fun y6 y17 y18 H' ks' ke' eH' w' _ => ?_
            exact ⟨_, _, _, _, _, _, _, _, _, _, _, _, _, _, _, rfl, eH', nO2, nE2, w'.mono (by omega), eo, hn9⟩
          · exact ⟨_, _, _, _, _, _, _, _, _, _, _, _, _, _, _, rfl, e12.trans x13, nO2, nE2, (wv12.ext x13).mono (by omega), eo, hn9⟩
      · obtain ⟨dO, dE, n, y6, y13, y14, y15, y16, y17, y18, evs, ks, ko, ke, acc, rfl, e9, nO2, nE2, wv, eo, hn9⟩ := p
        exact ⟨_, rfl, q _ _ evs n (x12.trans e9) (.lst (.of wv.hf) wv.ac) eo hn9⟩
end
end K22

-- L8
set_option maxHeartbeats 8000000
/-! Walks: the law's spoiling; the history. -/
namespace K22
open PySem PySem.Spec PyProof.Rows L2
section
variable {P : Program} {w : World} {K : PySem.W.Frag} {mg : Str → Option Value} {base : Heap}
/-- the same, but for results -/
def EvSim (e e' : Ev) : Prop := e = e' ∨ ∃ c r r', e = .ret c r ∧ e' = .ret c r'
def Sim : List Ev → List Ev → Prop
  | [], [] => True
  | e :: t, e' :: t' => EvSim e e' ∧ Sim t t'
  | _, _ => False
theorem Sim.refl : ∀ l, Sim l l
  | [] => trivial
  | _ :: t => ⟨.inl rfl, Sim.refl t⟩
theorem sim_set : ∀ {l : List Ev} {i : Nat} {c : Str} {r r' : KeyR}, l[i]? = some (.ret c r) → Sim l (l.set i (.ret c r'))
  | [], i, c, r, r', h => by simp at h
  | e :: t, 0, c, r, r', h => ⟨.inr ⟨c, r, r', Option.some.inj h, rfl⟩, Sim.refl t⟩
  | e :: t, i + 1, c, r, r', h => ⟨.inl rfl, sim_set (l := t) (i := i) h⟩
theorem sim_wf {objs : List (Str × Kd)} : ∀ {l l' : List Ev} {s s' : Sg}, s.w = s'.w → s.opn = s'.opn → s.ops.length = s'.ops.length → Sim l l' → WfFrom objs s l → WfFrom objs s' l' ∧ (l.foldl Sg.step s).ops.length = (l'.foldl Sg.step s').ops.length
  | [], [], _, _, _, _, h3, _, _ => ⟨trivial, h3⟩
  | e :: t, e' :: t', s, s', h1, h2, h3, sm, wf => by
    obtain ⟨s1, s2⟩ := sm
    obtain ⟨w1, w2⟩ := wf
    cases e with
    | call c n o a =>
      have : Ev.call c n o a = e' := by
        rcases s1 with z | ⟨c, r, r', z, _⟩
        · exact z
        · cases z
      subst this
      obtain ⟨i1, i2⟩ := sim_wf (s := s.step (.call c n o a)) (s' := s'.step (.call c n o a)) (by show (fun x => if x = c then some s.ops.length else s.w x) = fun x => if x = c then some s'.ops.length else s'.w x; rw [h1, h3]) (by show (fun x => if x = c then true else s.opn x) = fun x => if x = c then true else s'.opn x; rw [h2]) (by show (s.ops ++ [_]).length = (s'.ops ++ [_]).length; rw [List.length_append, List.length_append, h3]; rfl) s2 w2
      exact ⟨⟨⟨by rw [← h2]; exact w1.1, w1.2⟩, i1⟩, i2⟩
    | ret c r =>
      obtain ⟨r', he⟩ : ∃ r', e' = Ev.ret c r' := by
        rcases s1 with z | ⟨c', r, r', z, z'⟩
        · exact ⟨r, z.symm⟩
        · cases z; exact ⟨r', z'⟩
      subst he
      obtain ⟨i1, i2⟩ := sim_wf (s := s.step (.ret c r)) (s' := s'.step (.ret c r')) h1 (by show (fun x => if x = c then false else s.opn x) = fun x => if x = c then false else s'.opn x; rw [h2]) (by rw [ret_len, ret_len]; exact h3) s2 w2
      refine ⟨⟨?_, i1⟩, i2⟩
      show s'.opn c = true
      rw [← h2]; exact w1
  | [], _ :: _, _, _, _, _, _, sm, _ => absurd sm id
  | _ :: _, [], _, _, _, _, _, sm, _ => absurd sm id
theorem EvsOk.spoil {objs : List (Str × Kd)} {evs : List Ev} {n j i : Nat} (h : EvsOk objs evs n j) {c : Str} {r r' : KeyR} (hi : evs[i]? = some (.ret c r)) (hr : kOk r' = true) : EvsOk objs (evs.set i (.ret c r')) n j := by
  obtain ⟨w1, w2⟩ := sim_wf (objs := objs) (s := sg0) (s' := sg0) rfl rfl rfl (sim_set (r' := r') hi) h.wf
  refine ⟨w1, ?_, by rw [List.length_set]; exact h.len, fun e he => ?_⟩
  · have h2 := h.ops
    unfold opsM sgOf at h2 ⊢
    rw [← w2]
    exact h2
  · rcases List.mem_or_eq_of_mem_set he with z | z
    · exact h.txt e z
    · subst z
      have := h.txt _ (List.mem_of_getElem? hi)
      have h1 : (PyData.strOk c && kOk r) = true := this
      rw [Bool.and_eq_true] at h1
      show (PyData.strOk c && kOk r') = true
      rw [h1.1, hr]; rfl
theorem eb_isiI {i : Nat} {z : Int} {σ : L2.St} {H : Hp} (hs : σ[i]? = some (some (.int z))) : EvB (tB (tCB (rIsi K) (tCons (tVar i) (tCons (tC (.ty "int")) tNil)))) σ H true := fun H1 x Q q => ⟨.int z, hs, .int z, .ty "int", .type "int", .type "int", true, rfl, .ty _, .base (.int z), rfl, true, rfl, q H1 (.refl _)⟩
theorem eb_isiS {i : Nat} {z : Str} {σ : L2.St} {H : Hp} (hs : σ[i]? = some (some (.str z))) : EvB (tB (tCB (rIsi K) (tCons (tVar i) (tCons (tC (.ty "int")) tNil)))) σ H false := fun H1 x Q q => ⟨.str z, hs, .str z, .ty "int", .type "str", .type "int", false, rfl, .ty _, .base (.str z), rfl, false, rfl, q H1 (.refl _)⟩
theorem ev_max {t : TA} {σ : L2.St} {H : Hp} {i j : Int} (h : EvA K t σ H [.int i, .int j]) : EvD K (tCB (fun xs H Q => ∃ i j, xs = [.int i, .int j] ∧ Q (.int (if j > i then j else i)) H) t) σ H (.int (if j > i then j else i)) := fun H1 x Q q => h H1 x _ fun vs H2 x2 hv => by
  obtain ⟨v, vs, rfl, h1, hv⟩ := da_cons hv
  obtain ⟨v2, vs, rfl, h2, hv⟩ := da_cons hv
  rw [da_nil hv, dp_int h1, dp_int h2]
  exact ⟨i, j, rfl, q _ H2 x2 (.int _)⟩
theorem eb_le {ta tb : TE} {σ : L2.St} {H : Hp} {i j : Int} (ha : EvD K ta σ H (.int i)) (hb : EvD K tb σ H (.int j)) : EvB (tTest (tOp (rI0 fun i j => .bl (decide (i ≤ j))) ta tb)) σ H (decide (i ≤ j)) := eb_cmp ha hb fun _ _ _ _ _ hx hy q => ⟨i, j, dp_int hx, dp_int hy, q⟩
theorem setl_go {te : TE} {i j : Nat} {a : Addr} {xs : List V} {p : Nat} {d : PyData} {D : Ends} {σ : L2.St} {H : Hp} (hs : σ[i]? = some (some (.ref a))) (hj : σ[j]? = some (some (.int ((p : Nat) : Int)))) (he : EvD K te σ H d) (ha : H a = some (.lst xs)) (hp : p < xs.length) (q : ∀ v H2, Ext H H2 → Dp K H2 v d → H2 a = some (.lst xs) → D.nx σ (upd H2 a (.lst (xs.set p v)))) : tAsg te (gSub (tVar i) (tVar j) rSetL) D σ H :=
  he.go fun v H2 e hv => ⟨.ref a, hs, .int ((p : Nat) : Int), hj, a, xs, ((p : Nat) : Int), p, rfl, rfl, e.lst ha, by
    unfold ixN
    rw [if_pos (by omega), if_pos (by omega)]
    rfl, q v H2 e hv (e.lst ha)⟩
theorem eb_eqK {ta tb : TE} {σ : L2.St} {H : Hp} {r : KeyR} {s : Str} (ha : EvD K ta σ H (dKey r)) (hb : EvD K tb σ H (.str s)) : EvB (tTest (tOp rEq ta tb)) σ H (decide (r = .inr s)) := eb_cmp ha hb fun x y H1 Q _ hx hy q => by
  cases r with
  | inl i =>
    rw [dp_int hx, dp_str hy]
    refine ⟨rfl, ?_⟩
    have : decide (V.int i = V.str s) = decide ((Sum.inl i : KeyR) = .inr s) := by simp
    rw [this]; exact q
  | inr s' =>
    rw [dp_str hx, dp_str hy]
    refine ⟨rfl, ?_⟩
    have : decide (V.str s' = V.str s) = decide ((Sum.inr s' : KeyR) = .inr s) := by by_cases h : s' = s <;> simp [h]
    rw [this]; exact q
def RetSpoil (K : PySem.W.Frag) (objs : List (Str × Kd)) (n : Nat) (H : Hp) (Q : VK) : Prop := ∀ v H' evs, Ext H H' → Dp K H' v (.list (evs.map dEv)) → EvsOk objs evs n 24 → Q v H'
def spSpoil (K : PySem.W.Frag) : Sp := fun vs H Q _ => ∃ (ns : List Int) (k : Nat) (objs : List (Str × Kd)) (evs : List Ev) (n : Nat) (x y : V), vs = [x, .int ((k : Nat) : Int), y] ∧ Dp K H x (dIntL ns) ∧ k ≤ 902 ∧ Dp K H y (.list (evs.map dEv)) ∧ EvsOk objs evs n 24 ∧ RetSpoil K objs n H Q
theorem w_spoil {code : Addr} (D : DF K mg "_law_spoil" s_law_spoil code) (T : Bn mg) (c_law_draw : C8.Cal P w K mg base 2 "_law_draw" (spDraw K) []) : C8.Cal P w K mg base 3 "_law_spoil" (spSpoil K) [] := by
  refine calD D sc_law_spoil (fun _ _ _ _ _ _ us hl => match us, hl with | [_, _, _], _ => rfl) (fun vs H Q E h => ?_) (fun f A outer s H vs Q E hr h => ?_)
  · obtain ⟨ns, k, objs, evs, n, x, y, rfl, _⟩ := h; rfl
  · obtain ⟨ns, k, objs, evs, n, x, y, rfl, hx, hk, hy, heo, q⟩ := h
    refine ⟨_, (pss_cons (ps_set (i := 3) sc_law_spoil.nd rfl (by first | exact .inl rfl | exact .inr rfl) (C8.pe_c c_law_draw hr (by first | decide | omega) (by rfl) (pa_cons (pv 0) (pa_cons (pv 1) (pa_cons (pe_lst (pa_cons pe_int (pa_cons pe_int (pa_cons pe_int (pa_cons pe_int (pa_cons pe_int pa_nil)))))) pa_nil)))))
      (pss_cons (ps_set (i := 4) sc_law_spoil.nd rfl (by first | exact .inl rfl | exact .inr rfl) (pe_callTy call_list_of (by rfl) T.list (by decide +kernel) (pa_cons (pv 2) pa_nil)))
      (pss_cons (ps_for PassesOwn.never rfl (pi_range1 (by rfl) T.range (pa_cons (pe_ix ixD (pv 3) pe_int (fun _ _ => rfl)) pa_nil)) (pg_name (i := 5) sc_law_spoil.nd rfl (by first | exact .inl rfl | exact .inr rfl)) (pss_cons (ps_set (i := 6) sc_law_spoil.nd rfl (by first | exact .inl rfl | exact .inr rfl) (pe_op op_mod (pe_ix ixD (pv 3) (pe_op op_add pe_int (pe_op op_mul pe_int (pv 5))) (fun _ _ => rfl)) (pe_callB (call_max2 rfl) (by rfl) T.max (by decide +kernel) (pa_cons pe_int (pa_cons (pe_callB lenD (by rfl) T.len PySem.boot_len (pa_cons (pv 4) pa_nil)) pa_nil)))))
      (pss_one (ps_if (PW.pt (pw_and (pt_cmpR op_gt (pe_callB lenD (by rfl) T.len PySem.boot_len (pa_cons (pv 4) pa_nil)) pe_int (nomark _)) (pw_and1 (pt_cmpR op_eq (pe_ix ixD (pe_ix ixD (pv 4) (pv 6) (fun _ _ => rfl)) pe_int (fun _ _ => rfl)) pe_str (nomark _))))) (pss_cons (ps_set (i := 7) sc_law_spoil.nd rfl (by first | exact .inl rfl | exact .inr rfl) (pe_ix ixD (pe_ix ixD (pv 4) (pv 6) (fun _ _ => rfl)) pe_int (fun _ _ => rfl)))
      (pss_one (ps_if (PW.pt (pw_and (pt_val (pe_callB call_isi (by rfl) T.isinstance (by decide +kernel) (pa_cons (pv 7) (pa_cons (pe_bltn (v := .ty "int") (by rfl) T.int (by decide +kernel) rfl) pa_nil)))) (pw_and1 (pt_cmpR op_le (pv 7) pe_int (nomark _))))) (pss_one (ps_asg (pe_tup (pa_cons pe_str (pa_cons (pe_ix ixD (pe_ix ixD (pv 4) (pv 6) (fun _ _ => rfl)) pe_int (fun _ _ => rfl)) (pa_cons (pe_ix ixD (pv 3) (pe_op op_add pe_int (pe_op op_mul pe_int (pv 5))) (fun _ _ => rfl)) pa_nil)))) (pg_sub (pv 4) (pv 6) set_list))) (pss_one (ps_if (pt_cmpR op_eq (pv 7) pe_str (nomark _)) (pss_one (ps_asg (pe_tup (pa_cons pe_str (pa_cons (pe_ix ixD (pe_ix ixD (pv 4) (pv 6) (fun _ _ => rfl)) pe_int (fun _ _ => rfl)) (pa_cons pe_str pa_nil)))) (pg_sub (pv 4) (pv 6) set_list))) (pss_one (ps_if (pt_cmpR op_eq (pv 7) pe_str (nomark _)) (pss_one (ps_asg (pe_tup (pa_cons pe_str (pa_cons (pe_ix ixD (pe_ix ixD (pv 4) (pv 6) (fun _ _ => rfl)) pe_int (fun _ _ => rfl)) (pa_cons pe_str pa_nil)))) (pg_sub (pv 4) (pv 6) set_list))) pss_nil))))))) pss_nil))))
      (pss_one (ps_ret (pv 4)))))), ?_⟩
    refine callset_go (K := K) (ea_cons (ev_var rfl hx) (ea_cons (ev_var rfl (.int _)) (ea_cons (ev_lst (ea_cons (ev_int (i := 3)) (ea_cons (ev_int (i := 24)) (ea_cons (ev_int (i := 6)) (ea_cons (ev_int (i := 24)) (ea_cons (ev_int (i := 6)) ea_nil)))))) ea_nil))) fun H1 vs x1 hv => ?_
    refine g_draw (ss := [3, 24, 6, 24, 6]) hv (by omega) (by decide) (by decide) fun dg H2 ds x2 hok hds => ?_
    have x12 := x1.trans x2
    have hy2 := hy.ext x12
    obtain ⟨ya, ys, rfl, hya, hys⟩ := dp_list hy2
    refine ⟨.ref ya, rfl, ya, ys, rfl, .inl hya, fun fo nf => ?_⟩
    obtain ⟨H3, h3⟩ : ∃ H3, H3 = upd H2 fo (.lst ys) := ⟨_, rfl⟩
    have x3 : Ext H2 H3 := by rw [h3]; exact .new nf
    have hf3 : H3 fo = some (.lst ys) := by rw [h3]; exact upd_same
    rw [← h3]
    clear h3
    obtain ⟨d0, e0, l0, u0⟩ := hok.at (i := 0) (s := 3) rfl
    have hdg : ∀ H', Ext H2 H' → Dp K H' dg (dIntL ds) := fun H' e => hds.ext e
    refine gname_go ?_
    have hrng : EvD K (tOp (rIxD' K) (tVar 3) (tC (.int 0))) [some x, some (.int ((k : Nat) : Int)), some (.ref ya), some dg, some (.ref fo), none, none, none] H3 (.int ((d0.toNat : Nat) : Int)) := by
      rw [Int.toNat_of_nonneg l0]
      exact ev_ixL (i := 0) (ev_var rfl (hdg H3 x3)) ev_int (by rw [List.getElem?_map, e0]; rfl)
    refine for_rng (K := K) (n := d0.toNat) (ea_cons hrng ea_nil) (by omega)
      (fun i σ H' => ∃ (y5 y6 y7 : Option V) (evs : List Ev) (acc : List V), σ = [some x, some (.int ((k : Nat) : Int)), some (.ref ya), some dg, some (.ref fo), y5, y6, y7] ∧ Ext H2 H' ∧ H' fo = some (.lst acc) ∧ DpAll K H' acc (evs.map dEv) ∧ EvsOk objs evs n 24)
      (fun H4 x4 => ⟨none, none, none, evs, ys, rfl, x3.trans x4, x4.lst hf3, hys.ext (x3.trans x4), heo⟩) (fun j σ' H4 hj p => ?_) fun σ' H4 p => ?_
    · obtain ⟨y5, y6, y7, evs, acc, rfl, e4, hf4, hacc, eo⟩ := p
      refine gname_go ?_
      have hj2 : j < 2 := by omega
      obtain ⟨da, ea, la, ua⟩ := hok.at (i := 1 + 2 * j) (s := 24) (by
        have : j = 0 ∨ j = 1 := by omega
        rcases this with rfl | rfl <;> rfl)
      obtain ⟨db, eb, lb, ub⟩ := hok.at (i := 2 + 2 * j) (s := 6) (by
        have : j = 0 ∨ j = 1 := by omega
        rcases this with rfl | rfl <;> rfl)
      have evj : ∀ {σ : L2.St} {H' : Hp} (a : Nat), σ[5]? = some (some (.int ((j : Nat) : Int))) → EvD K (tOp (rI0 fun i j => .int (i + j)) (tC (.int ((a : Nat) : Int))) (tOp (rI CMul fun i j => .int (i * j)) (tC (.int 2)) (tVar 5))) σ H' (.int ((a + 2 * j : Nat) : Int)) := fun {σ H'} a h5 => ev_add (i := ((a : Nat) : Int)) (j := 2 * ((j : Nat) : Int)) ev_int (ev_mul (i := 2) (j := ((j : Nat) : Int)) ev_int (ev_var h5 (.int _)) (.inl ⟨by decide, by decide⟩))
      have hal : acc.length = evs.length := by rw [da_len hacc, List.length_map]
      have hm : ∀ H', Ext H4 H' → Dp K H' (.ref fo) (.list (evs.map dEv)) := fun H' e => .lst (.of (e.lst hf4)) (hacc.ext e)
      have hlen : ∀ {σ : L2.St} {H' : Hp}, Ext H4 H' → σ[4]? = some (some (.ref fo)) → EvD K (tCB (rLenD K) (tCons (tVar 4) tNil)) σ H' (.int ((evs.length : Nat) : Int)) := fun {σ H'} e h4 => by
        have := ev_lenL (K := K) (ea_cons (ev_var h4 (hm H' e)) ea_nil)
        rw [List.length_map] at this
        exact this
      obtain ⟨mx, hmx⟩ : ∃ mx : Int, mx = if ((evs.length : Nat) : Int) > 1 then ((evs.length : Nat) : Int) else 1 := ⟨_, rfl⟩
      have hmx0 : 0 < mx := by rw [hmx]; split <;> omega
      have m0 : 0 ≤ da % mx := Int.emod_nonneg _ (by omega)
      have m1 : da % mx < mx := Int.emod_lt_of_pos _ hmx0
      obtain ⟨p, hp⟩ : ∃ p : Nat, ((p : Nat) : Int) = da % mx := ⟨(da % mx).toNat, Int.toNat_of_nonneg m0⟩
      refine seqset_go (K := K) (d := .int ((p : Nat) : Int)) (by
        rw [hp, hmx]
        refine ev_mod (ev_ixL (i := 1 + 2 * j) (ev_var rfl (hdg H4 e4)) (evj 1 rfl) (by rw [List.getElem?_map, ea]; rfl)) (ev_max (ea_cons ev_int (ea_cons (hlen (.refl H4) rfl) ea_nil))) (by rw [← hmx]; exact hmx0)) (.refl H4) fun v6 H5 x5 _ h6 => ?_
      rw [dp_int h6]
      have e5 := e4.trans x5
      have hf5 := x5.lst hf4
      have done : ∀ (y7 : Option V) H', Ext H5 H' → ∃ (y5' y6' y7' : Option V) (evs : List Ev) (acc : List V), [some x, some (.int ((k : Nat) : Int)), some (.ref ya), some dg, some (.ref fo), some (.int ((j : Nat) : Int)), some (.int ((p : Nat) : Int)), y7] = [some x, some (.int ((k : Nat) : Int)), some (.ref ya), some dg, some (.ref fo), y5', y6', y7'] ∧ Ext H2 H' ∧ H' fo = some (.lst acc) ∧ DpAll K H' acc (evs.map dEv) ∧ EvsOk objs evs n 24 := fun y7 H' e => ⟨_, _, _, evs, acc, rfl, e5.trans e, e.lst hf5, hacc.ext (x5.trans e), eo⟩
      by_cases hl0 : evs.length = 0
      · refine if_go (b := decide ((0 : Int) < ((evs.length : Nat) : Int)) && false) (eb_and (eb_gt (K := K) (hlen x5 rfl) ev_int) fun h => absurd (pdec h) (by omega)) (.refl H5) (fun h => absurd h (by rw [Bool.and_false]; exact Bool.false_ne_true)) fun _ H6 x6 _ => done _ H6 x6
      · have hpl : p < evs.length := by
          have : mx = ((evs.length : Nat) : Int) := by rw [hmx]; split <;> omega
          omega
        have hpe : evs[p]? = some evs[p] := List.getElem?_eq_getElem hpl
        obtain ⟨e, he⟩ : ∃ e, e = evs[p] := ⟨_, rfl⟩
        rw [← he] at hpe
        clear he
        have hat : ∀ {σ : L2.St} {H' : Hp}, Ext H4 H' → σ[4]? = some (some (.ref fo)) → σ[6]? = some (some (.int ((p : Nat) : Int))) → EvD K (tOp (rIxD' K) (tVar 4) (tVar 6)) σ H' (dEv e) := fun {σ H'} ex h4 h6 => ev_ixL (i := p) (ev_var h4 (hm H' ex)) (ev_var h6 (.int _)) (by rw [List.getElem?_map, hpe]; rfl)
        cases e with
        | call c nm o a =>
          refine if_go (b := decide ((0 : Int) < ((evs.length : Nat) : Int)) && decide (("call" : Str) = "return")) (eb_and (eb_gt (K := K) (hlen x5 rfl) ev_int) fun _ => eb_eqS (K := K) (ev_ix (i := 0) (hat x5 rfl rfl) ev_int rfl) ev_str) (.refl H5) (fun h => absurd h (by rw [decide_eq_false (by decide : ¬ ("call" : Str) = "return"), Bool.and_false]; exact Bool.false_ne_true)) fun _ H6 x6 _ => done _ H6 x6
        | ret c r =>
          refine if_go (b := decide ((0 : Int) < ((evs.length : Nat) : Int)) && decide (("return" : Str) = "return")) (eb_and (eb_gt (K := K) (hlen x5 rfl) ev_int) fun _ => eb_eqS (K := K) (ev_ix (i := 0) (hat x5 rfl rfl) ev_int rfl) ev_str) (.refl H5) (fun _ H6 x6 _ => ?_) fun _ H6 x6 _ => done _ H6 x6
          have x46 := x5.trans x6
          refine seqset_go (K := K) (d := dKey r) (ev_ix (i := 2) (hat x46 rfl rfl) ev_int rfl) (.refl H6) fun v7 H7 x7 _ h7 => ?_
          have x57 := x6.trans x7
          have x47 := x5.trans x57
          have hset : ∀ (r' : KeyR) (H' : Hp) (te : TE) (Dd : Ends), kOk r' = true → Ext H7 H' → EvD K te [some x, some (.int ((k : Nat) : Int)), some (.ref ya), some dg, some (.ref fo), some (.int ((j : Nat) : Int)), some (.int ((p : Nat) : Int)), some v7] H' (dKey r') →
              (∀ σ' H'', (∃ (y5 y6 y7 : Option V) (evs : List Ev) (acc : List V), σ' = [some x, some (.int ((k : Nat) : Int)), some (.ref ya), some dg, some (.ref fo), y5, y6, y7] ∧ Ext H2 H'' ∧ H'' fo = some (.lst acc) ∧ DpAll K H'' acc (evs.map dEv) ∧ EvsOk objs evs n 24) → Dd.nx σ' H'') →
              tAsg (tTup (tCons (tC (.str "return")) (tCons (tOp (rIxD' K) (tOp (rIxD' K) (tVar 4) (tVar 6)) (tC (.int 1))) (tCons te tNil)))) (gSub (tVar 4) (tVar 6) rSetL) Dd [some x, some (.int ((k : Nat) : Int)), some (.ref ya), some dg, some (.ref fo), some (.int ((j : Nat) : Int)), some (.int ((p : Nat) : Int)), some v7] H' := fun r' H' te Dd hr ex hte hd => by
            have x4' := x47.trans ex
            refine setl_go (K := K) (p := p) (d := dEv (.ret c r')) rfl rfl (ev_tup (ea_cons ev_str (ea_cons (ev_ix (i := 1) (hat x4' rfl rfl) ev_int rfl) (ea_cons hte ea_nil)))) (x4'.lst hf4) (by rw [hal]; exact hpl) fun v8 H8 x8 hv8 hf8 => ?_
            refine hd _ _ ⟨_, _, _, evs.set p (.ret c r'), acc.set p v8, rfl, ((e4.trans x4').trans x8).mut nf, upd_same, ?_, eo.spoil hpe hr⟩
            rw [List.map_set]
            exact dpAll_tk (tk_lst hf8) _ _ (by rw [← List.map_set]; exact noLs_map fun e _ => noL_ev e) (da_set hv8 p (hacc.ext (x4'.trans x8)))
          have hv7 : ∀ {H' : Hp}, EvD K (tVar 7) [some x, some (.int ((k : Nat) : Int)), some (.ref ya), some dg, some (.ref fo), some (.int ((j : Nat) : Int)), some (.int ((p : Nat) : Int)), some v7] H' (dKey r) := fun {H'} => ev_var rfl (dp_keyAny h7)
          obtain ⟨bi, hbi⟩ : ∃ bi : Bool, EvB (tAnd (tB (tCB (rIsi K) (tCons (tVar 7) (tCons (tC (.ty "int")) tNil)))) (tTest (tOp (rI0 fun i j => .bl (decide (i ≤ j))) (tVar 7) (tC (.int 9))))) [some x, some (.int ((k : Nat) : Int)), some (.ref ya), some dg, some (.ref fo), some (.int ((j : Nat) : Int)), some (.int ((p : Nat) : Int)), some v7] H7 bi := by
            cases r with
            | inl z =>
              have h7 := dp_int h7
              subst h7
              exact ⟨true && decide (z ≤ 9), eb_and (eb_isiI rfl) fun _ => eb_le (K := K) (ev_var rfl (.int _)) ev_int⟩
            | inr z =>
              have h7 := dp_str h7
              subst h7
              exact ⟨false && false, eb_and (eb_isiS rfl) fun h => absurd h Bool.false_ne_true⟩
          refine if_go hbi (.refl H7) (fun _ H8 x8 _ => ?_) fun _ H8 x8 _ => ?_
          · exact hset (.inl db) H8 _ _ rfl x8 (ev_ixL (i := 2 + 2 * j) (ev_var (i := 3) rfl (hdg H8 (e4.trans (x47.trans x8)))) (evj 2 rfl) (by rw [List.getElem?_map, eb]; rfl)) fun _ _ h => h
          · refine if_go (eb_eqK (K := K) (s := "yes") hv7 ev_str) (.refl H8) (fun _ H9 x9 _ => ?_) fun _ H9 x9 _ => ?_
            · exact hset (.inr "no") H9 _ _ (by decide +kernel) (x8.trans x9) ev_str fun _ _ h => h
            · refine if_go (eb_eqK (K := K) (s := "no") hv7 ev_str) (.refl H9) (fun _ H10 x10 _ => ?_) fun _ H10 x10 _ => ?_
              · exact hset (.inr "yes") H10 _ _ (by decide +kernel) ((x8.trans x9).trans x10) ev_str fun _ _ h => h
              · exact done _ _ (x57.trans ((x8.trans x9).trans x10))
    · obtain ⟨y5, y6, y7, evs, acc, rfl, e4, hf4, hacc, eo⟩ := p
      exact ⟨_, rfl, q _ _ evs (x12.trans e4) (.lst (.of hf4) hacc) eo⟩
end
end K22

-- L9
set_option maxHeartbeats 8000000
/-! Walks: the law's history. -/
namespace K22
open PySem PySem.Spec PyProof.Rows L2
section
variable {P : Program} {w : World} {K : PySem.W.Frag} {mg : Str → Option Value} {base : Heap}
theorem conscall_go {sp : Sp} {E : XK} {t tr : TA} {σ : L2.St} {H : Hp} {Q : List V → Hp → Prop} {ds : List PyData} (h : EvA K t σ H ds) (q : ∀ H1 vs, Ext H H1 → DpAll K H1 vs ds → sp vs H1 (fun v H2 => tr σ H2 fun us H3 => Q (v :: us) H3) E) : tCons (tCall sp [] E t) tr σ H Q := h H (.refl H) _ fun vs H1 x hv => by
  rw [List.append_nil]
  exact q H1 vs x hv
def RetHist (K : PySem.W.Frag) (H : Hp) (Q : VK) : Prop := ∀ v H' h, Ext H H' → Dp K H' v (dHist h) → Wf h → h.evs.length ≤ 24 → Q v H'
def spHistory (K : PySem.W.Frag) : Sp := fun vs H Q _ => ∃ (ns : List Int) (k : Nat) (x : V), vs = [x, .int ((k : Nat) : Int), .int 9] ∧ Dp K H x (dIntL ns) ∧ k ≤ 900 ∧ RetHist K H Q
theorem w_history {code : Addr} (D : DF K mg "_law_history" s_law_history code) (T : Bn mg) (c_law_objects : C8.Cal P w K mg base 3 "_law_objects" (spObjs K) []) (c_law_spoil : C8.Cal P w K mg base 3 "_law_spoil" (spSpoil K) []) (c_law_weave : C8.Cal P w K mg base 3 "_law_weave" (spWeave K) []) : C8.Cal P w K mg base 4 "_law_history" (spHistory K) [] := by
  refine calD D sc_law_history (fun _ _ _ _ _ _ us hl => match us, hl with | [_, _, _], _ => rfl) (fun vs H Q E h => ?_) (fun f A outer s H vs Q E hr h => ?_)
  · obtain ⟨ns, k, x, rfl, _⟩ := h; rfl
  · obtain ⟨ns, k, x, rfl, hx, hk, q⟩ := h
    refine ⟨_, (pss_cons (ps_set (i := 3) sc_law_history.nd rfl (by first | exact .inl rfl | exact .inr rfl) (C8.pe_c c_law_objects hr (by first | decide | omega) (by rfl) (pa_cons (pv 0) (pa_cons (pv 1) pa_nil))))
      (pss_cons (ps_set (i := 4) sc_law_history.nd rfl (by first | exact .inl rfl | exact .inr rfl) (C8.pe_c c_law_spoil hr (by first | decide | omega) (by rfl) (pa_cons (pv 0) (pa_cons (pe_op op_add (pv 1) pe_int) (pa_cons (C8.pe_c c_law_weave hr (by first | decide | omega) (by rfl) (pa_cons (pv 0) (pa_cons (pe_op op_add (pv 1) pe_int) (pa_cons (pv 3) (pa_cons (pv 2) pa_nil))))) pa_nil)))))
      (pss_one (ps_ret (pe_tup (pa_cons (pe_tupleOf (by rfl) T.tuple (pv 3)) (pa_cons (pe_tupleOf (by rfl) T.tuple (pv 4)) pa_nil))))))), ?_⟩
    refine ⟨x, rfl, .int ((k : Nat) : Int), rfl, ns, k, x, rfl, hx, hk, fun v3 H1 kds x1 hk1 hk3 h3 => ?_⟩
    refine ⟨x, rfl, .int ((k : Nat) : Int), rfl, _, _, rfl, rfl, ?_⟩
    have hk1' : EvD K (tOp (rI0 fun i j => .int (i + j)) (tVar 1) (tC (.int 1))) [some x, some (.int ((k : Nat) : Int)), some (.int 9), some v3, none] H1 (.int ((k + 1 : Nat) : Int)) := ev_add (i := ((k : Nat) : Int)) (j := 1) (ev_var rfl (.int _)) ev_int
    refine conscall_go (K := K) (ea_cons (ev_var (i := 0) rfl (hx.ext x1)) (ea_cons hk1' (ea_cons (ev_var (i := 3) rfl h3) (ea_cons (ev_var (i := 2) rfl (.int _)) ea_nil)))) fun H2 vs x2 hvs => ?_
    obtain ⟨u1, vs, rfl, p1, hvs⟩ := da_cons hvs
    obtain ⟨u2, vs, rfl, p2, hvs⟩ := da_cons hvs
    obtain ⟨u3, vs, rfl, p3, hvs⟩ := da_cons hvs
    obtain ⟨u4, vs, rfl, p4, hvs⟩ := da_cons hvs
    rw [da_nil hvs, dp_int p2, dp_int p4]
    refine ⟨ns, k + 1, kds, u1, u3, rfl, p1, by omega, p3, hk1, hk3, fun v4 H3 evs n x3 h4 heo hn => ?_⟩
    have x13 := x2.trans x3
    refine ⟨ns, k + 2, nms.zip kds, evs, n, x, v4, rfl, (hx.ext x1).ext x13, by omega, h4, heo, fun v5 H4 evs2 x4 h5 heo2 => ?_⟩
    have hw : Wf ⟨nms.zip kds, evs2⟩ := ⟨by rw [List.length_zip]; exact Nat.min_le_left _ _, heo2.wf, by rw [heo2.ops]; exact hn, Nat.le_trans heo2.len (by decide), heo2.txt, fun z hz => zip_txt hz⟩
    exact (ev_tup (ea_cons (ev_tuple (ev_var (i := 3) rfl (h3.ext (x13.trans x4)))) (ea_cons (ev_tuple (ev_var (i := 4) rfl h5)) ea_nil))).go fun v6 H5 x5 hv => q v6 H5 ⟨nms.zip kds, evs2⟩ (((x1.trans x13).trans x4).trans x5) hv hw heo2.len
end
end K22

-- L10
set_option maxHeartbeats 8000000
/-! Walks: the law. -/
namespace K22
open PySem PySem.Spec PyProof.Rows L2
section
variable {P : Program} {w : World} {K : PySem.W.Frag} {mg : Str → Option Value} {base : Heap}
/-! ### what can be compared -/
structure Sh (n : Nat) (d : PyData) : Prop where
  lay : d.canLay0 = true
  dep : d.depth ≤ n
theorem sh_all : ∀ {ds : List PyData} {n : Nat}, (∀ x ∈ ds, Sh n x) → PyData.canLayAll0 ds = true ∧ PyData.depthAll ds ≤ n
  | [], _, _ => ⟨rfl, Nat.zero_le _⟩
  | d :: ds, n, h => by
    obtain ⟨h1, h2⟩ := sh_all fun x hx => h x (List.mem_cons_of_mem _ hx)
    have h0 := h d (List.mem_cons_self ..)
    refine ⟨?_, ?_⟩
    · rw [PyData.canLayAll0, h0.lay, h1]; rfl
    · rw [PyData.depthAll]; exact Nat.max_le.mpr ⟨h0.dep, h2⟩
theorem sh_tup {ds : List PyData} {n : Nat} (h : ∀ x ∈ ds, Sh n x) : Sh (n + 1) (.tuple ds) := by
  obtain ⟨h1, h2⟩ := sh_all h
  exact ⟨by rw [PyData.canLay0]; exact h1, by rw [PyData.depth]; exact Nat.succ_le_succ h2⟩
theorem sh_lst {ds : List PyData} {n : Nat} (h : ∀ x ∈ ds, Sh n x) : Sh (n + 1) (.list ds) := by
  obtain ⟨h1, h2⟩ := sh_all h
  exact ⟨by rw [PyData.canLay0]; exact h1, by rw [PyData.depth]; exact Nat.succ_le_succ h2⟩
theorem Sh.mono {n m : Nat} {d : PyData} (h : Sh n d) (hm : n ≤ m) : Sh m d := ⟨h.lay, Nat.le_trans h.dep hm⟩
theorem sh_int {n : Nat} (i : Int) : Sh n (.int i) := ⟨rfl, Nat.zero_le _⟩
theorem sh_non {n : Nat} : Sh n .none := ⟨rfl, Nat.zero_le _⟩
theorem sh_str {n : Nat} {s : Str} (h : PyData.strOk s = true) : Sh n (.str s) := ⟨h, Nat.zero_le _⟩
theorem sh_ints (l : List Int) : Sh 1 (dInts l) := sh_tup fun x hx => by
  obtain ⟨i, _, rfl⟩ := List.mem_map.mp hx
  exact sh_int i
theorem sh_nats (l : List Nat) : Sh 1 (dNats l) := sh_tup fun x hx => by
  obtain ⟨i, _, rfl⟩ := List.mem_map.mp hx
  exact sh_int _
theorem sh_key {n : Nat} {r : KeyR} (h : kOk r = true) : Sh n (dKey r) := by
  cases r with
  | inl i => exact sh_int i
  | inr s => exact sh_str h
theorem sh_cons {n : Nat} {d : PyData} {ds : List PyData} (h : Sh n d) (hs : ∀ x ∈ ds, Sh n x) : ∀ x ∈ d :: ds, Sh n x := fun x hx => by
  rcases List.mem_cons.mp hx with z | z
  · rw [z]; exact h
  · exact hs x z
theorem sh_nil {n : Nat} : ∀ x ∈ ([] : List PyData), Sh n x := fun x hx => by cases hx
theorem sh_ev {e : Ev} (h : evTxt e = true) : Sh 2 (dEv e) := by
  cases e with
  | call c n o a =>
    have h : (PyData.strOk c && PyData.strOk n && PyData.strOk o) = true := h
    simp only [Bool.and_eq_true] at h
    exact sh_tup (sh_cons (sh_str (by decide +kernel)) (sh_cons (sh_str h.1.1) (sh_cons (sh_str h.1.2) (sh_cons (sh_str h.2) (sh_cons (sh_ints a) sh_nil)))))
  | ret c r =>
    have h : (PyData.strOk c && kOk r) = true := h
    simp only [Bool.and_eq_true] at h
    exact sh_tup (sh_cons (sh_str (by decide +kernel)) (sh_cons (sh_str h.1) (sh_cons (sh_key h.2) sh_nil)))
theorem sh_obj {x : Str × Kd} (h : PyData.strOk x.1 = true) : Sh 1 (dObj x) := sh_tup (sh_cons (sh_str h) (sh_cons (sh_str (by cases x.2 <;> decide +kernel)) sh_nil))
theorem sh_hist {h : Hist} (wf : Wf h) : Sh 4 (dHist h) := by
  refine sh_tup (sh_cons ?_ (sh_cons ?_ sh_nil))
  · exact (sh_tup (n := 1) fun x hx => by
      obtain ⟨y, hy, rfl⟩ := List.mem_map.mp hx
      exact sh_obj (wf.otxt y hy)).mono (by decide)
  · exact sh_tup (n := 2) fun x hx => by
      obtain ⟨y, hy, rfl⟩ := List.mem_map.mp hx
      exact sh_ev (wf.txt y hy)
theorem Sh.shaped {n : Nat} {d : PyData} (h : Sh n d) (hn : n ≤ 64) : SeqAt.shaped d = true := by
  show (d.canLay0 && decide (d.depth ≤ 64)) = true
  rw [h.lay, decide_eq_true (Nat.le_trans h.dep hn)]; rfl
theorem eb_same {n : Nat} {ta tb : TE} {σ : L2.St} {H : Hp} {d : PyData} (ha : EvD K ta σ H d) (hb : EvD K tb σ H d) (hs : Sh n d) (hn : n ≤ 64) : EvB (tTest (tOp (rNeD K) ta tb)) σ H false := eb_cmp ha hb fun x y H1 Q _ hx hy q => ⟨d, d, hx, hy, hs.shaped hn, hs.shaped hn, by rw [SeqAt.eqv_refl d hs.lay]; exact q⟩
@[reducible] def d4 (q : Str × Str × List Int × Option KeyR) : PyData := .tuple [.str q.1, .str q.2.1, dInts q.2.2.1, dOKey q.2.2.2]
theorem for_D {wi : TI} {g : TG} {tb : TS} {D : Ends} {σ : L2.St} {H1 : Hp} {n : Nat} {Y : Nat → Hp → V → Hp → Prop} (hw : WalkD wi σ H1 n Y) (Pv : Hp → Nat → L2.St → Hp → Prop) (h0 : ∀ B, Ext H1 B → Pv B 0 σ B) (hE : ∀ B i σ' H', Pv B i σ' H' → Ext B H')
    (hs : ∀ B i y σ' H3 H4, i < n → Pv B i σ' H3 → Y i H3 y H4 → g y σ' H4 fun σ2 H2 => tb { D with nx := Pv B (i + 1), ct := Pv B (i + 1), bk := D.nx } σ2 H2) (hd : ∀ B σ' H', Pv B n σ' H' → D.nx σ' H') : tFor wi g tb D σ H1 :=
  hw H1 (.refl H1) _ fun J B G e wk hG => for_it wk (Pv B) (h0 B e) (fun i σ' H' _ p => hG H' (hE B i σ' H' p)) (fun i y σ' H3 H4 hi p hy => hs B i y σ' H3 H4 hi p hy) (hd B)
theorem ev_min {t : TA} {σ : L2.St} {H : Hp} {i j : Int} (h : EvA K t σ H [.int i, .int j]) : EvD K (tCB (fun xs H Q => ∃ i j, xs = [.int i, .int j] ∧ Q (.int (if j < i then j else i)) H) t) σ H (.int (if j < i then j else i)) := fun H1 x Q q => h H1 x _ fun vs H2 x2 hv => by
  obtain ⟨v, vs, rfl, h1, hv⟩ := da_cons hv
  obtain ⟨v2, vs, rfl, h2, hv⟩ := da_cons hv
  rw [da_nil hv, dp_int h1, dp_int h2]
  exact ⟨i, j, rfl, q _ H2 x2 (.int _)⟩
theorem ev_rangeT {te : TE} {σ : L2.St} {H : Hp} {n : Nat} (h : EvD K te σ H (.int ((n : Nat) : Int))) (hn : n ≤ 1000) : EvD K (tTupRg (tRg1 te)) σ H (dNats (List.range n)) := fun H1 x Q q => h H1 x _ fun v H2 x2 hv => by
  refine ⟨((n : Nat) : Int), dp_int hv, RgOk.of_le (by omega) (by omega) (by omega) (by omega), fun p np => ?_⟩
  refine q _ _ (x2.trans (.new np)) ?_
  have e : rgV 0 ((n : Nat) : Int) = ((List.range n).map fun k => ((k : Nat) : Int)).map V.int := by
    unfold rgV
    rw [Int.sub_zero, Int.toNat_natCast, List.map_map]
    exact List.map_congr_left fun k _ => by show V.int (0 + ((k : Nat) : Int)) = _; rw [Int.zero_add]; rfl
  show Dp K _ _ (.tuple ((List.range n).map fun k => PyData.int ((k : Nat) : Int)))
  rw [nats_ints]
  exact dp_tupNew (by rw [← e]; exact upd_same) (da_ints _)
theorem ev_find {P1 P2 : Addr} {t : TA} {σ : L2.St} {H : Hp} {h : Hist} {m : Mdl} {o : List Nat} (ha : EvA K t σ H [dHist h, .str m.str]) (wf : Wf h) (t1 : TabG H P1) (t2 : TabG H P2) (ho : findM h m = some o) : EvD K (tCall (spFind K P1 P2) [] C8.E0 t) σ H (.tuple [.str "order", dNats o]) := fun H1 x Q q => ha H1 x _ fun vs H2 x2 hv => by
  rw [List.append_nil]
  obtain ⟨v, vs, rfl, h1, hv⟩ := da_cons hv
  obtain ⟨v2, vs, rfl, h2, hv⟩ := da_cons hv
  rw [da_nil hv, dp_str h2]
  exact ⟨h, m, v, rfl, h1, wf, t1.ext (x.trans x2), t2.ext (x.trans x2), fun a xs H' e hs g1 _ => q _ H' (x2.trans e) (.tup hs (g1 o ho))⟩
theorem eb_neSame {ta tb : TE} {σ : L2.St} {H : Hp} {i : Int} (ha : EvD K ta σ H (.int i)) (hb : EvD K tb σ H (.int i)) : EvB (tTest (tOp rNe ta tb)) σ H false := by
  have := eb_neI ha hb
  rw [decide_eq_true rfl] at this
  exact this
/-- [op[1:5] for op in ops if op[0] == client] -/
theorem ev_told {ti : TE} {σ : L2.St} {H : Hp} {ops : List Op} {c : Str} (hi : EvD K ti σ H (dOps ops)) (hn : ops.length ≤ 100) (hc : ∀ v, ((wipe σ [11]).set 11 (some v))[9]? = some (some (.str c))) (h11 : ∀ v, ((wipe σ [11]).set 11 (some v))[11]? = some (some v)) (hw : ∀ v, wipe ((wipe σ [11]).set 11 (some v)) [11] = wipe σ [11]) :
    EvD K (tLc (iList K ti) (gName 11) (tTest (tOp rEq (tOp (rIxD' K) (tVar 11) (tC (.int 0))) (tVar 9))) (tSl (rSlD K) (tVar 11) (tPart (tC (.int 1))) (tPart (tC (.int 5)))) [11]) σ H (.list (((ops.filter fun p => decide (p.c = c)).map f4).map d4)) := by
  have := ev_lc (K := K) (σ := σ) (H := H) (g := gName 11) (tt := tTest (tOp rEq (tOp (rIxD' K) (tVar 11) (tC (.int 0))) (tVar 9))) (te := tSl (rSlD K) (tVar 11) (tPart (tC (.int 1))) (tPart (tC (.int 5)))) (vs := [11]) (fun i => (ops[i]?).bind fun p => if decide (p.c = c) = true then some (d4 (f4 p)) else none) (wd_list hi) (by rw [List.length_map]; omega) (fun i d hi hd => by
    obtain ⟨p, _, hd⟩ := Option.bind_eq_some_iff.mp hd
    split at hd
    · cases hd
      show noLs [.str p.n, .str p.o, dInts p.a, dOKey p.r] = true
      have : noL (dOKey p.r) = true := by
        cases p.r with
        | none => rfl
        | some r => exact noL_key r
      simp only [noLs, noL_ints p.a, this]; rfl
    · cases hd) fun i v H3 H4 hi e3 hv => by
      obtain ⟨e4, d, hd, hv⟩ := hv
      rw [List.length_map] at hi
      rw [List.getElem?_map, List.getElem?_eq_getElem hi] at hd
      cases hd
      rw [List.getElem?_eq_getElem hi]
      generalize ops[i] = p at hv
      have hop : EvD K (tVar 11) ((wipe σ [11]).set 11 (some v)) H3 (dOp p) := ev_var (h11 v) hv
      refine turn_name (b := decide (p.c = c)) e4 (hw v) (eb_eqS (K := K) (ev_ix (i := 0) hop ev_int rfl) (ev_var (hc v) (.str _))) (fun hb => ⟨_, by rw [Option.bind_some, if_pos hb], ?_⟩) fun hb => by rw [Option.bind_some, if_neg (by rw [hb]; exact Bool.false_ne_true)]
      exact ev_sl (l := some 1) (h := some 5) hop (eo_some (K := K) (t := tC (.int 1)) ev_int) (eo_some (K := K) (t := tC (.int 5)) ev_int)
  rw [List.length_map, fmr (fun p : Op => if decide (p.c = c) = true then some (d4 (f4 p)) else none), fm_if (fun p : Op => decide (p.c = c))] at this
  rw [List.map_map]
  exact this
theorem sh_d4 {ops : List Op} (h : ∀ p ∈ ops, opTxt p = true) (c : Str) : Sh 3 (.list (((ops.filter fun p => decide (p.c = c)).map f4).map d4)) := sh_lst fun x hx => by
  obtain ⟨y, hy, rfl⟩ := List.mem_map.mp hx
  obtain ⟨p, hp, rfl⟩ := List.mem_map.mp hy
  have ht := h p (List.mem_filter.mp hp).1
  unfold opTxt at ht
  simp only [Bool.and_eq_true] at ht
  refine sh_tup (sh_cons (sh_str ht.1.1.2) (sh_cons (sh_str ht.1.2) (sh_cons (sh_ints p.a) (sh_cons ?_ sh_nil))))
  show Sh 1 (dOKey p.r)
  cases hr : p.r with
  | none => exact sh_non
  | some r =>
    have := ht.2
    rw [hr] at this
    exact sh_key this
theorem ops_txt {h : Hist} (wf : Wf h) : ∀ p ∈ opsM h.evs, opTxt p = true := fun p hp => by
  obtain ⟨i, hi⟩ := List.mem_iff_getElem?.mp hp
  have hl := (List.getElem?_eq_some_iff.mp hi).1
  have := wf.optxt hl
  rw [opAt_get hl] at hi
  rw [← Option.some.inj hi]
  exact this
/-- a serial history's events -/
theorem ser_ev {l : List Op} : ∀ {o : List Nat} {rs : List KeyR}, rs.length = o.length → SerEv (serialE l o rs) o.length
  | [], _, _ => fun j hj => absurd hj (Nat.not_lt_zero _)
  | k :: t, [], h => by cases h
  | k :: t, r :: rs, h => fun j hj => by
    cases j with
    | zero => exact ⟨_, _, _, _, _, rfl, rfl⟩
    | succ j =>
      obtain ⟨c, n, o, a, r', h1, h2⟩ := ser_ev (l := l) (o := t) (rs := rs) (Nat.succ.inj h) j (Nat.lt_of_succ_lt_succ hj)
      refine ⟨c, n, o, a, r', ?_, ?_⟩
      · show (_ :: _ :: serialE l t rs)[2 * (j + 1)]? = _
        rw [show 2 * (j + 1) = 2 * j + 1 + 1 by omega]
        exact h1
      · show (_ :: _ :: serialE l t rs)[2 * (j + 1) + 1]? = _
        rw [show 2 * (j + 1) + 1 = (2 * j + 1) + 1 + 1 by omega]
        exact h2
def spLaw (K : PySem.W.Frag) (P1 P2 : Addr) : Sp := fun vs H Q _ => ∃ (ns : List Int) (x : V), vs = [x] ∧ Dp K H x (dIntL ns) ∧ TabG H P1 ∧ TabG H P2 ∧ ns.length ≤ 100 ∧ ∀ H', Ext H H' → Q (.bl true) H'
theorem fnD {x : Str} {st : Stmt} {f code : Addr} {oc : Value} {od : Option Addr} {kV doc pm : Value} {an : Option Addr} {ct : Value} {osl : Array (Option Value)} {N ps : List Str} {k : Nat} {sp : Sp} (lk : K.lookup f = some ⟨oc, od, .func (PySem.W.fnOf x x (defArgs st) (defBody st) (defScope st) .none kV doc pm an (.ref code) ct), osl⟩) (hcd : PySem.W.codeIn K (.ref code) x = true) (S : FnScope N ps (defScope st))
    (len : ∀ vs H Q E, sp vs H Q E → vs.length = ps.length)
    (hbody : ∀ (A : Around) (outer : List Env) (s : Shared) (H : Hp) (vs : List V) (Q : VK) (E : XK), Room k (A.deeper (envOfC x (defScope st) s.heap.objs.size f (.ref code))) → sp vs H Q E →
      ∃ t, PSs (cxOf CX0 P w K mg base N x (defScope st) f (.ref code) A outer s H E).nox (defBody st) t ∧ t { nx := fun _ H' => Q .non H', rt := Q } (start N vs) H) : FnOk P w K mg base CX0 (k + 1) f (PySem.W.fnOf x x (defArgs st) (defBody st) (defScope st) .none kV doc pm an (.ref code) ct) ps sp :=
  fn_of lk hcd S len fun A outer s H vs Q E hr hsp => by
    obtain ⟨t, h, q⟩ := hbody A outer s H vs Q E hr hsp
    exact ⟨t, h.nox, q⟩
theorem w_law {f code P1 P2 : Addr} {oc : Value} {od : Option Addr} {kV doc pm : Value} {an : Option Addr} {ct : Value} {osl : Array (Option Value)} (lk : K.lookup f = some ⟨oc, od, .func (PySem.W.fnOf "law" "law" (defArgs s_law) (defBody s_law) (defScope s_law) .none kV doc pm an (.ref code) ct), osl⟩) (hcd : PySem.W.codeIn K (.ref code) "law" = true) (T : Bn mg) (c_law_history : C8.Cal P w K mg base 4 "_law_history" (spHistory K) []) (c_find : C8.Cal P w K mg base 17 "find" (spFind K P1 P2) []) (c_serial : C8.Cal P w K mg base 6 "serial" (spSerial K) []) (c_is_serial : C8.Cal P w K mg base 1 "is_serial" (spIsSerial K) [])
    (c_fits : C8.Cal P w K mg base 18 "fits" (spFits K P1 P2) []) (c_finished : C8.Cal P w K mg base 18 "finished" (spFin K P1 P2) []) (c_operations : C8.Cal P w K mg base 2 "operations" (spOps K) []) : FnOk P w K mg base CX0 19 f (PySem.W.fnOf "law" "law" (defArgs s_law) (defBody s_law) (defScope s_law) .none kV doc pm an (.ref code) ct) ["_law_script"] (spLaw K P1 P2) := by
  refine fnD lk hcd sc_law (fun vs H Q E h => ?_) (fun A outer s H vs Q E hr h => ?_)
  · obtain ⟨ns, x, rfl, _⟩ := h; rfl
  · obtain ⟨ns, x, rfl, hx, t1, t2, hl, q⟩ := h
    refine ⟨_, (pss_cons (ps_for PassesOwn.never rfl (pi_range1 (by rfl) T.range (pa_cons (pe_callB (call_min2 rfl) (by rfl) T.min (by decide +kernel) (pa_cons pe_int (pa_cons (pe_callB (call_max2 rfl) (by rfl) T.max (by decide +kernel) (pa_cons pe_int (pa_cons (pe_op op_fdiv (pe_callB lenD (by rfl) T.len PySem.boot_len (pa_cons (pv 0) pa_nil)) pe_int) pa_nil))) pa_nil))) pa_nil)) (pg_name (i := 1) sc_law.nd rfl (by first | exact .inl rfl | exact .inr rfl)) (pss_cons (ps_set (i := 2) sc_law.nd rfl (by first | exact .inl rfl | exact .inr rfl) (C8.pe_c c_law_history hr (by first | decide | omega) (by rfl) (pa_cons (pv 0) (pa_cons (pe_op op_mul pe_int (pv 1)) (pa_cons pe_int pa_nil)))))
      (pss_one (ps_for PassesOwn.never rfl (pi_list (pe_lst (pa_cons pe_str (pa_cons pe_str pa_nil)))) (pg_name (i := 3) sc_law.nd rfl (by first | exact .inl rfl | exact .inr rfl)) (pss_cons (ps_asg (C8.pe_c c_find hr (by first | decide | omega) (by rfl) (pa_cons (pv 2) (pa_cons (pv 3) pa_nil))) (pg_tup rfl (pgs_cons (pg_name (i := 4) sc_law.nd rfl (by first | exact .inl rfl | exact .inr rfl)) (pgs_cons (pg_name (i := 5) sc_law.nd rfl (by first | exact .inl rfl | exact .inr rfl)) pgs_nil))))
      (pss_one (ps_if (pt_cmpR op_eq (pv 4) pe_str (nomark _)) (pss_cons (ps_set (i := 6) sc_law.nd rfl (by first | exact .inl rfl | exact .inr rfl) (C8.pe_c c_serial hr (by first | decide | omega) (by rfl) (pa_cons (pv 2) (pa_cons (pv 5) pa_nil))))
      (pss_cons (ps_set (i := 7) sc_law.nd rfl (by first | exact .inl rfl | exact .inr rfl) (pe_tup (pa_cons pe_str (pa_cons (pe_tupRg rfl (by rfl) T.tuple (prg_1 (by rfl) T.range (pe_callB lenD (by rfl) T.len PySem.boot_len (pa_cons (pv 5) pa_nil)))) pa_nil))))
      (pss_cons (ps_if (PW.pt (pw_or (pt_not (pt_val (C8.pe_c c_is_serial hr (by first | decide | omega) (by rfl) (pa_cons (pv 6) pa_nil)))) (pw_or (pt_cmpR (op_neD (hu64 hr)) (C8.pe_c c_find hr (by first | decide | omega) (by rfl) (pa_cons (pv 6) (pa_cons pe_str pa_nil))) (pv 7) (nomark _)) (pw_or1 (pt_not (pt_val (C8.pe_c c_fits hr (by first | decide | omega) (by rfl) (pa_cons (pv 6) (pa_cons pe_str pa_nil))))))))) (pss_one (ps_ret pe_bl)) pss_nil)
      (pss_cons (ps_set (i := 8) sc_law.nd rfl (by first | exact .inl rfl | exact .inr rfl) (C8.pe_c c_finished hr (by first | decide | omega) (by rfl) (pa_cons (pv 2) (pa_cons (pv 3) pa_nil))))
      (pss_cons (ps_if (PW.pt (pw_or (pt_not (pt_val (C8.pe_c c_fits hr (by first | decide | omega) (by rfl) (pa_cons (pv 8) (pa_cons (pv 3) pa_nil))))) (pw_or1 (pt_cmpR (op_neD (hu64 hr)) (C8.pe_c c_finished hr (by first | decide | omega) (by rfl) (pa_cons (pv 8) (pa_cons (pv 3) pa_nil))) (pv 8) (nomark _))))) (pss_one (ps_ret pe_bl)) pss_nil)
      (pss_cons (ps_if (PW.pt (pw_or (pt_cmpR (op_neD (hu64 hr)) (pe_lc (own := [("_law_op", 11)]) (g := (gName 11)) (tt := (tB (tIsN (tOp (rIxD' K) (tVar 11) (tC (.int 6)))))) (te := (tVar 11)) rfl sc_law.nd (pi_list (C8.pe_c c_operations hr (by first | decide | omega) (by rfl) (pa_cons (pv 8) pa_nil))) (blkOk_by (N := N_law) (sc := defScope s_law) (by decide +kernel)) (fun _ _ _ _ _ => (pg_name (i := 11) sc_law.nd rfl (by first | exact .inl rfl | exact .inr rfl))) (fun _ _ _ _ _ => pts_one (pt_cmp (pc_isN (pe_ix ixD (pv 11) pe_int (fun _ _ => rfl))))) (fun _ _ _ _ _ => (pv 11))) (pe_lst pa_nil) (nomark _)) (pw_or1 (pt_cmpR op_ne (pe_callB lenD (by rfl) T.len PySem.boot_len (pa_cons (C8.pe_c c_operations hr (by first | decide | omega) (by rfl) (pa_cons (pv 8) pa_nil)) pa_nil)) (pe_callB lenD (by rfl) T.len PySem.boot_len (pa_cons (pv 5) pa_nil)) (nomark _))))) (pss_one (ps_ret pe_bl)) pss_nil)
      (pss_one (ps_for PassesOwn.never rfl (pi_list (pe_lst (pa_cons pe_str (pa_cons pe_str (pa_cons pe_str pa_nil))))) (pg_name (i := 9) sc_law.nd rfl (by first | exact .inl rfl | exact .inr rfl)) (pss_cons (ps_setLc (i := 10) (own := [("_law_op", 11)]) (g := (gName 11)) (tt := (tTest (tOp rEq (tOp (rIxD' K) (tVar 11) (tC (.int 0))) (tVar 9)))) (te := (tSl (rSlD K) (tVar 11) (tPart (tC (.int 1))) (tPart (tC (.int 5))))) rfl sc_law.nd rfl rfl (sw_true rfl rfl rfl (by decide +kernel)) (pi_list (C8.pe_c c_operations hr (by first | decide | omega) (by rfl) (pa_cons (pv 6) pa_nil))) (blkOk_by (N := N_law) (sc := defScope s_law) (by decide +kernel)) (fun _ _ _ _ _ => (pg_name (i := 11) sc_law.nd rfl (by first | exact .inl rfl | exact .inr rfl))) (fun _ _ _ _ _ => pts_one (pt_cmpR op_eq (pe_ix ixD (pv 11) pe_int (fun _ _ => rfl)) (pv 9) (nomark _))) (fun _ _ _ _ _ => (pe_slice slD (pv 11) (po_some pe_int) (po_some pe_int))))
      (pss_one (ps_if (pt_cmpR (op_neD (hu64 hr)) (pv 10) (pe_lc (own := [("_law_op", 11)]) (g := (gName 11)) (tt := (tTest (tOp rEq (tOp (rIxD' K) (tVar 11) (tC (.int 0))) (tVar 9)))) (te := (tSl (rSlD K) (tVar 11) (tPart (tC (.int 1))) (tPart (tC (.int 5))))) rfl sc_law.nd (pi_list (C8.pe_c c_operations hr (by first | decide | omega) (by rfl) (pa_cons (pv 8) pa_nil))) (blkOk_by (N := N_law) (sc := defScope s_law) (by decide +kernel)) (fun _ _ _ _ _ => (pg_name (i := 11) sc_law.nd rfl (by first | exact .inl rfl | exact .inr rfl))) (fun _ _ _ _ _ => pts_one (pt_cmpR op_eq (pe_ix ixD (pv 11) pe_int (fun _ _ => rfl)) (pv 9) (nomark _))) (fun _ _ _ _ _ => (pe_slice slD (pv 11) (po_some pe_int) (po_some pe_int)))) (nomark _)) (pss_one (ps_ret pe_bl)) pss_nil))))))))))) (pss_one (ps_if (pt_cmp (pc_notN (C8.pe_c c_finished hr (by first | decide | omega) (by rfl) (pa_cons (pv 2) (pa_cons (pv 3) pa_nil))))) (pss_one (ps_ret pe_bl)) pss_nil)))))))))
      (pss_one (ps_ret pe_bl))), ?_⟩
    have hlen := ev_lenL (K := K) (σ := start N_law [x]) (H := H) (ea_cons (ev_var (i := 0) rfl hx) ea_nil)
    have hmin := ev_min (ea_cons (ev_int (i := 8)) (ea_cons (ev_max (ea_cons (ev_int (i := 1)) (ea_cons (ev_div hlen (ev_int (i := 3)) (by decide) (by decide)) ea_nil))) ea_nil))
    obtain ⟨z, hz⟩ : ∃ z : Int, z = (if (if (((ns.map PyData.int).length : Nat) : Int) / 3 > 1 then (((ns.map PyData.int).length : Nat) : Int) / 3 else 1) < 8 then (if (((ns.map PyData.int).length : Nat) : Int) / 3 > 1 then (((ns.map PyData.int).length : Nat) : Int) / 3 else 1) else 8) := ⟨_, rfl⟩
    have hz8 : 0 ≤ z ∧ z ≤ 8 := by
      rw [hz]
      constructor
      · split
        · split <;> omega
        · omega
      · split <;> omega
    rw [← hz, ← Int.toNat_of_nonneg hz8.1] at hmin
    refine for_rng (K := K) (n := z.toNat) (ea_cons hmin ea_nil) (by omega) (fun j σ H' => Ext H H' ∧ ∃ (y1 y2 y3 y4 y5 y6 y7 y8 y9 y10 y11 : Option V), σ = [some x, y1, y2, y3, y4, y5, y6, y7, y8, y9, y10, y11]) (fun H2 x2 => ⟨x2, _, _, _, _, _, _, _, _, _, _, _, rfl⟩) (fun j σ' H1 hj p => ?_) fun σ' H' p => ?_
    · obtain ⟨x1, y1, y2, y3, y4, y5, y6, y7, y8, y9, y10, y11, rfl⟩ := p
      refine gname_go ?_
      have h3j : EvD K (tOp (rI CMul fun i j => .int (i * j)) (tC (.int 3)) (tVar 1)) [some x, some (.int ((j : Nat) : Int)), y2, y3, y4, y5, y6, y7, y8, y9, y10, y11] H1 (.int ((3 * j : Nat) : Int)) := ev_mul (i := 3) (j := ((j : Nat) : Int)) ev_int (ev_var rfl (.int _)) (.inl ⟨by decide, by decide⟩)
      refine callset_go (K := K) (i := 2) (ea_cons (ev_var rfl (hx.ext x1)) (ea_cons h3j (ea_cons (ev_int (i := 9)) ea_nil))) fun H2 vs x2 hv => ?_
      obtain ⟨u1, vs, rfl, p1, hv⟩ := da_cons hv
      obtain ⟨u2, vs, rfl, p2, hv⟩ := da_cons hv
      obtain ⟨u3, vs, rfl, p3, hv⟩ := da_cons hv
      rw [da_nil hv, dp_int p2, dp_int p3]
      refine ⟨ns, 3 * j, u1, rfl, p1, by omega, fun vw H3 h x3 hw wf hle => ?_⟩
      have x13 := (x1.trans x2).trans x3
      have h9 := wf.ops
      refine for_D (n := 2) (wd_list (K := K) (ds := [.str "real", .str "client"]) (ev_lst (ea_cons ev_str (ea_cons ev_str ea_nil)))) (fun B i σ H' => Ext H3 B ∧ Ext B H' ∧ ∃ (y3 y4 y5 y6 y7 y8 y9 y10 y11 : Option V), σ = [some x, some (.int ((j : Nat) : Int)), some vw, y3, y4, y5, y6, y7, y8, y9, y10, y11]) (fun B e => ⟨e, .refl B, _, _, _, _, _, _, _, _, _, rfl⟩) (fun B i σ' H' p => p.2.1) (fun B i y σ' H4 H5 hi p hy => ?_) fun B σ' H' p => ?_
      · obtain ⟨eB, e4, y3, y4, y5, y6, y7, y8, y9, y10, y11, rfl⟩ := p
        obtain ⟨rfl, d, hd, hy⟩ := hy
        obtain ⟨m, hm⟩ : ∃ m : Mdl, d = .str m.str := by
          match i, hi, hd with
          | 0, _, hd => exact ⟨.real, (Option.some.inj hd).symm⟩
          | 1, _, hd => exact ⟨.client, (Option.some.inj hd).symm⟩
        subst hm
        rw [dp_str hy]
        refine gname_go ?_
        have e3 := eB.trans e4
        have x4 := x13.trans e3
        have hw4 := hw.ext e3
        have t14 := t1.ext x4
        have t24 := t2.ext x4
        refine ⟨vw, rfl, .str m.str, rfl, h, m, vw, rfl, hw4, wf, t14, t24, fun a xs H5 x5 hs g1 g2 => ?_⟩
        have x45 := x4.trans x5
        cases ho : findM h m with
        | none =>
          obtain ⟨u, rfl⟩ := g2 ho
          refine ⟨a, _, rfl, hs, rfl, _, _, rfl, _, _, rfl, rfl, ?_⟩
          refine if_go (eb_eqS (K := K) (a := "table") (b := "order") (ev_var rfl (.str _)) ev_str) (.refl H5) (fun z => absurd z (by decide)) fun _ H6 x6 _ => ?_
          have hfn := ev_call (E := C8.E0) (ea_cons (ev_var (K := K) (σ := [some x, some (.int ((j : Nat) : Int)), some vw, some (.str m.str), some (.str "table"), some u, y6, y7, y8, y9, y10, y11]) (i := 2) rfl ((hw4.ext x5).ext x6)) (ea_cons (ev_var (i := 3) rfl (.str m.str)) ea_nil)) (g_fin (P1 := P1) (P2 := P2) wf ((t14.ext x5).ext x6) ((t24.ext x5).ext x6))
          have hnn := eb_val (ev_notN hfn)
          unfold finishM at hnn
          rw [ho] at hnn
          refine if_go hnn (.refl H6) (fun z => absurd z Bool.false_ne_true) fun _ H7 x7 _ => ?_
          exact ⟨eB, e4.trans ((x5.trans x6).trans x7), _, _, _, _, _, _, _, _, _, rfl⟩
        | some o =>
          obtain ⟨w1, ws, rfl, q1, q2⟩ := da_cons (g1 o ho)
          obtain ⟨fd, ws, rfl, hfd, q2⟩ := da_cons q2
          have := da_nil q2
          subst this
          have q1 := dp_str q1
          subst q1
          have ok := find_ok wf ho
          have ho9 := ok.len wf
          refine ⟨a, _, rfl, hs, rfl, _, _, rfl, _, _, rfl, rfl, ?_⟩
          refine if_go (eb_eqS (K := K) (a := "order") (b := "order") (ev_var rfl (.str _)) ev_str) (.refl H5) (fun _ H6 x6 _ => ?_) fun z => absurd z (by decide)
          have x56 := x5.trans x6
          -- the serial history
          refine seqset_go (K := K) (ev_call (ea_cons (ev_var (i := 2) rfl (hw4.ext x56)) (ea_cons (ev_var (i := 5) rfl (hfd.ext x6)) ea_nil)) (g_serial wf (fun k hk => ok.lt hk) (by omega))) (.refl H6) fun vm H7 x7 _ hm7 => ?_
          have hfd7 := (hfd.ext x6).ext x7
          have hfl : ∀ {σ : L2.St} {H' : Hp}, Ext H7 H' → σ[5]? = some (some fd) → EvD K (tCB (rLenD K) (tCons (tVar 5) tNil)) σ H' (.int ((o.length : Nat) : Int)) := fun {σ H'} e h5 => by
            have := ev_len (K := K) (ea_cons (ev_var h5 (hfd7.ext e)) ea_nil)
            rw [List.length_map] at this
            exact this
          refine seqset_go (K := K) (ev_tup (ea_cons (ev_str (s := "order")) (ea_cons (ev_rangeT (hfl (.refl H7) rfl) (by omega)) ea_nil))) (.refl H7) fun vd H8 x8 _ hdue => ?_
          have hm8 := hm7.ext x8
          have x68 := x7.trans x8
          have x58 := x56.trans x68
          have x48 := x4.trans x58
          have swf := ser_wf wf ok
          have hsl : (serialM h o).evs.length = 2 * o.length := serialE_len (resM_len h o)
          have hse : SerEv (serialM h o).evs o.length := ser_ev (resM_len h o)
          have hsf := ser_find wf ok
          have hsc : (findM (serialM h o) .client).isSome = true := by
            cases hc : findM (serialM h o) .client with
            | none => exact absurd hc (ok_find swf (ser_ordOk wf ok .client))
            | some _ => rfl
          have c1 := eb_not (eb_val (ev_call (E := C8.E0) (ea_cons (ev_var (K := K) (σ := [some x, some (.int ((j : Nat) : Int)), some vw, some (.str m.str), some (.str "order"), some fd, some vm, some vd, y8, y9, y10, y11]) (i := 6) rfl hm8) ea_nil) (g_is_serial hsl (by omega) hse)))
          have c2 := eb_same (ev_find (K := K) (m := .real) (ea_cons (ev_var (σ := [some x, some (.int ((j : Nat) : Int)), some vw, some (.str m.str), some (.str "order"), some fd, some vm, some vd, y8, y9, y10, y11]) (i := 6) rfl hm8) (ea_cons (ev_str (s := "real")) ea_nil)) swf (t1.ext x48) (t2.ext x48) hsf) (ev_var (i := 7) rfl hdue) (sh_tup (n := 1) (sh_cons (sh_str (by decide +kernel)) (sh_cons (sh_nats _) sh_nil))) (by decide)
          have c3 := eb_not (eb_val (ev_call (E := C8.E0) (ea_cons (ev_var (K := K) (σ := [some x, some (.int ((j : Nat) : Int)), some vw, some (.str m.str), some (.str "order"), some fd, some vm, some vd, y8, y9, y10, y11]) (i := 6) rfl hm8) (ea_cons (ev_str (s := Mdl.client.str)) ea_nil)) (g_fits (m := .client) swf (t1.ext x48) (t2.ext x48))))
          rw [hsc] at c3
          refine if_go (eb_or c1 fun _ => eb_or c2 fun _ => c3) (.refl H8) (fun z => absurd z (by decide)) fun _ H9 x9 _ => ?_
          -- the finished history
          have x59 := x58.trans x9
          have x49 := x4.trans x59
          have hfin : finishM h m = some ⟨h.objs, finishE h o⟩ := by unfold finishM; rw [ho]; rfl
          have hfcall := ev_call (E := C8.E0) (ea_cons (ev_var (K := K) (σ := [some x, some (.int ((j : Nat) : Int)), some vw, some (.str m.str), some (.str "order"), some fd, some vm, some vd, y8, y9, y10, y11]) (i := 2) rfl (hw4.ext x59)) (ea_cons (ev_var (i := 3) rfl (.str m.str)) ea_nil)) (g_fin (P1 := P1) (P2 := P2) wf (t1.ext x49) (t2.ext x49))
          rw [hfin] at hfcall
          refine seqset_go (K := K) hfcall (.refl H9) fun vf H10 x10 _ hf10 => ?_
          have hf10 : Dp K H10 vf (dHist ⟨h.objs, finishE h o⟩) := hf10
          have x410 := x49.trans x10
          have fwf := fin_wf wf ok (by omega)
          have fne := fin_find wf ok (by omega)
          obtain ⟨o2, ho2⟩ : ∃ o2, findM ⟨h.objs, finishE h o⟩ m = some o2 := by
            cases hc : findM ⟨h.objs, finishE h o⟩ m with
            | none => exact absurd hc fne
            | some o2 => exact ⟨o2, rfl⟩
          have hsame : finishM ⟨h.objs, finishE h o⟩ m = some ⟨h.objs, finishE h o⟩ := by
            unfold finishM
            rw [ho2]
            show some (Hist.mk h.objs (finishE ⟨h.objs, finishE h o⟩ o2)) = _
            rw [fin_same fwf (fun k hk => fin_ret wf ok hk)]
          have b1 := eb_not (eb_val (ev_call (E := C8.E0) (ea_cons (ev_var (K := K) (σ := [some x, some (.int ((j : Nat) : Int)), some vw, some (.str m.str), some (.str "order"), some fd, some vm, some vd, some vf, y9, y10, y11]) (i := 8) rfl hf10) (ea_cons (ev_var (i := 3) rfl (.str m.str)) ea_nil)) (g_fits (m := m) fwf (t1.ext x410) (t2.ext x410))))
          rw [ho2] at b1
          have b2' := ev_call (E := C8.E0) (ea_cons (ev_var (K := K) (σ := [some x, some (.int ((j : Nat) : Int)), some vw, some (.str m.str), some (.str "order"), some fd, some vm, some vd, some vf, y9, y10, y11]) (i := 8) rfl hf10) (ea_cons (ev_var (i := 3) rfl (.str m.str)) ea_nil)) (g_fin (P1 := P1) (P2 := P2) (m := m) fwf (t1.ext x410) (t2.ext x410))
          rw [hsame] at b2'
          have b2 := eb_same (d := dHist ⟨h.objs, finishE h o⟩) b2' (ev_var (i := 8) rfl hf10) (sh_hist fwf) (by decide)
          refine if_go (eb_or b1 fun _ => b2) (.refl H10) (fun z => absurd z Bool.false_ne_true) fun _ H11 x11 _ => ?_
          have hf11 := hf10.ext x11
          have hopsf : ∀ {σ : L2.St} {H' : Hp}, Ext H11 H' → σ[8]? = some (some vf) → EvD K (tCall (spOps K) [] C8.E0 (tCons (tVar 8) tNil)) σ H' (dOps (opsM (finishE h o))) := fun {σ H'} e h8 => ev_call (ea_cons (ev_var h8 (hf11.ext e)) ea_nil) (g_ops fwf)
          have f9 : (opsM (finishE h o)).length ≤ 9 := fwf.ops
          have hnone : EvD K (tLc (iList K (tCall (spOps K) [] C8.E0 (tCons (tVar 8) tNil))) (gName 11) (tB (tIsN (tOp (rIxD' K) (tVar 11) (tC (.int 6))))) (tVar 11) [11]) [some x, some (.int ((j : Nat) : Int)), some vw, some (.str m.str), some (.str "order"), some fd, some vm, some vd, some vf, y9, y10, y11] H11 (.list []) := by
            have := ev_lc (K := K) (σ := [some x, some (.int ((j : Nat) : Int)), some vw, some (.str m.str), some (.str "order"), some fd, some vm, some vd, some vf, y9, y10, y11]) (H := H11) (g := gName 11) (tt := tB (tIsN (tOp (rIxD' K) (tVar 11) (tC (.int 6))))) (te := tVar 11) (vs := [11]) (fun _ => none) (wd_list (hopsf (.refl H11) rfl)) (by rw [List.length_map]; omega) (fun i d hi hd => by cases hd) fun i v H3 H4 hi e3 hv => by
              obtain ⟨e4, d, hd, hv⟩ := hv
              rw [List.length_map] at hi
              rw [dop_get hi] at hd
              cases hd
              have hr := fin_ret wf ok hi
              generalize opAt (opsM (finishE h o)) i = p at hv hr
              have hop : EvD K (tVar 11) ((wipe [some x, some (.int ((j : Nat) : Int)), some vw, some (.str m.str), some (.str "order"), some fd, some vm, some vd, some vf, y9, y10, y11] [11]).set 11 (some v)) H3 (dOp p) := ev_var rfl hv
              refine turn_name (b := false) e4 rfl (eb_val (K := K) ?_) (fun hb => absurd hb Bool.false_ne_true) fun _ => rfl
              have h6 := ev_isN (ev_ix (i := 6) hop ev_int rfl)
              cases hq : p.ret with
              | none => exact absurd hq hr
              | some q => rw [hq] at h6; exact h6
            have e : ∀ l : List Nat, l.filterMap (fun _ => (none : Option PyData)) = [] := fun l => by induction l with
              | nil => rfl
              | cons a l ih => rw [List.filterMap_cons]; exact ih
            rw [e] at this
            exact this
          have d1 := eb_same (n := 1) hnone (ev_lst ea_nil) (sh_lst (n := 0) sh_nil) (by decide)
          have d2' := ev_lenL (K := K) (ea_cons (hopsf (σ := [some x, some (.int ((j : Nat) : Int)), some vw, some (.str m.str), some (.str "order"), some fd, some vm, some vd, some vf, y9, y10, y11]) (.refl H11) rfl) ea_nil)
          rw [List.length_map, fin_len wf ok] at d2'
          have x811 := x9.trans (x10.trans x11)
          have d2 := eb_neSame d2' (hfl (x8.trans x811) rfl)
          refine if_go (eb_or d1 fun _ => d2) (.refl H11) (fun z => absurd z Bool.false_ne_true) fun _ H12 x12 _ => ?_
          have hm12 := hm8.ext (x811.trans x12)
          have hf12 := hf11.ext x12
          have s9 : (opsM (serialM h o).evs).length ≤ 9 := swf.ops
          refine for_D (n := 3) (wd_list (K := K) (ds := [.str "c", .str "d", .str "e2"]) (ev_lst (ea_cons ev_str (ea_cons ev_str (ea_cons ev_str ea_nil))))) (fun B i σ H' => Ext H12 B ∧ Ext B H' ∧ ∃ (y9 y10 y11 : Option V), σ = [some x, some (.int ((j : Nat) : Int)), some vw, some (.str m.str), some (.str "order"), some fd, some vm, some vd, some vf, y9, y10, y11]) (fun B e => ⟨e, .refl B, _, _, _, rfl⟩) (fun B i σ' H' p => p.2.1) (fun B2 i2 y' σ' H13 H14 hi2 p hy2 => ?_) fun B2 σ' H' p => ?_
          · obtain ⟨eB2, e13, y9, y10, y11, rfl⟩ := p
            obtain ⟨rfl, d, hd2, hy2⟩ := hy2
            obtain ⟨c, hc⟩ : ∃ c : Str, d = .str c := by
              match i2, hi2, hd2 with
              | 0, _, hd => exact ⟨_, (Option.some.inj hd).symm⟩
              | 1, _, hd => exact ⟨_, (Option.some.inj hd).symm⟩
              | 2, _, hd => exact ⟨_, (Option.some.inj hd).symm⟩
            subst hc
            rw [dp_str hy2]
            refine gname_go ?_
            have e123 := eB2.trans e13
            have l1 := ev_told (K := K) (σ := [some x, some (.int ((j : Nat) : Int)), some vw, some (.str m.str), some (.str "order"), some fd, some vm, some vd, some vf, some (.str c), y10, y11]) (H := H14) (c := c) (ev_call (E := C8.E0) (ea_cons (ev_var (i := 6) rfl (hm12.ext e123)) ea_nil) (g_ops swf)) (by omega) (fun _ => rfl) (fun _ => rfl) (fun _ => rfl)
            refine seqset_go (K := K) l1 (.refl H14) fun v10 H15 x15 _ h10 => ?_
            have l2 := ev_told (K := K) (σ := [some x, some (.int ((j : Nat) : Int)), some vw, some (.str m.str), some (.str "order"), some fd, some vm, some vd, some vf, some (.str c), some v10, y11]) (H := H15) (c := c) (ev_call (E := C8.E0) (ea_cons (ev_var (i := 8) rfl ((hf12.ext e123).ext x15)) ea_nil) (g_ops fwf)) (by show (opsM (finishE h o)).length ≤ 100; omega) (fun _ => rfl) (fun _ => rfl) (fun _ => rfl)
            rw [told_same wf ok c] at h10
            have hcmp := eb_same (n := 3) (ev_var (K := K) (σ := [some x, some (.int ((j : Nat) : Int)), some vw, some (.str m.str), some (.str "order"), some fd, some vm, some vd, some vf, some (.str c), some v10, y11]) (i := 10) rfl h10) l2 (sh_d4 (ops_txt fwf) c) (by decide)
            refine if_go hcmp (.refl H15) (fun z => absurd z Bool.false_ne_true) fun _ H16 x16 _ => ?_
            exact ⟨eB2, e13.trans (x15.trans x16), _, _, _, rfl⟩
          · obtain ⟨eB2, e13, y9, y10, y11, rfl⟩ := p
            exact ⟨eB, e4.trans (x59.trans ((x10.trans x11).trans (x12.trans (eB2.trans e13)))), _, _, _, _, _, _, _, _, _, rfl⟩
      · obtain ⟨eB, e4, y3, y4, y5, y6, y7, y8, y9, y10, y11, rfl⟩ := p
        exact ⟨x13.trans (eB.trans e4), _, _, _, _, _, _, _, _, _, _, _, rfl⟩
    · obtain ⟨x1, y1, y2, y3, y4, y5, y6, y7, y8, y9, y10, y11, rfl⟩ := p
      exact q H' x1
end
end K22

-- E0
set_option maxHeartbeats 8000000
/-! The end: from the facts of the program's top to the law. -/
namespace K22
open PySem PySem.Spec PyProof.Rows L2
theorem walk_ofTab {l : PySem.W.OpenLaw} {n k : Nat} {q : Program} {loose : List Str} {XP : (Str → Option Value) → Heap → Prop} {YP : World → Heap → Prop} {d : DefRec} {K : Params → PySem.W.Frag} {CX : World → CXT} {x : Str}
    (hn : l.most = some n) (hn2 : n ≤ sizeLine) (hdf : d.params.defaults = []) (hr : Room k callerA) (hY : ∀ (w : World) (h : Heap), YP w h → (K w.params).In h)
    (F : ∀ (w : World) (mg : Str → Option Value) (fa : Addr) (h : Heap), YP w h → (K w.params).In h → h.Ns mainGlobals mg → mg d.name = some (.ref fa) → (∀ (y : Str) (f : Addr), ((recsOf q).any fun e => e.name == y) = true → mg y = some (.ref f) → LamX.OwnTab (K w.params) f h) → LamX.LawAtS l w (K w.params) (CX w) k n x mg fa h)
    (hCX : ∀ (w : World) (H : Hp) (s : Shared) (e : Value) (s' : Shared), CX w [] H s (fun _ _ _ => False) e s' → False) :
    PySem.W.WalkO q loose XP YP l.row.toRowW d [] (fun f vs => PySem.call f vs) := by
  refine Att.attach_callB hn hdf fun w s₀ s₁ mg mb fa o pm cd doc a vs ns G Y ho hd hcd hmg hobj hints hlen hbits hg => ?_
  have KX := hY w _ Y
  have own : ∀ (y : Str) (f : Addr), ((recsOf q).any fun e => e.name == y) = true → mg y = some (.ref f) → LamX.OwnTab (K w.params) f s₁.heap := fun y f hrec hmy c P o1 fd1 e dd vs1 sl k1 k2 k3 k4 k5 => by
    obtain ⟨dL, hm, hn1⟩ := List.any_eq_true.mp hrec
    have hn2 : dL.name = y := beq_iff_eq.mp hn1
    obtain ⟨a', o', fd', c', P', h1, h2, h3, h4, h5, h6⟩ := G.T.tab dL hm
    rw [hn2, hmy] at h1
    cases h1
    have g1 := KX _ _ k1
    rw [g1] at h2
    cases h2
    rw [k2] at h3
    cases h3
    rw [k3] at h4
    cases h4
    obtain ⟨⟨oc, vc, e1, _, e3, e4⟩, hP⟩ := h6
    have g2 := KX _ _ k4
    rw [g2] at e1
    cases e1
    cases e3
    rw [k5] at e4
    cases e4
    exact hP
  obtain ⟨fd, cs, sp, hT, nT, C, hb, hsp, hF⟩ := F w mg fa _ Y KX G.T.g hmg own
  exact LamX.law_callTs KX G.T.g G.T.b G.T.builtins G.T.nolimit hg hT nT C G.T.bmain hobj hints (Nat.le_trans hlen hn2) hr hF hb (fun H hH hS => hsp H a ns hlen hbits hH hS) fun H e s' => hCX w H s₁ e s'
section
variable {w : World} {K : PySem.W.Frag} {mg : Str → Option Value} {h : Heap}
theorem df_mk {x : Str} {st : Stmt} {f code : Addr} {oc : Value} {od : Option Addr} {kV doc pm : Value} {an : Option Addr} {ct : Value} {osl : Array (Option Value)} (X : K.In h) (G : h.Ns mainGlobals mg) (a : PySem.W.nsIn K mainGlobals x = some (some (.ref f)))
    (l : K.lookup f = some ⟨oc, od, .func (PySem.W.fnOf x x (defArgs st) (defBody st) (defScope st) .none kV doc pm an (.ref code) ct), osl⟩) (c : PySem.W.codeIn K (.ref code) x = true) (k : PySem.W.keepIn K (.ref f) = true) : ∃ code, DF K mg x st code :=
  ⟨code, ⟨f, oc, od, kV, doc, pm, an, ct, osl, PySem.W.mg_of X G a, l, c, k⟩⟩
/-- a def whose code holds a generator expression -/
structure TF (K : PySem.W.Frag) (mg : Str → Option Value) (h : Heap) (x : Str) (st : Stmt) : Prop where
  ex : ∃ code T, DF K mg x st code ∧ PySem.W.CodeHd h code T ∧ K.lookup T = none ∧ h.get? T = some { cls := .none, data := .fields #[] }
theorem tf_mk {x : Str} {st : Stmt} {f code Tb : Addr} {oc : Value} {od : Option Addr} {kV doc pm : Value} {an : Option Addr} {ct : Value} {osl : Array (Option Value)} {vs : Array Value} {dd : Option Addr} {sl : Array (Option Value)} {file : Str} {tf : Tok} {flags : Int} {tg : Tok} {inF : Bool} {text : Int} {tt : Tok} (X : K.In h) (G : h.Ns mainGlobals mg)
    (own : LamX.OwnTab K f h) (a : PySem.W.nsIn K mainGlobals x = some (some (.ref f)))
    (l : K.lookup f = some ⟨oc, od, .func (PySem.W.fnOf x x (defArgs st) (defBody st) (defScope st) .none kV doc pm an (.ref code) ct), osl⟩) (c : PySem.W.codeIn K (.ref code) x = true) (k : PySem.W.keepIn K (.ref f) = true)
    (lc : K.lookup code = some ⟨.type "code", dd, .fields vs, sl⟩) (h11 : vs[11]? = some (.ref Tb)) (h18 : vs.getD 18 .none = .str file tf) (h7 : vs.getD 7 .none = .int flags tg) (h9 : vs.getD 9 .none = .bool inF) (h10 : vs.getD 10 .none = .int text tt) (hne : code ≠ Tb) (nT : K.lookup Tb = none) : TF K mg h x st :=
  ⟨code, Tb, ⟨f, oc, od, kV, doc, pm, an, ct, osl, PySem.W.mg_of X G a, l, c, k⟩, ⟨_, vs, file, tf, flags, tg, inF, text, tt, X _ _ lc, rfl, rfl, h11, by rw [Array.getD_eq_getD_getElem?, h11]; rfl, h18, h7, h9, h10, hne⟩, nT, own code Tb _ _ _ _ _ _ l rfl rfl lc h11⟩
theorem first_mk {a e1 e2 : Addr} {es : Array DictEntry} {n : Nat} {t1 t2 : Tok} {d1 d2 : Option Addr} {n1 n2 : Nat} {s1 s2 : Array (Option Value)} (X : K.In h) (G : h.Ns mainGlobals mg) (a1 : PySem.W.nsIn K mainGlobals "FIRST" = some (some (.ref a))) (l : K.lookup a = some ⟨.type "dict", none, .dict es n, #[]⟩) (kl : PySem.W.KeysLit w.params es.toList)
    (r : PySem.W.nsIn K a "register" = some (some (.int 0 t1))) (c : PySem.W.nsIn K a "counter" = some (some (.int 0 t2))) (s : PySem.W.nsIn K a "set" = some (some (.ref e1))) (q : PySem.W.nsIn K a "queue" = some (some (.ref e2)))
    (l1 : K.lookup e1 = some ⟨.type "tuple", d1, .seq #[] n1, s1⟩) (l2 : K.lookup e2 = some ⟨.type "tuple", d2, .seq #[] n2, s2⟩) : FirstT K w mg := by
  refine ⟨a, PySem.W.mg_of X G a1, fun kd => ?_⟩
  cases kd with
  | reg => exact ⟨.int 0, ⟨es, n, _, l, kl, r, ⟨t1, rfl⟩⟩, fun H => .int 0⟩
  | cnt => exact ⟨.int 0, ⟨es, n, _, l, kl, c, ⟨t2, rfl⟩⟩, fun H => .int 0⟩
  | set => exact ⟨.ref e1, ⟨es, n, _, l, kl, s, rfl⟩, fun H => .tup (.inr ⟨_, #[], n1, l1, rfl, rfl, Nat.zero_le _, .nil⟩) .nil⟩
  | que => exact ⟨.ref e2, ⟨es, n, _, l, kl, q, rfl⟩, fun H => .tup (.inr ⟨_, #[], n2, l2, rfl, rfl, Nat.zero_le _, .nil⟩) .nil⟩
theorem step_mk {a f1 f2 f3 f4 : Addr} {es : Array DictEntry} {n : Nat} (X : K.In h) (G : h.Ns mainGlobals mg) (a1 : PySem.W.nsIn K mainGlobals "STEPPERS" = some (some (.ref a))) (l : K.lookup a = some ⟨.type "dict", none, .dict es n, #[]⟩) (kl : PySem.W.KeysLit w.params es.toList)
    (r : PySem.W.nsIn K a "register" = some (some (.ref f1))) (c : PySem.W.nsIn K a "counter" = some (some (.ref f2))) (s : PySem.W.nsIn K a "set" = some (some (.ref f3))) (q : PySem.W.nsIn K a "queue" = some (some (.ref f4)))
    (g1 : PySem.W.nsIn K mainGlobals "step_register" = some (some (.ref f1))) (g2 : PySem.W.nsIn K mainGlobals "step_counter" = some (some (.ref f2))) (g3 : PySem.W.nsIn K mainGlobals "step_set" = some (some (.ref f3))) (g4 : PySem.W.nsIn K mainGlobals "step_queue" = some (some (.ref f4))) : StepT K w mg := by
  refine ⟨a, PySem.W.mg_of X G a1, fun kd => ?_⟩
  cases kd with
  | reg => exact ⟨f1, PySem.W.mg_of X G g1, es, n, _, l, kl, r, rfl⟩
  | cnt => exact ⟨f2, PySem.W.mg_of X G g2, es, n, _, l, kl, c, rfl⟩
  | set => exact ⟨f3, PySem.W.mg_of X G g3, es, n, _, l, kl, s, rfl⟩
  | que => exact ⟨f4, PySem.W.mg_of X G g4, es, n, _, l, kl, q, rfl⟩
theorem law_all {l : PySem.W.OpenLaw} {fa : Addr} (T : Bn mg) (hfa : mg "law" = some (.ref fa)) (FT : FirstT K w mg) (ST : StepT K w mg)
    (D_first_state : ∃ c, DF K mg "first_state" s_first_state c) (D_yes : ∃ c, DF K mg "yes_or_no" s_yes_or_no c) (D_reg : ∃ c, DF K mg "step_register" s_step_register c) (D_cnt : ∃ c, DF K mg "step_counter" s_step_counter c) (D_set : ∃ c, DF K mg "step_set" s_step_set c) (D_que : ∃ c, DF K mg "step_queue" s_step_queue c) (D_step : ∃ c, DF K mg "step" s_step c)
    (D_numbered : ∃ c, DF K mg "numbered" s_numbered c) (D_operations : ∃ c, DF K mg "operations" s_operations c) (D_kept : ∃ c, DF K mg "kept" s_kept c) (D_without : ∃ c, DF K mg "without" s_without c) (D_before : ∃ c, DF K mg "is_before" s_is_before c) (D_firsts : ∃ c, DF K mg "first_states" s_first_states c) (D_done : ∃ c, DF K mg "done" s_done c) (D_results : ∃ c, DF K mg "results" s_results c)
    (D_pos0 : ∃ c, DF K mg "first_position" s_first_position c) (D_can : TF K mg h "can_come" s_can_come) (D_whole : TF K mg h "is_whole" s_is_whole) (D_moves : ∃ c, DF K mg "moves" s_moves c) (D_from : ∃ c, DF K mg "order_from" s_order_from c) (D_told : ∃ c, DF K mg "told_table" s_told_table c) (D_find : ∃ c, DF K mg "find" s_find c) (D_fits : ∃ c, DF K mg "fits" s_fits c)
    (D_serial : ∃ c, DF K mg "serial" s_serial c) (D_isser : ∃ c, DF K mg "is_serial" s_is_serial c) (D_fin : ∃ c, DF K mg "finished" s_finished c)
    (D_drop : ∃ c, DF K mg "_law_dropped" s_law_dropped c) (D_cell : ∃ c, DF K mg "_law_cell" s_law_cell c) (D_draw : ∃ c, DF K mg "_law_draw" s_law_draw c) (D_names : ∃ c, DF K mg "_law_names" s_law_names c) (D_many : ∃ c, DF K mg "_law_many" s_law_many c) (D_lfirst : ∃ c, DF K mg "_law_first" s_law_first c) (D_lstep : ∃ c, DF K mg "_law_step" s_law_step c)
    (D_objs : ∃ c, DF K mg "_law_objects" s_law_objects c) (D_args : ∃ c, DF K mg "_law_args" s_law_args c) (D_weave : ∃ c, DF K mg "_law_weave" s_law_weave c) (D_spoil : ∃ c, DF K mg "_law_spoil" s_law_spoil c) (D_hist : ∃ c, DF K mg "_law_history" s_law_history c) (D_law : ∃ c, DF K mg "law" s_law c) :
    LamX.LawAtS l w K L2.CX0 19 63 "_law_script" mg fa h := by
  obtain ⟨cc, P1, Dc, C1, nP1, hP1⟩ := D_can
  obtain ⟨cw, P2, Dw, C2, nP2, hP2⟩ := D_whole
  obtain ⟨_, D1⟩ := D_first_state
  obtain ⟨_, D2⟩ := D_yes
  obtain ⟨_, D3⟩ := D_reg
  obtain ⟨_, D4⟩ := D_cnt
  obtain ⟨_, D5⟩ := D_set
  obtain ⟨_, D6⟩ := D_que
  obtain ⟨_, D7⟩ := D_step
  obtain ⟨_, D8⟩ := D_numbered
  obtain ⟨_, D9⟩ := D_operations
  obtain ⟨_, D10⟩ := D_kept
  obtain ⟨_, D11⟩ := D_without
  obtain ⟨_, D12⟩ := D_before
  obtain ⟨_, D13⟩ := D_firsts
  obtain ⟨_, D14⟩ := D_done
  obtain ⟨_, D15⟩ := D_results
  obtain ⟨_, D16⟩ := D_pos0
  obtain ⟨_, D17⟩ := D_moves
  obtain ⟨_, D18⟩ := D_from
  obtain ⟨_, D19⟩ := D_told
  obtain ⟨_, D20⟩ := D_find
  obtain ⟨_, D21⟩ := D_fits
  obtain ⟨_, D22⟩ := D_serial
  obtain ⟨_, D23⟩ := D_isser
  obtain ⟨_, D24⟩ := D_fin
  obtain ⟨_, D25⟩ := D_drop
  obtain ⟨_, D26⟩ := D_cell
  obtain ⟨_, D27⟩ := D_draw
  obtain ⟨_, D28⟩ := D_names
  obtain ⟨_, D29⟩ := D_many
  obtain ⟨_, D30⟩ := D_lfirst
  obtain ⟨_, D31⟩ := D_lstep
  obtain ⟨_, D32⟩ := D_objs
  obtain ⟨_, D33⟩ := D_args
  obtain ⟨_, D34⟩ := D_weave
  obtain ⟨_, D35⟩ := D_spoil
  obtain ⟨_, D36⟩ := D_hist
  obtain ⟨cL, DL⟩ := D_law
  obtain ⟨f, oc, od, kV, doc, pm, an, ct, osl, hm, lk, hcd, kp⟩ := DL.ex
  rw [hfa] at hm
  cases hm
  refine ⟨PySem.W.fnOf "law" "law" (defArgs s_law) (defBody s_law) (defScope s_law) .none kV doc pm an (.ref cL) ct, [(cc, P1), (cw, P2)], spLaw K P1 P2, ?_, ?_, ?_, fun s u => .of_eq rfl, ?_, fun base KB GB TB => ?_⟩
  · intro p hp
    rcases List.mem_cons.mp hp with z | z
    · rw [z]; exact hP1
    · rw [List.mem_singleton.mp z]; exact hP2
  · intro p hp
    rcases List.mem_cons.mp hp with z | z
    · rw [z]; exact nP1
    · rw [List.mem_singleton.mp z]; exact nP2
  · intro p hp
    rcases List.mem_cons.mp hp with z | z
    · rw [z]; exact C1
    · rw [List.mem_singleton.mp z]; exact C2
  · intro H a ns hn _ hH hS
    refine ⟨ns, .ref a, rfl, .lst hS (da_intsL H ns), ⟨#[], hH (cc, P1) (List.mem_cons_self ..), ?_⟩, ⟨#[], hH (cw, P2) (List.mem_cons_of_mem _ (List.mem_cons_self ..)), ?_⟩, by omega, fun H' e => rfl⟩
    · exact trivial
    · exact trivial
  · have B1 := TB (cc, P1) (List.mem_cons_self ..)
    have B2 := TB (cw, P2) (List.mem_cons_of_mem _ (List.mem_cons_self ..))
    have b1 : GxR.TabB base mg cc P1 := ⟨B1.code, B1.bm, B1.gP⟩
    have b2 : GxR.TabB base mg cw P2 := ⟨B2.code, B2.bm, B2.gP⟩
    have c_first := w_first (P := l.prog) (w := w) (base := base) D1 FT
    have c_yes := w_yes (P := l.prog) (w := w) (base := base) D2
    have c_step := w_step (P := l.prog) (w := w) (base := base) D7 ST fun kd => by
      cases kd with
      | reg => exact w_reg D3
      | cnt => exact w_cnt D4
      | set => exact w_set D5 T c_yes
      | que => exact w_que D6 T
    have c_num := w_numbered (P := l.prog) (w := w) (base := base) D8
    have c_ops := w_operations (P := l.prog) (w := w) (base := base) D9 T c_num
    have c_kept := w_kept (P := l.prog) (w := w) (base := base) D10 T c_num
    have c_wo := w_without (P := l.prog) (w := w) (base := base) D11 T c_ops c_kept
    have c_bf := w_before (P := l.prog) (w := w) (base := base) D12
    have c_fs := w_firsts (P := l.prog) (w := w) (base := base) D13 T c_first
    have c_done := w_done (P := l.prog) (w := w) (base := base) D14 c_step
    have c_res := w_results (P := l.prog) (w := w) (base := base) D15 c_ops c_fs c_done
    have c_p0 := w_pos0 (P := l.prog) (w := w) (base := base) D16 c_fs
    have c_can := w_can (P := l.prog) (w := w) (base := base) Dc T b1 c_bf
    have c_wh := w_whole (P := l.prog) (w := w) (base := base) Dw T b2
    have c_mv := w_moves (P := l.prog) (w := w) (base := base) D17 T c_can c_done
    have c_from := w_from (P := l.prog) (w := w) (base := base) D18 T c_wh c_mv 10
    have c_told := w_told (P := l.prog) (w := w) (base := base) D19 T c_ops c_p0 c_mv
    have c_find := w_find (P := l.prog) (w := w) (base := base) D20 T c_ops c_p0 c_told c_from
    have c_fits := w_fits (P := l.prog) (w := w) (base := base) D21 c_find
    have c_ser := w_serial (P := l.prog) (w := w) (base := base) D22 T c_ops c_res
    have c_iss := w_is_serial (P := l.prog) (w := w) (base := base) D23 T
    have c_fin := w_fin (P := l.prog) (w := w) (base := base) D24 T c_find c_ops c_res c_wo
    have c_drop := w_drop (P := l.prog) (w := w) (base := base) D25
    have c_cell := w_cell (P := l.prog) (w := w) (base := base) D26 T
    have c_draw := w_draw (P := l.prog) (w := w) (base := base) D27 T c_cell
    have c_names := w_names (P := l.prog) (w := w) (base := base) D28
    have c_many := w_many (P := l.prog) (w := w) (base := base) D29 T
    have c_lf := w_firstL (P := l.prog) (w := w) (base := base) D30
    have c_ls := w_lstep (P := l.prog) (w := w) (base := base) D31 T
    have c_objs := w_objs (P := l.prog) (w := w) (base := base) D32 T c_draw
    have c_args := w_args (P := l.prog) (w := w) (base := base) D33 T c_many
    have c_wv := w_weave (P := l.prog) (w := w) (base := base) D34 T c_draw c_lf c_names c_args c_ls c_drop
    have c_sp := w_spoil (P := l.prog) (w := w) (base := base) D35 T c_draw
    have c_hist := w_history (P := l.prog) (w := w) (base := base) D36 T c_objs c_sp c_wv
    exact w_law lk hcd T c_hist c_find c_ser c_iss c_fits c_fin c_ops
end
end K22

-- E1
open PySem PySem.W PyProof.Rows K22
set_option maxHeartbeats 0 in
theorem PySem.Challenge.cw_ordershown_k22_whole_endings_fit_holds : PySem.Challenge.rw_ordershown_k22_whole_endings_fit.Holds := by
  w_on; o_law; k_head; (case hw => w_witness2)
  k_fill
  refine K22.walk_ofTab (l := PySem.Challenge.rw_ordershown_k22_whole_endings_fit) (n := 63) (k := 19) (x := "_law_script") (CX := fun _ => L2.CX0) rfl (by decide) rfl ⟨rfl, by decide, by decide⟩ (fun w h Y => PySem.W.kIn_of Y) ?F (fun _ _ _ _ _ h => h)
  case F =>
    intro w mg fa h Y KX G hmg own
    have hlaw : mg "law" = some (.ref fa) := hmg
    clear hmg
    have z_len : mg "len" = none := by
      refine PySem.W.mg_none_of KX G ?z_1
      (case z_1 => k_is)
    have z_tuple : mg "tuple" = none := by
      refine PySem.W.mg_none_of KX G ?z_2
      (case z_2 => k_is)
    have z_list : mg "list" = none := by
      refine PySem.W.mg_none_of KX G ?z_3
      (case z_3 => k_is)
    have z_set : mg "set" = none := by
      refine PySem.W.mg_none_of KX G ?z_4
      (case z_4 => k_is)
    have z_sorted : mg "sorted" = none := by
      refine PySem.W.mg_none_of KX G ?z_5
      (case z_5 => k_is)
    have z_int : mg "int" = none := by
      refine PySem.W.mg_none_of KX G ?z_6
      (case z_6 => k_is)
    have z_isinstance : mg "isinstance" = none := by
      refine PySem.W.mg_none_of KX G ?z_7
      (case z_7 => k_is)
    have z_max : mg "max" = none := by
      refine PySem.W.mg_none_of KX G ?z_8
      (case z_8 => k_is)
    have z_min : mg "min" = none := by
      refine PySem.W.mg_none_of KX G ?z_9
      (case z_9 => k_is)
    have z_dict : mg "dict" = none := by
      refine PySem.W.mg_none_of KX G ?z_10
      (case z_10 => k_is)
    have z_range : mg "range" = none := by
      refine PySem.W.mg_none_of KX G ?z_11
      (case z_11 => k_is)
    have z_enumerate : mg "enumerate" = none := by
      refine PySem.W.mg_none_of KX G ?z_12
      (case z_12 => k_is)
    have z_zip : mg "zip" = none := by
      refine PySem.W.mg_none_of KX G ?z_13
      (case z_13 => k_is)
    have z_all : mg "all" = none := by
      refine PySem.W.mg_none_of KX G ?z_14
      (case z_14 => k_is)
    have D_first_state : ∃ c, DF (PySem.Challenge.cw_ordershown_k22_whole_endings_fit_holds.heap_39 w.params) mg "first_state" s_first_state c := by
      refine' df_mk KX G ?a_15 ?l_15 ?c_15 ?k_15
      (case a_15 => k_is); (case l_15 => k_is); (case c_15 => k_is); (case k_15 => k_is)
    have D_yes_or_no : ∃ c, DF (PySem.Challenge.cw_ordershown_k22_whole_endings_fit_holds.heap_39 w.params) mg "yes_or_no" s_yes_or_no c := by
      refine' df_mk KX G ?a_16 ?l_16 ?c_16 ?k_16
      (case a_16 => k_is); (case l_16 => k_is); (case c_16 => k_is); (case k_16 => k_is)
    have D_step_register : ∃ c, DF (PySem.Challenge.cw_ordershown_k22_whole_endings_fit_holds.heap_39 w.params) mg "step_register" s_step_register c := by
      refine' df_mk KX G ?a_17 ?l_17 ?c_17 ?k_17
      (case a_17 => k_is); (case l_17 => k_is); (case c_17 => k_is); (case k_17 => k_is)
    have D_step_counter : ∃ c, DF (PySem.Challenge.cw_ordershown_k22_whole_endings_fit_holds.heap_39 w.params) mg "step_counter" s_step_counter c := by
      refine' df_mk KX G ?a_18 ?l_18 ?c_18 ?k_18
      (case a_18 => k_is); (case l_18 => k_is); (case c_18 => k_is); (case k_18 => k_is)
    have D_step_set : ∃ c, DF (PySem.Challenge.cw_ordershown_k22_whole_endings_fit_holds.heap_39 w.params) mg "step_set" s_step_set c := by
      refine' df_mk KX G ?a_19 ?l_19 ?c_19 ?k_19
      (case a_19 => k_is); (case l_19 => k_is); (case c_19 => k_is); (case k_19 => k_is)
    have D_step_queue : ∃ c, DF (PySem.Challenge.cw_ordershown_k22_whole_endings_fit_holds.heap_39 w.params) mg "step_queue" s_step_queue c := by
      refine' df_mk KX G ?a_20 ?l_20 ?c_20 ?k_20
      (case a_20 => k_is); (case l_20 => k_is); (case c_20 => k_is); (case k_20 => k_is)
    have D_step : ∃ c, DF (PySem.Challenge.cw_ordershown_k22_whole_endings_fit_holds.heap_39 w.params) mg "step" s_step c := by
      refine' df_mk KX G ?a_21 ?l_21 ?c_21 ?k_21
      (case a_21 => k_is); (case l_21 => k_is); (case c_21 => k_is); (case k_21 => k_is)
    have D_numbered : ∃ c, DF (PySem.Challenge.cw_ordershown_k22_whole_endings_fit_holds.heap_39 w.params) mg "numbered" s_numbered c := by
      refine' df_mk KX G ?a_22 ?l_22 ?c_22 ?k_22
      (case a_22 => k_is); (case l_22 => k_is); (case c_22 => k_is); (case k_22 => k_is)
    have D_operations : ∃ c, DF (PySem.Challenge.cw_ordershown_k22_whole_endings_fit_holds.heap_39 w.params) mg "operations" s_operations c := by
      refine' df_mk KX G ?a_23 ?l_23 ?c_23 ?k_23
      (case a_23 => k_is); (case l_23 => k_is); (case c_23 => k_is); (case k_23 => k_is)
    have D_kept : ∃ c, DF (PySem.Challenge.cw_ordershown_k22_whole_endings_fit_holds.heap_39 w.params) mg "kept" s_kept c := by
      refine' df_mk KX G ?a_24 ?l_24 ?c_24 ?k_24
      (case a_24 => k_is); (case l_24 => k_is); (case c_24 => k_is); (case k_24 => k_is)
    have D_without : ∃ c, DF (PySem.Challenge.cw_ordershown_k22_whole_endings_fit_holds.heap_39 w.params) mg "without" s_without c := by
      refine' df_mk KX G ?a_25 ?l_25 ?c_25 ?k_25
      (case a_25 => k_is); (case l_25 => k_is); (case c_25 => k_is); (case k_25 => k_is)
    have D_is_before : ∃ c, DF (PySem.Challenge.cw_ordershown_k22_whole_endings_fit_holds.heap_39 w.params) mg "is_before" s_is_before c := by
      refine' df_mk KX G ?a_26 ?l_26 ?c_26 ?k_26
      (case a_26 => k_is); (case l_26 => k_is); (case c_26 => k_is); (case k_26 => k_is)
    have D_first_states : ∃ c, DF (PySem.Challenge.cw_ordershown_k22_whole_endings_fit_holds.heap_39 w.params) mg "first_states" s_first_states c := by
      refine' df_mk KX G ?a_27 ?l_27 ?c_27 ?k_27
      (case a_27 => k_is); (case l_27 => k_is); (case c_27 => k_is); (case k_27 => k_is)
    have D_done : ∃ c, DF (PySem.Challenge.cw_ordershown_k22_whole_endings_fit_holds.heap_39 w.params) mg "done" s_done c := by
      refine' df_mk KX G ?a_28 ?l_28 ?c_28 ?k_28
      (case a_28 => k_is); (case l_28 => k_is); (case c_28 => k_is); (case k_28 => k_is)
    have D_results : ∃ c, DF (PySem.Challenge.cw_ordershown_k22_whole_endings_fit_holds.heap_39 w.params) mg "results" s_results c := by
      refine' df_mk KX G ?a_29 ?l_29 ?c_29 ?k_29
      (case a_29 => k_is); (case l_29 => k_is); (case c_29 => k_is); (case k_29 => k_is)
    have D_first_position : ∃ c, DF (PySem.Challenge.cw_ordershown_k22_whole_endings_fit_holds.heap_39 w.params) mg "first_position" s_first_position c := by
      refine' df_mk KX G ?a_30 ?l_30 ?c_30 ?k_30
      (case a_30 => k_is); (case l_30 => k_is); (case c_30 => k_is); (case k_30 => k_is)
    have D_can_come : TF (PySem.Challenge.cw_ordershown_k22_whole_endings_fit_holds.heap_39 w.params) mg h "can_come" s_can_come := by
      refine' tf_mk KX G ?own_31 ?a_31 ?l_31 ?c_31 ?k_31 ?lc_31 ?h11_31 ?h18_31 ?h7_31 ?h9_31 ?h10_31 ?hne_31 ?nT_31
      (case a_31 => k_is); (case l_31 => k_is); (case c_31 => k_is); (case k_31 => k_is); (case lc_31 => k_is)
      (case h11_31 => rfl); (case h18_31 => rfl); (case h7_31 => rfl); (case h9_31 => first | rfl | k_is | decide); (case h10_31 => first | rfl | k_is | decide); (case hne_31 => decide); (case nT_31 => first | rfl | decide +kernel); (case own_31 => exact own "can_come" _ (by first | rfl | decide +kernel) (PySem.W.mg_of KX G (by k_is)))
    have D_is_whole : TF (PySem.Challenge.cw_ordershown_k22_whole_endings_fit_holds.heap_39 w.params) mg h "is_whole" s_is_whole := by
      refine' tf_mk KX G ?own_32 ?a_32 ?l_32 ?c_32 ?k_32 ?lc_32 ?h11_32 ?h18_32 ?h7_32 ?h9_32 ?h10_32 ?hne_32 ?nT_32
      (case a_32 => k_is); (case l_32 => k_is); (case c_32 => k_is); (case k_32 => k_is); (case lc_32 => k_is)
      (case h11_32 => rfl); (case h18_32 => rfl); (case h7_32 => rfl); (case h9_32 => first | rfl | k_is | decide); (case h10_32 => first | rfl | k_is | decide); (case hne_32 => decide); (case nT_32 => first | rfl | decide +kernel); (case own_32 => exact own "is_whole" _ (by first | rfl | decide +kernel) (PySem.W.mg_of KX G (by k_is)))
    have D_moves : ∃ c, DF (PySem.Challenge.cw_ordershown_k22_whole_endings_fit_holds.heap_39 w.params) mg "moves" s_moves c := by
      refine' df_mk KX G ?a_33 ?l_33 ?c_33 ?k_33
      (case a_33 => k_is); (case l_33 => k_is); (case c_33 => k_is); (case k_33 => k_is)
    have D_order_from : ∃ c, DF (PySem.Challenge.cw_ordershown_k22_whole_endings_fit_holds.heap_39 w.params) mg "order_from" s_order_from c := by
      refine' df_mk KX G ?a_34 ?l_34 ?c_34 ?k_34
      (case a_34 => k_is); (case l_34 => k_is); (case c_34 => k_is); (case k_34 => k_is)
    have D_told_table : ∃ c, DF (PySem.Challenge.cw_ordershown_k22_whole_endings_fit_holds.heap_39 w.params) mg "told_table" s_told_table c := by
      refine' df_mk KX G ?a_35 ?l_35 ?c_35 ?k_35
      (case a_35 => k_is); (case l_35 => k_is); (case c_35 => k_is); (case k_35 => k_is)
    have D_find : ∃ c, DF (PySem.Challenge.cw_ordershown_k22_whole_endings_fit_holds.heap_39 w.params) mg "find" s_find c := by
      refine' df_mk KX G ?a_36 ?l_36 ?c_36 ?k_36
      (case a_36 => k_is); (case l_36 => k_is); (case c_36 => k_is); (case k_36 => k_is)
    have D_fits : ∃ c, DF (PySem.Challenge.cw_ordershown_k22_whole_endings_fit_holds.heap_39 w.params) mg "fits" s_fits c := by
      refine' df_mk KX G ?a_37 ?l_37 ?c_37 ?k_37
      (case a_37 => k_is); (case l_37 => k_is); (case c_37 => k_is); (case k_37 => k_is)
    have D_serial : ∃ c, DF (PySem.Challenge.cw_ordershown_k22_whole_endings_fit_holds.heap_39 w.params) mg "serial" s_serial c := by
      refine' df_mk KX G ?a_38 ?l_38 ?c_38 ?k_38
      (case a_38 => k_is); (case l_38 => k_is); (case c_38 => k_is); (case k_38 => k_is)
    have D_is_serial : ∃ c, DF (PySem.Challenge.cw_ordershown_k22_whole_endings_fit_holds.heap_39 w.params) mg "is_serial" s_is_serial c := by
      refine' df_mk KX G ?a_39 ?l_39 ?c_39 ?k_39
      (case a_39 => k_is); (case l_39 => k_is); (case c_39 => k_is); (case k_39 => k_is)
    have D_finished : ∃ c, DF (PySem.Challenge.cw_ordershown_k22_whole_endings_fit_holds.heap_39 w.params) mg "finished" s_finished c := by
      refine' df_mk KX G ?a_40 ?l_40 ?c_40 ?k_40
      (case a_40 => k_is); (case l_40 => k_is); (case c_40 => k_is); (case k_40 => k_is)
    have D_law_dropped : ∃ c, DF (PySem.Challenge.cw_ordershown_k22_whole_endings_fit_holds.heap_39 w.params) mg "_law_dropped" s_law_dropped c := by
      refine' df_mk KX G ?a_41 ?l_41 ?c_41 ?k_41
      (case a_41 => k_is); (case l_41 => k_is); (case c_41 => k_is); (case k_41 => k_is)
    have D_law_cell : ∃ c, DF (PySem.Challenge.cw_ordershown_k22_whole_endings_fit_holds.heap_39 w.params) mg "_law_cell" s_law_cell c := by
      refine' df_mk KX G ?a_42 ?l_42 ?c_42 ?k_42
      (case a_42 => k_is); (case l_42 => k_is); (case c_42 => k_is); (case k_42 => k_is)
    have D_law_draw : ∃ c, DF (PySem.Challenge.cw_ordershown_k22_whole_endings_fit_holds.heap_39 w.params) mg "_law_draw" s_law_draw c := by
      refine' df_mk KX G ?a_43 ?l_43 ?c_43 ?k_43
      (case a_43 => k_is); (case l_43 => k_is); (case c_43 => k_is); (case k_43 => k_is)
    have D_law_names : ∃ c, DF (PySem.Challenge.cw_ordershown_k22_whole_endings_fit_holds.heap_39 w.params) mg "_law_names" s_law_names c := by
      refine' df_mk KX G ?a_44 ?l_44 ?c_44 ?k_44
      (case a_44 => k_is); (case l_44 => k_is); (case c_44 => k_is); (case k_44 => k_is)
    have D_law_many : ∃ c, DF (PySem.Challenge.cw_ordershown_k22_whole_endings_fit_holds.heap_39 w.params) mg "_law_many" s_law_many c := by
      refine' df_mk KX G ?a_45 ?l_45 ?c_45 ?k_45
      (case a_45 => k_is); (case l_45 => k_is); (case c_45 => k_is); (case k_45 => k_is)
    have D_law_first : ∃ c, DF (PySem.Challenge.cw_ordershown_k22_whole_endings_fit_holds.heap_39 w.params) mg "_law_first" s_law_first c := by
      refine' df_mk KX G ?a_46 ?l_46 ?c_46 ?k_46
      (case a_46 => k_is); (case l_46 => k_is); (case c_46 => k_is); (case k_46 => k_is)
    have D_law_step : ∃ c, DF (PySem.Challenge.cw_ordershown_k22_whole_endings_fit_holds.heap_39 w.params) mg "_law_step" s_law_step c := by
      refine' df_mk KX G ?a_47 ?l_47 ?c_47 ?k_47
      (case a_47 => k_is); (case l_47 => k_is); (case c_47 => k_is); (case k_47 => k_is)
    have D_law_objects : ∃ c, DF (PySem.Challenge.cw_ordershown_k22_whole_endings_fit_holds.heap_39 w.params) mg "_law_objects" s_law_objects c := by
      refine' df_mk KX G ?a_48 ?l_48 ?c_48 ?k_48
      (case a_48 => k_is); (case l_48 => k_is); (case c_48 => k_is); (case k_48 => k_is)
    have D_law_args : ∃ c, DF (PySem.Challenge.cw_ordershown_k22_whole_endings_fit_holds.heap_39 w.params) mg "_law_args" s_law_args c := by
      refine' df_mk KX G ?a_49 ?l_49 ?c_49 ?k_49
      (case a_49 => k_is); (case l_49 => k_is); (case c_49 => k_is); (case k_49 => k_is)
    have D_law_weave : ∃ c, DF (PySem.Challenge.cw_ordershown_k22_whole_endings_fit_holds.heap_39 w.params) mg "_law_weave" s_law_weave c := by
      refine' df_mk KX G ?a_50 ?l_50 ?c_50 ?k_50
      (case a_50 => k_is); (case l_50 => k_is); (case c_50 => k_is); (case k_50 => k_is)
    have D_law_spoil : ∃ c, DF (PySem.Challenge.cw_ordershown_k22_whole_endings_fit_holds.heap_39 w.params) mg "_law_spoil" s_law_spoil c := by
      refine' df_mk KX G ?a_51 ?l_51 ?c_51 ?k_51
      (case a_51 => k_is); (case l_51 => k_is); (case c_51 => k_is); (case k_51 => k_is)
    have D_law_history : ∃ c, DF (PySem.Challenge.cw_ordershown_k22_whole_endings_fit_holds.heap_39 w.params) mg "_law_history" s_law_history c := by
      refine' df_mk KX G ?a_52 ?l_52 ?c_52 ?k_52
      (case a_52 => k_is); (case l_52 => k_is); (case c_52 => k_is); (case k_52 => k_is)
    have D_law : ∃ c, DF (PySem.Challenge.cw_ordershown_k22_whole_endings_fit_holds.heap_39 w.params) mg "law" s_law c := by
      refine' df_mk KX G ?a_53 ?l_53 ?c_53 ?k_53
      (case a_53 => k_is); (case l_53 => k_is); (case c_53 => k_is); (case k_53 => k_is)
    have T : Bn mg := ⟨z_len, z_tuple, z_list, z_set, z_sorted, z_int, z_isinstance, z_max, z_min, z_dict, z_range, z_enumerate, z_zip, z_all⟩
    have FT : FirstT (PySem.Challenge.cw_ordershown_k22_whole_endings_fit_holds.heap_39 w.params) w mg := by
      refine' first_mk KX G ?a1_55 ?l_55 ?kl_55 ?r_55 ?c_55 ?s_55 ?q_55 ?l1_55 ?l2_55
      (case a1_55 => k_is); (case l_55 => k_is); (case kl_55 => exact ⟨⟨_, _, rfl, rfl⟩, ⟨_, _, rfl, rfl⟩, ⟨_, _, rfl, rfl⟩, ⟨_, _, rfl, rfl⟩, trivial⟩); (case r_55 => k_is); (case c_55 => k_is); (case s_55 => k_is); (case q_55 => k_is); (case l1_55 => k_is); (case l2_55 => k_is)
    have ST : StepT (PySem.Challenge.cw_ordershown_k22_whole_endings_fit_holds.heap_39 w.params) w mg := by
      refine' step_mk KX G ?a1_56 ?l_56 ?kl_56 ?r_56 ?c_56 ?s_56 ?q_56 ?g1_56 ?g2_56 ?g3_56 ?g4_56
      (case a1_56 => k_is); (case l_56 => k_is); (case kl_56 => exact ⟨⟨_, _, rfl, rfl⟩, ⟨_, _, rfl, rfl⟩, ⟨_, _, rfl, rfl⟩, ⟨_, _, rfl, rfl⟩, trivial⟩); (case r_56 => k_is); (case c_56 => k_is); (case s_56 => k_is); (case q_56 => k_is); (case g1_56 => k_is); (case g2_56 => k_is); (case g3_56 => k_is); (case g4_56 => k_is)
    exact law_all T hlaw FT ST D_first_state D_yes_or_no D_step_register D_step_counter D_step_set D_step_queue D_step D_numbered D_operations D_kept D_without D_is_before D_first_states D_done D_results D_first_position D_can_come D_is_whole D_moves D_order_from D_told_table D_find D_fits D_serial D_is_serial D_finished D_law_dropped D_law_cell D_law_draw D_law_names D_law_many D_law_first D_law_step D_law_objects D_law_args D_law_weave D_law_spoil D_law_history D_law
