import PyProof.Rows.All
import Wide.All
import OpenK.AllK
import Wide.FinOn
import HandS.ForMost
import HandS.Exc
import HandS.WordsExc
import HandS.HeadHook1
import HandS.HeadHook2
import HandS.HeadHook4
import HandS.Lambda
import KE.KDictKeyed
import KE.KeyNested
import HandS.TupAny
import KE.DataEq
import KE.DataCmp
import KE.Datum
import KE.DatumMore
import KE.DatumOrd
import HandS.Style
import HandS.IsInst
import KE.DataIsa
import HandS.Text
import HandS.SetFor
import KE.SortData
import KE.DataMinMax
import KE.GoesEnum
import KE.GoesMore
import HandS.Conv
import HandS.TupSets
import KE.KDictDisplayH
import KE.SortKeyHeap
import KE.KDictCopyH
import KE.KDictList
import HandS.HeadWalk
import HandS.EndTab
import KE.KDictWalk
import HandS.Iter
import KE.KDictPairs
import HandS.Sort
import KE.KDictSum
import HandS.ExcValue
import PyProof.DictUpdate
import KE.KExcSuper
import HandS.ExcInit
import HandS.ExcSuper
import HandS.ExcIs
import HandS.ExcField
import HandS.HotCalls
import PyProof.ReprRoads
import PyProof.Rows.NestShow
import HandS.RaiseMore
import KE.KDflt
import KE.KStateDown
import HandS.Defaults
import HandS.Head0
import HandS.Head1
import HandS.Head2
import HandS.HeadEnd
import PySem.Challenge.RW_leaptover_k17_whole_lines_that_settle
set_option Elab.async false
set_option linter.all false
set_option autoImplicit false
set_option maxRecDepth 100000
set_option maxHeartbeats 4000000
namespace DL
open PySem PySem.Spec PyProof.Rows L2

/-! ### values, state, results -/
inductive D where
  | dat (x : PyData)
  | brd (many : Int) (leaps : PyData)
  | row (a : Addr)
  | dic (kvs : List (PyData × PyData))
  | ids (ns : List Int)
/-- the draws' row: its address, the script's, the script, its three ints -/
structure Row where
  a : Addr
  sc : Addr
  ns : List Int
  i : Int
  r : Int
  c : Int
abbrev RS := Option Row
structure Xn where
  cls : Str
  fs : List (Str × PyData)
inductive Out (α : Type) where
  | val (a : α)
  | exn (x : Xn)
def M (α : Type) := RS → Option (Out α × RS)
def M.ret {α : Type} (a : α) : M α := fun R => some (.val a, R)
def M.bnd {α β : Type} (m : M α) (k : α → M β) : M β := fun R => match m R with
  | some (.val a, R') => k a R'
  | some (.exn x, R') => some (.exn x, R')
  | none => none
instance : Monad M where
  pure := M.ret
  bind := M.bnd
theorem M.pure_def {α : Type} (a : α) : (pure a : M α) = M.ret a := rfl
theorem M.bind_def {α β : Type} (m : M α) (k : α → M β) : (m >>= k) = M.bnd m k := rfl
instance : LawfulMonad M := LawfulMonad.mk' M
  (id_map := fun x => by
    funext R
    show (match x R with | some (.val a, R') => M.ret (id a) R' | some (.exn x, R') => some (.exn x, R') | none => none) = x R
    cases x R with
    | none => rfl
    | some p => obtain ⟨o, R'⟩ := p; cases o <;> rfl)
  (pure_bind := fun _ _ => rfl)
  (bind_assoc := fun x f g => by
    funext R
    show (match (match x R with | some (.val a, R') => f a R' | some (.exn x, R') => some (.exn x, R') | none => none) with | some (.val a, R') => g a R' | some (.exn x, R') => some (.exn x, R') | none => none) = (match x R with | some (.val a, R') => (match f a R' with | some (.val a, R') => g a R' | some (.exn x, R') => some (.exn x, R') | none => none) | some (.exn x, R') => some (.exn x, R') | none => none)
    cases x R with
    | none => rfl
    | some p => obtain ⟨o, R'⟩ := p; cases o <;> rfl)
/-- no claim -/
def stk {α : Type} : M α := fun _ => none
def thr {α : Type} (x : Xn) : M α := fun R => some (.exn x, R)
def lft {α : Type} : Option α → M α
  | some a => pure a
  | none => stk
@[simp] theorem lft_some {α : Type} (a : α) : lft (some a) = pure a := rfl
@[simp] theorem thr_bind {α β : Type} (x : Xn) (k : α → M β) : (thr x >>= k) = thr x := rfl
@[simp] theorem stk_bind {α β : Type} (k : α → M β) : ((stk : M α) >>= k) = stk := rfl
/-- what a slot's name holds: nothing known; a value; a list or dict of this frame's own -/
inductive OW where
  | lst (ds : List PyData)
  | dic (kvs : List (PyData × PyData))
  | ids (ns : List Int)
inductive SV where
  | no
  | val (d : D)
  | own (o : OW)
abbrev En := List SV

/-! ### keys of dicts -/
mutual
def keyOf : PyData → Option NestedKey
  | .none => some .none
  | .bool _ => none
  | .int i => some (.num i)
  | .str s => some (.text s)
  | .list _ => none
  | .tuple xs => (keysOf xs).map .tup
  | .dict _ => none
def keysOf : List PyData → Option (List NestedKey)
  | [] => some []
  | x :: xs => match keyOf x, keysOf xs with
    | some k, some ks => some (k :: ks)
    | _, _ => none
end

/-! ### what stands for what -/
/-- the defs that make lambdas -/
def tfs : List He.Defn := [("in_order", none), ("all_standings", none), ("law", none)]
/-- no table of code objects -/
abbrev NT (o : HO) : Prop := ∀ ps, o ≠ .tbl ps
section
variable (P : Program) (w : World) (K : PySem.W.Frag)
/-- the dict's own object, its entries ents: key, the key's address, the value -/
def DicObj (a : Addr) (ents : List (NestedKey × Addr × Value)) (ep : Nat) (h : Heap) : Prop :=
  ∃ o es, h.get? a = some o ∧ o.ExactDict ∧ o.data = .dict es ep ∧ es.toList = ents.map (entryOfKey (nestedKind P w))
structure EntOk (F : Hp) (p : PyData × PyData) (q : NestedKey × Addr × Value) : Prop where
  key : keyOf p.1 = some q.1
  dep : q.1.depth ≤ 8
  adr : Dp K F (.ref q.2.1) p.1
  val : ∃ v, RelV v q.2.2 ∧ Dp K F v p.2
def DicAt (F H : Hp) (a : Addr) (kvs : List (PyData × PyData)) : Prop :=
  kvs.length ≤ sizeLine ∧ (a == sysModules) = false ∧ ∃ ents : List (NestedKey × Addr × Value), Paired (EntOk K F) kvs ents ∧ (ents.map (·.1)).Nodup ∧ ∃ ep, H a = some (.ext (DicObj P w a ents ep))
/-- a dict whose keys are ints, each at True -/
def idK (ns : List Int) : HO := .dK (ns.map fun i => (.inl i, V.bl true))
def RD (F : Hp) (v : V) : D → Prop
  | .dat x => Dp K F v x
  | .brd m l => ∃ a dx vl, v = .ref a ∧ F a = some (.ins (He.ga K "Board") dx [("many", .int m), ("leaps", vl)]) ∧ Dp K F vl l
  | .row a => v = .ref a
  | .dic kvs => ∃ a, v = .ref a ∧ DicAt P w K F F a kvs
  | .ids ns => ∃ a, v = .ref a ∧ F a = some (idK ns)
def RowPt (F H : Hp) : RS → Prop
  | none => True
  | some r => H r.a = some (.lst [.ref r.sc, .int r.i, .int r.r, .int r.c]) ∧ F r.a = none ∧ SqL K F r.sc (r.ns.map V.int) ∧ r.ns.length ≤ 63
/-- P: the table of code objects of a def that makes lambdas; q: their name -/
def IsTab (P : Addr) (q : Str) : Prop := ∃ p : He.Defn, p ∈ tfs ∧ PySem.W.codeHdIn K (He.cT K p).1 (He.cT K p).2 = true ∧ P = (He.cT K p).2 ∧ q = p.1 ++ (".<locals>." : Str) ++ ("<lambda>" : Str)
structure TabOk (F H : Hp) (P : Addr) (q : Str) : Prop where
  out : F P = none
  tab : ∃ ps, H P = some (.tbl ps) ∧ TriplesOk ps.toList ∧ ∀ pos cv, codeAmong pos ps.toList = some cv → ∃ c, cv = .ref c ∧ F c = some (LamX.CodeO c q)
/-- a table is of one def -/
def TabsUn : Prop := ∀ P q q', IsTab K P q → IsTab K P q' → q = q'
def TabsOk (F H : Hp) : Prop := TabsUn K ∧ ∀ P q, IsTab K P q → TabOk F H P q
structure RowOk (F H : Hp) (R : RS) : Prop where
  rw : RowPt K F H R
  tb : TabsOk K F H
/-- no table stands at D -/
def NoT (D : Addr) : Prop := ∀ P q, IsTab K P q → P ≠ D
/-- an exception, by its class and its own dict -/
def RX (F : Hp) (c : Value) (dd : Option Addr) (x : Xn) : Prop :=
  c = .ref (He.ga K x.cls) ∧ ∃ d fs, dd = some d ∧ F d = some (.xd fs) ∧ ∀ n y, x.fs.lookup n = some y → ∃ v, fs.lookup n = some v ∧ Dp K F v y
def OwnAt (F H : Hp) (a : Addr) : OW → Prop
  | .lst ds => ∃ xs, H a = some (.lst xs) ∧ DpAll K F xs ds
  | .dic kvs => DicAt P w K F H a kvs
  | .ids ns => H a = some (idK ns)
end
abbrev RS.ad (R : RS) : Option Addr := Option.map Row.a R
abbrev RS.key (R : RS) : Option (Addr × Addr × List Int) := Option.map (fun r => (r.a, r.sc, r.ns)) R
theorem RS.ad_key {R R' : RS} (h : RS.key R' = RS.key R) : RS.ad R' = RS.ad R := by
  cases R <;> cases R' <;> first | rfl | (simp [RS.key, RS.ad] at h ⊢; try exact h.1)
/-- F: what stands still; H: all. From (F, H) to (F', H'): what stood still does; what this frame's callers may change is as it was, but for the row -/
structure Grow (R R' : RS) (F H F' H' : Hp) : Prop where
  rk : RS.key R' = RS.key R
  ff : Same F F'
  fh : Same F' H'
  hn : ∀ a, H a ≠ none → F a = none → H' a ≠ none ∧ F' a = none
  hs : ∀ a o, H a = some o → F a = none → RS.ad R ≠ some a → NT o → H' a = some o
theorem Grow.refl {R : RS} {F H : Hp} (h : Same F H) : Grow R R F H F H := ⟨rfl, Same.refl F, h, fun _ a b => ⟨a, b⟩, fun _ _ a _ _ _ => a⟩
theorem Grow.trans {R R1 R2 : RS} {F H F1 H1 F2 H2 : Hp} (a : Grow R R1 F H F1 H1) (b : Grow R1 R2 F1 H1 F2 H2) : Grow R R2 F H F2 H2 where
  rk := b.rk.trans a.rk
  ff := a.ff.trans b.ff
  fh := b.fh
  hn := fun c h1 h2 => let ⟨p, q⟩ := a.hn c h1 h2; b.hn c p q
  hs := fun c o h1 h2 h3 h4 => b.hs c o (a.hs c o h1 h2 h3 h4) (a.hn c (by rw [h1]; simp) h2).2 (by rw [RS.ad_key a.rk]; exact h3) h4
/-- nothing but new objects, all of them still -/
theorem Grow.of {R : RS} {F H F' H' : Hp} (h1 : Same F F') (h2 : Same F' H') (h3 : Same H H') (h4 : ∀ a, H a ≠ none → F a = none → F' a = none) : Grow R R F H F' H' where
  rk := rfl
  ff := h1
  fh := h2
  hn := fun a p q => ⟨by
    cases e : H a with
    | none => exact absurd e p
    | some o => rw [h3 a o e]; simp, h4 a p q⟩
  hs := fun a o p _ _ _ => h3 a o p
theorem Grow.new {R : RS} {F H : Hp} {p : Addr} {o : HO} (h : Same F H) (hp : H p = none) : Grow R R F H (upd F p o) (upd H p o) :=
  Grow.of (fun b x e => by rw [upd_ne (ne_of_none (h b x e) hp)]; exact e)
    (fun b x e => by
      by_cases hb : b = p
      · subst hb; rw [upd_same] at e ⊢; exact e
      · rw [upd_ne hb] at e ⊢; exact h b x e)
    (fun b x e => by rw [upd_ne (ne_of_none e hp)]; exact e)
    (fun a q r => by
      by_cases hb : a = p
      · subst hb; exact absurd hp q
      · rw [upd_ne hb]; exact r)

end DL
namespace L2
open PySem PySem.Spec PyProof.Rows DL
mutual
theorem Dp.mono {K : PySem.W.Frag} {F F' : Hp} (e : Same F F') : ∀ {v : V} {d : PyData}, Dp K F v d → Dp K F' v d
  | _, _, .non => .non
  | _, _, .bl b => .bl b
  | _, _, .int i => .int i
  | _, _, .str x => .str x
  | _, _, .lst h a => .lst (e.seq h) (DpAll.mono e a)
  | _, _, .tup h a => .tup (by
      rcases h with (h | ⟨o, h⟩) | h
      · exact .inl (.inl (e _ _ h))
      · exact .inl (.inr ⟨o, e _ _ h⟩)
      · exact .inr h) (DpAll.mono e a)
theorem DpAll.mono {K : PySem.W.Frag} {F F' : Hp} (e : Same F F') : ∀ {vs : List V} {ds : List PyData}, DpAll K F vs ds → DpAll K F' vs ds
  | _, _, .nil => .nil
  | _, _, .cons h a => .cons (Dp.mono e h) (DpAll.mono e a)
end
theorem Same.tup {K : PySem.W.Frag} {F F' : Hp} {a : Addr} {xs : List V} (e : Same F F') (h : SqT K F a xs) : SqT K F' a xs := by
  rcases h with (h | ⟨o, h⟩) | h
  · exact .inl (.inl (e _ _ h))
  · exact .inl (.inr ⟨o, e _ _ h⟩)
  · exact .inr h
end L2
namespace DL
open PySem PySem.Spec PyProof.Rows L2
section
variable {P : Program} {w : World} {K : PySem.W.Frag} {F F' H H' : Hp}
theorem EntOk.mono (e : Same F F') {p : PyData × PyData} {q : NestedKey × Addr × Value} (h : EntOk K F p q) : EntOk K F' p q :=
  ⟨h.key, h.dep, Dp.mono e h.adr, let ⟨v, r, d⟩ := h.val; ⟨v, r, Dp.mono e d⟩⟩
theorem DicAt.mono (e : Same F F') {a : Addr} {kvs : List (PyData × PyData)} (h : DicAt P w K F H a kvs) (hh : H' a = H a) : DicAt P w K F' H' a kvs := by
  obtain ⟨h1, h2, ents, h3, h4, h5⟩ := h
  exact ⟨h1, h2, ents, Paired.mapP h3 fun _ _ => EntOk.mono e, h4, by rw [hh]; exact h5⟩
theorem DicAt.some {a : Addr} {kvs : List (PyData × PyData)} (h : DicAt P w K F H a kvs) : ∃ o, H a = some o := let ⟨_, _, _, _, _, _, h⟩ := h; ⟨_, h⟩
theorem RD.mono (e : Same F F') {v : V} {d : D} (h : RD P w K F v d) : RD P w K F' v d := by
  cases d with
  | dat x => exact Dp.mono e h
  | brd m l => obtain ⟨a, dx, vl, h1, h2, h3⟩ := h; exact ⟨a, dx, vl, h1, e _ _ h2, Dp.mono e h3⟩
  | row a => exact h
  | dic kvs =>
    obtain ⟨a, h1, h2⟩ := h
    obtain ⟨o, ho⟩ := h2.some
    exact ⟨a, h1, h2.mono e (by rw [ho, e _ _ ho])⟩
  | ids ns => obtain ⟨a, h1, h2⟩ := h; exact ⟨a, h1, e _ _ h2⟩
theorem OwnAt.mono (e : Same F F') {a : Addr} {o : OW} (h : OwnAt P w K F H a o) (hh : H' a = H a) : OwnAt P w K F' H' a o := by
  cases o with
  | lst ds => obtain ⟨xs, h1, h2⟩ := h; exact ⟨xs, by rw [hh]; exact h1, DpAll.mono e h2⟩
  | dic kvs => exact DicAt.mono e h hh
  | ids ns => exact hh.trans h
theorem OwnAt.some {a : Addr} {o : OW} (h : OwnAt P w K F H a o) : ∃ u, H a = some u := by
  cases o with
  | lst ds => obtain ⟨xs, h1, h2⟩ := h; exact ⟨_, h1⟩
  | dic kvs => exact DicAt.some h
  | ids ns => exact ⟨_, h⟩
theorem OwnAt.nt {a : Addr} {o : OW} {u : HO} (h : OwnAt P w K F H a o) (hu : H a = Option.some u) : NT u := fun ps e => by
  subst e
  cases o with
  | lst ds => obtain ⟨xs, h1, h2⟩ := h; rw [hu] at h1; cases h1
  | dic kvs => obtain ⟨_, _, ents, _, _, ep, h5⟩ := h; rw [hu] at h5; cases h5
  | ids ns => have h : H a = Option.some (idK ns) := h; rw [hu] at h; cases h
theorem TabsOk.noT (h : TabsOk K F H) {D : Addr} (e : ∀ ps, H D ≠ some (.tbl ps)) : NoT K D := fun P q i z => by
  obtain ⟨_, ps, h1, _⟩ := h.2 P q i
  rw [z] at h1
  exact e ps h1
theorem TabsOk.free (h : TabsOk K F H) {D : Addr} (e : H D = none) : NoT K D := h.noT fun ps => by rw [e]; simp
theorem TabsOk.nt (h : TabsOk K F H) {D : Addr} {u : HO} (e : H D = some u) (n : NT u) : NoT K D := h.noT fun ps z => by
  rw [e] at z
  cases z
  exact n ps rfl
theorem TabsOk.still (h : TabsOk K F H) {D : Addr} {u : HO} (e : F D = some u) : NoT K D := fun P q i z => by
  have := (h.2 P q i).out
  rw [z, e] at this
  cases this
theorem TabsOk.mv (h : TabsOk K F H) (hf : Same F F') (h1 : ∀ P q, IsTab K P q → F' P = none) (h2 : ∀ P q, IsTab K P q → H' P = H P) : TabsOk K F' H' := ⟨h.1, fun P q i => by
  obtain ⟨_, ps, e1, e2, e3⟩ := h.2 P q i
  refine ⟨h1 P q i, ps, by rw [h2 P q i]; exact e1, e2, fun pos cv e => ?_⟩
  obtain ⟨c, a, b⟩ := e3 pos cv e
  exact ⟨c, a, hf _ _ b⟩⟩
/-- H changes where no table stands -/
theorem TabsOk.at (h : TabsOk K F H) {D : Addr} (n : NoT K D) (e : ∀ b, b ≠ D → H' b = H b) : TabsOk K F H' := h.mv (Same.refl F) (fun P q i => (h.2 P q i).out) fun P q i => e P (n P q i)
theorem TabsOk.upd (h : TabsOk K F H) {D : Addr} {u : HO} (n : NoT K D) : TabsOk K F (upd H D u) := h.at n fun b e => upd_ne e
theorem TabsOk.new (h : TabsOk K F H) {D : Addr} {u : HO} (e : H D = none) : TabsOk K F (L2.upd H D u) := h.upd (h.free e)
theorem RX.mono (e : Same F F') {c : Value} {dd : Option Addr} {x : Xn} (h : RX K F c dd x) : RX K F' c dd x := by
  obtain ⟨h1, d, fs, h2, h3, h4⟩ := h
  exact ⟨h1, d, fs, h2, e _ _ h3, fun n y q => let ⟨v, a, b⟩ := h4 n y q; ⟨v, a, Dp.mono e b⟩⟩
end

/-! ### a frame's state -/
/-- the entry of the def -/
structure Ent where
  F : Hp
  H : Hp
  R : RS
section
variable (P : Program) (w : World) (K : PySem.W.Frag) (E : Ent)
def SlotOk (F H : Hp) (R : RS) (sv : SV) (x : Option (Option V)) : Prop := match sv with
  | .no => True
  | .val d => ∃ v, x = some (some v) ∧ RD P w K F v d
  | .own o => ∃ a, x = some (some (.ref a)) ∧ F a = none ∧ E.H a = none ∧ RS.ad R ≠ some a ∧ OwnAt P w K F H a o
structure Ok (F : Hp) (σ : L2.St) (H : Hp) (ρ : En) (R : RS) : Prop where
  g : Grow E.R R E.F E.H F H
  row : RowOk K F H R
  sl : ∀ (i : Nat) (sv : SV), ρ[i]? = some sv → SlotOk P w K E F H R sv σ[i]?
  dj : ∀ (i j : Nat) (oi oj : OW) (a : Addr), ρ[i]? = some (.own oi) → ρ[j]? = some (.own oj) → σ[i]? = some (some (.ref a)) → σ[j]? = some (some (.ref a)) → i = j
  ln : ρ.length = σ.length
end
section
variable {P : Program} {w : World} {K : PySem.W.Frag} {E : Ent} {F F' H H' : Hp} {σ : L2.St} {ρ : En} {R R' : RS}
theorem Ok.grow (ok : Ok P w K E F σ H ρ R) (g : Grow R R' F H F' H') (r : RowOk K F' H' R') : Ok P w K E F' σ H' ρ R' where
  g := ok.g.trans g
  row := r
  sl := fun i sv e => by
    have h := ok.sl i sv e
    cases sv with
    | no => trivial
    | val d => obtain ⟨v, h1, h2⟩ := h; exact ⟨v, h1, h2.mono g.ff⟩
    | own o =>
      obtain ⟨a, h1, h2, h3, h4, h5⟩ := h
      obtain ⟨u, hu⟩ := h5.some
      refine ⟨a, h1, (g.hn a (by rw [hu]; simp) h2).2, h3, by rw [RS.ad_key g.rk]; exact h4, h5.mono g.ff ?_⟩
      rw [g.hs a u hu h2 h4 (h5.nt hu), hu]
  dj := ok.dj
  ln := ok.ln

/-- a run of m from here: k of what it gives; an exception is what W wants at σ -/
def Run {α : Type} (K : PySem.W.Frag) (W : Value → Option Addr → Hp → Prop) (m : M α) (R : RS) (F H : Hp) (k : α → RS → Hp → Hp → Prop) : Prop :=
  match m R with
  | some (.val a, R') => ∀ F' H', Grow R R' F H F' H' → RowOk K F' H' R' → k a R' F' H'
  | some (.exn x, R') => ∀ c dd F' H', Grow R R' F H F' H' → RowOk K F' H' R' → RX K F' c dd x → W c dd H'
  | none => False
variable {α β : Type} {W : Value → Option Addr → Hp → Prop}
theorem Run.imp {m : M α} {k k' : α → RS → Hp → Hp → Prop} (h : Run K W m R F H k) (i : ∀ a R' F' H', Grow R R' F H F' H' → RowOk K F' H' R' → k a R' F' H' → k' a R' F' H') : Run K W m R F H k' := by
  unfold Run at h ⊢
  cases e : m R with
  | none => rw [e] at h; exact h
  | some p =>
    obtain ⟨o, R'⟩ := p
    rw [e] at h
    cases o with
    | val a => exact fun F' H' g r => i a R' F' H' g r (h F' H' g r)
    | exn x => exact h
theorem Run.bind {m : M α} {n : α → M β} {k : β → RS → Hp → Hp → Prop} (h : Run K W (m >>= n) R F H k) : Run K W m R F H fun a R' F' H' => Run K W (n a) R' F' H' k := by
  have e0 : (m >>= n) R = M.bnd m n R := rfl
  unfold Run at h ⊢
  rw [e0] at h
  unfold M.bnd at h
  cases e : m R with
  | none => rw [e] at h; exact h
  | some p =>
    obtain ⟨o, R'⟩ := p
    rw [e] at h
    cases o with
    | exn x => exact h
    | val a =>
      intro F' H' g r
      have h' : (match n a R' with
        | some (.val a, R'_1) => ∀ F' H', Grow R R'_1 F H F' H' → RowOk K F' H' R'_1 → k a R'_1 F' H'
        | some (.exn x, R'_1) => ∀ c dd F' H', Grow R R'_1 F H F' H' → RowOk K F' H' R'_1 → RX K F' c dd x → W c dd H'
        | none => False) := h
      show (match n a R' with
        | some (.val a, R'_1) => ∀ F'_1 H'_1, Grow R' R'_1 F' H' F'_1 H'_1 → RowOk K F'_1 H'_1 R'_1 → k a R'_1 F'_1 H'_1
        | some (.exn x, R'_1) => ∀ c dd F'_1 H'_1, Grow R' R'_1 F' H' F'_1 H'_1 → RowOk K F'_1 H'_1 R'_1 → RX K F'_1 c dd x → W c dd H'_1
        | none => False)
      cases e2 : n a R' with
      | none => rw [e2] at h'; exact h'
      | some p2 =>
        obtain ⟨o2, R2⟩ := p2
        rw [e2] at h'
        cases o2 with
        | val b => exact fun F2 H2 g2 r2 => h' F2 H2 (g.trans g2) r2
        | exn x => exact fun c dd F2 H2 g2 r2 => h' c dd F2 H2 (g.trans g2) r2
theorem Run.pure {a : α} {k : α → RS → Hp → Hp → Prop} (h : Run K W (Pure.pure a : M α) R F H k) (s : Same F H) (r : RowOk K F H R) : k a R F H := h F H (Grow.refl s) r
theorem Run.lft {o : Option α} {k : α → RS → Hp → Hp → Prop} (h : Run K W (DL.lft o) R F H k) : ∃ a, o = some a ∧ ∀ F' H', Grow R R F H F' H' → RowOk K F' H' R → k a R F' H' := by
  cases o with
  | none => exact h.elim
  | some a => exact ⟨a, rfl, h⟩
end

/-! ### the judgements -/
/-- an expression's reading, by data -/
def lift (P : Program) (w : World) (K : PySem.W.Frag) (W : XK) (E : Ent) (f : En → M D) : TE := fun σ H Q =>
  ∃ F ρ R, Ok P w K E F σ H ρ R ∧ Run K W (f ρ) R F H fun d R' F' H' => ∀ v, RD P w K F' v d → Q v H'
def liftT (P : Program) (w : World) (K : PySem.W.Frag) (W : XK) (E : Ent) (f : En → M Bool) : TT := fun σ H Q =>
  ∃ F ρ R, Ok P w K E F σ H ρ R ∧ Run K W (f ρ) R F H fun b R' F' H' => Q b H'
def liftA (P : Program) (w : World) (K : PySem.W.Frag) (W : XK) (E : Ent) (f : En → M (List D)) : TA := fun σ H Q =>
  ∃ F ρ R, Ok P w K E F σ H ρ R ∧ Run K W (f ρ) R F H fun ds R' F' H' => ∀ vs, Paired (RD P w K F') vs ds → Q vs H'
def PD (X : Cx) (W : XK) (E : Ent) (e : Expr) (f : En → M D) : Prop := PE X e (lift X.prog X.w X.K W E f)
def PDT (X : Cx) (W : XK) (E : Ent) (e : Expr) (f : En → M Bool) : Prop := PT X e (liftT X.prog X.w X.K W E f)
def PDA (X : Cx) (W : XK) (E : Ent) (es : List Expr) (f : En → M (List D)) : Prop := PA X es (liftA X.prog X.w X.K W E f)
theorem PE.imp {X : Cx} {e : Expr} {t t' : TE} (h : PE X e t) (i : ∀ σ H Q, t' σ H Q → t σ H Q) : PE X e t' := ⟨fun pins s σ H Q I q => h.run pins s σ H Q I (i σ H Q q)⟩
theorem PT.imp {X : Cx} {e : Expr} {t t' : TT} (h : PT X e t) (i : ∀ σ H Q, t' σ H Q → t σ H Q) : PT X e t' := ⟨fun pins s σ H Q I q => h.run pins s σ H Q I (i σ H Q q)⟩
theorem PW.imp {X : Cx} {e : Expr} {t t' : TT} (h : PW X e t) (i : ∀ σ H Q, t' σ H Q → t σ H Q) : PW X e t' := ⟨fun wh pins s σ H Q I q => h.run wh pins s σ H Q I (i σ H Q q)⟩
theorem PA.imp {X : Cx} {e : List Expr} {t t' : TA} (h : PA X e t) (i : ∀ σ H Q, t' σ H Q → t σ H Q) : PA X e t' := ⟨fun pos pins s σ H Q I q => h.run pos pins s σ H Q I (i σ H Q q)⟩
theorem PS.imp {X : Cx} {e : Stmt} {t t' : TS} (h : PS X e t) (i : ∀ D σ H, t' D σ H → t D σ H) : PS X e t' := ⟨fun pins s σ H D I q => h.run pins s σ H D I (i D σ H q)⟩
theorem PSs.imp {X : Cx} {e : List Stmt} {t t' : TS} (h : PSs X e t) (i : ∀ D σ H, t' D σ H → t D σ H) : PSs X e t' := ⟨fun pins s σ H D I q => h.run pins s σ H D I (i D σ H q)⟩
end DL

set_option maxHeartbeats 4000000
namespace DL
open PySem PySem.Spec PyProof.Rows L2
abbrev SZ : Nat := 16777216

/-! ### rules by values, over data -/
structure GrowP (F H F' H' : Hp) : Prop where
  ff : Same F F'
  fh : Same F' H'
  hh : Same H H'
  nn : ∀ a, H a ≠ none → F a = none → F' a = none
theorem GrowP.refl {F H : Hp} (h : Same F H) : GrowP F H F H := ⟨Same.refl F, h, Same.refl H, fun _ _ b => b⟩
theorem GrowP.trans {F H F1 H1 F2 H2 : Hp} (a : GrowP F H F1 H1) (b : GrowP F1 H1 F2 H2) : GrowP F H F2 H2 :=
  ⟨a.ff.trans b.ff, b.fh, a.hh.trans b.hh, fun c h1 h2 => b.nn c (by
    cases e : H c with
    | none => exact absurd e h1
    | some o => rw [a.hh c o e]; simp) (a.nn c h1 h2)⟩
theorem GrowP.g {R : RS} {F H F' H' : Hp} (a : GrowP F H F' H') : Grow R R F H F' H' := Grow.of a.ff a.fh a.hh a.nn
theorem GrowP.row {K : PySem.W.Frag} {R : RS} {F H F' H' : Hp} (a : GrowP F H F' H') (r : RowOk K F H R) : RowOk K F' H' R := by
  refine ⟨?_, r.tb.mv a.ff (fun P q i => ?_) fun P q i => ?_⟩
  · cases R with
    | none => trivial
    | some x =>
      obtain ⟨h1, h2, h3, h4⟩ := r.rw
      exact ⟨a.hh _ _ h1, a.nn _ (by rw [h1]; simp) h2, a.ff.seq h3, h4⟩
  · obtain ⟨o, ps, e, _⟩ := r.tb.2 P q i
    exact a.nn P (by rw [e]; simp) o
  · obtain ⟨o, ps, e, _⟩ := r.tb.2 P q i
    rw [e]; exact a.hh _ _ e
theorem GrowP.new {F H : Hp} {p : Addr} {o : HO} (h : Same F H) (hp : H p = none) : GrowP F H (upd F p o) (upd H p o) := by
  have g := Grow.new (R := none) (o := o) h hp
  exact ⟨g.ff, g.fh, fun b x e => by rw [upd_ne (ne_of_none e hp)]; exact e, fun a h1 h2 => (g.hn a h1 h2).2⟩
def rv2 (P : Program) (w : World) (K : PySem.W.Frag) (r : D → D → Option D) : R2 := fun x y H Q =>
  ∃ F dx dy d, Same F H ∧ RD P w K F x dx ∧ RD P w K F y dy ∧ r dx dy = some d ∧ ∀ v F' H', GrowP F H F' H' → RD P w K F' v d → Q v H'
def rvN (P : Program) (w : World) (K : PySem.W.Frag) (g : List D → Option D) : List V → Hp → VK → Prop := fun vs H Q =>
  ∃ F ds d, Same F H ∧ Paired (RD P w K F) vs ds ∧ g ds = some d ∧ ∀ v F' H', GrowP F H F' H' → RD P w K F' v d → Q v H'
def DOp (X : Cx) (f : Value → Value → Sem Value) (r : D → D → Option D) : Prop := OpR X f (rv2 X.prog X.w X.K r)
def DIx (X : Cx) (r : D → D → Option D) : Prop := IxR X (rv2 X.prog X.w X.K r)
def DCall (X : Cx) (f : Value) (g : List D → Option D) : Prop := CallR X f (rvN X.prog X.w X.K g)
def DMt (X : Cx) (id : String) (g : List D → Option D) : Prop := MtR X id (fun x vs H Q => rvN X.prog X.w X.K g (x :: vs) H Q)

end DL
namespace L2
open PySem PySem.Spec PyProof.Rows DL
section
variable {P : Program} {w : World} {K : PySem.W.Frag} {F H : Hp}
theorem Dp.int_inv {x : V} {i : Int} (h : Dp K F x (.int i)) : x = .int i := by cases h; rfl
theorem Dp.bl_inv {x : V} {b : Bool} (h : Dp K F x (.bool b)) : x = .bl b := by cases h; rfl
theorem Dp.str_inv {x : V} {s : Str} (h : Dp K F x (.str s)) : x = .str s := by cases h; rfl
theorem Dp.non_inv {x : V} (h : Dp K F x .none) : x = .non := by cases h; rfl
theorem Dp.tup_inv {x : V} {ds : List PyData} (h : Dp K F x (.tuple ds)) : ∃ a xs, x = .ref a ∧ SqT K F a xs ∧ DpAll K F xs ds := by cases h with | tup h1 h2 => exact ⟨_, _, rfl, h1, h2⟩
theorem Dp.lst_inv {x : V} {ds : List PyData} (h : Dp K F x (.list ds)) : ∃ a xs, x = .ref a ∧ SqL K F a xs ∧ DpAll K F xs ds := by cases h with | lst h1 h2 => exact ⟨_, _, rfl, h1, h2⟩
theorem DpAll.len : ∀ {xs : List V} {ds : List PyData}, DpAll K F xs ds → xs.length = ds.length
  | _, _, .nil => rfl
  | _, _, .cons _ t => by simp [DpAll.len t]
theorem DpAll.append : ∀ {xs ys : List V} {ds es : List PyData}, DpAll K F xs ds → DpAll K F ys es → DpAll K F (xs ++ ys) (ds ++ es)
  | _, _, _, _, .nil, t => t
  | _, _, _, _, .cons h a, t => .cons h (DpAll.append a t)
theorem DpAll.get : ∀ {xs : List V} {ds : List PyData} {i : Nat} {d : PyData}, DpAll K F xs ds → ds[i]? = some d → ∃ x, xs[i]? = some x ∧ Dp K F x d
  | _, _, _, _, .nil, e => by simp at e
  | _, _, 0, _, .cons h _, e => by simp at e; subst e; exact ⟨_, rfl, h⟩
  | _, _, i + 1, _, .cons _ a, e => by simpa using DpAll.get (i := i) a (by simpa using e)
theorem DpAll.getV : ∀ {xs : List V} {ds : List PyData} {i : Nat} {x : V}, DpAll K F xs ds → xs[i]? = some x → ∃ d, ds[i]? = some d ∧ Dp K F x d
  | _, _, _, _, .nil, e => by simp at e
  | _, _, 0, _, .cons h _, e => by simp at e; subst e; exact ⟨_, rfl, h⟩
  | _, _, i + 1, _, .cons _ a, e => by simpa using DpAll.getV (i := i) a (by simpa using e)
theorem DpAll.drop : ∀ {xs : List V} {ds : List PyData} (n : Nat), DpAll K F xs ds → DpAll K F (xs.drop n) (ds.drop n)
  | _, _, 0, h => h
  | _, _, _ + 1, .nil => .nil
  | _, _, n + 1, .cons _ a => DpAll.drop n a
theorem DpAll.take : ∀ {xs : List V} {ds : List PyData} (n : Nat), DpAll K F xs ds → DpAll K F (xs.take n) (ds.take n)
  | _, _, 0, _ => .nil
  | _, _, _ + 1, .nil => .nil
  | _, _, n + 1, .cons h a => .cons h (DpAll.take n a)
theorem DpAll.rev : ∀ {xs : List V} {ds : List PyData}, DpAll K F xs ds → DpAll K F xs.reverse ds.reverse
  | _, _, .nil => .nil
  | _, _, .cons h a => by rw [List.reverse_cons, List.reverse_cons]; exact DpAll.append (DpAll.rev a) (.cons h .nil)
theorem DpAll.bools : ∀ {xs : List V} {bs : List Bool}, DpAll K F xs (bs.map .bool) → xs = bs.map V.bl
  | _, [], h => by cases h; rfl
  | _, b :: bs, h => by cases h with | cons h1 h2 => rw [Dp.bl_inv h1, DpAll.bools h2]; rfl
theorem DpAll.ints : ∀ {xs : List V} {ns : List Int}, DpAll K F xs (ns.map .int) → xs = ns.map V.int
  | _, [], h => by cases h; rfl
  | _, b :: bs, h => by cases h with | cons h1 h2 => rw [Dp.int_inv h1, DpAll.ints h2]; rfl
theorem DpAll.strs : ∀ {xs : List V} {ns : List Str}, DpAll K F xs (ns.map .str) → xs = ns.map V.str
  | _, [], h => by cases h; rfl
  | _, b :: bs, h => by cases h with | cons h1 h2 => rw [Dp.str_inv h1, DpAll.strs h2]; rfl
mutual
theorem Dp.plain : ∀ {v : V} {d : PyData}, Dp K F v d → d.plain = true
  | _, _, .non => by simp [PyData.plain]
  | _, _, .bl _ => by simp [PyData.plain]
  | _, _, .int _ => by simp [PyData.plain]
  | _, _, .str _ => by simp [PyData.plain]
  | _, _, .lst _ a => by simp only [PyData.plain]; exact DpAll.plain a
  | _, _, .tup _ a => by simp only [PyData.plain]; exact DpAll.plain a
theorem DpAll.plain : ∀ {vs : List V} {ds : List PyData}, DpAll K F vs ds → PyData.plainAll ds = true
  | _, _, .nil => by simp [PyData.plainAll]
  | _, _, .cons h a => by simp only [PyData.plainAll, Bool.and_eq_true]; exact ⟨Dp.plain h, DpAll.plain a⟩
end
theorem Dp.newT {p : Addr} {xs : List V} {ds : List PyData} (s : Same F H) (hp : H p = none) (h : DpAll K F xs ds) : Dp K (upd F p (.tup xs)) (.ref p) (.tuple ds) :=
  .tup (SqT.of upd_same) (DpAll.mono (GrowP.new s hp).ff h)
theorem Dp.newL {p : Addr} {xs : List V} {ds : List PyData} (s : Same F H) (hp : H p = none) (h : DpAll K F xs ds) : Dp K (upd F p (.lst xs)) (.ref p) (.list ds) :=
  .lst (SqL.of upd_same) (DpAll.mono (GrowP.new s hp).ff h)
end

end L2
namespace DL
open PySem PySem.Spec PyProof.Rows L2
/-! ### operators -/
def opAdd : D → D → Option D
  | .dat (.int a), .dat (.int b) => some (.dat (.int (a + b)))
  | .dat (.str a), .dat (.str b) => if a.length + b.length ≤ SZ then some (.dat (.str (a ++ b))) else none
  | .dat (.tuple a), .dat (.tuple b) => if a.length + b.length ≤ SZ then some (.dat (.tuple (a ++ b))) else none
  | .dat (.list a), .dat (.list b) => if a.length + b.length ≤ SZ then some (.dat (.list (a ++ b))) else none
  | _, _ => none
section
variable {X : Cx}
theorem op_catL : OpR X (binaryOp .Add) (fun x y H Q => ∃ l b xs zs, x = .ref l ∧ y = .ref b ∧ SqL X.K H l xs ∧ SqL X.K H b zs ∧ xs.length + zs.length ≤ sizeLine ∧ ∀ p, H p = none → Q (.ref p) (upd H p (.lst (xs ++ zs)))) := by
  intro pins s σ H x y v u Q I rx ry h
  obtain ⟨l, b, xs, zs, rfl, rfl, hH, hB, hz, q⟩ := h
  cases rx
  cases ry
  obtain ⟨its, r, ⟨o1, n, ho, hc, _, hd⟩, z⟩ := I.list hH
  obtain ⟨its2, r2, ⟨o2, n2, ho2, hc2, _, hd2⟩, z2⟩ := I.list hB
  obtain ⟨cls, dd, data, sl⟩ := o1
  obtain ⟨cls2, dd2, data2, sl2⟩ := o2
  simp only at hc hd hc2 hd2
  subst hc hd hc2 hd2
  have hl := r.length
  have hl2 := r2.length
  have e : its.toArray ++ its2.toArray = (its ++ its2).toArray := by simp
  refine concat_meets ⟨_, ho, rfl⟩ ⟨_, ho2, rfl⟩ noFill_list_add seq_list_add PySem.F.slot_list_add PySem.F.entry_list_add (PySem.F.args_list_add_2 _ _) (list_addW l b its.toArray its2.toArray n n2 dd dd2 sl sl2 (by simp; omega)) ⟨ho, ho2, ?_⟩
  rw [e]
  exact ⟨.ref _, _, I.lnew (t' := s.toks) (r.append r2) (by rw [List.length_append]; omega), rfl, q _ I.fresh⟩
theorem sz_eq : SZ = sizeLine := sizeLine_eq.symm
theorem dop_add : DOp X (binaryOp .Add) opAdd := by
  intro pins s σ H x y v u Q I rx ry h
  obtain ⟨F, dx, dy, d, sf, hx, hy, e, q⟩ := h
  unfold opAdd at e
  split at e
  · cases e
    rw [Dp.int_inv hx] at rx; rw [Dp.int_inv hy] at ry
    exact op_add pins s σ H _ _ v u Q I rx ry ⟨_, _, rfl, rfl, q _ F H (.refl sf) (.int _)⟩
  · split at e
    · rename_i hz
      cases e
      rw [Dp.str_inv hx] at rx; rw [Dp.str_inv hy] at ry
      exact op_add_str pins s σ H _ _ v u Q I rx ry ⟨_, _, rfl, rfl, by rw [← sz_eq]; exact hz, q _ F H (.refl sf) (.str _)⟩
    · cases e
  · split at e
    · rename_i hz
      cases e
      obtain ⟨a, xs, rfl, h1, h2⟩ := Dp.tup_inv hx
      obtain ⟨b, ys, rfl, h3, h4⟩ := Dp.tup_inv hy
      have l1 := h2.len
      have l2 := h4.len
      refine op_catA pins s σ H _ _ v u Q I rx ry ⟨a, b, xs, ys, rfl, rfl, sf.tup h1, sf.tup h3, by rw [← sz_eq]; omega, fun e => ?_, fun _ e => ?_, fun _ _ p hp => ?_⟩
      · subst e
        cases h2
        exact q _ F H (.refl sf) hy
      · subst e
        cases h4
        rw [List.append_nil] at q
        exact q _ F H (.refl sf) hx
      · exact q _ _ _ (.new sf hp) (Dp.newT sf hp (h2.append h4))
    · cases e
  · split at e
    · rename_i hz
      cases e
      obtain ⟨a, xs, rfl, h1, h2⟩ := Dp.lst_inv hx
      obtain ⟨b, ys, rfl, h3, h4⟩ := Dp.lst_inv hy
      have l1 := h2.len
      have l2 := h4.len
      refine op_catL pins s σ H _ _ v u Q I rx ry ⟨a, b, xs, ys, rfl, rfl, sf.seq h1, sf.seq h3, by rw [← sz_eq]; omega, fun p hp => ?_⟩
      exact q _ _ _ (.new sf hp) (Dp.newL sf hp (h2.append h4))
    · cases e
  · cases e
/-- ints alone -/
def opII (c : Int → Int → Bool) (g : Int → Int → Int) : D → D → Option D
  | .dat (.int a), .dat (.int b) => if c a b then some (.dat (.int (g a b))) else none
  | _, _ => none
theorem dop_II {f : Value → Value → Sem Value} {C : Int → Int → Prop} {c : Int → Int → Bool} {g : Int → Int → Int} (ho : OpR X f (rI C fun i j => .int (g i j))) (hc : ∀ i j, c i j = true → C i j) : DOp X f (opII c g) := by
  intro pins s σ H x y v u Q I rx ry h
  obtain ⟨F, dx, dy, d, sf, hx, hy, e, q⟩ := h
  unfold opII at e
  split at e
  · split at e
    · rename_i hz
      cases e
      rw [Dp.int_inv hx] at rx; rw [Dp.int_inv hy] at ry
      exact ho pins s σ H _ _ v u Q I rx ry ⟨_, _, rfl, rfl, hc _ _ hz, q _ F H (.refl sf) (.int _)⟩
    · cases e
  · cases e
theorem opR_C {f : Value → Value → Sem Value} {g : Int → Int → Int} (ho : OpR X f (rI0 fun i j => .int (g i j))) : OpR X f (rI (fun _ _ => True) fun i j => .int (g i j)) := fun pins s σ H x y v u Q I rx ry ⟨i, j, e1, e2, _, q⟩ => ho pins s σ H x y v u Q I rx ry ⟨i, j, e1, e2, q⟩
abbrev opSub := opII (fun _ _ => true) (fun i j => i - j)
abbrev opFdiv := opII (fun _ j => decide (0 < j ∧ j < 1073741824)) (fun i j => i / j)
abbrev opMod := opII (fun _ j => decide (0 < j)) (fun i j => i % j)
abbrev opPow := opII (fun i j => decide (0 ≤ j ∧ j ≤ 1000000 ∧ i.natAbs < 2 ^ 64)) (fun i j => i ^ j.toNat)
abbrev opShl := opII (fun i j => decide (0 ≤ j ∧ j ≤ 1000000 ∧ i.natAbs < 2 ^ 64)) (fun i j => i * 2 ^ j.toNat)
abbrev opShr := opII (fun _ j => decide (0 ≤ j)) (fun i j => i / 2 ^ j.toNat)
abbrev opBand := opII (fun _ _ => true) (fun i j => Builtin.bitAnd i j)
theorem dop_sub : DOp X (binaryOp .Sub) opSub := dop_II (opR_C op_sub) fun _ _ _ => trivial
theorem dop_fdiv : DOp X (binaryOp .FloorDiv) opFdiv := dop_II op_fdiv fun _ _ h => by simpa [CDiv, CPow] using h
theorem dop_mod : DOp X (binaryOp .Mod) opMod := dop_II op_mod fun _ _ h => by simpa [CDiv, CPow] using h
theorem dop_pow : DOp X (binaryOp .Pow) opPow := dop_II op_pow fun _ _ h => by simpa [CDiv, CPow] using h
theorem dop_shl : DOp X (binaryOp .LShift) opShl := dop_II op_shl fun _ _ h => by simpa [CDiv, CPow] using h
theorem dop_shr : DOp X (binaryOp .RShift) opShr := dop_II op_shr fun _ _ h => by simpa [CDiv, CPow] using h
theorem dop_band : DOp X (binaryOp .BitAnd) opBand := dop_II (opR_C op_and) fun _ _ _ => trivial

/-! ### comparisons -/
theorem rd_reads {pins : List (Addr × Obj)} {s : Shared} {σ : L2.St} {H F : Hp} {v : V} {u : Value} {d : PyData} (I : Inv X pins σ H s) (sf : Same F H) (h : Dp X.K F v d) (r : RelV v u) : ∃ as, Reads s.heap u d as := Dp.reads I d v u (Dp.mono sf h) r
def cmpD (c : PyData → PyData → Bool) (g : PyData → PyData → Bool) : D → D → Option D
  | .dat a, .dat b => if c a b then some (.dat (.bool (g a b))) else none
  | _, _ => none
def near (a b : PyData) : Bool := decide (min a.depth b.depth ≤ 60)
abbrev opEq := cmpD near PyData.eqv
abbrev opNe := cmpD near fun a b => !PyData.eqv a b
def ordOk (a b : PyData) : Bool := near a b && W.alike a b && (match a with | .none => false | _ => true)
abbrev opLt := cmpD ordOk W.dataLt
abbrev opGt := cmpD ordOk fun a b => W.dataLt b a
abbrev opLe := cmpD ordOk fun a b => !W.dataLt b a
abbrev opGe := cmpD ordOk fun a b => !W.dataLt a b
theorem dcmp {op : CmpOp} {c g : PyData → PyData → Bool} (hu : X.A.units + 64 < cLine)
    (rule : ∀ (s : Shared) (a b : Value) (da db : PyData) (as bs : List Addr) (Q : Value → Shared → Prop), Reads s.heap a da as → Reads s.heap b db bs → da.plain = true → db.plain = true → c da db = true → Q (.bool (g da db)) s → wpAny (model X.prog X.w) X.A (compareOp op a b) Q X.xe s) :
    DOp X (compareOp op) (cmpD c g) := by
  intro pins s σ H x y v u Q I rx ry h
  obtain ⟨F, dx, dy, d, sf, hx, hy, e, q⟩ := h
  unfold cmpD at e
  split at e
  · split at e
    · rename_i hz
      cases e
      obtain ⟨as, r1⟩ := rd_reads I sf hx rx
      obtain ⟨bs, r2⟩ := rd_reads I sf hy ry
      exact rule s v u _ _ as bs _ r1 r2 (Dp.plain hx) (Dp.plain hy) hz ⟨.bl _, H, I, rfl, q _ F H (.refl sf) (.bl _)⟩
    · cases e
  · cases e
theorem near_units {a b : PyData} (hu : X.A.units + 64 < cLine) (h : near a b = true) : X.A.units + min a.depth b.depth < cLine := by
  have := of_decide_eq_true h
  omega
theorem dop_eq (hu : X.A.units + 64 < cLine) : DOp X (compareOp .Eq) opEq := dcmp hu fun _ _ _ _ _ _ _ _ r1 r2 p1 p2 h q => SeqAt.eq_plain r1 r2 p1 p2 (near_units hu h) q
theorem dop_ne (hu : X.A.units + 64 < cLine) : DOp X (compareOp .NotEq) opNe := dcmp hu fun _ _ _ _ _ _ _ _ r1 r2 p1 p2 h q => SeqAt.ne_plain r1 r2 p1 p2 (near_units hu h) q
theorem ord_ok {a b : PyData} (h : ordOk a b = true) : near a b = true ∧ W.alike a b = true ∧ a ≠ .none := by
  unfold ordOk at h
  simp only [Bool.and_eq_true] at h
  refine ⟨h.1.1, h.1.2, fun e => ?_⟩
  subst e
  exact absurd h.2 (by decide)
theorem dop_lt (hu : X.A.units + 64 < cLine) : DOp X (compareOp .Lt) opLt := dcmp hu fun _ _ _ _ _ _ _ _ r1 r2 p1 p2 h q => let ⟨h1, h2, h3⟩ := ord_ok h; W.lt_data r1 r2 h2 h3 (near_units hu h1) q
theorem dop_gt (hu : X.A.units + 64 < cLine) : DOp X (compareOp .Gt) opGt := dcmp hu fun _ _ _ _ _ _ _ _ r1 r2 p1 p2 h q => let ⟨h1, h2, h3⟩ := ord_ok h; W.gt_data r1 r2 h2 h3 (near_units hu h1) q
theorem dop_le (hu : X.A.units + 64 < cLine) : DOp X (compareOp .LtE) opLe := dcmp hu fun _ _ _ _ _ _ _ _ r1 r2 p1 p2 h q => let ⟨h1, h2, h3⟩ := ord_ok h; W.le_data r1 r2 h2 h3 (near_units hu h1) q
theorem dop_ge (hu : X.A.units + 64 < cLine) : DOp X (compareOp .GtE) opGe := dcmp hu fun _ _ _ _ _ _ _ _ r1 r2 p1 p2 h q => let ⟨h1, h2, h3⟩ := ord_ok h; W.ge_data r1 r2 h2 h3 (near_units hu h1) q
end
end DL

set_option maxHeartbeats 4000000
namespace DL
open PySem PySem.Spec PyProof.Rows L2

/-! ### denotations of expressions -/
def eV (i : Nat) : En → M D := fun ρ => match ρ[i]? with
  | some (.val d) => pure d
  | _ => stk
def eC (d : D) : En → M D := fun _ => pure d
def e1 (r : D → Option D) (a : En → M D) : En → M D := fun ρ => do let x ← a ρ; lft (r x)
def e2 (r : D → D → Option D) (a b : En → M D) : En → M D := fun ρ => do let x ← a ρ; let y ← b ρ; lft (r x y)
def asB : D → Option Bool
  | .dat (.bool b) => some b
  | _ => none
def dB (b : Bool) : D := .dat (.bool b)
def eAnd (a b : En → M D) : En → M D := fun ρ => do let x ← a ρ; let c ← lft (asB x); if c = true then b ρ else pure (dB false)
def eOr (a b : En → M D) : En → M D := fun ρ => do let x ← a ρ; let c ← lft (asB x); if c = true then pure (dB true) else b ρ
def eNot (a : En → M D) : En → M D := fun ρ => do let x ← a ρ; let c ← lft (asB x); pure (dB !c)
def eIf (c : En → M Bool) (a b : En → M D) : En → M D := fun ρ => do let x ← c ρ; if x = true then a ρ else b ρ
def bE (a : En → M D) : En → M Bool := fun ρ => do let x ← a ρ; lft (asB x)
def bAnd (a b : En → M Bool) : En → M Bool := fun ρ => do let x ← a ρ; if x = true then b ρ else pure false
def bOr (a b : En → M Bool) : En → M Bool := fun ρ => do let x ← a ρ; if x = true then pure true else b ρ
def bNot (a : En → M Bool) : En → M Bool := fun ρ => do let x ← a ρ; pure !x
def aNil : En → M (List D) := fun _ => pure []
def aCons (a : En → M D) (r : En → M (List D)) : En → M (List D) := fun ρ => do let x ← a ρ; let xs ← r ρ; pure (x :: xs)
def eN (g : List D → Option D) (a : En → M (List D)) : En → M D := fun ρ => do let xs ← a ρ; lft (g xs)
/-- chain a op b op' c -/
def eCh (r r' : D → D → Option D) (a b c : En → M D) : En → M D := fun ρ => do
  let x ← a ρ; let y ← b ρ; let z ← lft (r x y); let k ← lft (asB z)
  if k = true then (do let w ← c ρ; let z' ← lft (r' y w); let k' ← lft (asB z'); pure (dB k')) else pure (dB false)
/-- all data -/
def dats : List D → Option (List PyData)
  | [] => some []
  | .dat x :: r => (dats r).map (x :: ·)
  | _ :: _ => none
def gTupD (ds : List D) : Option D := (dats ds).bind fun xs => if xs.length ≤ SZ then some (.dat (.tuple xs)) else none
def gLstD (ds : List D) : Option D := (dats ds).bind fun xs => if xs.length ≤ SZ then some (.dat (.list xs)) else none

section
variable {X : Cx} {W : XK} {E : Ent} {pos : Pos}
theorem paired_dats {P : Program} {w : World} {K : PySem.W.Frag} {F : Hp} : ∀ {vs : List V} {ds : List D} {xs : List PyData}, Paired (RD P w K F) vs ds → dats ds = some xs → DpAll K F vs xs
  | _, _, _, .nil, e => by cases e; exact .nil
  | _, _, _, .cons (b := d) h t, e => by
    cases d with
    | dat x =>
      unfold dats at e
      obtain ⟨ys, e1, e2⟩ := Option.map_eq_some_iff.mp e
      subst e2
      exact .cons h (paired_dats t e1)
    | _ => cases e
theorem paired_mono {P : Program} {w : World} {K : PySem.W.Frag} {F F' : Hp} (s : Same F F') : ∀ {vs : List V} {ds : List D}, Paired (RD P w K F) vs ds → Paired (RD P w K F') vs ds
  | _, _, .nil => .nil
  | _, _, .cons h t => .cons (RD.mono s h) (paired_mono s t)

theorem pd_var (i : Nat) {x : Str} (h : PE X (.Name x pos) (tVar i)) : PD X W E (.Name x pos) (eV i) := by
  refine PE.imp h fun σ H Q hl => ?_
  obtain ⟨F, ρ, R, ok, run⟩ := hl
  unfold eV at run
  cases e : ρ[i]? with
  | none => rw [e] at run; exact run.elim
  | some sv =>
    rw [e] at run
    cases sv with
    | val d =>
      obtain ⟨v, h1, h2⟩ := ok.sl i _ e
      exact ⟨v, h1, run.pure ok.g.fh ok.row v h2⟩
    | no => exact run.elim
    | own _ => exact run.elim
theorem pd_const {e : Expr} {v : V} {x : PyData} (h : PE X e (tC v)) (hv : ∀ F, Dp X.K F v x) : PD X W E e (eC (.dat x)) := by
  refine PE.imp h fun σ H Q hl => ?_
  obtain ⟨F, ρ, R, ok, run⟩ := hl
  exact run.pure ok.g.fh ok.row v (hv F)
theorem pd_int {i j} : PD X W E (.Constant (.int i) j pos) (eC (.dat (.int i))) := pd_const pe_int fun _ => .int i
theorem pd_bl {b j} : PD X W E (.Constant (.bool b) j pos) (eC (.dat (.bool b))) := pd_const pe_bl fun _ => .bl b
theorem pd_non {j} : PD X W E (.Constant .none j pos) (eC (.dat .none)) := pd_const pe_non fun _ => .non
theorem pd_str {x j} : PD X W E (.Constant (.str x) j pos) (eC (.dat (.str x))) := pd_const pe_str fun _ => .str x
/-- a module's constant -/
theorem pd_glob {x : Str} {v : V} {u : Value} {d : PyData} (hg : Gl X x) (hm : X.mg x = some u) (r : RelV v u) (hv : ∀ F, Dp X.K F v d) (hd : (x == ("__debug__" : Str)) = false := by decide) : PD X W E (.Name x pos) (eC (.dat d)) :=
  pd_const (pe_glob hg hm r hd) hv

theorem pd_op2 {e : Expr} {r : D → D → Option D} {a b : Expr} {fa fb : En → M D} (h : PE X e (tOp (rv2 X.prog X.w X.K r) (lift X.prog X.w X.K W E fa) (lift X.prog X.w X.K W E fb))) : PD X W E e (e2 r fa fb) := by
  refine PE.imp h fun σ H Q hl => ?_
  obtain ⟨F, ρ, R, ok, run⟩ := hl
  refine ⟨F, ρ, R, ok, run.bind.imp fun dx R1 F1 H1 g1 r1 h1 vx rx => ?_⟩
  have ok1 := ok.grow g1 r1
  refine ⟨F1, ρ, R1, ok1, h1.bind.imp fun dy R2 F2 H2 g2 r2 h2 vy ry => ?_⟩
  obtain ⟨d, e, h3⟩ := h2.lft
  exact ⟨F2, dx, dy, d, g2.fh, rx.mono g2.ff, ry, e, fun v F' H' gp rd => h3 F' H' gp.g (gp.row r2) v rd⟩
theorem pd_bin {op : Operator} {r : D → D → Option D} {a b : Expr} {fa fb : En → M D} (ho : DOp X (binaryOp op) r) (ha : PD X W E a fa) (hb : PD X W E b fb) : PD X W E (.BinOp a op b pos) (e2 r fa fb) :=
  pd_op2 (a := a) (b := b) (pe_op ho ha hb)
theorem pd_cmp {op : CmpOp} {r : D → D → Option D} {a b : Expr} {fa fb : En → M D} (ho : DOp X (compareOp op) r) (ha : PD X W E a fa) (hb : PD X W E b fb) (hm : behindInMarks op b = false) : PD X W E (.Compare a [op] [b] pos) (e2 r fa fb) :=
  pd_op2 (a := a) (b := b) (pe_cmpR ho ha hb hm)
theorem pd_sub0 {r : D → D → Option D} {a b : Expr} {fa fb : En → M D} (ho : DIx X r) (ha : PD X W E a fa) (hb : PD X W E b fb) (hs : PlainIx b) : PD X W E (.Subscript a b pos) (e2 r fa fb) :=
  pd_op2 (a := a) (b := b) (pe_ix ho ha hb hs)

/-! tests -/
theorem pdt_of {e : Expr} {t : TE} {f : En → M D} (h : PT X e (tTest t)) (i : ∀ σ H Q, lift X.prog X.w X.K W E f σ H Q → t σ H Q) : PDT X W E e (bE f) := by
  refine PT.imp h fun σ H Q hl => i σ H _ ?_
  obtain ⟨F, ρ, R, ok, run⟩ := hl
  refine ⟨F, ρ, R, ok, run.bind.imp fun d R1 F1 H1 g1 r1 h1 v rv => ?_⟩
  obtain ⟨b, e, h3⟩ := h1.lft
  have q := h3 F1 H1 (Grow.refl g1.fh) r1
  cases d with
  | dat x =>
    cases x with
    | bool c => cases e; exact ⟨_, Dp.bl_inv rv, q⟩
    | _ => cases e
  | _ => cases e
/-- an expression that is no Compare, no BoolOp and no not -/
theorem pdt_val {e : Expr} {f : En → M D} (h : PD X W E e f) (he : ∀ whole, isTrue e X.env whole = (do let v ← whole; standAt e.pos; holding [v] (truthy v)) := by intro _; rfl) : PDT X W E e (bE f) :=
  pdt_of (PT.imp (pt_val h he) fun σ H Q hl => hl) fun _ _ _ x => x
theorem lift_op2 {r : D → D → Option D} {fa fb : En → M D} {σ : L2.St} {H : Hp} {Q : VK} (hl : lift X.prog X.w X.K W E (e2 r fa fb) σ H Q) : tOp (rv2 X.prog X.w X.K r) (lift X.prog X.w X.K W E fa) (lift X.prog X.w X.K W E fb) σ H Q := by
  obtain ⟨F, ρ, R, ok, run⟩ := hl
  refine ⟨F, ρ, R, ok, run.bind.imp fun dx R1 F1 H1 g1 r1 h1 vx rx => ?_⟩
  have ok1 := ok.grow g1 r1
  refine ⟨F1, ρ, R1, ok1, h1.bind.imp fun dy R2 F2 H2 g2 r2 h2 vy ry => ?_⟩
  obtain ⟨d, e, h3⟩ := h2.lft
  exact ⟨F2, dx, dy, d, g2.fh, rx.mono g2.ff, ry, e, fun v F' H' gp rd => h3 F' H' gp.g (gp.row r2) v rd⟩
theorem pdt_cmp {op : CmpOp} {r : D → D → Option D} {a b : Expr} {fa fb : En → M D} (ho : DOp X (compareOp op) r) (ha : PD X W E a fa) (hb : PD X W E b fb) (hm : behindInMarks op b = false) : PDT X W E (.Compare a [op] [b] pos) (bE (e2 r fa fb)) :=
  pdt_of (pt_cmpR ho ha hb hm) fun _ _ _ => lift_op2
theorem lift_ch {r r' : D → D → Option D} {fa fb fc : En → M D} {σ : L2.St} {H : Hp} {Q : VK} (hr : ∀ x y z, r x y = some z → ∃ k, z = dB k) (hr' : ∀ x y z, r' x y = some z → ∃ k, z = dB k)
    (hl : lift X.prog X.w X.K W E (eCh r r' fa fb fc) σ H Q) : tChain (rv2 X.prog X.w X.K r) (rv2 X.prog X.w X.K r') (lift X.prog X.w X.K W E fa) (lift X.prog X.w X.K W E fb) (lift X.prog X.w X.K W E fc) σ H Q := by
  obtain ⟨F, ρ, R, ok, run⟩ := hl
  refine ⟨F, ρ, R, ok, run.bind.imp fun dx R1 F1 H1 g1 r1 h1 vx rx => ?_⟩
  have ok1 := ok.grow g1 r1
  refine ⟨F1, ρ, R1, ok1, h1.bind.imp fun dy R2 F2 H2 g2 r2 h2 vy ry => ?_⟩
  have ok2 := ok1.grow g2 r2
  obtain ⟨z, e, h3⟩ := h2.bind.lft
  refine ⟨F2, dx, dy, z, g2.fh, rx.mono g2.ff, ry, e, fun v F3 H3 gp rd => ?_⟩
  obtain ⟨k, e4, h4⟩ := (h3 F3 H3 gp.g (gp.row r2)).bind.lft
  have r3 : RowOk X.K F3 H3 R2 := gp.row r2
  have q := h4 F3 H3 (Grow.refl gp.fh) r3
  obtain ⟨k', hz⟩ := hr _ _ _ e
  subst hz
  have e5 : k' = k := by cases e4; rfl
  subst e5
  refine ⟨k', Dp.bl_inv rd, ?_⟩
  cases k' with
  | false => exact Run.pure q gp.fh r3 _ (.bl _)
  | true =>
    have ok3 := ok2.grow gp.g r3
    refine ⟨F3, ρ, R2, ok3, (show Run _ _ (fc ρ >>= _) _ _ _ _ from q).bind.imp fun dw R4 F4 H4 g4 r4 h5 vw rw4 => ?_⟩
    obtain ⟨z', e6, h6⟩ := h5.bind.lft
    obtain ⟨k2, hz2⟩ := hr' _ _ _ e6
    subst hz2
    refine ⟨F4, dy, dw, _, g4.fh, (ry.mono gp.ff).mono g4.ff, rw4, e6, fun v F' H' gp' rd' => ?_⟩
    obtain ⟨k3, e7, h7⟩ := (h6 F' H' gp'.g (gp'.row r4)).bind.lft
    cases e7
    exact Run.pure (h7 F' H' (Grow.refl gp'.fh) (gp'.row r4)) gp'.fh (gp'.row r4) v rd'
theorem pd_chain {op op' : CmpOp} {r r' : D → D → Option D} {a b c : Expr} {fa fb fc : En → M D} (hr : ∀ x y z, r x y = some z → ∃ k, z = dB k) (hr' : ∀ x y z, r' x y = some z → ∃ k, z = dB k) (ho : DOp X (compareOp op) r) (ho' : DOp X (compareOp op') r') (ha : PD X W E a fa) (hb : PD X W E b fb) (hc : PD X W E c fc)
    (hm : lastMarks [op, op'] [b, c] = false := by with_unfolding_all rfl) : PD X W E (.Compare a [op, op'] [b, c] pos) (eCh r r' fa fb fc) :=
  PE.imp (pe_chain ho ho' ha hb hc hm) fun _ _ _ => lift_ch hr hr'
theorem pdt_chain {op op' : CmpOp} {r r' : D → D → Option D} {a b c : Expr} {fa fb fc : En → M D} (hr : ∀ x y z, r x y = some z → ∃ k, z = dB k) (hr' : ∀ x y z, r' x y = some z → ∃ k, z = dB k) (ho : DOp X (compareOp op) r) (ho' : DOp X (compareOp op') r') (ha : PD X W E a fa) (hb : PD X W E b fb) (hc : PD X W E c fc)
    (hm : lastMarks [op, op'] [b, c] = false := by with_unfolding_all rfl) : PDT X W E (.Compare a [op, op'] [b, c] pos) (bE (eCh r r' fa fb fc)) :=
  pdt_of (pt_chain ho ho' ha hb hc hm) fun _ _ _ => lift_ch hr hr'
theorem cmpD_bool {c g : PyData → PyData → Bool} : ∀ x y z, cmpD c g x y = some z → ∃ k, z = dB k := fun x y z h => by
  unfold cmpD at h
  split at h
  · split at h
    · cases h; exact ⟨_, rfl⟩
    · cases h
  · cases h

/-! and, or, not -/
theorem asB_inv {d : D} {b : Bool} (h : asB d = some b) : d = dB b := by
  unfold asB at h
  split at h
  · cases h; rfl
  · cases h
theorem pd_one {op : BoolOp} {a : Expr} {fa : En → M D} (ha : PD X W E a fa) : PD X W E (.BoolOp op [a] pos) fa := pe_one ha
theorem pd_and {a b : Expr} {rest : List Expr} {fa fb : En → M D} (ha : PD X W E a fa) (hb : PD X W E (.BoolOp .And (b :: rest) pos) fb) : PD X W E (.BoolOp .And (a :: b :: rest) pos) (eAnd fa fb) := by
  refine PE.imp (pe_and ha hb) fun σ H Q hl => ?_
  obtain ⟨F, ρ, R, ok, run⟩ := hl
  refine ⟨F, ρ, R, ok, run.bind.imp fun dx R1 F1 H1 g1 r1 h1 vx rx => ?_⟩
  obtain ⟨c, e, h2⟩ := h1.bind.lft
  have q := h2 F1 H1 (Grow.refl g1.fh) r1
  rw [asB_inv e] at rx
  refine ⟨c, Dp.bl_inv rx, ?_⟩
  cases c with
  | true => exact ⟨F1, ρ, R1, ok.grow g1 r1, q⟩
  | false => exact Run.pure q g1.fh r1 _ (.bl _)
theorem pd_or {a b : Expr} {rest : List Expr} {fa fb : En → M D} (ha : PD X W E a fa) (hb : PD X W E (.BoolOp .Or (b :: rest) pos) fb) : PD X W E (.BoolOp .Or (a :: b :: rest) pos) (eOr fa fb) := by
  refine PE.imp (pe_or ha hb) fun σ H Q hl => ?_
  obtain ⟨F, ρ, R, ok, run⟩ := hl
  refine ⟨F, ρ, R, ok, run.bind.imp fun dx R1 F1 H1 g1 r1 h1 vx rx => ?_⟩
  obtain ⟨c, e, h2⟩ := h1.bind.lft
  have q := h2 F1 H1 (Grow.refl g1.fh) r1
  rw [asB_inv e] at rx
  refine ⟨c, Dp.bl_inv rx, ?_⟩
  cases c with
  | true => exact Run.pure q g1.fh r1 _ (.bl _)
  | false => exact ⟨F1, ρ, R1, ok.grow g1 r1, q⟩
theorem pd_not {a : Expr} {fa : En → M D} (ha : PD X W E a fa) : PD X W E (.UnaryOp .Not a pos) (eNot fa) := by
  refine PE.imp (pe_not ha) fun σ H Q hl => ?_
  obtain ⟨F, ρ, R, ok, run⟩ := hl
  refine ⟨F, ρ, R, ok, run.bind.imp fun dx R1 F1 H1 g1 r1 h1 vx rx => ?_⟩
  obtain ⟨c, e, h2⟩ := h1.bind.lft
  have q := h2 F1 H1 (Grow.refl g1.fh) r1
  rw [asB_inv e] at rx
  exact ⟨c, Dp.bl_inv rx, Run.pure q g1.fh r1 _ (.bl _)⟩
def PDW (X : Cx) (W : XK) (E : Ent) (e : Expr) (f : En → M Bool) : Prop := PW X e (liftT X.prog X.w X.K W E f)
theorem pdt_bool {e : Expr} {f : En → M Bool} (h : PDW X W E e f) : PDT X W E e f := PW.pt h
theorem pdw_and1 {a : Expr} {fa : En → M Bool} (ha : PDT X W E a fa) : PDW X W E (.BoolOp .And [a] pos) fa := pw_and1 ha
theorem pdw_or1 {a : Expr} {fa : En → M Bool} (ha : PDT X W E a fa) : PDW X W E (.BoolOp .Or [a] pos) fa := pw_or1 ha
theorem pdw_and {a b : Expr} {rest : List Expr} {fa fb : En → M Bool} (ha : PDT X W E a fa) (hb : PDW X W E (.BoolOp .And (b :: rest) pos) fb) : PDW X W E (.BoolOp .And (a :: b :: rest) pos) (bAnd fa fb) := by
  refine PW.imp (pw_and ha hb) fun σ H Q hl => ?_
  obtain ⟨F, ρ, R, ok, run⟩ := hl
  refine ⟨F, ρ, R, ok, run.bind.imp fun c R1 F1 H1 g1 r1 h1 => ?_⟩
  cases c with
  | true => exact ⟨F1, ρ, R1, ok.grow g1 r1, h1⟩
  | false => exact Run.pure h1 g1.fh r1
theorem pdw_or {a b : Expr} {rest : List Expr} {fa fb : En → M Bool} (ha : PDT X W E a fa) (hb : PDW X W E (.BoolOp .Or (b :: rest) pos) fb) : PDW X W E (.BoolOp .Or (a :: b :: rest) pos) (bOr fa fb) := by
  refine PW.imp (pw_or ha hb) fun σ H Q hl => ?_
  obtain ⟨F, ρ, R, ok, run⟩ := hl
  refine ⟨F, ρ, R, ok, run.bind.imp fun c R1 F1 H1 g1 r1 h1 => ?_⟩
  cases c with
  | true => exact Run.pure h1 g1.fh r1
  | false => exact ⟨F1, ρ, R1, ok.grow g1 r1, h1⟩
theorem pdt_not {a : Expr} {fa : En → M Bool} (ha : PDT X W E a fa) : PDT X W E (.UnaryOp .Not a pos) (bNot fa) := by
  refine PT.imp (pt_not ha) fun σ H Q hl => ?_
  obtain ⟨F, ρ, R, ok, run⟩ := hl
  exact ⟨F, ρ, R, ok, run.bind.imp fun c R1 F1 H1 g1 r1 h1 => Run.pure h1 g1.fh r1⟩
theorem pd_if {c a b : Expr} {fc : En → M Bool} {fa fb : En → M D} (hc : PDT X W E c fc) (ha : PD X W E a fa) (hb : PD X W E b fb) : PD X W E (.IfExp c a b pos) (eIf fc fa fb) := by
  refine PE.imp (pe_ifExp hc ha hb) fun σ H Q hl => ?_
  obtain ⟨F, ρ, R, ok, run⟩ := hl
  refine ⟨F, ρ, R, ok, run.bind.imp fun c R1 F1 H1 g1 r1 h1 => ?_⟩
  cases c with
  | true => exact ⟨F1, ρ, R1, ok.grow g1 r1, h1⟩
  | false => exact ⟨F1, ρ, R1, ok.grow g1 r1, h1⟩

/-! argument lists, displays -/
theorem pda_nil : PDA X W E [] aNil := PA.imp pa_nil fun σ H Q hl => by
  obtain ⟨F, ρ, R, ok, run⟩ := hl
  exact Run.pure run ok.g.fh ok.row [] .nil
theorem pda_cons {e : Expr} {es : List Expr} {fa : En → M D} {fr : En → M (List D)} (ha : PD X W E e fa) (hr : PDA X W E es fr) (hs : starEach (e :: es) X.env = (false, eval e X.env) :: starEach es X.env := by rfl) : PDA X W E (e :: es) (aCons fa fr) := by
  refine PA.imp (pa_cons ha hr hs) fun σ H Q hl => ?_
  obtain ⟨F, ρ, R, ok, run⟩ := hl
  refine ⟨F, ρ, R, ok, run.bind.imp fun dx R1 F1 H1 g1 r1 h1 vx rx => ?_⟩
  refine ⟨F1, ρ, R1, ok.grow g1 r1, h1.bind.imp fun ds R2 F2 H2 g2 r2 h2 vs rs => ?_⟩
  exact Run.pure h2 g2.fh r2 _ (.cons (rx.mono g2.ff) rs)
theorem pd_tup {es : List Expr} {k} {fr : En → M (List D)} (h : PDA X W E es fr) : PD X W E (.Tuple es k pos) (eN gTupD fr) := by
  refine PE.imp (pe_tup h) fun σ H Q hl => ?_
  obtain ⟨F, ρ, R, ok, run⟩ := hl
  refine ⟨F, ρ, R, ok, run.bind.imp fun ds R1 F1 H1 g1 r1 h1 vs rs => ?_⟩
  obtain ⟨d, e, h2⟩ := h1.lft
  obtain ⟨xs, e1, e3⟩ := Option.bind_eq_some_iff.mp e
  have q := paired_dats rs e1
  split at e3
  · rename_i hz
    cases e3
    refine ⟨by rw [q.len, ← sz_eq]; exact hz, fun p hp => ?_⟩
    have gp := GrowP.new (o := .tup vs) g1.fh hp
    exact h2 _ _ gp.g (gp.row r1) _ (Dp.newT g1.fh hp q)
  · cases e3
theorem pd_lst {es : List Expr} {fr : En → M (List D)} (h : PDA X W E es fr) : PD X W E (.List es pos) (eN gLstD fr) := by
  refine PE.imp (pe_lst h) fun σ H Q hl => ?_
  obtain ⟨F, ρ, R, ok, run⟩ := hl
  refine ⟨F, ρ, R, ok, run.bind.imp fun ds R1 F1 H1 g1 r1 h1 vs rs => ?_⟩
  obtain ⟨d, e, h2⟩ := h1.lft
  obtain ⟨xs, e1, e3⟩ := Option.bind_eq_some_iff.mp e
  have q := paired_dats rs e1
  split at e3
  · rename_i hz
    cases e3
    refine ⟨by rw [q.len, ← sz_eq]; exact hz, fun p hp => ?_⟩
    have gp := GrowP.new (o := .lst vs) g1.fh hp
    exact h2 _ _ gp.g (gp.row r1) _ (Dp.newL g1.fh hp q)
  · cases e3

/-! calls of built-ins -/
theorem lift_call {g : List D → Option D} {fr : En → M (List D)} {σ : L2.St} {H : Hp} {Q : VK} (hl : lift X.prog X.w X.K W E (eN g fr) σ H Q) : tCB (rvN X.prog X.w X.K g) (liftA X.prog X.w X.K W E fr) σ H Q := by
  obtain ⟨F, ρ, R, ok, run⟩ := hl
  refine ⟨F, ρ, R, ok, run.bind.imp fun ds R1 F1 H1 g1 r1 h1 vs rs => ?_⟩
  obtain ⟨d, e, h2⟩ := h1.lft
  exact ⟨F1, ds, d, g1.fh, rs, e, fun v F' H' gp rd => h2 F' H' gp.g (gp.row r1) v rd⟩
theorem pd_callB {x : Str} {id : String} {p : Pos} {e : Expr} {es : List Expr} {g : List D → Option D} {fr : En → M (List D)} (hc : DCall X (.builtin id) g) (hg : Gl X x) (hm : X.mg x = none) (hv : bootBuiltins x = some (.builtin id)) (ha : PDA X W E (e :: es) fr) (hn : x ≠ "__name__" := by decide) (hdb : (x == ("__debug__" : Str)) = false := by decide)
    (he : starEach (e :: es) X.env = (false, eval e X.env) :: starEach es X.env := by rfl) (hpl : (backTo pos (starEach es X.env)).any (·.1) = false := by rfl) : PD X W E (.Call (.Name x p) (e :: es) [] pos) (eN g fr) :=
  PE.imp (pe_callB hc hg hm hv ha hn hdb he hpl) fun _ _ _ => lift_call
theorem pd_callTy {x : Str} {T : String} {p : Pos} {e : Expr} {es : List Expr} {g : List D → Option D} {fr : En → M (List D)} (hc : DCall X (.type T) g) (hg : Gl X x) (hm : X.mg x = none) (hv : bootBuiltins x = some (.type T)) (ha : PDA X W E (e :: es) fr) (hn : x ≠ "__name__" := by decide) (hdb : (x == ("__debug__" : Str)) = false := by decide)
    (he : starEach (e :: es) X.env = (false, eval e X.env) :: starEach es X.env := by rfl) (hpl : (backTo pos (starEach es X.env)).any (·.1) = false := by rfl) : PD X W E (.Call (.Name x p) (e :: es) [] pos) (eN g fr) :=
  PE.imp (pe_callTy hc hg hm hv ha hn hdb he hpl) fun _ _ _ => lift_call
/-- is None, is not None -/
def opIsN : D → Option D
  | .dat .none => some (dB true)
  | .row _ => none
  | _ => some (dB false)
def opNotN : D → Option D
  | .dat .none => some (dB false)
  | .row _ => none
  | _ => some (dB true)
theorem isN_ok {P : Program} {w : World} {K : PySem.W.Frag} {F : Hp} {v : V} {d e : D} (h : RD P w K F v d) (o : opIsN d = some e) : e = dB (decide (v = .non)) := by
  cases d with
  | dat x =>
    cases h <;> (cases o; rfl)
  | brd m l => obtain ⟨a, _, _, rfl, _⟩ := h; cases o; rfl
  | row a => cases o
  | dic k => obtain ⟨a, rfl, _⟩ := h; cases o; rfl
  | ids k => obtain ⟨a, rfl, _⟩ := h; cases o; rfl
theorem notN_ok {P : Program} {w : World} {K : PySem.W.Frag} {F : Hp} {v : V} {d e : D} (h : RD P w K F v d) (o : opNotN d = some e) : e = dB (!decide (v = .non)) := by
  cases d with
  | dat x =>
    cases h <;> (cases o; rfl)
  | brd m l => obtain ⟨a, _, _, rfl, _⟩ := h; cases o; rfl
  | row a => cases o
  | dic k => obtain ⟨a, rfl, _⟩ := h; cases o; rfl
  | ids k => obtain ⟨a, rfl, _⟩ := h; cases o; rfl
theorem lift_isN {fa : En → M D} {σ : L2.St} {H : Hp} {Q : VK} (hl : lift X.prog X.w X.K W E (e1 opIsN fa) σ H Q) : tIsN (lift X.prog X.w X.K W E fa) σ H Q := by
  obtain ⟨F, ρ, R, ok, run⟩ := hl
  refine ⟨F, ρ, R, ok, run.bind.imp fun d R1 F1 H1 g1 r1 h1 v rv => ?_⟩
  obtain ⟨z, e, h2⟩ := h1.lft
  rw [isN_ok rv e] at h2
  exact h2 F1 H1 (Grow.refl g1.fh) r1 _ (.bl _)
theorem lift_notN {fa : En → M D} {σ : L2.St} {H : Hp} {Q : VK} (hl : lift X.prog X.w X.K W E (e1 opNotN fa) σ H Q) : tNotN (lift X.prog X.w X.K W E fa) σ H Q := by
  obtain ⟨F, ρ, R, ok, run⟩ := hl
  refine ⟨F, ρ, R, ok, run.bind.imp fun d R1 F1 H1 g1 r1 h1 v rv => ?_⟩
  obtain ⟨z, e, h2⟩ := h1.lft
  rw [notN_ok rv e] at h2
  exact h2 F1 H1 (Grow.refl g1.fh) r1 _ (.bl _)
theorem pd_isN {a : Expr} {fa : En → M D} {j pos'} (ha : PD X W E a fa) : PD X W E (.Compare a [.Is] [.Constant .none j pos'] pos) (e1 opIsN fa) := PE.imp (pe_cmp (pc_isN ha) rfl) fun _ _ _ => lift_isN
theorem pd_notN {a : Expr} {fa : En → M D} {j pos'} (ha : PD X W E a fa) : PD X W E (.Compare a [.IsNot] [.Constant .none j pos'] pos) (e1 opNotN fa) := PE.imp (pe_cmp (pc_notN ha) rfl) fun _ _ _ => lift_notN
theorem pdt_isN {a : Expr} {fa : En → M D} {j pos'} (ha : PD X W E a fa) : PDT X W E (.Compare a [.Is] [.Constant .none j pos'] pos) (bE (e1 opIsN fa)) := pdt_of (PT.imp (pt_cmp (pc_isN ha) rfl) fun _ _ _ h => h) fun _ _ _ => lift_isN
theorem pdt_notN {a : Expr} {fa : En → M D} {j pos'} (ha : PD X W E a fa) : PDT X W E (.Compare a [.IsNot] [.Constant .none j pos'] pos) (bE (e1 opNotN fa)) := pdt_of (PT.imp (pt_cmp (pc_notN ha) rfl) fun _ _ _ h => h) fun _ _ _ => lift_notN
end
end DL

set_option maxHeartbeats 4000000
namespace DL
open PySem PySem.Spec PyProof.Rows L2

/-! ### in, not in -/
def nearAll (xs : List PyData) (d : PyData) : Bool := decide (min (PyData.depthAll xs) d.depth ≤ 60)
def memD (xs : List PyData) (d : PyData) : Bool := xs.any fun y => PyData.eqv y d
/-- a dict's look-up: the entry whose key is the same -/
def dicAt (kvs : List (PyData × PyData)) (k : NestedKey) : Option PyData := (kvs.find? fun p => decide (keyOf p.1 = some k)).map (·.2)
def opIn : D → D → Option D
  | .dat x, .dat (.tuple xs) => if nearAll xs x then some (dB (memD xs x)) else none
  | .dat x, .dat (.list xs) => if nearAll xs x then some (dB (memD xs x)) else none
  | .dat (.str a), .dat (.str b) => match a.cps.toList with
    | [c] => some (dB (decide (c ∈ b.cps.toList)))
    | _ => none
  | .dat x, .dic kvs => match keyOf x, x with
    | some k, .tuple _ => if k.depth ≤ 8 then some (dB (dicAt kvs k).isSome) else none
    | _, _ => none
  | _, _ => none
def opNotIn (x y : D) : Option D := (opIn x y).bind fun d => (asB d).map fun b => dB !b
section
variable {X : Cx}
theorem near_all {xs : List PyData} {d : PyData} (hu : X.A.units + 64 < cLine) (h : nearAll xs d = true) : X.A.units + 1 + min (PyData.depthAll xs) d.depth < cLine := by
  have := of_decide_eq_true h
  omega

/-! dicts at the raw level -/
mutual
theorem is_key {pins : List (Addr × Obj)} {s : Shared} {σ : L2.St} {H : Hp} (I : Inv X pins σ H s) : ∀ (d : PyData) (k : NestedKey) (v : V) (u : Value), keyOf d = some k → Dp X.K H v d → RelV v u → NestedIs s.heap k u
  | .none, k, v, u, hk, hd, hr => by cases hk; cases hd; cases hr; exact .none
  | .bool _, _, _, _, hk, _, _ => by cases hk
  | .int i, k, v, u, hk, hd, hr => by cases hk; cases hd; obtain ⟨t, rfl⟩ := hr; exact .int i t
  | .str x, k, v, u, hk, hd, hr => by cases hk; cases hd; obtain ⟨t, rfl⟩ := hr; exact .text x t
  | .list _, _, _, _, hk, _, _ => by cases hk
  | .dict _, _, _, _, hk, _, _ => by cases hk
  | .tuple ds, k, v, u, hk, hd, hr => by
    obtain ⟨ks, h1, h2⟩ := Option.map_eq_some_iff.mp hk
    subst h2
    cases hd with
    | tup hs ha =>
      cases hr
      obtain ⟨its, rv, ⟨o, ho, hc, n, hd⟩, _⟩ := I.tuple hs
      exact .tup ho hc hd (is_keys I ds ks _ _ h1 ha (by simpa using rv))
theorem is_keys {pins : List (Addr × Obj)} {s : Shared} {σ : L2.St} {H : Hp} (I : Inv X pins σ H s) : ∀ (ds : List PyData) (ks : List NestedKey) (vs : List V) (us : List Value), keysOf ds = some ks → DpAll X.K H vs ds → Vals vs us → NestedAll s.heap ks us
  | [], ks, vs, us, hk, hd, hr => by cases hk; cases hd; cases hr; exact .nil
  | d :: ds, ks, vs, us, hk, hd, hr => by
    unfold keysOf at hk
    cases e1 : keyOf d with
    | none => rw [e1] at hk; cases hk
    | some k =>
      cases e2 : keysOf ds with
      | none => rw [e1, e2] at hk; cases hk
      | some ks' =>
        rw [e1, e2] at hk
        cases hk
        cases hd with
        | cons h1 h2 =>
          cases hr with
          | cons r1 r2 => exact .cons (is_key I d k _ _ e1 h1 r1) (is_keys I ds ks' _ _ e2 h2 r2)
end
theorem nk_is {pins : List (Addr × Obj)} {s : Shared} {σ : L2.St} {H : Hp} {a : Addr} {d : PyData} {k : NestedKey} (I : Inv X pins σ H s) (hk : keyOf d = some k) (hd : Dp X.K H (.ref a) d) (h8 : k.depth ≤ 8) : (nestedKind X.prog X.w).is s.heap k a :=
  ⟨is_key I d k _ _ hk hd rfl, h8⟩
/-- a dict of data stands as a raw dict -/
theorem dic_raw {pins : List (Addr × Obj)} {s : Shared} {σ : L2.St} {F H : Hp} {a : Addr} {kvs : List (PyData × PyData)} (I : Inv X pins σ H s) (sf : Same F H) (h : DicAt X.prog X.w X.K F H a kvs) :
    (a == sysModules) = false ∧ kvs.length ≤ sizeLine ∧ ∃ ents : List (NestedKey × Addr × Value), Paired (EntOk X.K F) kvs ents ∧ s.heap.DictOfH (nestedKind X.prog X.w) a ents := by
  obtain ⟨h1, h2, ents, h3, h4, ep, h5⟩ := h
  refine ⟨h2, h1, ents, h3, ?_⟩
  obtain ⟨⟨o, es, e1, e2, e3, e4⟩, _, _⟩ := (show ObjOk X.prog X.w H s.heap a (.ext (DicObj X.prog X.w a ents ep)) from I.hok a _ h5)
  refine ⟨o, es, ep, e1, e2, e3, e4, fun x hx => ?_, h4⟩
  have : ∀ {kvs : List (PyData × PyData)} {ents : List (NestedKey × Addr × Value)}, Paired (EntOk X.K F) kvs ents → ∀ x ∈ ents, ∃ p, EntOk X.K F p x := by
    intro kvs ents hp
    induction hp with
    | nil => intro x hx; cases hx
    | cons h t ih =>
      intro x hx
      rcases List.mem_cons.mp hx with rfl | hx
      · exact ⟨_, h⟩
      · exact ih x hx
  obtain ⟨p, hp⟩ := this h3 x hx
  exact nk_is I hp.key (hp.adr.mono sf) hp.dep
theorem dicAt_raw {K : PySem.W.Frag} {F : Hp} {k : NestedKey} : ∀ {kvs : List (PyData × PyData)} {ents : List (NestedKey × Addr × Value)}, Paired (EntOk K F) kvs ents →
    (match atKey ents k, dicAt kvs k with
      | some q, some d => ∃ v, RelV v q.2 ∧ Dp K F v d
      | none, none => True
      | _, _ => False)
  | _, _, .nil => trivial
  | _, _, .cons (a := p) (b := q) h t => by
    have ih := dicAt_raw (k := k) t
    unfold atKey dicAt at ih ⊢
    rw [List.find?_cons, List.find?_cons]
    by_cases e : q.1 = k
    · rw [decide_eq_true e, show decide (keyOf p.1 = some k) = true from decide_eq_true (by rw [h.key, e])]
      exact h.val
    · rw [decide_eq_false e, show decide (keyOf p.1 = some k) = false from decide_eq_false (by rw [h.key]; simpa using e)]
      exact ih
theorem dicAt_isSome {K : PySem.W.Frag} {F : Hp} {k : NestedKey} {kvs : List (PyData × PyData)} {ents : List (NestedKey × Addr × Value)} (h : Paired (EntOk K F) kvs ents) : (atKey ents k).isSome = (dicAt kvs k).isSome := by
  have q := dicAt_raw (k := k) h
  cases e1 : atKey ents k <;> cases e2 : dicAt kvs k <;> rw [e1, e2] at q <;> first | rfl | exact q.elim

theorem dop_in (hu : X.A.units + 64 < cLine) : DOp X (compareOp .In) opIn := by
  intro pins s σ H x y v u Q I rx ry h
  obtain ⟨F, dx, dy, d, sf, hx, hy, e, q⟩ := h
  unfold opIn at e
  split at e
  · split at e
    · rename_i hz
      cases e
      obtain ⟨as, r1⟩ := rd_reads I sf hx rx
      obtain ⟨bs, r2⟩ := rd_reads I sf hy ry
      have p2 := Dp.plain hy
      simp only [PyData.plain] at p2
      exact SeqAt.in_tuple_data r2 r1 p2 (Dp.plain hx) (near_all hu hz) ⟨.bl _, H, I, rfl, q _ F H (.refl sf) (.bl _)⟩
    · cases e
  · split at e
    · rename_i hz
      cases e
      obtain ⟨as, r1⟩ := rd_reads I sf hx rx
      obtain ⟨bs, r2⟩ := rd_reads I sf hy ry
      have p2 := Dp.plain hy
      simp only [PyData.plain] at p2
      exact SeqAt.in_list_data r2 r1 p2 (Dp.plain hx) (near_all hu hz) ⟨.bl _, H, I, rfl, q _ F H (.refl sf) (.bl _)⟩
    · cases e
  · rename_i a b
    split at e
    · rename_i c hc
      cases e
      have ea : a = ⟨#[c]⟩ := W.str_of_cps (by rw [hc])
      rw [Dp.str_inv hx, ea] at rx; rw [Dp.str_inv hy] at ry
      exact op_in_sign pins s σ H _ _ v u Q I rx ry ⟨c, b, rfl, rfl, q _ F H (.refl sf) (.bl _)⟩
    · cases e
  · split at e
    · rename_i k hk
      split at e
      · rename_i h8
        cases e
        obtain ⟨a, xs, rfl, h1, h2⟩ := Dp.tup_inv hx
        obtain ⟨b, rfl, hb⟩ := hy
        cases rx
        cases ry
        obtain ⟨hm, hz, ents, hp, hd⟩ := dic_raw I sf (hb.mono (Same.refl F) rfl |> fun (z : DicAt X.prog X.w X.K F F b _) => (show DicAt X.prog X.w X.K F H b _ from by
          obtain ⟨o, ho⟩ := z.some
          exact z.mono (Same.refl F) (by rw [ho, sf _ _ ho])))
        have hk' := nk_is I hk (Dp.mono sf hx) h8
        refine in_keyed (show (nestedKind X.prog X.w).room X.A.in1 from by show X.A.units + 1 + 8 < cLine; omega) hk' hm ⟨ents, hd, rfl⟩ ?_
        rw [valueAt_pairsH, Option.isSome_map, dicAt_isSome hp]
        exact ⟨.bl _, H, I.tok _, rfl, q _ F H (.refl sf) (.bl _)⟩
      · cases e
    · cases e
  · cases e
theorem dop_notIn (hu : X.A.units + 64 < cLine) : DOp X (compareOp .NotIn) opNotIn := by
  intro pins s σ H x y v u Q I rx ry h
  obtain ⟨F, dx, dy, d, sf, hx, hy, e, q⟩ := h
  obtain ⟨d', e0, e2⟩ := Option.bind_eq_some_iff.mp e
  obtain ⟨b, e3, e4⟩ := Option.map_eq_some_iff.mp e2
  subst e4
  clear e
  have e := e0
  unfold opIn at e
  split at e
  · split at e
    · rename_i hz
      cases e
      cases e3
      obtain ⟨as, r1⟩ := rd_reads I sf hx rx
      obtain ⟨bs, r2⟩ := rd_reads I sf hy ry
      have p2 := Dp.plain hy
      simp only [PyData.plain] at p2
      exact SeqAt.notIn_tuple_data r2 r1 p2 (Dp.plain hx) (near_all hu hz) ⟨.bl _, H, I, rfl, q _ F H (.refl sf) (.bl _)⟩
    · cases e
  · split at e
    · rename_i hz
      cases e
      cases e3
      obtain ⟨as, r1⟩ := rd_reads I sf hx rx
      obtain ⟨bs, r2⟩ := rd_reads I sf hy ry
      have p2 := Dp.plain hy
      simp only [PyData.plain] at p2
      exact SeqAt.notIn_list_data r2 r1 p2 (Dp.plain hx) (near_all hu hz) ⟨.bl _, H, I, rfl, q _ F H (.refl sf) (.bl _)⟩
    · cases e
  · rename_i a b
    split at e
    · rename_i c hc
      cases e
      cases e3
      have ea : a = ⟨#[c]⟩ := W.str_of_cps (by rw [hc])
      rw [Dp.str_inv hx, ea] at rx; rw [Dp.str_inv hy] at ry
      exact op_notIn_sign pins s σ H _ _ v u Q I rx ry ⟨c, b, rfl, rfl, q _ F H (.refl sf) (.bl _)⟩
    · cases e
  · split at e
    · rename_i k hk
      split at e
      · rename_i h8
        cases e
        cases e3
        obtain ⟨a, xs, rfl, h1, h2⟩ := Dp.tup_inv hx
        obtain ⟨b, rfl, hb⟩ := hy
        cases rx
        cases ry
        obtain ⟨o, ho⟩ := hb.some
        obtain ⟨hm, hz, ents, hp, hd⟩ := dic_raw I sf (hb.mono (H' := H) (Same.refl F) (by rw [ho, sf _ _ ho]))
        have hk' := nk_is I hk (Dp.mono sf hx) h8
        refine notIn_keyed (show (nestedKind X.prog X.w).room X.A.in1 from by show X.A.units + 1 + 8 < cLine; omega) hk' hm ⟨ents, hd, rfl⟩ ?_
        rw [valueAt_pairsH, Option.isSome_map, dicAt_isSome hp]
        exact ⟨.bl _, H, I.tok _, rfl, q _ F H (.refl sf) (.bl _)⟩
      · cases e
    · cases e
  · cases e
theorem in_bool {x y z : D} (h : opIn x y = some z) : ∃ k, z = dB k := by
  unfold opIn at h
  split at h
  · split at h
    · cases h; exact ⟨_, rfl⟩
    · cases h
  · split at h
    · cases h; exact ⟨_, rfl⟩
    · cases h
  · split at h
    · cases h; exact ⟨_, rfl⟩
    · cases h
  · split at h
    · split at h
      · cases h; exact ⟨_, rfl⟩
      · cases h
    · cases h
  · cases h

/-! ### subscripts -/
def opIx : D → D → Option D
  | .dat (.tuple xs), .dat (.int i) => (atI xs i).map .dat
  | .dat (.list xs), .dat (.int i) => (atI xs i).map .dat
  | .dat (.str s), .dat (.int i) => if s.length ≤ SZ then (atI s.cps.toList i).map fun c => .dat (.str ⟨#[c]⟩) else none
  | _, _ => none
theorem DpAll.atI {K : PySem.W.Frag} {F : Hp} {xs : List V} {ds : List PyData} {i : Int} {d : PyData} (h : DpAll K F xs ds) (e : atI ds i = some d) : ∃ x, L2.atI xs i = some x ∧ Dp K F x d := by
  have hl := h.len
  unfold L2.atI at e ⊢
  rw [hl]
  cases e2 : ixN ds.length i with
  | none => rw [e2] at e; cases e
  | some j =>
    rw [e2] at e
    exact h.get e
theorem dix : DIx X opIx := by
  intro value slice pins s σ H x y v u Q I rx ry h hs
  obtain ⟨F, dx, dy, d, sf, hx, hy, e, q⟩ := h
  unfold opIx at e
  split at e
  · obtain ⟨z, e1, e2⟩ := Option.map_eq_some_iff.mp e
    subst e2
    obtain ⟨a, xs, rfl, h1, h2⟩ := Dp.tup_inv hx
    rw [Dp.int_inv hy] at ry
    obtain ⟨x, hx1, hx2⟩ := DpAll.atI h2 e1
    exact ix_tup value slice pins s σ H _ _ v u Q I rx ry ⟨a, xs, _, x, rfl, rfl, sf.tup h1, hx1, q _ F H (.refl sf) hx2⟩ hs
  · obtain ⟨z, e1, e2⟩ := Option.map_eq_some_iff.mp e
    subst e2
    obtain ⟨a, xs, rfl, h1, h2⟩ := Dp.lst_inv hx
    rw [Dp.int_inv hy] at ry
    obtain ⟨x, hx1, hx2⟩ := DpAll.atI h2 e1
    exact ix_list value slice pins s σ H _ _ v u Q I rx ry ⟨a, xs, _, x, rfl, rfl, sf.seq h1, hx1, q _ F H (.refl sf) hx2⟩ hs
  · split at e
    · rename_i hz
      obtain ⟨z, e1, e2⟩ := Option.map_eq_some_iff.mp e
      subst e2
      rw [Dp.str_inv hx] at rx; rw [Dp.int_inv hy] at ry
      exact ix_str value slice pins s σ H _ _ v u Q I rx ry ⟨_, _, z, rfl, rfl, by rw [← sz_eq]; exact hz, e1, q _ F H (.refl sf) (.str _)⟩ hs
    · cases e
  · cases e
def rowGet (a : Addr) (y : D) : M D := fun R => match R, y with
  | some r, .dat (.int i) => if r.a = a then
      (if i = 0 then some (.val (.dat (.list (r.ns.map .int))), R) else if i = 1 then some (.val (.dat (.int r.i)), R) else if i = 2 then some (.val (.dat (.int r.r)), R) else if i = 3 then some (.val (.dat (.int r.c)), R) else none)
    else none
  | _, _ => none
def ixM (x y : D) : M D := match x with
  | .row a => rowGet a y
  | _ => lft (opIx x y)
def eIx (a b : En → M D) : En → M D := fun ρ => do let x ← a ρ; let y ← b ρ; ixM x y
theorem DpAll.of_ints {K : PySem.W.Frag} {F : Hp} : ∀ ns : List Int, DpAll K F (ns.map V.int) (ns.map .int)
  | [] => .nil
  | n :: ns => .cons (.int n) (DpAll.of_ints ns)
theorem row_run {K : PySem.W.Frag} {W : Value → Option Addr → Hp → Prop} {a : Addr} {y : D} {R : RS} {F H : Hp} {k : D → RS → Hp → Hp → Prop} (run : Run K W (rowGet a y) R F H k) (sf : Same F H) (ro : RowOk K F H R) :
    ∃ i v d xs, y = .dat (.int i) ∧ H a = some (.lst xs) ∧ L2.atI xs i = some v ∧ Dp K F v d ∧ k (.dat d) R F H := by
  unfold Run rowGet at run
  cases R with
  | none => exact run.elim
  | some r =>
    obtain ⟨h1, h2, h3, h4⟩ := ro.rw
    cases y with
    | dat z =>
      cases z with
      | int i =>
        dsimp only at run
        by_cases ea : r.a = a
        · rw [if_pos ea] at run
          subst ea
          by_cases e0 : i = 0
          · subst e0
            exact ⟨0, _, _, _, rfl, h1, atI_nat (j := 0) rfl, .lst h3 (DpAll.of_ints _), run F H (Grow.refl sf) ro⟩
          · rw [if_neg e0] at run
            by_cases e1 : i = 1
            · subst e1
              exact ⟨1, _, _, _, rfl, h1, atI_nat (j := 1) rfl, .int _, run F H (Grow.refl sf) ro⟩
            · rw [if_neg e1] at run
              by_cases e2 : i = 2
              · subst e2
                exact ⟨2, _, _, _, rfl, h1, atI_nat (j := 2) rfl, .int _, run F H (Grow.refl sf) ro⟩
              · rw [if_neg e2] at run
                by_cases e3 : i = 3
                · subst e3
                  exact ⟨3, _, _, _, rfl, h1, atI_nat (j := 3) rfl, .int _, run F H (Grow.refl sf) ro⟩
                · rw [if_neg e3] at run
                  exact run.elim
        · rw [if_neg ea] at run
          exact run.elim
      | _ => exact run.elim
    | _ => exact run.elim
theorem pd_ix {W : XK} {E : Ent} {pos : Pos} {a b : Expr} {fa fb : En → M D} (ha : PD X W E a fa) (hb : PD X W E b fb) (hs : PlainIx b) : PD X W E (.Subscript a b pos) (eIx fa fb) := by
  refine PE.imp (pe_ix (r := fun x y H Q => rv2 X.prog X.w X.K opIx x y H Q ∨ rIxL X.K x y H Q) (IxR.or dix ix_list) ha hb hs) fun σ H Q hl => ?_
  obtain ⟨F, ρ, R, ok, run⟩ := hl
  refine ⟨F, ρ, R, ok, run.bind.imp fun dx R1 F1 H1 g1 r1 h1 vx rx => ?_⟩
  have ok1 := ok.grow g1 r1
  refine ⟨F1, ρ, R1, ok1, h1.bind.imp fun dy R2 F2 H2 g2 r2 h2 vy ry => ?_⟩
  have gen : ∀ dx', RD X.prog X.w X.K F1 vx dx' → Run X.K W (lft (opIx dx' dy)) R2 F2 H2 (fun d R' F' H' => ∀ v, RD X.prog X.w X.K F' v d → Q v H') → rv2 X.prog X.w X.K opIx vx vy H2 Q ∨ rIxL X.K vx vy H2 Q := fun dx' rx' h2' => by
    obtain ⟨d, e, h3⟩ := h2'.lft
    exact .inl ⟨F2, dx', dy, d, g2.fh, rx'.mono g2.ff, ry, e, fun v F' H' gp rd => h3 F' H' gp.g (gp.row r2) v rd⟩
  cases dx with
  | row a =>
    obtain ⟨i, v, d, xs, rfl, e1, e2, e3, q⟩ := row_run (show Run _ _ (rowGet a dy) _ _ _ _ from h2) g2.fh r2
    exact .inr ⟨a, xs, i, v, rx, Dp.int_inv ry, SqL.of e1, e2, q v e3⟩
  | dat x => exact gen _ rx h2
  | brd m l => exact gen _ rx h2
  | dic k => exact gen _ rx h2
  | ids k => exact gen _ rx h2
/-- an own list's item -/
def eOwnIx (i : Nat) (b : En → M D) : En → M D := fun ρ => match ρ[i]? with
  | some (.own (.lst ds)) => do
    let y ← b ρ
    match y with
    | .dat (.int k) => lft ((atI ds k).map .dat)
    | _ => stk
  | _ => stk
theorem pd_ownIx {W : XK} {E : Ent} {pos p : Pos} (i : Nat) {x : Str} {b : Expr} {fb : En → M D} (ha : PE X (.Name x p) (tVar i)) (hb : PD X W E b fb) (hs : PlainIx b) : PD X W E (.Subscript (.Name x p) b pos) (eOwnIx i fb) := by
  refine PE.imp (pe_ix ix_list ha hb hs) fun σ H Q hl => ?_
  obtain ⟨F, ρ, R, ok, run⟩ := hl
  unfold eOwnIx at run
  cases e : ρ[i]? with
  | none => rw [e] at run; exact run.elim
  | some sv =>
    rw [e] at run
    cases sv with
    | no => exact run.elim
    | val d => exact run.elim
    | own o =>
      cases o with
      | dic k => exact run.elim
      | ids k => exact run.elim
      | lst ds =>
        obtain ⟨a, h1, h2, h3, h4, xs, h5, h6⟩ := ok.sl i _ e
        refine ⟨_, h1, F, ρ, R, ok, run.bind.imp fun dy R1 F1 H1 g1 r1 q1 vy ry => ?_⟩
        cases dy with
        | dat z =>
          cases z with
          | int k =>
            obtain ⟨d, e1, q2⟩ := Run.lft q1
            obtain ⟨d', e3, e4⟩ := Option.map_eq_some_iff.mp e1
            subst e4
            obtain ⟨x, x1, x2⟩ := DpAll.atI (DpAll.mono g1.ff h6) e3
            exact ⟨a, xs, k, x, rfl, Dp.int_inv ry, SqL.of (by rw [g1.hs a _ h5 h2 h4 fun ps e => nomatch e]), x1, q2 F1 H1 (Grow.refl g1.fh) r1 _ x2⟩
          | _ => exact q1.elim
        | _ => exact q1.elim

/-! ### slices -/
def cutD {α : Type} (xs : List α) (lo hi : Option Int) : List α := (xs.drop (HT.sIx xs.length 0 lo)).take (HT.sIx xs.length xs.length hi - HT.sIx xs.length 0 lo)
def opSl (x : D) (lo hi : Option Int) : Option D := match x with
  | .dat (.tuple xs) => some (.dat (.tuple (cutD xs lo hi)))
  | .dat (.list xs) => some (.dat (.list (cutD xs lo hi)))
  | .dat (.str s) => if s.length ≤ SZ then some (.dat (.str (cutS s lo hi))) else none
  | _ => none
def asI : D → Option Int
  | .dat (.int i) => some i
  | _ => none
def oNo : En → M (Option Int) := fun _ => pure none
def oSo (a : En → M D) : En → M (Option Int) := fun ρ => do let x ← a ρ; let i ← lft (asI x); pure (some i)
def eSl (a : En → M D) (lo hi : En → M (Option Int)) : En → M D := fun ρ => do let x ← a ρ; let l ← lo ρ; let h ← hi ρ; lft (opSl x l h)
def liftO (P : Program) (w : World) (K : PySem.W.Frag) (W : XK) (E : Ent) (f : En → M (Option Int)) : TO := fun σ H Q =>
  ∃ F ρ R, Ok P w K E F σ H ρ R ∧ Run K W (f ρ) R F H fun o R' F' H' => Q o H'
def PDO (X : Cx) (W : XK) (E : Ent) (e : Option Expr) (f : En → M (Option Int)) : Prop := PO X e (liftO X.prog X.w X.K W E f)
theorem PO.imp {X : Cx} {e : Option Expr} {t t' : TO} (h : PO X e t) (i : ∀ σ H Q, t' σ H Q → t σ H Q) : PO X e t' := ⟨fun pins s σ H Q I q => h.run pins s σ H Q I (i σ H Q q)⟩
theorem pdo_no {W : XK} {E : Ent} : PDO X W E none oNo := PO.imp po_none fun σ H Q hl => by
  obtain ⟨F, ρ, R, ok, run⟩ := hl
  exact Run.pure run ok.g.fh ok.row
theorem asI_inv {d : D} {i : Int} (h : asI d = some i) : d = .dat (.int i) := by
  unfold asI at h
  split at h
  · cases h; rfl
  · cases h
theorem pdo_so {W : XK} {E : Ent} {e : Expr} {f : En → M D} (h : PD X W E e f) : PDO X W E (some e) (oSo f) := PO.imp (po_some h) fun σ H Q hl => by
  obtain ⟨F, ρ, R, ok, run⟩ := hl
  refine ⟨F, ρ, R, ok, run.bind.imp fun d R1 F1 H1 g1 r1 h1 v rv => ?_⟩
  obtain ⟨i, e, h2⟩ := h1.bind.lft
  rw [asI_inv e] at rv
  exact ⟨i, Dp.int_inv rv, Run.pure (h2 F1 H1 (Grow.refl g1.fh) r1) g1.fh r1⟩
theorem cutD_dp {K : PySem.W.Frag} {F : Hp} {xs : List V} {ds : List PyData} (lo hi : Option Int) (h : DpAll K F xs ds) : DpAll K F (cutV xs lo hi) (cutD ds lo hi) := by
  unfold cutV cutD
  rw [h.len]
  exact (h.drop _).take _
theorem pd_slice {W : XK} {E : Ent} {pos p2 : Pos} {a : Expr} {lo hi : Option Expr} {fa : En → M D} {fl fh : En → M (Option Int)} (ha : PD X W E a fa) (hl : PDO X W E lo fl) (hh : PDO X W E hi fh) : PD X W E (.Subscript a (.Slice lo hi none p2) pos) (eSl fa fl fh) := by
  refine PE.imp (pe_slice (SlR.or sl_tupA (SlR.or sl_list sl_str)) ha hl hh) fun σ H Q hl => ?_
  obtain ⟨F, ρ, R, ok, run⟩ := hl
  refine ⟨F, ρ, R, ok, run.bind.imp fun dx R1 F1 H1 g1 r1 h1 vx rx => ?_⟩
  have ok1 := ok.grow g1 r1
  refine ⟨F1, ρ, R1, ok1, h1.bind.imp fun l R2 F2 H2 g2 r2 h2 => ?_⟩
  have ok2 := ok1.grow g2 r2
  refine ⟨F2, ρ, R2, ok2, h2.bind.imp fun h R3 F3 H3 g3 r3 h3 => ?_⟩
  obtain ⟨d, e, q⟩ := h3.lft
  have rx3 := (rx.mono g2.ff).mono g3.ff
  unfold opSl at e
  split at e
  · cases e
    obtain ⟨a, xs, rfl, h1, h2⟩ := Dp.tup_inv rx3
    refine .inl ⟨a, xs, rfl, g3.fh.tup h1, fun hw => ?_, fun hw p hp => ?_⟩
    · have e2 : ∀ ds : List PyData, xs.length = ds.length → cutD ds l h = ds := fun ds hd => by
        unfold cutD
        rw [← hd, hw.1, hw.2, List.drop_zero, Nat.sub_zero, hd, List.take_length]
      rw [e2 _ h2.len] at q
      exact q F3 H3 (Grow.refl g3.fh) r3 _ rx3
    · have gp := GrowP.new (o := .tup (cutV xs l h)) g3.fh hp
      exact q _ _ gp.g (gp.row r3) _ (Dp.newT g3.fh hp (cutD_dp l h h2))
  · cases e
    obtain ⟨a, xs, rfl, h1, h2⟩ := Dp.lst_inv rx3
    refine .inr (.inl ⟨a, xs, rfl, g3.fh.seq h1, fun p hp => ?_⟩)
    have gp := GrowP.new (o := .lst (cutV xs l h)) g3.fh hp
    exact q _ _ gp.g (gp.row r3) _ (Dp.newL g3.fh hp (cutD_dp l h h2))
  · split at e
    · rename_i hz
      cases e
      refine .inr (.inr ⟨_, Dp.str_inv rx3, by rw [← sz_eq]; exact hz, ?_⟩)
      exact q F3 H3 (Grow.refl g3.fh) r3 _ (.str _)
    · cases e
  · cases e
end
end DL

set_option maxHeartbeats 4000000
namespace DL
open PySem PySem.Spec PyProof.Rows L2

inductive Fl where
  | nx (ρ : En)
  | rt (d : D)
  | bk (ρ : En)
  | ct (ρ : En)
def RunS (P : Program) (w : World) (K : PySem.W.Frag) (W : XK) (E : Ent) (m : M Fl) (R : RS) (F₀ : Hp) (D₀ : Ends) : Prop :=
  match m R with
  | some (.val (.nx ρ), R') => ∀ σ F H, Same F₀ F → Ok P w K E F σ H ρ R' → D₀.nx σ H
  | some (.val (.bk ρ), R') => ∀ σ F H, Same F₀ F → Ok P w K E F σ H ρ R' → D₀.bk σ H
  | some (.val (.ct ρ), R') => ∀ σ F H, Same F₀ F → Ok P w K E F σ H ρ R' → D₀.ct σ H
  | some (.val (.rt d), R') => ∀ v F H, Grow E.R R' E.F E.H F H → RowOk K F H R' → RD P w K F v d → D₀.rt v H
  | some (.exn x, R') => ∀ c dd F H, Grow E.R R' E.F E.H F H → RowOk K F H R' → RX K F c dd x → W c dd H
  | none => False
def liftS (P : Program) (w : World) (K : PySem.W.Frag) (W : XK) (E : Ent) (f : En → M Fl) : TS := fun D₀ σ H =>
  ∃ F ρ R, Ok P w K E F σ H ρ R ∧ RunS P w K W E (f ρ) R F D₀
def PDS (X : Cx) (W : XK) (E : Ent) (st : Stmt) (f : En → M Fl) : Prop := PS X st (liftS X.prog X.w X.K W E f)
def PDSs (X : Cx) (W : XK) (E : Ent) (st : List Stmt) (f : En → M Fl) : Prop := PSs X st (liftS X.prog X.w X.K W E f)

section
variable {P : Program} {w : World} {K : PySem.W.Frag} {E : Ent} {F H : Hp} {σ : L2.St} {ρ : En} {R R' : RS} {W : XK} {α : Type}
theorem RunS.mono {m : M Fl} {D₀ : Ends} {F F1 : Hp} (s : Same F F1) (h : RunS P w K W E m R F D₀) : RunS P w K W E m R F1 D₀ := by
  unfold RunS at h ⊢
  cases e : m R with
  | none => rw [e] at h; exact h
  | some p =>
    obtain ⟨o, R'⟩ := p
    rw [e] at h
    cases o with
    | exn x => exact h
    | val y =>
      cases y with
      | rt d => exact h
      | nx ρ' => exact fun σ F H t => h σ F H (s.trans t)
      | bk ρ' => exact fun σ F H t => h σ F H (s.trans t)
      | ct ρ' => exact fun σ F H t => h σ F H (s.trans t)
/-- an expression first: what it gives, or its exception -/
theorem RunS.bind {m : M α} {n : α → M Fl} {D₀ : Ends} (ok : Ok P w K E F σ H ρ R) (h : RunS P w K W E (m >>= n) R F D₀) : Run K W m R F H fun a R' F' H' => RunS P w K W E (n a) R' F' D₀ := by
  have e0 : (m >>= n) R = M.bnd m n R := rfl
  unfold RunS at h
  unfold Run
  rw [e0] at h
  unfold M.bnd at h
  cases e : m R with
  | none => rw [e] at h; exact h
  | some p =>
    obtain ⟨o, R1⟩ := p
    rw [e] at h
    cases o with
    | exn x => exact fun c dd F' H' g r rx => h c dd F' H' (ok.g.trans g) r rx
    | val a => exact fun F' H' g r => RunS.mono g.ff (show RunS P w K W E (n a) R1 F D₀ from h)
theorem Ok.set (ok : Ok P w K E F σ H ρ R) (i : Nat) {v : V} {d : D} (rd : RD P w K F v d) : Ok P w K E F (σ.set i (some v)) H (ρ.set i (.val d)) R where
  g := ok.g
  row := ok.row
  sl := fun j sv e => by
    by_cases hj : i = j
    · subst hj
      by_cases hl : i < ρ.length
      · rw [List.getElem?_set_self hl] at e
        cases e
        exact ⟨v, List.getElem?_set_self (by rw [← ok.ln]; exact hl), rd⟩
      · rw [List.getElem?_eq_none (by simpa using hl)] at e; cases e
    · rw [List.getElem?_set_ne hj] at e
      rw [List.getElem?_set_ne hj]
      exact ok.sl j sv e
  dj := fun j k oj ok' a e1 e2 e3 e4 => by
    by_cases hj : i = j
    · subst hj
      by_cases hl : i < ρ.length
      · rw [List.getElem?_set_self hl] at e1; cases e1
      · rw [List.getElem?_eq_none (by simpa using hl)] at e1; cases e1
    · by_cases hk : i = k
      · subst hk
        by_cases hl : i < ρ.length
        · rw [List.getElem?_set_self hl] at e2; cases e2
        · rw [List.getElem?_eq_none (by simpa using hl)] at e2; cases e2
      · rw [List.getElem?_set_ne hj] at e1 e3
        rw [List.getElem?_set_ne hk] at e2 e4
        exact ok.dj j k oj ok' a e1 e2 e3 e4
  ln := by simp [ok.ln]
/-- an address that is new here was new at the entry -/
theorem Ok.fresh (ok : Ok P w K E F σ H ρ R) {p : Addr} (hp : H p = none) : E.H p = none ∧ F p = none ∧ RS.ad R ≠ some p := by
  have hF : F p = none := by
    cases e : F p with
    | none => rfl
    | some o => rw [ok.g.fh p o e] at hp; cases hp
  refine ⟨?_, hF, fun e => ?_⟩
  · cases e : E.H p with
    | none => rfl
    | some o =>
      cases e2 : E.F p with
      | none => exact absurd hp (ok.g.hn p (by rw [e]; simp) e2).1
      | some o2 => rw [ok.g.ff p o2 e2] at hF; cases hF
  · cases R with
    | none => cases e
    | some r =>
      have e' : r.a = p := Option.some.inj e
      have := ok.row.rw.1
      rw [e', hp] at this
      cases this
/-- a name takes a new list, a new dict: this frame's own -/
theorem Ok.setOwn (ok : Ok P w K E F σ H ρ R) (i : Nat) {p : Addr} {u : HO} {o : OW} (hp : H p = none) (ow : OwnAt P w K F (upd H p u) p o) : Ok P w K E F (σ.set i (some (.ref p))) (upd H p u) (ρ.set i (.own o)) R := by
  obtain ⟨f1, f2, f3⟩ := ok.fresh hp
  have hs : Same F (upd H p u) := fun b x e => by
    rw [upd_ne (ne_of_none (ok.g.fh b x e) hp)]; exact ok.g.fh b x e
  have keep : ∀ a x, H a = some x → (upd H p u) a = some x := fun a x e => by rw [upd_ne (ne_of_none e hp)]; exact e
  have hrow : RowOk K F (upd H p u) R := by
    refine ⟨?_, ok.row.tb.new hp⟩
    cases R with
    | none => trivial
    | some r => obtain ⟨h1, h2, h3, h4⟩ := ok.row.rw; exact ⟨keep _ _ h1, h2, h3, h4⟩
  refine ⟨⟨ok.g.rk, ok.g.ff, hs, fun a h1 h2 => ?_, fun a o h1 h2 h3 h4 => keep _ _ (ok.g.hs a o h1 h2 h3 h4)⟩, hrow, fun j sv e => ?_, fun j k oj ok' a e1 e2 e3 e4 => ?_, by simp [ok.ln]⟩
  · obtain ⟨q1, q2⟩ := ok.g.hn a h1 h2
    refine ⟨?_, q2⟩
    cases e : H a with
    | none => exact absurd e q1
    | some x => rw [keep a x e]; simp
  · by_cases hj : i = j
    · subst hj
      by_cases hl : i < ρ.length
      · rw [List.getElem?_set_self hl] at e
        cases e
        exact ⟨p, List.getElem?_set_self (by rw [← ok.ln]; exact hl), f2, f1, f3, ow⟩
      · rw [List.getElem?_eq_none (by simpa using hl)] at e; cases e
    · rw [List.getElem?_set_ne hj] at e
      rw [List.getElem?_set_ne hj]
      have q := ok.sl j sv e
      cases sv with
      | no => trivial
      | val d => exact q
      | own o' =>
        obtain ⟨a, q1, q2, q3, q4, q5⟩ := q
        obtain ⟨x, hx⟩ := q5.some
        exact ⟨a, q1, q2, q3, q4, q5.mono (Same.refl F) (by rw [keep a x hx, hx])⟩
  · have old : ∀ (j : Nat) (oj : OW) (a : Addr), ρ[j]? = some (.own oj) → σ[j]? = some (some (.ref a)) → a ≠ p := fun j oj a e1 e3 => by
      obtain ⟨b, q1, q2, q3, q4, q5⟩ := ok.sl j _ e1
      rw [q1] at e3
      cases e3
      obtain ⟨x, hx⟩ := q5.some
      exact ne_of_none hx hp
    have at_i : ∀ oj a, (ρ.set i (.own o))[i]? = some (SV.own oj) → (σ.set i (some (.ref p)))[i]? = some (some (.ref a)) → a = p := fun oj a e1 e3 => by
      by_cases hl : i < ρ.length
      · rw [List.getElem?_set_self (by rw [← ok.ln]; exact hl)] at e3
        cases e3; rfl
      · rw [List.getElem?_eq_none (by simpa using hl)] at e1; cases e1
    by_cases hj : i = j
    · subst hj
      by_cases hk : i = k
      · exact hk
      · have ea := at_i _ _ e1 e3
        rw [List.getElem?_set_ne hk] at e2 e4
        exact absurd ea (old k _ _ e2 e4)
    · by_cases hk : i = k
      · subst hk
        have ea := at_i _ _ e2 e4
        rw [List.getElem?_set_ne hj] at e1 e3
        exact absurd ea (old j _ _ e1 e3)
      · rw [List.getElem?_set_ne hj] at e1 e3
        rw [List.getElem?_set_ne hk] at e2 e4
        exact ok.dj j k oj ok' a e1 e2 e3 e4
/-- an own list or dict changes -/
theorem Ok.mut (ok : Ok P w K E F σ H ρ R) {i : Nat} {a : Addr} {o o' : OW} {u : HO} (e : ρ[i]? = some (.own o)) (ea : σ[i]? = some (some (.ref a))) (ow : OwnAt P w K F (upd H a u) a o') : Ok P w K E F σ (upd H a u) (ρ.set i (.own o')) R := by
  obtain ⟨a', q1, q2, q3, q4, q5⟩ := ok.sl i _ e
  rw [ea] at q1
  cases q1
  have hl : i < ρ.length := (List.getElem?_eq_some_iff.mp e).1
  have ne : ∀ b, b ≠ a → (upd H a u) b = H b := fun b hb => upd_ne hb
  have hs : Same F (upd H a u) := fun b x e => by
    rw [ne b (fun z => by rw [z, q2] at e; cases e)]; exact ok.g.fh b x e
  have hrow : RowOk K F (upd H a u) R := by
    obtain ⟨v, hv⟩ := q5.some
    refine ⟨?_, ok.row.tb.upd (ok.row.tb.nt hv (q5.nt hv))⟩
    cases R with
    | none => trivial
    | some r =>
      obtain ⟨h1, h2, h3, h4⟩ := ok.row.rw
      refine ⟨?_, h2, h3, h4⟩
      rw [ne r.a fun z => q4 (by show some r.a = some a; rw [z])]
      exact h1
  refine ⟨⟨ok.g.rk, ok.g.ff, hs, fun b h1 h2 => ?_, fun b x h1 h2 h3 h4 => ?_⟩, hrow, fun j sv ej => ?_, fun j k oj ok' b e1 e2 e3 e4 => ?_, by simp [ok.ln]⟩
  · have hb : b ≠ a := fun z => h1 (by rw [z]; exact q3)
    rw [ne b hb]
    exact ok.g.hn b h1 h2
  · have hb : b ≠ a := fun z => by rw [z, q3] at h1; cases h1
    rw [ne b hb]
    exact ok.g.hs b x h1 h2 h3 h4
  · by_cases hj : i = j
    · subst hj
      rw [List.getElem?_set_self hl] at ej
      cases ej
      exact ⟨a, ea, q2, q3, q4, ow⟩
    · rw [List.getElem?_set_ne hj] at ej
      have q := ok.sl j sv ej
      cases sv with
      | no => trivial
      | val d => exact q
      | own o2 =>
        obtain ⟨b, p1, p2, p3, p4, p5⟩ := q
        refine ⟨b, p1, p2, p3, p4, p5.mono (Same.refl F) (ne b fun z => hj ?_)⟩
        subst z
        exact ok.dj i j o o2 b e ej ea p1
  · have back : ∀ (j : Nat) (oj : OW), (ρ.set i (SV.own o'))[j]? = some (.own oj) → ∃ ok', ρ[j]? = some (.own ok') := fun j oj ej => by
      by_cases hj : i = j
      · subst hj; exact ⟨o, e⟩
      · rw [List.getElem?_set_ne hj] at ej; exact ⟨oj, ej⟩
    obtain ⟨x, hx⟩ := back j oj e1
    obtain ⟨y, hy⟩ := back k ok' e2
    exact ok.dj j k x y b hx hy e3 e4
/-- an own list or dict changes no more: it is a value from here on -/
def owD : OW → D
  | .lst ds => .dat (.list ds)
  | .dic kvs => .dic kvs
  | .ids ns => .ids ns
def frz (i : Nat) (ρ : En) : En := match ρ[i]? with
  | some (.own o) => ρ.set i (.val (owD o))
  | _ => ρ
theorem own_rd {a : Addr} {o : OW} {u : HO} (h2 : F a = none) (hu : H a = some u) (h : OwnAt P w K F H a o) : RD P w K (upd F a u) (.ref a) (owD o) := by
  have hs : Same F (upd F a u) := fun b x e => by rw [upd_ne (ne_of_none e h2)]; exact e
  cases o with
  | lst ds =>
    obtain ⟨xs, p1, p2⟩ := h
    rw [hu] at p1
    cases p1
    exact .lst (SqL.of upd_same) (DpAll.mono hs p2)
  | dic kvs => exact ⟨a, rfl, DicAt.mono hs h (by rw [upd_same, hu])⟩
  | ids ns => exact ⟨a, rfl, by rw [upd_same, ← hu]; exact h⟩
theorem Ok.frz (ok : Ok P w K E F σ H ρ R) (i : Nat) : ∃ F', Same F F' ∧ Ok P w K E F' σ H (frz i ρ) R ∧ (∀ b o, F' b = some o → F b = some o ∨ (F b = none ∧ H b = some o ∧ RS.ad R ≠ some b ∧ ∃ x, ρ[i]? = some (.own x) ∧ σ[i]? = some (some (.ref b)))) := by
  unfold DL.frz
  cases e : ρ[i]? with
  | none => exact ⟨F, Same.refl F, ok, fun _ _ h => .inl h⟩
  | some sv =>
    cases sv with
    | no => exact ⟨F, Same.refl F, ok, fun _ _ h => .inl h⟩
    | val d => exact ⟨F, Same.refl F, ok, fun _ _ h => .inl h⟩
    | own o =>
      obtain ⟨a, q1, q2, q3, q4, q5⟩ := ok.sl i _ e
      obtain ⟨u, hu⟩ := q5.some
      have hl : i < ρ.length := (List.getElem?_eq_some_iff.mp e).1
      have hs : Same F (upd F a u) := fun b x e => by rw [upd_ne (ne_of_none e q2)]; exact e
      have hfh : Same (upd F a u) H := fun b x e => by
        by_cases hb : b = a
        · subst hb; rw [upd_same] at e; rw [hu, e]
        · rw [upd_ne hb] at e; exact ok.g.fh b x e
      have hnew : ∀ b, H b ≠ none → F b = none → b ≠ a → (upd F a u) b = none := fun b _ h2 h3 => by rw [upd_ne h3]; exact h2
      refine ⟨upd F a u, hs, ⟨⟨ok.g.rk, ok.g.ff.trans hs, hfh, fun b h1 h2 => ?_, ok.g.hs⟩, ?_, fun j sv ej => ?_, fun j k oj ok' b e1 e2 e3 e4 => ?_, by simp [ok.ln]⟩, fun b x hb => ?_⟩
      · obtain ⟨p1, p2⟩ := ok.g.hn b h1 h2
        exact ⟨p1, by rw [upd_ne fun z => h1 (by rw [z]; exact q3)]; exact p2⟩
      · have na : NoT K a := ok.row.tb.nt hu (q5.nt hu)
        refine ⟨?_, ok.row.tb.mv hs (fun P q i => by rw [upd_ne (na P q i)]; exact (ok.row.tb.2 P q i).out) fun _ _ _ => rfl⟩
        cases R with
        | none => trivial
        | some r =>
          obtain ⟨h1, h2, h3, h4⟩ := ok.row.rw
          exact ⟨h1, by rw [upd_ne fun z => q4 (by show some r.a = some a; rw [z])]; exact h2, hs.seq h3, h4⟩
      · by_cases hj : i = j
        · subst hj
          rw [List.getElem?_set_self hl] at ej
          cases ej
          exact ⟨_, q1, own_rd q2 hu q5⟩
        · rw [List.getElem?_set_ne hj] at ej
          have q := ok.sl j sv ej
          cases sv with
          | no => trivial
          | val d => obtain ⟨v, p1, p2⟩ := q; exact ⟨v, p1, p2.mono hs⟩
          | own o2 =>
            obtain ⟨b, p1, p2, p3, p4, p5⟩ := q
            refine ⟨b, p1, ?_, p3, p4, p5.mono hs rfl⟩
            rw [upd_ne fun z => hj ?_]
            · exact p2
            · subst z
              exact ok.dj i j o o2 b e ej q1 p1
      · have back : ∀ (j : Nat) (oj : OW), (ρ.set i (SV.val (owD o)))[j]? = some (.own oj) → ρ[j]? = some (.own oj) := fun j oj ej => by
          by_cases hj : i = j
          · subst hj; rw [List.getElem?_set_self hl] at ej; cases ej
          · rw [List.getElem?_set_ne hj] at ej; exact ej
        exact ok.dj j k oj ok' b (back j oj e1) (back k ok' e2) e3 e4
      · by_cases hb' : b = a
        · subst hb'
          rw [upd_same] at hb
          cases hb
          exact .inr ⟨q2, hu, q4, o, rfl, q1⟩
        · rw [upd_ne hb'] at hb
          exact .inl hb
end

/-! ### statements -/
def sNil : En → M Fl := fun ρ => pure (.nx ρ)
def sSeq (f g : En → M Fl) : En → M Fl := fun ρ => do
  let x ← f ρ
  match x with
  | .nx ρ' => g ρ'
  | y => pure y
def sEx (f : En → M D) : En → M Fl := fun ρ => do let _ ← f ρ; pure (.nx ρ)
def sRet (f : En → M D) : En → M Fl := fun ρ => do let d ← f ρ; pure (.rt d)
def sRetN : En → M Fl := fun _ => pure (.rt (.dat .none))
def sSet (i : Nat) (f : En → M D) : En → M Fl := fun ρ => do let d ← f ρ; pure (.nx (ρ.set i (.val d)))
def sIf (c : En → M Bool) (f g : En → M Fl) : En → M Fl := fun ρ => do let b ← c ρ; if b = true then f ρ else g ρ
def sFrz (i : Nat) (f : En → M Fl) : En → M Fl := fun ρ => f (frz i ρ)
def sBrk : En → M Fl := fun ρ => pure (.bk ρ)
def sCnt : En → M Fl := fun ρ => pure (.ct ρ)
section
variable {X : Cx} {W : XK} {E : Ent} {pos : Pos}
theorem pds_nil : PDSs X W E [] sNil := PSs.imp pss_nil fun D₀ σ H hl => by
  obtain ⟨F, ρ, R, ok, run⟩ := hl
  exact run σ F H (Same.refl F) ok
theorem RunS.seq {P : Program} {w : World} {K : PySem.W.Frag} {f g : En → M Fl} {ρ : En} {R : RS} {D₀ : Ends} {F : Hp} (h : RunS P w K W E (sSeq f g ρ) R F D₀) : RunS P w K W E (f ρ) R F { D₀ with nx := liftS P w K W E g D₀ } := by
  unfold RunS sSeq at h
  unfold RunS
  rw [M.bind_def] at h
  unfold M.bnd at h
  cases e : f ρ R with
  | none => rw [e] at h; exact h
  | some p =>
    obtain ⟨o, R'⟩ := p
    rw [e] at h
    cases o with
    | exn x => exact h
    | val y =>
      cases y with
      | nx ρ' => exact fun σ F' H s ok => ⟨F', ρ', R', ok, RunS.mono s (show RunS P w K W E (g ρ') R' F D₀ from h)⟩
      | rt d => exact h
      | bk ρ' => exact h
      | ct ρ' => exact h
theorem pds_cons {st : Stmt} {rest : List Stmt} {f g : En → M Fl} (h1 : PDS X W E st f) (h2 : PDSs X W E rest g) : PDSs X W E (st :: rest) (sSeq f g) :=
  PSs.imp (pss_cons h1 h2) fun D₀ σ H hl => by
    obtain ⟨F, ρ, R, ok, run⟩ := hl
    exact ⟨F, ρ, R, ok, run.seq⟩
theorem pds_one {st : Stmt} {f : En → M Fl} (h1 : PDS X W E st f) : PDSs X W E [st] f := pss_one h1
theorem pds_frz {sts : List Stmt} {f : En → M Fl} (i : Nat) (h : PDSs X W E sts f) : PDSs X W E sts (sFrz i f) := PSs.imp h fun D₀ σ H hl => by
  obtain ⟨F, ρ, R, ok, run⟩ := hl
  obtain ⟨F', s, ok', _⟩ := ok.frz i
  exact ⟨F', _, R, ok', RunS.mono s run⟩
theorem pds_doc {x j pos'} : PDS X W E (.Expr (.Constant (.str x) j pos) pos') sNil := PS.imp ps_doc fun D₀ σ H hl => by
  obtain ⟨F, ρ, R, ok, run⟩ := hl
  exact run σ F H (Same.refl F) ok
theorem pds_pass : PDS X W E (.Pass pos) sNil := PS.imp ps_pass fun D₀ σ H hl => by
  obtain ⟨F, ρ, R, ok, run⟩ := hl
  exact run σ F H (Same.refl F) ok
theorem pds_brk : PDS X W E (.Break pos) sBrk := PS.imp ps_break fun D₀ σ H hl => by
  obtain ⟨F, ρ, R, ok, run⟩ := hl
  exact run σ F H (Same.refl F) ok
theorem pds_cnt : PDS X W E (.Continue pos) sCnt := PS.imp ps_continue fun D₀ σ H hl => by
  obtain ⟨F, ρ, R, ok, run⟩ := hl
  exact run σ F H (Same.refl F) ok
theorem pds_ex {e : Expr} {f : En → M D} (h : PD X W E e f) (hs : swapsWith e none pos.line X.env = pure false := by rfl) : PDS X W E (.Expr e pos) (sEx f) := PS.imp (ps_expr h hs) fun D₀ σ H hl => by
  obtain ⟨F, ρ, R, ok, run⟩ := hl
  exact ⟨F, ρ, R, ok, (run.bind ok).imp fun d R1 F1 H1 g1 r1 h1 v rv => h1 σ F1 H1 (Same.refl F1) (ok.grow g1 r1)⟩
theorem pds_ret {e : Expr} {f : En → M D} (h : PD X W E e f) : PDS X W E (.Return (some e) pos) (sRet f) := PS.imp (ps_ret h) fun D₀ σ H hl => by
  obtain ⟨F, ρ, R, ok, run⟩ := hl
  exact ⟨F, ρ, R, ok, (run.bind ok).imp fun d R1 F1 H1 g1 r1 h1 v rv => h1 v F1 H1 (ok.g.trans g1) r1 rv⟩
theorem pds_retN : PDS X W E (.Return none pos) sRetN := PS.imp ps_retN fun D₀ σ H hl => by
  obtain ⟨F, ρ, R, ok, run⟩ := hl
  exact run _ F H ok.g ok.row .non
theorem pds_set {x : Str} {p : Pos} {e : Expr} {f : En → M D} (i : Nat) (hg : PG X (.Name x p) (gName i)) (h : PD X W E e f) (hs : swapsWithSole [Expr.Name x p] e pos.line X.env = pure false := by rfl) (hw : swappedStores [Expr.Name x p] e X.env = pure none := by rfl)
    (h1 : (assignEach [Expr.Name x p] X.env).map (·.2) = [assign (.Name x p) X.env] := by rfl) : PDS X W E (.Assign [.Name x p] e pos) (sSet i f) := PS.imp (ps_asg h hg hs hw h1) fun D₀ σ H hl => by
  obtain ⟨F, ρ, R, ok, run⟩ := hl
  exact ⟨F, ρ, R, ok, (run.bind ok).imp fun d R1 F1 H1 g1 r1 h1 v rv => h1 _ F1 H1 (Same.refl F1) ((ok.grow g1 r1).set i rv)⟩
theorem pds_if {c : Expr} {a b : List Stmt} {fc : En → M Bool} {f g : En → M Fl} (hc : PDT X W E c fc) (ha : PDSs X W E a f) (hb : PDSs X W E b g) : PDS X W E (.If c a b pos) (sIf fc f g) := PS.imp (ps_if hc ha hb) fun D₀ σ H hl => by
  obtain ⟨F, ρ, R, ok, run⟩ := hl
  refine ⟨F, ρ, R, ok, (run.bind ok).imp fun b R1 F1 H1 g1 r1 h1 => ?_⟩
  cases b with
  | true => exact ⟨F1, ρ, R1, ok.grow g1 r1, h1⟩
  | false => exact ⟨F1, ρ, R1, ok.grow g1 r1, h1⟩

/-! ### own lists and dicts: made, read, changed -/
/-- an expression that makes a new list or dict -/
def liftN (P : Program) (w : World) (K : PySem.W.Frag) (W : XK) (E : Ent) (f : En → M OW) : TE := fun σ H Q =>
  ∃ F ρ R, Ok P w K E F σ H ρ R ∧ Run K W (f ρ) R F H fun o R' F' H' => ∀ p u, H' p = none → OwnAt P w K F' (upd H' p u) p o → Q (.ref p) (upd H' p u)
def PDN (X : Cx) (W : XK) (E : Ent) (e : Expr) (f : En → M OW) : Prop := PE X e (liftN X.prog X.w X.K W E f)
def nLst (fr : En → M (List D)) : En → M OW := fun ρ => do let ds ← fr ρ; let xs ← lft (dats ds); if xs.length ≤ SZ then pure (.lst xs) else stk
theorem pdn_lst {es : List Expr} {fr : En → M (List D)} (h : PDA X W E es fr) : PDN X W E (.List es pos) (nLst fr) := by
  refine PE.imp (pe_lst h) fun σ H Q hl => ?_
  obtain ⟨F, ρ, R, ok, run⟩ := hl
  refine ⟨F, ρ, R, ok, run.bind.imp fun ds R1 F1 H1 g1 r1 h1 vs rs => ?_⟩
  obtain ⟨xs, e, h2⟩ := h1.bind.lft
  have h3 := h2 F1 H1 (Grow.refl g1.fh) r1
  have q := paired_dats rs e
  by_cases hz : xs.length ≤ SZ
  · rw [if_pos hz] at h3
    exact ⟨by rw [q.len, ← sz_eq]; exact hz, fun p hp => Run.pure h3 g1.fh r1 p (.lst vs) hp ⟨vs, upd_same, q⟩⟩
  · rw [if_neg hz] at h3
    exact h3.elim
/-- .. as a value -/
def eFresh (f : En → M OW) : En → M D := fun ρ => do let o ← f ρ; pure (owD o)
theorem pd_fresh {e : Expr} {f : En → M OW} (h : PDN X W E e f) : PD X W E e (eFresh f) := PE.imp h fun σ H Q hl => by
  obtain ⟨F, ρ, R, ok, run⟩ := hl
  refine ⟨F, ρ, R, ok, run.bind.imp fun o R1 F1 H1 g1 r1 h1 p u hp ow => ?_⟩
  have hF : F1 p = none := by
    cases e : F1 p with
    | none => rfl
    | some x => rw [g1.fh p x e] at hp; cases hp
  have gp := GrowP.new (o := u) g1.fh hp
  exact h1 _ _ gp.g (gp.row r1) _ (own_rd hF upd_same ow)
def sOwn (i : Nat) (f : En → M OW) : En → M Fl := fun ρ => do let o ← f ρ; pure (.nx (ρ.set i (.own o)))
theorem pds_own {x : Str} {p : Pos} {e : Expr} {f : En → M OW} (i : Nat) (hg : PG X (.Name x p) (gName i)) (h : PDN X W E e f) (hs : swapsWithSole [Expr.Name x p] e pos.line X.env = pure false := by rfl) (hw : swappedStores [Expr.Name x p] e X.env = pure none := by rfl)
    (h1 : (assignEach [Expr.Name x p] X.env).map (·.2) = [assign (.Name x p) X.env] := by rfl) : PDS X W E (.Assign [.Name x p] e pos) (sOwn i f) := PS.imp (ps_asg h hg hs hw h1) fun D₀ σ H hl => by
  obtain ⟨F, ρ, R, ok, run⟩ := hl
  exact ⟨F, ρ, R, ok, (run.bind ok).imp fun o R1 F1 H1 g1 r1 h1 p u hp ow => h1 _ F1 _ (Same.refl F1) ((ok.grow g1 r1).setOwn i hp ow)⟩
/-- x.append(e) -/
def sApp (i : Nat) (f : En → M D) : En → M Fl := fun ρ => match ρ[i]? with
  | some (.own (.lst ds)) => do
    let d ← f ρ
    match d with
    | .dat y => if ds.length < SZ then pure (.nx (ρ.set i (.own (.lst (ds ++ [y]))))) else stk
    | _ => stk
  | _ => stk
theorem pds_app {x : Str} {p apos cpos : Pos} {e : Expr} {f : En → M D} (i : Nat) (hv : PE X (.Name x p) (tVar i)) (h : PD X W E e f) 
    (hbase : attributeBase (.Name x p) "append" X.env (eval (.Name x p) X.env) = eval (.Name x p) X.env := by rfl)
    (hfew : ((backTo cpos (starEach (e :: []) X.env)).all (fun x => !x.1) && (backToKw cpos (keywordEach [] X.env)).all (fun x => x.1.isSome)
      && decide ((e :: []).length + ([] : List Keyword).length + (if ([] : List Keyword).isEmpty then 0 else 1) < 30)) = true := by rfl)
    (hline : (apos.endLine == cpos.line) = true := by rfl) (hst : starEach (e :: []) X.env = (false, eval e X.env) :: starEach [] X.env := by rfl) (hplain : (backTo cpos (starEach [] X.env)).any (·.1) = false := by rfl)
    (hs : swapsWith (.Call (.Attribute (.Name x p) "append" apos) [e] [] cpos) none pos.line X.env = pure false := by rfl) :
    PDS X W E (.Expr (.Call (.Attribute (.Name x p) "append" apos) [e] [] cpos) pos) (sApp i f) := by
  refine PS.imp (ps_expr (pe_bm PySem.F.plainAttrs_list PySem.F.slot_list_append PySem.F.type_list_append mt_append hv (pa_cons h pa_nil hst) hbase hfew hline hst hplain) hs) fun D₀ σ H hl => ?_
  obtain ⟨F, ρ, R, ok, run⟩ := hl
  unfold sApp at run
  cases eq : ρ[i]? with
  | none => rw [eq] at run; exact run.elim
  | some sv =>
    rw [eq] at run
    cases sv with
    | no => exact run.elim
    | val d => exact run.elim
    | own o =>
      cases o with
      | dic k => exact run.elim
      | ids k => exact run.elim
      | lst ds =>
        obtain ⟨a, h1, h2, h3, h4, xs, h5, h6⟩ := ok.sl i _ eq
        refine ⟨.ref a, h1, .inl ⟨rfl, xs, SqL.of h5⟩, F, ρ, R, ok, (run.bind ok).imp fun d R1 F1 H1 g1 r1 q v rv => ?_⟩
        cases d with
        | dat y =>
          have ok1 := ok.grow g1 r1
          by_cases hz : ds.length < SZ
          · dsimp only at q
            rw [if_pos hz] at q
            have e5 := g1.hs a _ h5 h2 h4 fun ps e => nomatch e
            refine ⟨a, xs, v, rfl, rfl, e5, by rw [h6.len, ← sz_eq]; exact hz, q σ F1 _ (Same.refl F1) (ok1.mut eq h1 ⟨_, upd_same, (DpAll.mono g1.ff h6).append (.cons rv .nil)⟩)⟩
          · dsimp only at q
            rw [if_neg hz] at q
            exact q.elim
        | _ => exact q.elim
/-- x = own.pop() -/
def sPop (i j : Nat) : En → M Fl := fun ρ => match ρ[i]? with
  | some (.own (.lst ds)) => do
    let y ← lft ds.getLast?
    pure (.nx ((ρ.set i (.own (.lst ds.dropLast))).set j (.val (.dat y))))
  | _ => stk
theorem DpAll.dropLast {K : PySem.W.Frag} {F : Hp} {xs : List V} {ds : List PyData} (h : DpAll K F xs ds) : DpAll K F xs.dropLast ds.dropLast := by
  rw [List.dropLast_eq_take, List.dropLast_eq_take, h.len]
  exact h.take _
theorem pds_pop {x y : Str} {p py apos cpos : Pos} (i j : Nat) (hg : PG X (.Name y py) (gName j)) (hv : PE X (.Name x p) (tVar i))
    (hbase : attributeBase (.Name x p) "pop" X.env (eval (.Name x p) X.env) = eval (.Name x p) X.env := by rfl) (hline : (apos.endLine == cpos.line) = true := by rfl)
    (hs : swapsWithSole [Expr.Name y py] (.Call (.Attribute (.Name x p) "pop" apos) [] [] cpos) pos.line X.env = pure false := by rfl) (hw : swappedStores [Expr.Name y py] (.Call (.Attribute (.Name x p) "pop" apos) [] [] cpos) X.env = pure none := by rfl)
    (h1 : (assignEach [Expr.Name y py] X.env).map (·.2) = [assign (.Name y py) X.env] := by rfl) :
    PDS X W E (.Assign [.Name y py] (.Call (.Attribute (.Name x p) "pop" apos) [] [] cpos) pos) (sPop i j) := by
  refine PS.imp (ps_asg (pe_bm0 PySem.F.plainAttrs_list PySem.F.slot_list_pop PySem.F.type_list_pop mt_pop hv hbase hline) hg hs hw h1) fun D₀ σ H hl => ?_
  obtain ⟨F, ρ, R, ok, run⟩ := hl
  unfold sPop at run
  cases eq : ρ[i]? with
  | none => rw [eq] at run; exact run.elim
  | some sv =>
    rw [eq] at run
    cases sv with
    | no => exact run.elim
    | val d => exact run.elim
    | own o =>
      cases o with
      | dic k => exact run.elim
      | ids k => exact run.elim
      | lst ds =>
        obtain ⟨a, h1, h2, h3, h4, xs, h5, h6⟩ := ok.sl i _ eq
        obtain ⟨y, e, q⟩ := (run.bind ok).lft
        have q := q F H (Grow.refl ok.g.fh) ok.row
        rw [List.getLast?_eq_getElem?, ← h6.len] at e
        obtain ⟨v, e1, e2⟩ := h6.get e
        refine ⟨.ref a, h1, .inl ⟨rfl, xs, SqL.of h5⟩, a, xs, v, rfl, rfl, h5, e1, ?_⟩
        exact q _ F _ (Same.refl F) ((ok.mut (o' := .lst ds.dropLast) (u := .lst xs.dropLast) eq h1 ⟨_, upd_same, DpAll.dropLast h6⟩).set j e2)
/-- own[k] = e -/
def sPut (i : Nat) (fk f : En → M D) : En → M Fl := fun ρ => do
  let d ← f ρ
  match d, ρ[i]? with
  | .dat y, some (.own (.lst ds)) => do
    let k ← fk ρ
    match k with
    | .dat (.int n) => match ixN ds.length n with
      | some j => pure (.nx (ρ.set i (.own (.lst (ds.set j y)))))
      | none => stk
    | _ => stk
  | _, _ => stk
end
end DL

set_option maxHeartbeats 4000000
namespace DL
open PySem PySem.Spec PyProof.Rows L2

/-! ### what is walked -/
/-- the iterator J gives ds, one a turn, in any heap that keeps what stood still at F -/
def Yields (P : Program) (w : World) (K : PySem.W.Frag) (F : Hp) (J : It) (ds : List D) : Prop :=
  ∀ i F' H, Same F F' → Same F' H → (∀ d, ds[i]? = some d → J.go i H ∧ ∀ x H', J.yld i H x H' → ∃ F'', GrowP F' H F'' H' ∧ RD P w K F'' x d) ∧ (ds.length ≤ i → J.stop i H)
def liftI (P : Program) (w : World) (K : PySem.W.Frag) (W : XK) (E : Ent) (f : En → M (List D)) : TI := fun σ H Q =>
  ∃ F ρ R, Ok P w K E F σ H ρ R ∧ Run K W (f ρ) R F H fun ds R' F' H' => ∀ J, Yields P w K F' J ds → Q J H'
def PDI (X : Cx) (W : XK) (E : Ent) (tg e : Expr) (f : En → M (List D)) : Prop := PI X tg e (liftI X.prog X.w X.K W E f)
theorem PI.imp {X : Cx} {tg e : Expr} {t t' : TI} (h : PI X tg e t) (i : ∀ σ H Q, t' σ H Q → t σ H Q) : PI X tg e t' := ⟨fun pins s σ H Q I q => h.run pins s σ H Q I (i σ H Q q)⟩
/-- targets, by data -/
def PDG (X : Cx) (tg : Expr) (t : D → En → Option En) : Prop :=
  ∃ g, PG X tg g ∧ ∀ (E : Ent) (F : Hp) (σ : L2.St) (H : Hp) (ρ ρ' : En) (R : RS) (v : V) (d : D) (Q : L2.St → Hp → Prop), Ok X.prog X.w X.K E F σ H ρ R → RD X.prog X.w X.K F v d → t d ρ = some ρ' → (∀ σ', Ok X.prog X.w X.K E F σ' H ρ' R → Q σ' H) → g v σ H Q
def gN (i : Nat) : D → En → Option En := fun d ρ => some (ρ.set i (.val d))
def gT (i j : Nat) : D → En → Option En := fun d ρ => match d with
  | .dat (.tuple [x, y]) => some ((ρ.set i (.val (.dat x))).set j (.val (.dat y)))
  | _ => none
theorem pdg_name {X : Cx} {x : Str} {p : Pos} (i : Nat) (h : PG X (.Name x p) (gName i)) : PDG X (.Name x p) (gN i) :=
  ⟨_, h, fun E F σ H ρ ρ' R v d Q ok rd e q => by cases e; exact q _ (ok.set i rd)⟩
theorem pdg_two {X : Cx} {x y : Str} {p p' pos : Pos} {k : Nat} (i j : Nat) (hc : X.calm = true) (h1 : PG X (.Name x p) (gName i)) (h2 : PG X (.Name y p') (gName j))
    (hs1 : (assignEach (Expr.Name x p :: [Expr.Name y p']) X.env).map (·.2) = assign (.Name x p) X.env :: (assignEach [Expr.Name y p'] X.env).map (·.2) := by rfl)
    (hs2 : (assignEach (Expr.Name y p' :: []) X.env).map (·.2) = assign (.Name y p') X.env :: (assignEach [] X.env).map (·.2) := by rfl)
    (hn : (assignEach [Expr.Name x p, Expr.Name y p'] X.env).length = 2 := by rfl) (hst : (assignEach [Expr.Name x p, Expr.Name y p'] X.env).findIdx? (·.1) = none := by rfl) :
    PDG X (.Tuple [.Name x p, .Name y p'] k pos) (gT i j) :=
  ⟨_, pg_tup hc (pgs_cons h1 (pgs_cons h2 pgs_nil hs2) hs1) hn hst, fun E F σ H ρ ρ' R v d Q ok rd e q => by
    unfold gT at e
    split at e
    · cases e
      obtain ⟨a, xs, rfl, h3, h4⟩ := Dp.tup_inv rd
      cases h4 with
      | cons p1 p2 =>
        cases p2 with
        | cons p3 p4 =>
          cases p4
          exact ⟨a, _, rfl, ok.g.fh.tup h3, rfl, _, _, rfl, _, _, rfl, rfl, q _ ((ok.set (d := .dat _) i p1).set (d := .dat _) j p3)⟩
    · cases e⟩

/-! ### for -/
def forL (t : D → En → Option En) (fb : En → M Fl) : List D → En → M Fl
  | [], ρ => pure (.nx ρ)
  | d :: ds, ρ => do
    let ρ1 ← lft (t d ρ)
    let fl ← fb ρ1
    match fl with
    | .nx ρ2 => forL t fb ds ρ2
    | .ct ρ2 => forL t fb ds ρ2
    | .bk ρ2 => pure (.nx ρ2)
    | .rt d => pure (.rt d)
def sFor (fi : En → M (List D)) (t : D → En → Option En) (fb : En → M Fl) : En → M Fl := fun ρ => do let ds ← fi ρ; forL t fb ds ρ
section
variable {X : Cx} {W : XK} {E : Ent} {pos : Pos}
theorem RunS.lft {P : Program} {w : World} {K : PySem.W.Frag} {F H : Hp} {σ : L2.St} {ρ : En} {R : RS} {α : Type} {o : Option α} {n : α → M Fl} {D₀ : Ends} (ok : Ok P w K E F σ H ρ R) (h : RunS P w K W E (DL.lft o >>= n) R F D₀) : ∃ a, o = some a ∧ RunS P w K W E (n a) R F D₀ := by
  obtain ⟨a, e, q⟩ := Run.lft (h.bind ok)
  exact ⟨a, e, q F H (Grow.refl ok.g.fh) ok.row⟩
theorem RunS.weaken {P : Program} {w : World} {K : PySem.W.Frag} {R : RS} {F : Hp} {m : M Fl} {D₀ D₁ : Ends} (h : RunS P w K W E m R F D₀)
    (h1 : ∀ σ H, D₀.nx σ H → D₁.nx σ H) (h2 : ∀ σ H, D₀.ct σ H → D₁.ct σ H) (h3 : ∀ σ H, D₀.bk σ H → D₁.bk σ H) (h4 : ∀ v H, D₀.rt v H → D₁.rt v H) : RunS P w K W E m R F D₁ := by
  unfold RunS at h ⊢
  cases e : m R with
  | none => rw [e] at h; exact h
  | some p =>
    obtain ⟨o, R'⟩ := p
    rw [e] at h
    cases o with
    | exn x => exact h
    | val y =>
      cases y with
      | nx ρ' => exact fun σ F' H s ok => h1 _ _ (h σ F' H s ok)
      | rt d => exact fun v F H g r rd => h4 _ _ (h v F H g r rd)
      | bk ρ' => exact fun σ F' H s ok => h3 _ _ (h σ F' H s ok)
      | ct ρ' => exact fun σ F' H s ok => h2 _ _ (h σ F' H s ok)
/-- a block's end, in a loop -/
theorem RunS.turn {P : Program} {w : World} {K : PySem.W.Frag} {R : RS} {F : Hp} {m : M Fl} {go : En → M Fl} {D₀ : Ends}
    (h : RunS P w K W E (m >>= fun fl => match fl with | .nx ρ2 => go ρ2 | .ct ρ2 => go ρ2 | .bk ρ2 => pure (.nx ρ2) | .rt d => pure (.rt d)) R F D₀) :
    RunS P w K W E m R F { nx := fun σ H => ∃ F' ρ R, Same F F' ∧ Ok P w K E F' σ H ρ R ∧ RunS P w K W E (go ρ) R F' D₀, ct := fun σ H => ∃ F' ρ R, Same F F' ∧ Ok P w K E F' σ H ρ R ∧ RunS P w K W E (go ρ) R F' D₀, bk := D₀.nx, rt := D₀.rt } := by
  unfold RunS at h
  unfold RunS
  rw [M.bind_def] at h
  unfold M.bnd at h
  cases e : m R with
  | none => rw [e] at h; exact h
  | some p =>
    obtain ⟨o, R'⟩ := p
    rw [e] at h
    cases o with
    | exn x => exact h
    | val y =>
      cases y with
      | nx ρ' => exact fun σ F' H s ok => ⟨F', ρ', R', s, ok, RunS.mono s (show RunS P w K W E (go ρ') R' F D₀ from h)⟩
      | rt d => exact h
      | bk ρ' => exact h
      | ct ρ' => exact fun σ F' H s ok => ⟨F', ρ', R', s, ok, RunS.mono s (show RunS P w K W E (go ρ') R' F D₀ from h)⟩
theorem pds_for {tg iter : Expr} {body : List Stmt} {fi : En → M (List D)} {t : D → En → Option En} {fb : En → M Fl} (hp : PassesOwn (model X.prog X.w) X.A X.env X.xe) (hc : X.calm = true) (hi : PDI X W E tg iter fi) (hg : PDG X tg t) (hb : PDSs X W E body fb)
    (hs : ∀ x, foldedSetIterable iter X.env x = pure x := by intro _; rfl) : PDS X W E (.For tg iter body [] pos) (sFor fi t fb) := by
  obtain ⟨g, pg, sg⟩ := hg
  refine PS.imp (ps_for hp hc hi pg hb hs) fun D₀ σ H hl => ?_
  obtain ⟨F, ρ, R, ok, run⟩ := hl
  refine ⟨F, ρ, R, ok, (run.bind ok).imp fun ds R1 F1 H1 g1 r1 q J hy => ?_⟩
  refine ⟨fun i m σ H => m = ds.length - i ∧ i ≤ ds.length ∧ ∃ F2 ρ2 R2, Same F1 F2 ∧ Ok X.prog X.w X.K E F2 σ H ρ2 R2 ∧ RunS X.prog X.w X.K W E (forL t fb (ds.drop i) ρ2) R2 F2 D₀, ⟨_, rfl, Nat.zero_le _, F1, ρ, R1, Same.refl F1, ok.grow g1 r1, q⟩, ?_⟩
  rintro i m σ2 H2 ⟨rfl, hi', F2, ρ2, R2, s2, ok2, q2⟩
  obtain ⟨y1, y2⟩ := hy i F2 H2 s2 ok2.g.fh
  by_cases hlt : i < ds.length
  · obtain ⟨go, yl⟩ := y1 ds[i] (List.getElem?_eq_getElem hlt)
    rw [List.drop_eq_getElem_cons hlt] at q2
    refine .inr ⟨go, fun σ' H' => ∃ F3 ρ3 R3, Same F2 F3 ∧ Ok X.prog X.w X.K E F3 σ' H' ρ3 R3 ∧ RunS X.prog X.w X.K W E (forL t fb (ds.drop (i + 1)) ρ3) R3 F3 D₀, fun σ' H' ⟨F3, ρ3, R3, h1, h2, h3⟩ => ⟨ds.length - (i + 1), by omega, rfl, hlt, F3, ρ3, R3, s2.trans h1, h2, h3⟩, fun x H' hx => ?_⟩
    obtain ⟨F3, gp, rd⟩ := yl x H' hx
    have ok3 := ok2.grow gp.g (gp.row ok2.row)
    obtain ⟨ρ3, e3, q3⟩ := RunS.lft ok3 (show RunS _ _ _ _ _ (DL.lft (t ds[i] ρ2) >>= _) R2 F3 D₀ from q2.mono gp.ff)
    refine sg E F3 σ2 H' ρ2 ρ3 R2 x ds[i] _ ok3 rd e3 fun σ4 ok4 => ⟨F3, ρ3, R2, ok4, ?_⟩
    have q4 := RunS.turn (go := forL t fb (ds.drop (i + 1))) q3
    have weak : ∀ σ' H', (∃ F' ρ R, Same F3 F' ∧ Ok X.prog X.w X.K E F' σ' H' ρ R ∧ RunS X.prog X.w X.K W E (forL t fb (ds.drop (i + 1)) ρ) R F' D₀) → ∃ F3 ρ3 R3, Same F2 F3 ∧ Ok X.prog X.w X.K E F3 σ' H' ρ3 R3 ∧ RunS X.prog X.w X.K W E (forL t fb (ds.drop (i + 1)) ρ3) R3 F3 D₀ :=
      fun σ' H' ⟨F', ρ, R, a, b, c⟩ => ⟨F', ρ, R, gp.ff.trans a, b, c⟩
    exact RunS.weaken q4 (fun σ H => weak σ H) (fun σ H => weak σ H) (fun σ H h => h) (fun v H h => h)
  · have e : i = ds.length := by omega
    subst e
    rw [List.drop_length] at q2
    exact .inl ⟨y2 (Nat.le_refl _), q2 σ2 F2 H2 (Same.refl F2) ok2⟩

/-! ### while -/
def whN (ft : En → M Bool) (fb : En → M Fl) : Nat → En → M Fl
  | 0, _ => stk
  | n + 1, ρ => do
    let b ← ft ρ
    if b = true then (do
      let fl ← fb ρ
      match fl with
      | .nx ρ2 => whN ft fb n ρ2
      | .ct ρ2 => whN ft fb n ρ2
      | .bk ρ2 => pure (.nx ρ2)
      | .rt d => pure (.rt d)) else pure (.nx ρ)
open Classical in
noncomputable def sWhile (ft : En → M Bool) (fb : En → M Fl) : En → M Fl := fun ρ R => if h : ∃ n, (whN ft fb n ρ R).isSome then whN ft fb (Classical.choose h) ρ R else none
theorem pds_while {c : Expr} {body : List Stmt} {ft : En → M Bool} {fb : En → M Fl} (hp : PassesOwn (model X.prog X.w) X.A X.env X.xe) (hc : PDT X W E c ft) (hb : PDSs X W E body fb) : PDS X W E (.While c body [] pos) (sWhile ft fb) := by
  refine PS.imp (ps_while hp hc hb) fun D₀ σ H hl => ?_
  obtain ⟨F, ρ, R, ok, run⟩ := hl
  have : ∃ n, RunS X.prog X.w X.K W E (whN ft fb n ρ) R F D₀ := by
    unfold RunS sWhile at run
    by_cases h : ∃ n, (whN ft fb n ρ R).isSome
    · rw [dif_pos h] at run
      exact ⟨_, run⟩
    · rw [dif_neg h] at run
      exact run.elim
  obtain ⟨n, q⟩ := this
  refine ⟨fun m σ H => ∃ F2 ρ2 R2, Ok X.prog X.w X.K E F2 σ H ρ2 R2 ∧ RunS X.prog X.w X.K W E (whN ft fb m ρ2) R2 F2 D₀, ⟨n, F, ρ, R, ok, q⟩, ?_⟩
  rintro m σ2 H2 ⟨F2, ρ2, R2, ok2, q2⟩
  cases m with
  | zero => exact q2.elim
  | succ m =>
    refine ⟨F2, ρ2, R2, ok2, (q2.bind ok2).imp fun b R3 F3 H3 g3 r3 q3 => ?_⟩
    have ok3 := ok2.grow g3 r3
    cases b with
    | true =>
      refine iteT ⟨fun σ' H' => ∃ F' ρ' R', Same F3 F' ∧ Ok X.prog X.w X.K E F' σ' H' ρ' R' ∧ RunS X.prog X.w X.K W E (whN ft fb m ρ') R' F' D₀, fun σ' H' ⟨F', ρ', R', _, a, b⟩ => ⟨m, Nat.lt_succ_self m, F', ρ', R', a, b⟩, F3, ρ2, R3, ok3, ?_⟩
      exact RunS.turn (go := whN ft fb m) (show RunS _ _ _ _ _ (fb ρ2 >>= _) R3 F3 D₀ from q3)
    | false => exact iteF (q3 σ2 F3 H3 (Same.refl F3) ok3)
end
end DL

set_option maxHeartbeats 4000000
namespace DL
open PySem PySem.Spec PyProof.Rows L2

/-! ### comprehensions -/
def NoX : XK := fun _ _ _ => False
/-- no exception is told of -/
def noX {α : Type} (m : M α) : M α := fun R => match m R with
  | some (.val a, R') => some (.val a, R')
  | _ => none
def asDat : D → Option PyData
  | .dat x => some x
  | _ => none
def lcL (t : D → En → Option En) (ft : En → M Bool) (fe : En → M D) : List D → En → M (List PyData)
  | [], _ => pure []
  | d :: ds, ρ => do
    let ρ1 ← lft (t d ρ)
    let b ← ft ρ1
    if b = true then (do
      let y ← fe ρ1
      let y' ← lft (asDat y)
      let r ← lcL t ft fe ds ρ
      pure (y' :: r)) else lcL t ft fe ds ρ
def wipD (ρ : En) : List Nat → En
  | [] => ρ
  | v :: vs => (wipD ρ vs).set v .no
def nLc (fi : En → M (List D)) (t : D → En → Option En) (ft : En → M Bool) (fe : En → M D) (vs : List Nat) : En → M OW := fun ρ => do
  let ds ← fi ρ
  if ds.length ≤ SZ then (do let xs ← noX (lcL t ft fe ds (wipD ρ vs)); pure (.lst xs)) else stk
def bYes : En → M Bool := fun _ => pure true
section
variable {P : Program} {w : World} {K : PySem.W.Frag} {E : Ent} {F F' H H' : Hp} {σ : L2.St} {ρ : En} {R R' : RS}
theorem Ok.no (ok : Ok P w K E F σ H ρ R) (i : Nat) : Ok P w K E F (σ.set i none) H (ρ.set i .no) R where
  g := ok.g
  row := ok.row
  sl := fun j sv e => by
    by_cases hj : i = j
    · subst hj
      by_cases hl : i < ρ.length
      · rw [List.getElem?_set_self hl] at e
        cases e
        trivial
      · rw [List.getElem?_eq_none (by simpa using hl)] at e; cases e
    · rw [List.getElem?_set_ne hj] at e
      rw [List.getElem?_set_ne hj]
      exact ok.sl j sv e
  dj := fun j k oj ok' a e1 e2 e3 e4 => by
    by_cases hj : i = j
    · subst hj
      by_cases hl : i < ρ.length
      · rw [List.getElem?_set_self hl] at e1; cases e1
      · rw [List.getElem?_eq_none (by simpa using hl)] at e1; cases e1
    · by_cases hk : i = k
      · subst hk
        by_cases hl : i < ρ.length
        · rw [List.getElem?_set_self hl] at e2; cases e2
        · rw [List.getElem?_eq_none (by simpa using hl)] at e2; cases e2
      · rw [List.getElem?_set_ne hj] at e1 e3
        rw [List.getElem?_set_ne hk] at e2 e4
        exact ok.dj j k oj ok' a e1 e2 e3 e4
  ln := by simp [ok.ln]
theorem Ok.wip (ok : Ok P w K E F σ H ρ R) : ∀ vs : List Nat, Ok P w K E F (wipe σ vs) H (wipD ρ vs) R
  | [] => ok
  | v :: vs => (Ok.wip ok vs).no v
/-- another heap that grew, the frame as it was -/
theorem Run.noX {α : Type} {W : XK} {m : M α} {k : α → RS → Hp → Hp → Prop} (h : Run K W (DL.noX m) R F H k) : Run K NoX m R F H k := by
  unfold Run DL.noX at h
  unfold Run
  cases e : m R with
  | none => rw [e] at h; exact h
  | some p =>
    obtain ⟨o, R'⟩ := p
    rw [e] at h
    cases o with
    | val a => exact h
    | exn x => exact h.elim
end
section
variable {X : Cx} {W : XK} {E : Ent} {pos : Pos}
def PDTs (X : Cx) (W : XK) (E : Ent) (cs : List Expr) (f : En → M Bool) : Prop := PTs X cs (liftT X.prog X.w X.K W E f)
theorem pdts_nil : PDTs X W E [] bYes := by
  refine ⟨fun pins s σ H Q I h => pts_nil.run pins s σ H Q I ?_⟩
  obtain ⟨F, ρ, R, ok, run⟩ := h
  exact run.pure ok.g.fh ok.row
theorem pdts_one {c : Expr} {f : En → M Bool} (h : PDT X W E c f) : PDTs X W E [c] f := pts_one h
/-- the target's rule, in every block, keeps the frame's other names -/
def PDGb (X : Cx) (scope : Scope) (vs : List Nat) (tg : Expr) (t : D → En → Option En) : Prop :=
  ∃ g, (∀ (s : Shared) (H : Hp) (C : Addr) (cl : List (Str × Addr)) (fp : List Addr), PG (X.blk s H scope (compEnvC scope cl C X.env) fp) tg g) ∧
    ∀ (E : Ent) (F : Hp) (σ : L2.St) (H : Hp) (ρ ρ' : En) (R : RS) (v : V) (d : D) (Q : L2.St → Hp → Prop), Ok X.prog X.w X.K E F (wipe σ vs) H ρ R → RD X.prog X.w X.K F v d → t d ρ = some ρ' → (∀ σ', wipe σ' vs = wipe σ vs → Ok X.prog X.w X.K E F σ' H ρ' R → Q σ' H) → g v (wipe σ vs) H Q
theorem wipe_set {σ : L2.St} {x : Option V} : ∀ {vs : List Nat} {i : Nat}, i ∈ vs → wipe ((wipe σ vs).set i x) vs = wipe σ vs := by
  have key : ∀ (vs : List Nat) (τ : L2.St) (i : Nat) (x : Option V), wipe (τ.set i x) vs = if i ∈ vs then wipe τ vs else (wipe τ vs).set i x := by
    intro vs
    induction vs with
    | nil => intro τ i x; simp [wipe]
    | cons v vs ih =>
      intro τ i x
      unfold wipe
      rw [ih]
      by_cases h1 : i ∈ vs
      · simp [h1]
      · by_cases h2 : i = v
        · subst h2
          simp [h1, List.set_set]
        · simp [h1, h2, List.set_comm _ _ h2]
  have idem : ∀ (vs : List Nat) (τ : L2.St), wipe (wipe τ vs) vs = wipe τ vs := by
    intro vs
    induction vs with
    | nil => intro τ; rfl
    | cons v vs ih =>
      intro τ
      show (wipe ((wipe τ vs).set v none) vs).set v none = (wipe τ vs).set v none
      rw [key, ih]
      split
      · rfl
      · rw [List.set_set]
  intro vs i h
  rw [key, if_pos h, idem]
theorem pdgb_name {scope : Scope} {vs : List Nat} {x : Str} {p : Pos} (i : Nat) (hi : i ∈ vs) (h : ∀ (s : Shared) (H : Hp) (C : Addr) (cl : List (Str × Addr)) (fp : List Addr), PG (X.blk s H scope (compEnvC scope cl C X.env) fp) (.Name x p) (gName i)) : PDGb X scope vs (.Name x p) (gN i) :=
  ⟨_, h, fun E F σ H ρ ρ' R v d Q ok rd e q => by cases e; exact q _ (wipe_set hi) (ok.set i rd)⟩
theorem wipe_idem {σ : L2.St} {x : Option V} : ∀ {vs : List Nat} {i : Nat}, i ∈ vs → wipe (σ.set i x) vs = wipe σ vs := by
  have key : ∀ (vs : List Nat) (τ : L2.St) (i : Nat) (x : Option V), wipe (τ.set i x) vs = if i ∈ vs then wipe τ vs else (wipe τ vs).set i x := by
    intro vs
    induction vs with
    | nil => intro τ i x; simp [wipe]
    | cons v vs ih =>
      intro τ i x
      unfold wipe
      rw [ih]
      by_cases h1 : i ∈ vs
      · simp [h1]
      · by_cases h2 : i = v
        · subst h2
          simp [h1, List.set_set]
        · simp [h1, h2, List.set_comm _ _ h2]
  intro vs i hi
  rw [key, if_pos hi]
theorem pdgb_two {scope : Scope} {vs : List Nat} {x y : Str} {p p' pos : Pos} {k : Nat} (i j : Nat) (hi : i ∈ vs) (hj : j ∈ vs) (hc : X.calm = true)
    (h1 : ∀ (s : Shared) (H : Hp) (C : Addr) (cl : List (Str × Addr)) (fp : List Addr), PG (X.blk s H scope (compEnvC scope cl C X.env) fp) (.Name x p) (gName i))
    (h2 : ∀ (s : Shared) (H : Hp) (C : Addr) (cl : List (Str × Addr)) (fp : List Addr), PG (X.blk s H scope (compEnvC scope cl C X.env) fp) (.Name y p') (gName j)) : PDGb X scope vs (.Tuple [.Name x p, .Name y p'] k pos) (gT i j) := by
  refine ⟨gTup X.K 2 (gCons (gName i) (gCons (gName j) gNil)), fun s H C cl fp => pg_tup (X := X.blk s H scope (compEnvC scope cl C X.env) fp) (n := 2) hc (pgs_cons (h1 s H C cl fp) (pgs_cons (h2 s H C cl fp) pgs_nil (by rfl)) (by rfl)) (by rfl) (by rfl), ?_⟩
  intro E F σ H ρ ρ' R v d Q ok rd e q
  unfold gT at e
  split at e
  · cases e
    obtain ⟨a, xs, rfl, h3, h4⟩ := Dp.tup_inv rd
    cases h4 with
    | cons p1 p2 =>
      cases p2 with
      | cons p3 p4 =>
        cases p4
        refine ⟨a, _, rfl, ok.g.fh.tup h3, rfl, _, _, rfl, _, _, rfl, rfl, q _ ?_ ((ok.set (d := .dat _) i p1).set (d := .dat _) j p3)⟩
        rw [wipe_idem hj]
        exact wipe_set hi
  · cases e
/-- the heap without the object at D -/
def del (H : Hp) (D : Addr) : Hp := fun b => if b = D then none else H b
theorem del_same {H : Hp} {D : Addr} : del H D D = none := by unfold del; rw [if_pos rfl]
theorem del_ne {H : Hp} {D b : Addr} (h : b ≠ D) : del H D b = H b := by unfold del; rw [if_neg h]
theorem upd_del {H : Hp} {D : Addr} {u : HO} (h : H D = some u) : upd (del H D) D u = H := by
  funext b
  by_cases hb : b = D
  · subst hb; rw [upd_same, h]
  · rw [upd_ne hb, del_ne hb]
theorem del_upd {H : Hp} {D : Addr} {u : HO} : del (upd H D u) D = del H D := by
  funext b
  by_cases hb : b = D
  · subst hb; rw [del_same, del_same]
  · rw [del_ne hb, del_ne hb, upd_ne hb]
theorem del_of {H : Hp} {D : Addr} (h : H D = none) : del H D = H := by
  funext b
  by_cases hb : b = D
  · subst hb; rw [del_same, h]
  · rw [del_ne hb]
theorem Ok.add {P : Program} {w : World} {K : PySem.W.Frag} {F H : Hp} {σ : L2.St} {ρ : En} {R : RS} (ok : Ok P w K E F σ H ρ R) {D : Addr} (u : HO) (hD : H D = none) : Ok P w K E F σ (upd H D u) ρ R := by
  obtain ⟨f1, f2, f3⟩ := ok.fresh hD
  have keep : ∀ a x, H a = some x → (upd H D u) a = some x := fun a x e => by rw [upd_ne (ne_of_none e hD)]; exact e
  refine ⟨⟨ok.g.rk, ok.g.ff, fun b x e => keep b x (ok.g.fh b x e), fun a h1 h2 => ?_, fun a o h1 h2 h3 h4 => keep _ _ (ok.g.hs a o h1 h2 h3 h4)⟩, ?_, fun j sv e => ?_, ok.dj, ok.ln⟩
  · obtain ⟨q1, q2⟩ := ok.g.hn a h1 h2
    refine ⟨?_, q2⟩
    cases e : H a with
    | none => exact absurd e q1
    | some x => rw [keep a x e]; simp
  · refine ⟨?_, ok.row.tb.new hD⟩
    cases R with
    | none => trivial
    | some r => obtain ⟨h1, h2, h3, h4⟩ := ok.row.rw; exact ⟨keep _ _ h1, h2, h3, h4⟩
  · have q := ok.sl j sv e
    cases sv with
    | no => trivial
    | val d => exact q
    | own o' =>
      obtain ⟨a, q1, q2, q3, q4, q5⟩ := q
      obtain ⟨x, hx⟩ := q5.some
      exact ⟨a, q1, q2, q3, q4, q5.mono (Same.refl F) (by rw [keep a x hx, hx])⟩
theorem Run.grow {K : PySem.W.Frag} {W : XK} {α : Type} {m : M α} {R : RS} {F H F1 H1 : Hp} {k : α → RS → Hp → Hp → Prop} (h : Run K W m R F H k) (gp : GrowP F H F1 H1) : Run K W m R F1 H1 k := by
  unfold Run at h ⊢
  cases e : m R with
  | none => rw [e] at h; exact h
  | some p =>
    obtain ⟨o, R'⟩ := p
    rw [e] at h
    cases o with
    | exn x => exact fun c dd F' H' g r rx => h c dd F' H' (gp.g.trans g) r rx
    | val a => exact fun F' H' g r => h F' H' (gp.g.trans g) r
/-- where an object of someone else's stands at D besides -/
theorem Grow.del {R R' : RS} {F H F' H' : Hp} {D : Addr} {u : HO} (g : Grow R R' F (upd H D u) F' H') (hH : H D = none) (hF : F D = none) (hR : RS.ad R ≠ some D) (nt : NT u) : F' D = none ∧ H' D = some u ∧ Grow R R' F H F' (del H' D) := by
  obtain ⟨h1, h2⟩ := g.hn D (by rw [upd_same]; simp) hF
  refine ⟨h2, g.hs D u upd_same hF hR nt, ⟨g.rk, g.ff, fun b x e => ?_, fun a p q => ?_, fun a o p q r y => ?_⟩⟩
  · rw [del_ne fun z => by rw [z, h2] at e; cases e]
    exact g.fh b x e
  · have ha : a ≠ D := fun z => p (by rw [z, hH])
    obtain ⟨k1, k2⟩ := g.hn a (by rw [upd_ne ha]; exact p) q
    exact ⟨by rw [del_ne ha]; exact k1, k2⟩
  · have ha : a ≠ D := fun z => by rw [z, hH] at p; cases p
    rw [del_ne ha]
    exact g.hs a o (by rw [upd_ne ha]; exact p) q r y
theorem RowOk.del {K : PySem.W.Frag} {R : RS} {F H : Hp} {D : Addr} (r : RowOk K F H R) (hR : RS.ad R ≠ some D) (n : NoT K D) : RowOk K F (DL.del H D) R := by
  refine ⟨?_, r.tb.at n fun b e => del_ne e⟩
  cases R with
  | none => trivial
  | some x =>
    obtain ⟨h1, h2, h3, h4⟩ := r.rw
    exact ⟨by rw [del_ne fun z => hR (by show some x.a = _; rw [z])]; exact h1, h2, h3, h4⟩
theorem Run.with {K : PySem.W.Frag} {α : Type} {m : M α} {R : RS} {F H : Hp} {D : Addr} {u : HO} {k : α → RS → Hp → Hp → Prop} (h : Run K NoX m R F H k) (hH : H D = none) (hF : F D = none) (hR : RS.ad R ≠ some D) (nt : NT u) (hn : NoT K D) :
    Run K NoX m R F (upd H D u) fun a R' F' H' => F' D = none ∧ H' D = some u ∧ RS.ad R' ≠ some D ∧ k a R' F' (DL.del H' D) := by
  unfold Run at h ⊢
  cases e : m R with
  | none => rw [e] at h; exact h
  | some p =>
    obtain ⟨o, R'⟩ := p
    rw [e] at h
    cases o with
    | exn x =>
      intro c dd F' H' g r rx
      obtain ⟨a, b, g'⟩ := g.del hH hF hR nt
      exact (h c dd F' _ g' (r.del (by rw [RS.ad_key g.rk]; exact hR) hn) rx).elim
    | val a =>
      intro F' H' g r
      obtain ⟨a1, b1, g'⟩ := g.del hH hF hR nt
      have hR' : RS.ad R' ≠ some D := by rw [RS.ad_key g.rk]; exact hR
      exact ⟨a1, b1, hR', h F' _ g' (r.del hR' hn)⟩
theorem Ok.swap {P : Program} {w : World} {K : PySem.W.Frag} {F H : Hp} {σ : L2.St} {ρ : En} {R : RS} {D : Addr} (ok : Ok P w K E F σ H ρ R) (u : HO) (hF : F D = none) (hE : E.H D = none) (hR : RS.ad R ≠ some D) (hno : ∀ (i : Nat) o, ρ[i]? = some (.own o) → σ[i]? ≠ some (some (.ref D))) (hn : NoT K D) : Ok P w K E F σ (upd H D u) ρ R := by
  have keep : ∀ a, a ≠ D → (upd H D u) a = H a := fun a e => upd_ne e
  refine ⟨⟨ok.g.rk, ok.g.ff, fun b x e => ?_, fun a h1 h2 => ?_, fun a o h1 h2 h3 h4 => ?_⟩, ?_, fun j sv e => ?_, ok.dj, ok.ln⟩
  · rw [keep b fun z => by rw [z, hF] at e; cases e]
    exact ok.g.fh b x e
  · have ha : a ≠ D := fun z => h1 (by rw [z]; exact hE)
    rw [keep a ha]
    exact ok.g.hn a h1 h2
  · have ha : a ≠ D := fun z => by rw [z, hE] at h1; cases h1
    rw [keep a ha]
    exact ok.g.hs a o h1 h2 h3 h4
  · refine ⟨?_, ok.row.tb.upd hn⟩
    cases R with
    | none => trivial
    | some x =>
      obtain ⟨h1, h2, h3, h4⟩ := ok.row.rw
      exact ⟨by rw [keep _ fun z => hR (by show some x.a = _; rw [z])]; exact h1, h2, h3, h4⟩
  · have q := ok.sl j sv e
    cases sv with
    | no => trivial
    | val d => exact q
    | own o' =>
      obtain ⟨a, q1, q2, q3, q4, q5⟩ := q
      have ha : a ≠ D := fun z => hno j o' e (by rw [← z]; exact q1)
      exact ⟨a, q1, q2, q3, q4, q5.mono (Same.refl F) (keep a ha)⟩
theorem Run.swap {K : PySem.W.Frag} {α : Type} {m : M α} {R : RS} {F H : Hp} {D : Addr} {u u' : HO} {k : α → RS → Hp → Hp → Prop} (h : Run K NoX m R F H k) (hH : H D = some u) (hF : F D = none) (hR : RS.ad R ≠ some D) (hn : NoT K D) :
    Run K NoX m R F (upd H D u') fun a R' F' H' => k a R' F' (upd H' D u) := by
  have gg : ∀ {R' : RS} {F' H' : Hp}, Grow R R' F (upd H D u') F' H' → Grow R R' F H F' (upd H' D u) := fun {R' F' H'} g => by
    obtain ⟨a1, a2⟩ := g.hn D (by rw [upd_same]; simp) hF
    refine ⟨g.rk, g.ff, fun b x e => ?_, fun a p q => ?_, fun a o p q r y => ?_⟩
    · rw [upd_ne fun z => by rw [z, a2] at e; cases e]
      exact g.fh b x e
    · by_cases ha : a = D
      · subst ha; exact ⟨by rw [upd_same]; simp, a2⟩
      · rw [upd_ne ha]
        exact g.hn a (by rw [upd_ne ha]; exact p) q
    · by_cases ha : a = D
      · subst ha; rw [hH] at p; cases p; exact upd_same
      · rw [upd_ne ha]
        exact g.hs a o (by rw [upd_ne ha]; exact p) q r y
  have rr : ∀ {R' : RS} {F' H' : Hp}, RS.key R' = RS.key R → RowOk K F' H' R' → RowOk K F' (upd H' D u) R' := fun {R' F' H'} e r => by
    have hR' : RS.ad R' ≠ some D := by rw [RS.ad_key e]; exact hR
    refine ⟨?_, r.tb.upd hn⟩
    cases R' with
    | none => trivial
    | some x =>
      obtain ⟨h1, h2, h3, h4⟩ := r.rw
      exact ⟨by rw [upd_ne fun z => hR' (by show some x.a = _; rw [z])]; exact h1, h2, h3, h4⟩
  unfold Run at h ⊢
  cases e : m R with
  | none => rw [e] at h; exact h
  | some p =>
    obtain ⟨o, R'⟩ := p
    rw [e] at h
    cases o with
    | exn x => exact fun c dd F' H' g r rx => (h c dd F' _ (gg g) (rr g.rk r) rx).elim
    | val a => exact fun F' H' g r => h F' _ (gg g) (rr g.rk r)
theorem lc_lift {tg : Expr} {scope : Scope} {vs : List Nat} {fi : En → M (List D)} {t : D → En → Option En} {ft : En → M Bool} {fe : En → M D} (hg : PDGb X scope vs tg t) :
    ∃ g, (∀ (s : Shared) (H : Hp) (C : Addr) (cl : List (Str × Addr)) (fp : List Addr), PG (X.blk s H scope (compEnvC scope cl C X.env) fp) tg g) ∧
      ∀ σ H Q, liftN X.prog X.w X.K W E (nLc fi t ft fe vs) σ H Q → tLc (liftI X.prog X.w X.K W E fi) g (liftT X.prog X.w X.K NoX E ft) (lift X.prog X.w X.K NoX E fe) vs σ H Q := by
  obtain ⟨g, pg, sg⟩ := hg
  refine ⟨g, pg, fun σ H Q hl => ?_⟩
  obtain ⟨F, ρ, R, okk, run⟩ := hl
  refine ⟨F, ρ, R, okk, run.bind.imp fun ds R1 F1 H1 g1 r1 q J hy D hD => ?_⟩
  by_cases hz : ds.length ≤ SZ
  · rw [if_pos hz] at q
    have ok1 := (okk.grow g1 r1).wip vs
    obtain ⟨hEH, hFD, hRD⟩ := ok1.fresh hD
    have hnT : NoT X.K D := ok1.row.tb.free hD
    have hno : ∀ (i : Nat) o, (wipD ρ vs)[i]? = some (.own o) → (wipe σ vs)[i]? ≠ some (some (.ref D)) := fun i o e1 e2 => by
      obtain ⟨a, p1, _, _, _, p5⟩ := ok1.sl i _ e1
      rw [e2] at p1
      cases p1
      obtain ⟨x, hx⟩ := p5.some
      rw [hD] at hx
      cases hx
    have q2 : Run X.K NoX (lcL t ft fe ds (wipD ρ vs)) R1 F1 H1 (fun r R' F' H'' => ∀ p u, H'' p = none → OwnAt X.prog X.w X.K F' (upd H'' p u) p (.lst r) → Q (.ref p) (upd H'' p u)) :=
      q.bind.noX.imp fun r R' F' H' g' r' h => Run.pure h g'.fh r'
    let KK : Nat → List PyData → List V → RS → Hp → Hp → Prop := fun i acc xs R2 F2 H2 => Run X.K NoX (lcL t ft fe (ds.drop i) (wipD ρ vs)) R2 F2 H2 (fun r R' F' H' => ∀ p u, del H' D p = none → OwnAt X.prog X.w X.K F' (upd (del H' D) p u) p (.lst (acc ++ r)) → Q (.ref p) (upd (del H' D) p u))
    refine ⟨fun i m H2 => m = ds.length - i ∧ i ≤ ds.length ∧ ∃ F2 R2 acc xs, Same F1 F2 ∧ F2 D = none ∧ RS.ad R2 ≠ some D ∧ H2 D = some (.lst xs) ∧ DpAll X.K F2 xs acc ∧ xs.length ≤ i ∧ Ok X.prog X.w X.K E F2 (wipe σ vs) H2 (wipD ρ vs) R2 ∧ KK i acc xs R2 F2 H2,
      ⟨_, rfl, Nat.zero_le _, F1, R1, [], [], Same.refl F1, hFD, hRD, upd_same, .nil, Nat.le_refl _, ok1.add _ hD, (q2.with hD hFD hRD (by intro ps e; cases e) hnT).imp fun r R' F' H' _ _ h => h.2.2.2⟩, ?_⟩
    rintro i m H2 ⟨rfl, hi', F2, R2, acc, xs, s2, f2, a2, h2, d2, l2, okr, q3⟩
    obtain ⟨y1, y2⟩ := hy i F2 H2 s2 okr.g.fh
    by_cases hlt : i < ds.length
    · obtain ⟨go, yl⟩ := y1 ds[i] (List.getElem?_eq_getElem hlt)
      have q4 : Run X.K NoX (lcL t ft fe (ds[i] :: ds.drop (i + 1)) (wipD ρ vs)) R2 F2 H2 (fun r R' F' H' => ∀ p u, del H' D p = none → OwnAt X.prog X.w X.K F' (upd (del H' D) p u) p (.lst (acc ++ r)) → Q (.ref p) (upd (del H' D) p u)) := by
        rw [← List.drop_eq_getElem_cons hlt]
        exact q3
      refine .inr ⟨go, fun H' => i + 1 ≤ ds.length ∧ ∃ F2 R2 acc xs, Same F1 F2 ∧ F2 D = none ∧ RS.ad R2 ≠ some D ∧ H' D = some (.lst xs) ∧ DpAll X.K F2 xs acc ∧ xs.length ≤ i + 1 ∧ Ok X.prog X.w X.K E F2 (wipe σ vs) H' (wipD ρ vs) R2 ∧ KK (i + 1) acc xs R2 F2 H',
        fun H' h => ⟨ds.length - (i + 1), by omega, rfl, h⟩, fun x H' hx => ?_⟩
      obtain ⟨F3, gp, rd⟩ := yl x H' hx
      have hD3 : H' D = some (.lst xs) := gp.hh _ _ h2
      have f3 : F3 D = none := gp.nn D (by rw [h2]; simp) f2
      have ok3 := okr.grow (R' := R2) gp.g (gp.row okr.row)
      obtain ⟨ρ1, e3, q5⟩ := Run.lft (show Run _ _ (DL.lft (t ds[i] (wipD ρ vs)) >>= _) _ _ _ _ from Run.grow q4 gp).bind
      have q5 := q5 F3 H' (Grow.refl gp.fh) ok3.row
      refine sg E F3 σ H' _ ρ1 R2 x ds[i] _ ok3 rd e3 fun σ4 w4 ok4 => ⟨w4, F3, ρ1, R2, ok4, ?_⟩
      refine q5.bind.imp fun b R5 F5 H5 g5 r5 q6 => ?_
      have ok5 := ok4.grow g5 r5
      have okw := ok3.grow g5 r5
      have hD5 : H5 D = some (.lst xs) := g5.hs D _ hD3 f3 a2 fun ps e => nomatch e
      have f5 : F5 D = none := (g5.hn D (by rw [hD3]; simp) f3).2
      have a5 : RS.ad R5 ≠ some D := by rw [RS.ad_key g5.rk]; exact a2
      cases b with
      | false => exact iteF ⟨hlt, F5, R5, acc, xs, (s2.trans gp.ff).trans g5.ff, f5, a5, hD5, DpAll.mono (gp.ff.trans g5.ff) d2, by omega, okw, q6⟩
      | true =>
        refine iteT ⟨F5, ρ1, R5, ok5, ?_⟩
        refine (show Run _ _ (fe ρ1 >>= _) R5 F5 H5 _ from q6).bind.imp fun y R6 F6 H6 g6 r6 q7 v rv => ?_
        obtain ⟨y', e7, q8⟩ := Run.lft q7.bind
        have q8 := q8 F6 H6 (Grow.refl g6.fh) r6
        have hD6 : H6 D = some (.lst xs) := g6.hs D _ hD5 f5 a5 fun ps e => nomatch e
        have f6 : F6 D = none := (g6.hn D (by rw [hD5]; simp) f5).2
        have a6 : RS.ad R6 ≠ some D := by rw [RS.ad_key g6.rk]; exact a5
        have ey : y = .dat y' := by
          cases y with
          | dat z => cases e7; rfl
          | _ => cases e7
        subst ey
        have ss := (gp.ff.trans g5.ff).trans g6.ff
        refine ⟨xs, hD6, by rw [← sz_eq]; omega, hlt, F6, R6, acc ++ [y'], xs ++ [v], s2.trans ss, f6, a6, upd_same, (DpAll.mono ss d2).append (.cons rv .nil), by simp; omega, Ok.swap (okw.grow g6 r6) _ f6 hEH a6 hno hnT, ?_⟩
        refine (Run.swap (u' := .lst (xs ++ [v])) (show Run _ _ (lcL t ft fe (ds.drop (i + 1)) (wipD ρ vs) >>= _) R6 F6 H6 _ from q8).bind hD6 f6 a6 hnT).imp fun r R7 F7 H7 g7 r7 q9 p u h1 h2 => ?_
        have hD7 : F7 D = none := (g7.hn D (by rw [upd_same]; simp) f6).2
        have s7 : Same F7 (upd H7 D (.lst xs)) := fun b x e => by
          rw [upd_ne fun z => by rw [z, hD7] at e; cases e]
          exact g7.fh b x e
        have r7' : RowOk X.K F7 (upd H7 D (.lst xs)) R7 := by
          refine ⟨?_, r7.tb.upd hnT⟩
          cases R7 with
          | none => trivial
          | some x =>
            obtain ⟨h1, h2, h3, h4⟩ := r7.rw
            have : RS.ad (some x) ≠ some D := by rw [RS.ad_key g7.rk]; exact a6
            exact ⟨by rw [upd_ne fun z => this (by show some x.a = _; rw [z])]; exact h1, h2, h3, h4⟩
        have q10 := Run.pure q9 s7 r7' p u
        rw [del_upd] at q10
        refine q10 h1 ?_
        rw [List.append_assoc] at h2
        exact h2
    · have e : i = ds.length := by omega
      subst e
      have q3' : Run X.K NoX (lcL t ft fe [] (wipD ρ vs)) R2 F2 H2 (fun r R' F' H' => ∀ p u, del H' D p = none → OwnAt X.prog X.w X.K F' (upd (del H' D) p u) p (.lst (acc ++ r)) → Q (.ref p) (upd (del H' D) p u)) := by
        have := q3
        simp only [KK, List.drop_length] at this
        exact this
      have fin := Run.pure q3' okr.g.fh okr.row
      refine .inl ⟨y2 (Nat.le_refl _), ?_⟩
      have e2 : upd (del H2 D) D (.lst xs) = H2 := upd_del h2
      have := fin D (.lst xs) del_same (by rw [e2, List.append_nil]; exact ⟨xs, h2, d2⟩)
      rw [e2] at this
      exact this
  · rw [if_neg hz] at q
    exact q.elim
/-- [elt for target in iter if ..] as a new list -/
theorem pdn_lc {elt tg iter : Expr} {ifs : List Expr} {scope : Scope} {own : List (Str × Nat)} {fi : En → M (List D)} {t : D → En → Option En} {ft : En → M Bool} {fe : En → M D} (hc : X.calm = true) (hN : X.N.Nodup)
    (hi : PDI X W E tg iter fi) (ok : BlkOk X.N X.env.scope scope own) (hg : PDGb X scope (own.map (·.2)) tg t)
    (ht : ∀ (s : Shared) (H : Hp) (C : Addr) (cl : List (Str × Addr)) (fp : List Addr), PDTs (X.blk s H scope (compEnvC scope cl C X.env) fp) NoX E ifs ft)
    (he : ∀ (s : Shared) (H : Hp) (C : Addr) (cl : List (Str × Addr)) (fp : List Addr), PD (X.blk s H scope (compEnvC scope cl C X.env) fp) NoX E elt fe)
    (hs : ∀ x, foldedSetIterable iter X.env x = pure x := by intro _; rfl) : PDN X W E (.ListComp elt [⟨tg, iter, ifs, 0⟩] scope pos) (nLc fi t ft fe (own.map (·.2))) := by
  obtain ⟨g, pg, sg⟩ := lc_lift (W := W) (E := E) (fi := fi) (ft := ft) (fe := fe) hg
  exact PE.imp (pe_lc (tt := liftT X.prog X.w X.K NoX E ft) (te := lift X.prog X.w X.K NoX E fe) hc hN hi ok pg ht he hs) sg
/-- name = [..] on one line, the name a local -/
theorem pds_setLc {y : Str} {py spos : Pos} {elt tg iter : Expr} {ifs : List Expr} {scope : Scope} {own : List (Str × Nat)} {fi : En → M (List D)} {t : D → En → Option En} {ft : En → M Bool} {fe : En → M D} (i : Nat) (hy : X.N[i]? = some y) (hyl : X.env.scope.names.lookup y = some .local) (hl : (py.line == pos.line) = true) (ha : (scope.names.any fun (n, k) => n == y && (k == .local || k == .cell)) = false) (hk : X.env.scope.kind = .function) (hc : X.calm = true) (hN : X.N.Nodup)
    (hi : PDI X W E tg iter fi) (ok : BlkOk X.N X.env.scope scope own) (hg : PDGb X scope (own.map (·.2)) tg t)
    (ht : ∀ (s : Shared) (H : Hp) (C : Addr) (cl : List (Str × Addr)) (fp : List Addr), PDTs (X.blk s H scope (compEnvC scope cl C X.env) fp) NoX E ifs ft)
    (he : ∀ (s : Shared) (H : Hp) (C : Addr) (cl : List (Str × Addr)) (fp : List Addr), PD (X.blk s H scope (compEnvC scope cl C X.env) fp) NoX E elt fe)
    (hs : ∀ x, foldedSetIterable iter X.env x = pure x := by intro _; rfl) : PDS X W E (.Assign [.Name y py] (.ListComp elt [⟨tg, iter, ifs, 0⟩] scope pos) spos) (sSet i (eFresh (nLc fi t ft fe (own.map (·.2))))) := by
  obtain ⟨g, pg, sg⟩ := lc_lift (W := W) (E := E) (fi := fi) (ft := ft) (fe := fe) hg
  refine PS.imp (ps_setLc (tt := liftT X.prog X.w X.K NoX E ft) (te := lift X.prog X.w X.K NoX E fe) hc hN hy hyl (sw_true hk hyl hl ha) hi ok pg ht he hs) fun D₀ σ H hl => ?_
  obtain ⟨F, ρ, R, okk, run⟩ := hl
  refine sg σ H _ ⟨F, ρ, R, okk, (RunS.bind okk (show RunS _ _ _ _ _ (nLc fi t ft fe (own.map (·.2)) ρ >>= fun o => pure (.nx (ρ.set i (.val (owD o))))) R F D₀ from by
    have : (nLc fi t ft fe (own.map (·.2)) ρ >>= fun o => (pure (.nx (ρ.set i (.val (owD o)))) : M Fl)) = sSet i (eFresh (nLc fi t ft fe (own.map (·.2)))) ρ := by
      unfold sSet eFresh
      simp only [bind_assoc, pure_bind]
    rw [this]
    exact run)).imp fun o R1 F1 H1 g1 r1 h1 p u hp ow => ?_⟩
  have hF : F1 p = none := by
    cases e : F1 p with
    | none => rfl
    | some x => rw [g1.fh p x e] at hp; cases hp
  have gp := GrowP.new (o := u) g1.fh hp
  have ok1 := (okk.grow g1 r1).grow gp.g (gp.row r1)
  exact RunS.mono gp.ff h1 _ _ _ (Same.refl _) (ok1.set i (own_rd hF upd_same ow))
end
end DL

set_option maxHeartbeats 4000000
namespace DL
open PySem PySem.Spec PyProof.Rows L2

/-! ### defs, by data -/
def spD (P : Program) (w : World) (K : PySem.W.Frag) (fn : List D → M D) : Sp := fun vs H Q EX =>
  ∃ F ds R, Same F H ∧ RowOk K F H R ∧ Paired (RD P w K F) vs ds ∧ Run K EX (fn ds) R F H fun d R' F' H' => ∀ v, RD P w K F' v d → Q v H'
/-- the module's name holds a def that does fn -/
structure Fn (P : Program) (w : World) (K : PySem.W.Frag) (mg : Str → Option Value) (base : Heap) (k : Nat) (name : Str) (fn : List D → M D) : Prop where
  ex : ∃ f fd ps, mg name = some (.ref f) ∧ PySem.W.keepIn K (.ref f) = true ∧ Binds K fd ps [] ∧ FnOk P w K mg base (L2.CX P w) k f fd ps (spD P w K fn)
theorem Fn.mono {P : Program} {w : World} {K : PySem.W.Frag} {mg : Str → Option Value} {base : Heap} {k k' : Nat} {name : Str} {fn : List D → M D} (h : Fn P w K mg base k name fn) (l : k ≤ k') : Fn P w K mg base k' name fn :=
  let ⟨f, fd, ps, a, b, c, d⟩ := h.ex; ⟨f, fd, ps, a, b, c, d.mono l⟩
def eF (fn : List D → M D) (a : En → M (List D)) : En → M D := fun ρ => do let ds ← a ρ; fn ds
section
variable {X : Cx} {W : XK} {E : Ent} {pos p : Pos}
theorem pd_call {x : Str} {k : Nat} {e : Expr} {es : List Expr} {fn : List D → M D} {fr : En → M (List D)} (h : Fn X.prog X.w X.K X.mg X.base k x fn) (hr : Room k X.A) (hg : Gl X x) (tk : Takes X (fun c d _ H => W c d H)) (ha : PDA X W E (e :: es) fr)
    (hdb : (x == ("__debug__" : Str)) = false := by decide) (he : starEach (e :: es) X.env = (false, eval e X.env) :: starEach es X.env := by rfl) (hpl : (backTo pos (starEach es X.env)).any (·.1) = false := by rfl) :
    PD X W E (.Call (.Name x p) (e :: es) [] pos) (eF fn fr) := by
  obtain ⟨f, fd, ps, hm, hk, hb, F⟩ := h.ex
  refine PE.imp (pe_call F hr hg hm hk hb .nil (passes_call (E := W) tk fun _ _ _ _ h => h) ha hdb he hpl) fun σ H Q hl => ?_
  obtain ⟨F0, ρ, R, ok, run⟩ := hl
  refine ⟨F0, ρ, R, ok, run.bind.imp fun ds R1 F1 H1 g1 r1 h1 vs rs => ?_⟩
  show spD X.prog X.w X.K fn (vs ++ []) H1 Q W
  rw [List.append_nil]
  exact ⟨F1, ds, R1, g1.fh, r1, rs, h1⟩
end
/-- a def's body run at its arguments: n parameters, m names in all -/
def runFn (n m : Nat) (fb : En → M Fl) (ds : List D) : M D := if ds.length = n then (do
  let fl ← fb (ds.map .val ++ List.replicate (m - n) .no)
  match fl with
  | .nx _ => pure (.dat .none)
  | .rt d => pure d
  | _ => stk) else stk
theorem paired_len {α β : Type} {r : α → β → Prop} {xs : List α} {ys : List β} (h : Paired r xs ys) : xs.length = ys.length := by
  induction h with
  | nil => rfl
  | cons _ _ ih => simp [ih]
theorem paired_getD {α β : Type} {r : α → β → Prop} : ∀ {xs : List α} {ys : List β} {i : Nat} {y : β}, Paired r xs ys → ys[i]? = some y → ∃ x, xs[i]? = some x ∧ r x y
  | _, _, _, _, .nil, e => by simp at e
  | _, _, 0, _, .cons h _, e => by simp at e; subst e; exact ⟨_, rfl, h⟩
  | _, _, i + 1, _, .cons _ t, e => by simpa using paired_getD (i := i) t (by simpa using e)
theorem fn_ok {P : Program} {w : World} {K : PySem.W.Frag} {mg : Str → Option Value} {base : Heap} {x qual : Str} {st : Stmt} {f : Addr} {fd : FuncData} {N ps : List Str} {k : Nat} {fb : En → M Fl} (F : Fun K x qual st f fd) (S : FnScope N ps (defScope st))
    (hbody : ∀ (cdv : Value) (A : Around) (outer : List Env) (s : Shared) (H : Hp) (EX : XK) (E : Ent), Room k (A.deeper (envOfC qual (defScope st) s.heap.objs.size f cdv)) →
      PDSs (cxOf (L2.CX P w) P w K mg base N qual (defScope st) f cdv A outer s H EX) EX E (defBody st) fb) :
    FnOk P w K mg base (L2.CX P w) (k + 1) f fd ps (spD P w K (runFn ps.length N.length fb)) := by
  refine F.okX S (fun vs H Q EX h => ?_) (fun cdv A outer s H vs Q EX hr h => ?_)
  · obtain ⟨F0, ds, R, sf, ro, pr, run⟩ := h
    unfold runFn at run
    by_cases hl : ds.length = ps.length
    · rw [paired_len pr, hl]
    · rw [if_neg hl] at run
      exact run.elim
  · obtain ⟨F0, ds, R, sf, ro, pr, run⟩ := h
    refine ⟨_, hbody cdv A outer s H EX ⟨F0, H, R⟩ hr, ?_⟩
    have hl : ds.length = ps.length := by
      unfold runFn at run
      by_cases hl : ds.length = ps.length
      · exact hl
      · rw [if_neg hl] at run
        exact run.elim
    have hvl := paired_len pr
    have hpl : ps.length ≤ N.length := by have := congrArg List.length S.pre; rw [List.length_take] at this; omega
    unfold runFn at run
    rw [if_pos hl] at run
    have oks : Ok P w K ⟨F0, H, R⟩ F0 (L2.start N vs) H (ds.map .val ++ List.replicate (N.length - ps.length) .no) R := by
      refine ⟨Grow.refl sf, ro, fun i sv e => ?_, fun i j oi oj a e1 _ _ _ => ?_, ?_⟩
      · by_cases hi : i < ds.length
        · rw [List.getElem?_append_left (by simpa using hi), List.getElem?_map] at e
          obtain ⟨d, e1, e2⟩ := Option.map_eq_some_iff.mp e
          subst e2
          obtain ⟨v, e3, e4⟩ := paired_getD pr e1
          refine ⟨v, ?_, e4⟩
          unfold L2.start
          rw [List.getElem?_append_left (by simp; omega), List.getElem?_map, e3]
          rfl
        · rw [List.getElem?_append_right (by simpa using hi), List.getElem?_replicate] at e
          split at e
          · cases e; trivial
          · cases e
      · by_cases hi : i < ds.length
        · rw [List.getElem?_append_left (by simpa using hi), List.getElem?_map] at e1
          obtain ⟨d, _, e2⟩ := Option.map_eq_some_iff.mp e1
          cases e2
        · rw [List.getElem?_append_right (by simpa using hi), List.getElem?_replicate] at e1
          split at e1 <;> cases e1
      · unfold L2.start
        simp
        omega
    refine ⟨F0, _, R, oks, ?_⟩
    unfold Run at run
    unfold RunS
    rw [M.bind_def] at run
    unfold M.bnd at run
    show (match fb (ds.map .val ++ List.replicate (N.length - ps.length) .no) R with
      | some (.val (.nx ρ), R') => _ | some (.val (.bk ρ), R') => _ | some (.val (.ct ρ), R') => _ | some (.val (.rt d), R') => _ | some (.exn x, R') => _ | none => False)
    cases e : fb (ds.map .val ++ List.replicate (N.length - ps.length) .no) R with
    | none => rw [e] at run; exact run
    | some q =>
      obtain ⟨o, R'⟩ := q
      rw [e] at run
      cases o with
      | exn x => exact fun c dd F' H' g r rx => run c dd F' H' g r rx
      | val y =>
        cases y with
        | nx ρ' => exact fun σ F' H' _ ok => run F' H' ok.g ok.row .non .non
        | rt d => exact fun v F' H' g r rd => run F' H' g r v rd
        | bk ρ' => exact run.elim
        | ct ρ' => exact run.elim
/-- .. as the module's name -/
theorem fn_mk {P : Program} {w : World} {K : PySem.W.Frag} {mg : Str → Option Value} {base : Heap} {x : Str} {st : Stmt} {f : Addr} {fd : FuncData} {N ps : List Str} {k : Nat} {fb : En → M Fl} {fn : List D → M D} (hm : mg x = some (.ref f)) (F : Fun K x x st f fd) (hb : Binds K fd ps []) (S : FnScope N ps (defScope st))
    (hbody : ∀ (cdv : Value) (A : Around) (outer : List Env) (s : Shared) (H : Hp) (EX : XK) (E : Ent), Room k (A.deeper (envOfC x (defScope st) s.heap.objs.size f cdv)) →
      PDSs (cxOf (L2.CX P w) P w K mg base N x (defScope st) f cdv A outer s H EX) EX E (defBody st) fb) (hfn : runFn ps.length N.length fb = fn) : Fn P w K mg base (k + 1) x fn :=
  ⟨f, fd, ps, hm, F.kp, hb, by rw [← hfn]; exact fn_ok F S hbody⟩

/-! ### what is walked: lists, tuples, ranges -/
section
variable {X : Cx} {W : XK} {E : Ent} {pos p : Pos}
def iSeq (f : En → M D) : En → M (List D) := fun ρ => do
  let x ← f ρ
  match x with
  | .dat (.tuple xs) => pure (xs.map .dat)
  | .dat (.list xs) => pure (xs.map .dat)
  | _ => stk
theorem yields_list {P : Program} {w : World} {K : PySem.W.Frag} {F : Hp} {a : Addr} {xs : List V} {ds : List PyData} (h1 : SqL K F a xs) (h2 : DpAll K F xs ds) : Yields P w K F (Itl K a) (ds.map .dat) := by
  intro i F' H s1 s2
  have q : SqL K H a xs := s2.seq (s1.seq h1)
  refine ⟨fun d e => ?_, fun e => ⟨xs, q, by rw [h2.len]; simpa using e⟩⟩
  rw [List.getElem?_map] at e
  obtain ⟨y, e1, e2⟩ := Option.map_eq_some_iff.mp e
  subst e2
  obtain ⟨x, x1, x2⟩ := h2.get e1
  refine ⟨⟨xs, x, q, x1⟩, fun z H' hz => ?_⟩
  obtain ⟨e3, e4⟩ := hz
  subst e3
  have := e4 xs q
  rw [x1] at this
  cases this
  exact ⟨F', .refl s2, Dp.mono s1 x2⟩
theorem yields_tup {P : Program} {w : World} {K : PySem.W.Frag} {F : Hp} {a : Addr} {xs : List V} {ds : List PyData} (h1 : SqT K F a xs) (h2 : DpAll K F xs ds) : Yields P w K F (Itt K a) (ds.map .dat) := by
  intro i F' H s1 s2
  have q : SqT K H a xs := s2.tup (s1.tup h1)
  refine ⟨fun d e => ?_, fun e => ⟨xs, q, by rw [h2.len]; simpa using e⟩⟩
  rw [List.getElem?_map] at e
  obtain ⟨y, e1, e2⟩ := Option.map_eq_some_iff.mp e
  subst e2
  obtain ⟨x, x1, x2⟩ := h2.get e1
  refine ⟨⟨xs, x, q, x1⟩, fun z H' hz => ?_⟩
  obtain ⟨e3, e4⟩ := hz
  subst e3
  have := e4 xs q
  rw [x1] at this
  cases this
  exact ⟨F', .refl s2, Dp.mono s1 x2⟩
theorem pi_seq {tg l : Expr} {tl : TE} (hl : PE X l tl) : PI X tg l (fun σ H R => tl σ H fun x H1 => ∃ a, x = .ref a ∧ ((∃ xs, SqL X.K H1 a xs) ∧ R (Itl X.K a) H1 ∨ (∃ xs, SqT X.K H1 a xs) ∧ R (Itt X.K a) H1)) := by
  refine ⟨fun pins s σ H R I h => ?_⟩
  refine thn (hl.run pins s σ H _ I h) fun v s1 ⟨x, H1, I1, r1, q1⟩ => ?_
  obtain ⟨a, e, q⟩ := q1
  subst e
  cases r1
  have fresh : ∀ b ∈ [s1.heap.objs.size], FpOk X pins H1 b := fun b hb => by
    have e : b = s1.heap.objs.size := by simpa using hb
    subst e
    exact I1.fpOk (Nat.le_refl _) (I1.hok.fresh (Nat.le_refl _))
  rcases q with ⟨⟨xs, hq⟩, q⟩ | ⟨⟨xs, hq⟩, q⟩
  · obtain ⟨its, rv, p, hz⟩ := I1.list hq
    refine wpAny_pyIter_list p.isList ?_
    exact ⟨s1.heap.objs.size, [s1.heap.objs.size], _, _, H1, rfl, I1.kept (t' := s1.toks) fun b o e => Heap.get?_push_of_some _ e, turn_list a _, ⟨_, Heap.get?_push_size _ rfl, rfl, rfl⟩, fresh, q⟩
  · obtain ⟨its, rv, p, hz⟩ := I1.tuple hq
    refine wpAny_pyIter_tuple (show s1.heap.IsTuple a its.toArray from p) ?_
    exact ⟨s1.heap.objs.size, [s1.heap.objs.size], _, _, H1, rfl, I1.kept (t' := s1.toks) fun b o e => Heap.get?_push_of_some _ e, turn_tuple a _, ⟨_, Heap.get?_push_size _ rfl, rfl, rfl⟩, fresh, q⟩
theorem pdi_seq {tg l : Expr} {f : En → M D} (h : PD X W E l f) : PDI X W E tg l (iSeq f) := by
  refine PI.imp (pi_seq h) fun σ H Q hl => ?_
  obtain ⟨F, ρ, R, ok, run⟩ := hl
  refine ⟨F, ρ, R, ok, run.bind.imp fun d R1 F1 H1 g1 r1 q v rv => ?_⟩
  cases d with
  | dat x =>
    cases x with
    | tuple xs =>
      obtain ⟨a, ys, rfl, h1, h2⟩ := Dp.tup_inv rv
      exact ⟨a, rfl, .inr ⟨⟨ys, g1.fh.tup h1⟩, Run.pure q g1.fh r1 _ (yields_tup h1 h2)⟩⟩
    | list xs =>
      obtain ⟨a, ys, rfl, h1, h2⟩ := Dp.lst_inv rv
      exact ⟨a, rfl, .inl ⟨⟨ys, g1.fh.seq h1⟩, Run.pure q g1.fh r1 _ (yields_list h1 h2)⟩⟩
    | _ => exact q.elim
  | _ => exact q.elim
def rangeD (lo : Int) (n : Nat) : List D := (List.range n).map fun (i : Nat) => .dat (.int (lo + (i : Int)))
def inLine (i : Int) : Bool := decide (-(2 ^ 62) ≤ i ∧ i < 2 ^ 62)
def iRange1 (a : En → M (List D)) : En → M (List D) := fun ρ => do
  let xs ← a ρ
  match xs with
  | [.dat (.int j)] => if inLine j = true then pure (rangeD 0 j.toNat) else stk
  | _ => stk
def iRange2 (a : En → M (List D)) : En → M (List D) := fun ρ => do
  let xs ← a ρ
  match xs with
  | [.dat (.int i), .dat (.int j)] => if (inLine i && inLine j) = true then pure (rangeD i (j - i).toNat) else stk
  | _ => stk
theorem yields_range {P : Program} {w : World} {K : PySem.W.Frag} {F : Hp} {lo : Int} {n : Nat} : Yields P w K F (Itr lo n) (rangeD lo n) := by
  intro i F' H s1 s2
  unfold rangeD
  refine ⟨fun d e => ?_, fun e => show n ≤ i by simpa using e⟩
  rw [List.getElem?_map] at e
  obtain ⟨y, e1, e2⟩ := Option.map_eq_some_iff.mp e
  have hi : i < n := by
    have := (List.getElem?_eq_some_iff.mp e1).1
    simpa using this
  have ey : y = i := by
    rw [List.getElem?_range hi] at e1
    exact (Option.some.inj e1).symm
  subst ey e2
  refine ⟨hi, fun z H' hz => ?_⟩
  obtain ⟨e3, e4⟩ := hz
  subst e3 e4
  exact ⟨F', .refl s2, .int _⟩
theorem pdi_range1 {tg a : Expr} {f : En → M (List D)} (hg : Gl X "range") (hm : X.mg "range" = none) (ha : PDA X W E [a] f) (hs : starEach [a] X.env = [(false, eval a X.env)] := by rfl) : PDI X W E tg (.Call (.Name "range" p) [a] [] pos) (iRange1 f) := by
  refine PI.imp (pi_range1 hg hm ha hs) fun σ H Q hl => ?_
  obtain ⟨F, ρ, R, ok, run⟩ := hl
  refine ⟨F, ρ, R, ok, run.bind.imp fun ds R1 F1 H1 g1 r1 q vs rs => ?_⟩
  split at q
  · rename_i j
    cases rs with
    | cons h t =>
      cases t
      by_cases hl : inLine j = true
      · rw [if_pos hl] at q
        have := of_decide_eq_true hl
        exact ⟨j, by rw [Dp.int_inv h], this.1, this.2, Run.pure q g1.fh r1 _ yields_range⟩
      · rw [if_neg hl] at q
        exact q.elim
  · exact q.elim
theorem pdi_range2 {tg a b : Expr} {f : En → M (List D)} (hg : Gl X "range") (hm : X.mg "range" = none) (ha : PDA X W E [a, b] f) (hs : starEach [a, b] X.env = [(false, eval a X.env), (false, eval b X.env)] := by rfl) (hs2 : starEach [b] X.env = [(false, eval b X.env)] := by rfl) :
    PDI X W E tg (.Call (.Name "range" p) [a, b] [] pos) (iRange2 f) := by
  refine PI.imp (pi_range2 hg hm ha hs hs2) fun σ H Q hl => ?_
  obtain ⟨F, ρ, R, ok, run⟩ := hl
  refine ⟨F, ρ, R, ok, run.bind.imp fun ds R1 F1 H1 g1 r1 q vs rs => ?_⟩
  split at q
  · rename_i i j
    cases rs with
    | cons h t =>
      cases t with
      | cons h' t' =>
        cases t'
        by_cases hl : (inLine i && inLine j) = true
        · rw [if_pos hl] at q
          rw [Bool.and_eq_true] at hl
          have h1 := of_decide_eq_true hl.1
          have h2 := of_decide_eq_true hl.2
          exact ⟨i, j, by rw [Dp.int_inv h, Dp.int_inv h'], ⟨h1.1, h1.2, h2.1, h2.2⟩, Run.pure q g1.fh r1 _ yields_range⟩
        · rw [if_neg hl] at q
          exact q.elim
  · exact q.elim
end
end DL

set_option maxHeartbeats 4000000
namespace DL
open PySem PySem.Spec PyProof.Rows L2

/-! ### built-ins, by data -/
section
variable {X : Cx}
theorem paired1 {P : Program} {w : World} {K : PySem.W.Frag} {F : Hp} {vs : List V} {d : D} (h : Paired (RD P w K F) vs [d]) : ∃ v, vs = [v] ∧ RD P w K F v d := by
  cases h with
  | cons h t => cases t; exact ⟨_, rfl, h⟩
theorem paired2 {P : Program} {w : World} {K : PySem.W.Frag} {F : Hp} {vs : List V} {d e : D} (h : Paired (RD P w K F) vs [d, e]) : ∃ v u, vs = [v, u] ∧ RD P w K F v d ∧ RD P w K F u e := by
  cases h with
  | cons h t =>
    cases t with
    | cons h' t' => cases t'; exact ⟨_, _, rfl, h, h'⟩
/-- a list's or tuple's items -/
def seqD : D → Option (List PyData)
  | .dat (.list xs) => some xs
  | .dat (.tuple xs) => some xs
  | _ => none
theorem seqD_inv {P : Program} {w : World} {K : PySem.W.Frag} {F : Hp} {v : V} {d : D} {xs : List PyData} (h : RD P w K F v d) (e : seqD d = some xs) : ∃ a ys, v = .ref a ∧ (SqL K F a ys ∨ SqT K F a ys) ∧ DpAll K F ys xs := by
  unfold seqD at e
  split at e
  · cases e; obtain ⟨a, ys, h1, h2, h3⟩ := Dp.lst_inv h; exact ⟨a, ys, h1, .inl h2, h3⟩
  · cases e; obtain ⟨a, ys, h1, h2, h3⟩ := Dp.tup_inv h; exact ⟨a, ys, h1, .inr h2, h3⟩
  · cases e
theorem seq_up {K : PySem.W.Frag} {F H : Hp} {a : Addr} {ys : List V} (s : Same F H) (h : SqL K F a ys ∨ SqT K F a ys) : SqL K H a ys ∨ SqT K H a ys := h.elim (fun h => .inl (s.seq h)) fun h => .inr (s.tup h)
/-- len -/
def g_len : List D → Option D
  | [.dat (.list xs)] => some (.dat (.int xs.length))
  | [.dat (.tuple xs)] => some (.dat (.int xs.length))
  | [.dat (.str s)] => if s.length ≤ SZ then some (.dat (.int s.length)) else none
  | _ => none
theorem dc_len : DCall X (.builtin "len") g_len := by
  intro pins s σ H vs us Q I r h
  obtain ⟨F, ds, d, sf, pr, e, q⟩ := h
  unfold g_len at e
  split at e
  · cases e
    obtain ⟨v, rfl, rv⟩ := paired1 pr
    obtain ⟨a, ys, rfl, h2, h3⟩ := Dp.lst_inv rv
    exact call_len_seq pins s σ H _ us Q I r ⟨a, ys, rfl, .inl (sf.seq h2), by rw [h3.len]; exact q _ F H (.refl sf) (.int _)⟩
  · cases e
    obtain ⟨v, rfl, rv⟩ := paired1 pr
    obtain ⟨a, ys, rfl, h2, h3⟩ := Dp.tup_inv rv
    exact call_len_seq pins s σ H _ us Q I r ⟨a, ys, rfl, .inr (sf.tup h2), by rw [h3.len]; exact q _ F H (.refl sf) (.int _)⟩
  · split at e
    · rename_i hz
      cases e
      obtain ⟨v, rfl, rv⟩ := paired1 pr
      exact call_len_str pins s σ H _ us Q I r ⟨_, by rw [Dp.str_inv rv], by rw [← sz_eq]; exact hz, q _ F H (.refl sf) (.int _)⟩
    · cases e
  · cases e
def boolsD : List PyData → Option (List Bool)
  | [] => some []
  | .bool b :: r => (boolsD r).map (b :: ·)
  | _ :: _ => none
theorem boolsD_inv : ∀ {xs : List PyData} {bs : List Bool}, boolsD xs = some bs → xs = bs.map .bool
  | [], _, e => by cases e; rfl
  | x :: xs, _, e => by
    unfold boolsD at e
    split at e
    · rename_i e1; cases e1
    · rename_i e1
      cases e1
      obtain ⟨ys, e2, e3⟩ := Option.map_eq_some_iff.mp e
      subst e3
      rw [boolsD_inv e2]
      rfl
    · cases e
theorem boolsD_of : ∀ bs : List Bool, boolsD (bs.map .bool) = some bs
  | [] => rfl
  | b :: bs => by rw [List.map_cons, boolsD, boolsD_of bs]; rfl
def intsD : List PyData → Option (List Int)
  | [] => some []
  | .int b :: r => (intsD r).map (b :: ·)
  | _ :: _ => none
theorem intsD_inv : ∀ {xs : List PyData} {bs : List Int}, intsD xs = some bs → xs = bs.map .int
  | [], _, e => by cases e; rfl
  | x :: xs, _, e => by
    unfold intsD at e
    split at e
    · rename_i e1; cases e1
    · rename_i e1
      cases e1
      obtain ⟨ys, e2, e3⟩ := Option.map_eq_some_iff.mp e
      subst e3
      rw [intsD_inv e2]
      rfl
    · cases e
theorem intsD_of : ∀ bs : List Int, intsD (bs.map .int) = some bs
  | [] => rfl
  | b :: bs => by rw [List.map_cons, intsD, intsD_of bs]; rfl
def g_all : List D → Option D
  | [.dat (.list xs)] => (boolsD xs).map fun bs => dB (bs.all id)
  | _ => none
def g_any : List D → Option D
  | [.dat (.list xs)] => (boolsD xs).map fun bs => dB (bs.any id)
  | _ => none
theorem dc_all (hc : X.calm = true) : DCall X (.builtin "all") g_all := by
  intro pins s σ H vs us Q I r h
  obtain ⟨F, ds, d, sf, pr, e, q⟩ := h
  unfold g_all at e
  split at e
  · obtain ⟨bs, e1, e2⟩ := Option.map_eq_some_iff.mp e
    subst e2
    have e3 := boolsD_inv e1
    subst e3
    obtain ⟨v, rfl, rv⟩ := paired1 pr
    obtain ⟨a, ys, rfl, h2, h3⟩ := Dp.lst_inv rv
    have := h3.bools
    subst this
    exact cr_all hc pins s σ H _ us Q I r ⟨a, bs, rfl, sf.seq h2, q _ F H (.refl sf) (.bl _)⟩
  · cases e
theorem dc_any (hc : X.calm = true) : DCall X (.builtin "any") g_any := by
  intro pins s σ H vs us Q I r h
  obtain ⟨F, ds, d, sf, pr, e, q⟩ := h
  unfold g_any at e
  split at e
  · obtain ⟨bs, e1, e2⟩ := Option.map_eq_some_iff.mp e
    subst e2
    have e3 := boolsD_inv e1
    subst e3
    obtain ⟨v, rfl, rv⟩ := paired1 pr
    obtain ⟨a, ys, rfl, h2, h3⟩ := Dp.lst_inv rv
    have := h3.bools
    subst this
    exact cr_any hc pins s σ H _ us Q I r ⟨a, bs, rfl, sf.seq h2, q _ F H (.refl sf) (.bl _)⟩
  · cases e
def g_sum : List D → Option D
  | [.dat (.list xs)] => (intsD xs).map fun ns => .dat (.int ns.sum)
  | _ => none
theorem dc_sum (hc : X.calm = true) : DCall X (.builtin "sum") g_sum := by
  intro pins s σ H vs us Q I r h
  obtain ⟨F, ds, d, sf, pr, e, q⟩ := h
  unfold g_sum at e
  split at e
  · obtain ⟨bs, e1, e2⟩ := Option.map_eq_some_iff.mp e
    subst e2
    have e3 := intsD_inv e1
    subst e3
    obtain ⟨v, rfl, rv⟩ := paired1 pr
    obtain ⟨a, ys, rfl, h2, h3⟩ := Dp.lst_inv rv
    have := h3.ints
    subst this
    exact cr_sum hc pins s σ H _ us Q I r ⟨a, bs, rfl, sf.seq h2, q _ F H (.refl sf) (.int _)⟩
  · cases e
/-- max, min of a list of alike data -/
def alikeL (xs : List PyData) : Bool := xs.all (fun x => xs.all (fun y => W.alike x y) && (match x with | .none => false | _ => true)) && decide (PyData.depthAll xs ≤ 60)
def g_max : List D → Option D
  | [.dat (.list (x :: xs))] => if alikeL (x :: xs) = true then some (.dat (W.maxD x xs)) else none
  | [.dat (.int a), .dat (.int b)] => some (.dat (.int (if b > a then b else a)))
  | _ => none
def g_min : List D → Option D
  | [.dat (.list (x :: xs))] => if alikeL (x :: xs) = true then some (.dat (W.minD x xs)) else none
  | _ => none
theorem alikeL_ok {xs : List PyData} (h : alikeL xs = true) : W.AlikeAll xs ∧ PyData.depthAll xs ≤ 60 := by
  unfold alikeL at h
  rw [Bool.and_eq_true, List.all_eq_true] at h
  refine ⟨⟨fun x hx y hy => ?_, fun x hx e => ?_⟩, of_decide_eq_true h.2⟩
  · have := h.1 x hx
    rw [Bool.and_eq_true, List.all_eq_true] at this
    exact this.1 y hy
  · have := h.1 x hx
    rw [Bool.and_eq_true] at this
    subst e
    exact absurd this.2 (by decide)
theorem fold_mem {α : Type} (f : α → α → Bool) : ∀ (xs : List α) (x : α), xs.foldl (fun a y => if f a y = true then y else a) x ∈ x :: xs
  | [], x => List.mem_cons_self ..
  | y :: ys, x => by
    rw [List.foldl_cons]
    by_cases h : f x y = true
    · rw [if_pos h]
      have := fold_mem f ys y
      exact List.mem_cons_of_mem _ this
    · rw [if_neg h]
      have := fold_mem f ys x
      rcases List.mem_cons.mp this with e | e
      · rw [e]; exact List.mem_cons_self ..
      · exact List.mem_cons_of_mem _ (List.mem_cons_of_mem _ e)
theorem vals_at : ∀ {xs : List V} {us : List Value} {i : Nat} {u : Value}, Vals xs us → us[i]? = some u → ∃ x, xs[i]? = some x ∧ RelV x u
  | _, _, _, _, .nil, e => by simp at e
  | _, _, 0, _, .cons h _, e => by simp at e; subst e; exact ⟨_, rfl, h⟩
  | _, _, i + 1, _, .cons _ t, e => by simpa using vals_at (i := i) t (by simpa using e)
theorem best_ok {pins : List (Addr × Obj)} {s : Shared} {σ : L2.St} {F H : Hp} {Q : VK} {its : List Value} {ys : List V} {xs : List PyData} {m : PyData} {i : Nat} {u : Value} {h' : Heap} {tk : Nat} {bs : List Addr} (I : Inv X pins σ H s) (sf : Same F H) (h3 : DpAll X.K F ys xs) (rv : Vals ys its)
    (ha : W.AlikeAll xs) (hm : m ∈ xs) (eu : its[i]? = some u) (rd : Reads h' u m bs) (hk : ∀ b o, s.heap.get? b = some o → h'.get? b = some o) (q : ∀ v F' H', GrowP F H F' H' → RD X.prog X.w X.K F' v (.dat m) → Q v H') : EP X pins σ Q u { s with heap := h', toks := tk } := by
  obtain ⟨x, e1, e2⟩ := vals_at rv eu
  obtain ⟨d, e3, e4⟩ := h3.getV e1
  obtain ⟨as, r1⟩ := rd_reads I sf e4 e2
  have e5 : d = m := W.alike_unique d m u as bs (ha.1 d (List.mem_of_getElem? e3) m hm) (PyProof.Rows.Reads.keeps hk r1) rd
  subst e5
  exact ⟨x, H, I.kept hk, e2, q x F H (.refl sf) e4⟩
theorem dc_max (hc : X.calm = true) (hu : X.A.units + 64 < cLine) : DCall X (.builtin "max") g_max := by
  intro pins s σ H vs us Q I r h
  obtain ⟨F, ds, d, sf, pr, e, q⟩ := h
  unfold g_max at e
  split at e
  · split at e
    · rename_i hz
      cases e
      obtain ⟨ha, hd⟩ := alikeL_ok hz
      obtain ⟨v, rfl, rv⟩ := paired1 pr
      obtain ⟨a, ys, rfl, h2, h3⟩ := Dp.lst_inv rv
      obtain ⟨its, r2, pl, hz2⟩ := I.list (sf.seq h2)
      obtain ⟨as, rs⟩ := Dp.readsAll I _ _ _ (DpAll.mono sf h3) r2
      rw [Vals.ref1 r]
      refine W.max_list_data (I.ok.hd hc) pl.isList (by simpa using rs) ha (by omega) fun i u h' tk bs eu rd hk => ?_
      exact best_ok I sf h3 r2 ha (fold_mem (fun a y => W.dataLt a y) _ _) (by simpa using eu) rd hk q
    · cases e
  · cases e
    obtain ⟨v, u, rfl, r1, r2⟩ := paired2 pr
    rw [Dp.int_inv r1, Dp.int_inv r2] at r
    exact call_max2 hc pins s σ H _ us Q I r ⟨_, _, rfl, q _ F H (.refl sf) (.int _)⟩
  · cases e
theorem dc_min (hc : X.calm = true) (hu : X.A.units + 64 < cLine) : DCall X (.builtin "min") g_min := by
  intro pins s σ H vs us Q I r h
  obtain ⟨F, ds, d, sf, pr, e, q⟩ := h
  unfold g_min at e
  split at e
  · split at e
    · rename_i hz
      cases e
      obtain ⟨ha, hd⟩ := alikeL_ok hz
      obtain ⟨v, rfl, rv⟩ := paired1 pr
      obtain ⟨a, ys, rfl, h2, h3⟩ := Dp.lst_inv rv
      obtain ⟨its, r2, pl, hz2⟩ := I.list (sf.seq h2)
      obtain ⟨as, rs⟩ := Dp.readsAll I _ _ _ (DpAll.mono sf h3) r2
      rw [Vals.ref1 r]
      refine W.min_list_data (I.ok.hd hc) pl.isList (by simpa using rs) ha (by omega) fun i u h' tk bs eu rd hk => ?_
      exact best_ok I sf h3 r2 ha (fold_mem (fun a y => W.dataLt y a) _ _) (by simpa using eu) rd hk q
    · cases e
  · cases e
end
end DL

set_option maxHeartbeats 4000000
namespace DL
open PySem PySem.Spec PyProof.Rows L2

/-! ### enumerate, zip: of lists and tuples alike -/
def sqB (K : PySem.W.Frag) (b : Bool) (H : Hp) (a : Addr) (xs : List V) : Prop := match b with
  | true => SqL K H a xs
  | false => SqT K H a xs
def isB (b : Bool) (h : Heap) (a : Addr) (items : Array Value) : Prop := match b with
  | true => h.IsList a items
  | false => h.IsTuple a items
def itB (b : Bool) (h : Heap) (it a : Addr) (i : Nat) : Prop := match b with
  | true => h.IsListIter it a i
  | false => h.IsTupleIter it a i
theorem sqB_up {K : PySem.W.Frag} {b : Bool} {F H : Hp} {a : Addr} {xs : List V} (s : Same F H) (h : sqB K b F a xs) : sqB K b H a xs := by
  cases b
  · exact s.tup h
  · exact s.seq h
theorem itB_at {b : Bool} {h h' : Heap} {it a : Addr} {i : Nat} (x : itB b h it a i) (k : ∀ o, h.get? it = some o → h'.get? it = some o) : itB b h' it a i := by
  cases b
  · exact Heap.IsTupleIter.at x k
  · exact Heap.IsListIter.at x k
theorem itB_obj {b : Bool} {h : Heap} {it a : Addr} {i : Nat} (x : itB b h it a i) : ∃ o, h.get? it = some o ∧ ∀ v, o.data ≠ .cell v := by
  cases b
  · obtain ⟨o, ho, hc, hd⟩ := (show h.IsTupleIter it a i from x); exact ⟨o, ho, fun v q => by rw [hd] at q; cases q⟩
  · obtain ⟨o, ho, hc, hd⟩ := (show h.IsListIter it a i from x); exact ⟨o, ho, fun v q => by rw [hd] at q; cases q⟩
theorem isB_ne {b b' : Bool} {h : Heap} {it a c : Addr} {i : Nat} {items : Array Value} (x : itB b h it a i) (y : isB b' h c items) : c ≠ it := by
  intro e
  subst e
  cases b <;> cases b'
  · obtain ⟨o, ho, hc, hd⟩ := (show h.IsTupleIter _ a i from x)
    obtain ⟨o', ho', hc', n, hd'⟩ := (show h.IsTuple _ items from y)
    rw [ho] at ho'; cases ho'; rw [hd] at hd'; cases hd'
  · obtain ⟨o, ho, hc, hd⟩ := (show h.IsTupleIter _ a i from x)
    obtain ⟨o', ho', hc', n, hd'⟩ := (show h.IsList _ items from y)
    rw [ho] at ho'; cases ho'; rw [hd] at hd'; cases hd'
  · obtain ⟨o, ho, hc, hd⟩ := (show h.IsListIter _ a i from x)
    obtain ⟨o', ho', hc', n, hd'⟩ := (show h.IsTuple _ items from y)
    rw [ho] at ho'; cases ho'; rw [hd] at hd'; cases hd'
  · obtain ⟨o, ho, hc, hd⟩ := (show h.IsListIter _ a i from x)
    obtain ⟨o', ho', hc', n, hd'⟩ := (show h.IsList _ items from y)
    rw [ho] at ho'; cases ho'; rw [hd] at hd'; cases hd'
theorem drawsB {prog : Program} {w : World} {A : Around} (b : Bool) (hh : A.handled = none) (it a : Addr) (hne : a ≠ it) (items : Array Value) :
    Draws prog w A it [it, a] items.size (fun i v => items[i]? = some v) (fun i h => itB b h it a i ∧ isB b h a items) := by
  cases b
  · exact Draws.tuple hh it a hne items
  · exact Draws.list hh it a hne items
theorem beginsB (b : Bool) (a : Addr) (items : Array Value) : ∃ o, Begins (.ref a) o (fun h => isB b h a items) ∧ ∀ (h : Heap) (it : Addr), h.get? it = some o → itB b h it a 0 := by
  cases b
  · exact ⟨_, begins_tuple a items, fun h it e => ⟨_, e, rfl, rfl⟩⟩
  · exact ⟨_, begins_list a items, fun h it e => ⟨_, e, rfl, rfl⟩⟩
section
variable {X : Cx} {pins : List (Addr × Obj)} {s : Shared} {σ : L2.St} {H : Hp}
theorem inv_sqB {b : Bool} {a : Addr} {xs : List V} (I : Inv X pins σ H s) (h : sqB X.K b H a xs) : ∃ its : List Value, Vals xs its ∧ isB b s.heap a its.toArray ∧ xs.length ≤ sizeLine := by
  cases b
  · obtain ⟨its, r, p, z⟩ := I.tuple h; exact ⟨its, r, p, z⟩
  · obtain ⟨its, r, p, z⟩ := I.list h; exact ⟨its, r, p.isList, z⟩
end
def ItE (K : PySem.W.Frag) (b : Bool) (a : Addr) (ys : List V) : It :=
  ⟨fun i H => sqB K b H a ys ∧ i < ys.length, fun i H v H' => ∃ T x, v = .ref T ∧ H T = none ∧ H' = upd H T (.tup [.int (i : Nat), x]) ∧ ys[i]? = some x, fun i H => sqB K b H a ys ∧ ys.length ≤ i⟩
theorem turnE {P : Program} {w : World} {K : PySem.W.Frag} {elts : List Expr} {kk : Nat} {tpos : Pos} (b : Bool) (a e it : Addr) (ys : List V) :
    Turn P w K (.Tuple elts kk tpos) (ItE K b a ys) [e, it] e (fun i h => i ≤ ys.length ∧ (∃ old, IsEnum h e it ((i : Nat) : Int) old) ∧ itB b h it a i ∧ e ≠ it ∧ e ≠ a) where
  mem := by simp
  obj := fun i h st c hc => by
    obtain ⟨_, ⟨old, he⟩, hi, _⟩ := st
    have e' : c = e ∨ c = it := by simpa using hc
    rcases e' with z | z
    · rw [z]; exact ⟨_, he, fun v q => nomatch q⟩
    · rw [z]; exact itB_obj hi
  keep := fun i h h' st k => let ⟨hl, ⟨old, he⟩, hi, hne⟩ := st; ⟨hl, ⟨old, k e (by simp) _ he⟩, itB_at hi fun o q => k it (by simp) o q, hne⟩
  item := by
    intro X hP hw hK hc i pins s σ H E I hf st hg
    subst hP hw hK
    obtain ⟨hl, ⟨old, he⟩, hit, hne, hea⟩ := st
    obtain ⟨hq, hlt⟩ := hg
    obtain ⟨its, rv, p, hz⟩ := inv_sqB I hq
    have hlen := rv.length
    have hel : e < s.heap.objs.size := Heap.lt_size he
    have hil : it < s.heap.objs.size := by obtain ⟨_, q, _⟩ := itB_obj hit; exact Heap.lt_size q
    refine wpAny_pyNext_enum_itemD (drawsB b (show X.A.in1.handled = none from I.ok.hd hc) it a (isB_ne hit p) its.toArray) he ⟨hit, p⟩ (by simp; omega) hne (by simp [hne, hea]) fun u h' tk hu ho hst hT hsz hk => ?_
    have hu' : its[i]? = some u := by simpa using hu
    obtain ⟨x, hx, ru⟩ := vals_at rv hu'
    refine ⟨_, rfl, wpAny_letOwnedTupleGo_enum (s := { s with heap := h', toks := tk + 1 }) ho fun h'' he' sb => ?_⟩
    have hT2 : h''.get? s.heap.objs.size = some { cls := .type "tuple", data := .seq #[.int i tk, u] } := (sb.2 _ (Nat.ne_of_gt hel)).trans hT
    have new : ObjOk X.prog X.w (upd H s.heap.objs.size (.tup [.int (i : Nat), x])) h'' s.heap.objs.size (.tup [.int (i : Nat), x]) :=
      ⟨by show 2 ≤ sizeLine; decide, [.int i tk, u], .cons ⟨_, rfl⟩ (.cons ru .nil), ⟨_, hT2, rfl, _, rfl⟩⟩
    have I1 : Inv X pins σ (upd H s.heap.objs.size (.tup [.int (i : Nat), x])) { s with heap := h'', toks := tk + 1 } :=
      I.turnedNew (ch := [e, it]) (fun b ob hb q => (sb.2 b (fun z => hb (by simp [z]))).trans (hk b ob (fun z => hb (by simp [z])) (fun z => hb (by simp [z])) q)) hf (Nat.le_refl _) new
    refine ⟨.ref s.heap.objs.size, _, I1, rfl, ⟨_, x, rfl, I.hok.fresh (Nat.le_refl _), rfl, hx⟩, ⟨hlt, ⟨u, ?_⟩, itB_at hst.1 fun o q => (sb.2 it (Ne.symm hne)).trans q, hne, hea⟩, fun b hb => ?_⟩
    · have e1 : ((i + 1 : Nat) : Int) = (i : Int) + 1 := by omega
      rw [e1]; exact he'
    · have hb' : b < s.heap.objs.size := by
        have e' : b = e ∨ b = it := by simpa using hb
        rcases e' with z | z
        · rw [z]; exact hel
        · rw [z]; exact hil
      rw [upd_ne (Nat.ne_of_lt hb')]
      exact (hf b hb).1
  done := by
    intro X hP hw hK hc i pins s σ H E I hf st hg
    subst hP hw hK
    obtain ⟨hle, ⟨old, he⟩, hit, hne, hea⟩ := st
    obtain ⟨hq, hx⟩ := hg
    have e0 : i = ys.length := by omega
    obtain ⟨its, rv, p, hz⟩ := inv_sqB I hq
    obtain ⟨f0, f1, f2, f3, f4, f5⟩ := hf it (by simp)
    have hl := rv.length
    refine wpAny_pyNext_enum_endD (drawsB b (show X.A.in1.handled = none from I.ok.hd hc) it a (isB_ne hit p) its.toArray) he ⟨by rw [List.size_toArray, ← hl, ← e0]; exact hit, p⟩ fun h' eb => ⟨rfl, I.turned (t' := s.toks) (fun b o hb q => eb b o hb q) f0 f1 f3 f4 f5⟩
  self := fun A i s Q E st h => let ⟨_, ⟨_, he⟩, _⟩ := st; wpAny_pyIter_enum he h
theorem meets_enum1 {v : Value} {o : Obj} {H : Heap → Prop} (B : Begins v o H) :
    Meets (Builtin.«enumerate.__new__» ⟨[.type "enumerate", v], []⟩) (fun _ R s => H s.heap ∧
      R (.ok (.ret (.ref (s.heap.push o).objs.size))) { s with heap := (s.heap.push o).push { cls := .type "enumerate", data := .fields #[.none, .bool false, .ref s.heap.objs.size, rawInt 0, .none, .none] } }) :=
  .of_wp fun prog w A R s h => by
    obtain ⟨hp, g, d, tk, os⟩ := s; obtain ⟨h1, h⟩ := h
    have hsub := sub_enumerate
    have q1 : ∀ {A' : Around} {E : Value → Shared → Prop} {Q : Value → Shared → Prop}, Q (.ref hp.objs.size) ⟨hp.push o, g, d, tk, os⟩ → wpAny (model prog w) A' (pyIter v) Q E ⟨hp, g, d, tk, os⟩ :=
      fun q => B.iter prog w _ _ ⟨hp, g, d, tk, os⟩ _ h1 q
    wp_walk using q1
    refine wpAny_stack_any fun st => wpAny_pure ?_
    split
    · rename_i c _ _ _ _ _
      cases (c == Value.type "enumerate")
      · wp_walk using q1
        exact ⟨_, rfl, h⟩
      · wp_walk using q1
        exact ⟨_, rfl, h⟩
    · wp_walk using q1
      exact ⟨_, rfl, h⟩
theorem call_enum1 {prog : Program} {w : World} {A : Around} {E : Value → Shared → Prop} {s : Shared} {v : Value} {o : Obj} {H : Heap → Prop} {Q : Value → Shared → Prop} (B : Begins v o H) (h1 : H s.heap)
    (h : ∀ h', IsEnum h' (s.heap.objs.size + 1) s.heap.objs.size 0 .none → h'.get? s.heap.objs.size = some o → (∀ b o, s.heap.get? b = some o → h'.get? b = some o) → Q (.ref (s.heap.objs.size + 1)) { s with heap := h' }) :
    wpAny (model prog w) A (call (.type "enumerate") [v]) Q E s := by
  refine callType_new F.called_enumerate (by decide) (F.typeCall_enumerate_1 _) (F.newCall_enumerate_1 _) (fun obj => F.args_object_init_2 obj _) F.entry_enumerate_new (meets_enum1 B) ⟨h1, ?_⟩
  have hz : (s.heap.push o).objs.size = s.heap.objs.size + 1 := Heap.size_push ..
  show _ ∧ _
  rw [hz]
  have he : IsEnum ((s.heap.push o).push { cls := .type "enumerate", data := .fields #[.none, .bool false, .ref s.heap.objs.size, rawInt 0, .none, .none] }) (s.heap.objs.size + 1) s.heap.objs.size 0 .none := by
    have := Heap.get?_push_size (s.heap.push o) (o := { cls := .type "enumerate", data := .fields #[.none, .bool false, .ref s.heap.objs.size, rawInt 0, .none, .none] }) rfl
    rw [hz] at this; exact this
  exact ⟨⟨_, he, rfl⟩, h _ he (Heap.get?_push_of_some _ (Heap.get?_push_size _ B.free)) fun b o x => Heap.get?_push_of_some _ (Heap.get?_push_of_some _ x)⟩
def tiE (K : PySem.W.Frag) (ta : TA) : TI := fun σ H R => ta σ H fun vs H1 => ∃ b a xs, vs = [.ref a] ∧ sqB K b H1 a xs ∧ R (ItE K b a xs) H1
theorem isB_lt {b : Bool} {h : Heap} {a : Addr} {items : Array Value} (x : isB b h a items) : a < h.objs.size := by
  cases b
  · obtain ⟨o, ho, _⟩ := (show h.IsTuple a items from x); exact Heap.lt_size ho
  · obtain ⟨o, ho, _⟩ := (show h.IsList a items from x); exact Heap.lt_size ho
theorem pi_enumE {X : Cx} {e : Expr} {ta : TA} {p pos tpos : Pos} {elts : List Expr} {kk : Nat} (hg : Gl X "enumerate") (hm : X.mg "enumerate" = none) (ha : PA X [e] ta) (hs : starEach [e] X.env = [(false, eval e X.env)] := by rfl) :
    PI X (.Tuple elts kk tpos) (.Call (.Name "enumerate" p) [e] [] pos) (tiE X.K ta) := by
  refine ⟨fun pins s σ H R I h => ?_⟩
  refine Call_ (ld_blt I hg hm boot_enumerate (PyProof.Rows.callWith_type1 (thn (ha.run pos pins s σ H _ I h) fun us s1 ⟨vs, H1, I1, r1, q1⟩ => ?_) hs rfl))
  obtain ⟨b, a, xs, ex, hq, q⟩ := q1
  subst ex
  cases r1 with
  | cons r rr =>
    cases rr
    cases r
    obtain ⟨its, rv, p', hz⟩ := inv_sqB I1 hq
    obtain ⟨o, B, ho⟩ := beginsB b a its.toArray
    refine call_enum1 B p' fun h' he hit hk => wpAny_pyIter_enum he ?_
    have I2 : Inv X pins σ H1 { s1 with heap := h' } := I1.kept (t' := s1.toks) hk
    have hlt := isB_lt p'
    refine ⟨s1.heap.objs.size + 1, [s1.heap.objs.size + 1, s1.heap.objs.size], _, _, H1, rfl, I2, turnE b a (s1.heap.objs.size + 1) s1.heap.objs.size xs, ⟨Nat.zero_le _, ⟨.none, he⟩, ho _ _ hit, Nat.succ_ne_self _, Nat.ne_of_gt (Nat.lt_succ_of_lt hlt)⟩, fun b hb => ?_, q⟩
    have e' : b = s1.heap.objs.size + 1 ∨ b = s1.heap.objs.size := by simpa using hb
    have hle : s1.heap.objs.size ≤ b := by
      rcases e' with z | z
      · rw [z]; exact Nat.le_add_right _ _
      · rw [z]; exact Nat.le_refl _
    exact I1.fpOk hle (I1.hok.fresh hle)
def enumD (xs : List PyData) : List D := (List.range xs.length).map fun (i : Nat) => .dat (.tuple [.int (i : Int), xs.getD i .none])
def iEnum (f : En → M D) : En → M (List D) := fun ρ => do
  let x ← f ρ
  match seqD x with
  | some xs => pure (enumD xs)
  | none => stk
theorem enumD_get {xs : List PyData} {i : Nat} {d : D} (h : (enumD xs)[i]? = some d) : ∃ y, xs[i]? = some y ∧ d = .dat (.tuple [.int (i : Int), y]) := by
  unfold enumD at h
  rw [List.getElem?_map] at h
  obtain ⟨j, e1, e2⟩ := Option.map_eq_some_iff.mp h
  have hi : i < xs.length := by simpa using (List.getElem?_eq_some_iff.mp e1).1
  rw [List.getElem?_range hi] at e1
  cases e1
  refine ⟨xs[i], List.getElem?_eq_getElem hi, ?_⟩
  rw [← e2, List.getD_eq_getElem?_getD, List.getElem?_eq_getElem hi]
  rfl
theorem sqB_of {P : Program} {w : World} {K : PySem.W.Frag} {F : Hp} {v : V} {d : D} {xs : List PyData} (h : RD P w K F v d) (e : seqD d = some xs) : ∃ b a ys, v = .ref a ∧ sqB K b F a ys ∧ DpAll K F ys xs := by
  obtain ⟨a, ys, h1, h2, h3⟩ := seqD_inv h e
  rcases h2 with h2 | h2
  · exact ⟨true, a, ys, h1, h2, h3⟩
  · exact ⟨false, a, ys, h1, h2, h3⟩
theorem upd_pair {K : PySem.W.Frag} {F H : Hp} {T : Addr} {x y : V} {dx dy : PyData} (s : Same F H) (hT : H T = none) (h1 : Dp K F x dx) (h2 : Dp K F y dy) : GrowP F H (upd F T (.tup [x, y])) (upd H T (.tup [x, y])) ∧ Dp K (upd F T (.tup [x, y])) (.ref T) (.tuple [dx, dy]) :=
  ⟨GrowP.new s hT, Dp.newT s hT (.cons h1 (.cons h2 .nil))⟩
theorem yieldsE {P : Program} {w : World} {K : PySem.W.Frag} {F : Hp} {b : Bool} {a : Addr} {ys : List V} {xs : List PyData} (h1 : sqB K b F a ys) (h2 : DpAll K F ys xs) : Yields P w K F (ItE K b a ys) (enumD xs) := by
  intro i F' H s1 s2
  have q : sqB K b H a ys := sqB_up (s1.trans s2) h1
  refine ⟨fun d e => ?_, fun e => ⟨q, by rw [h2.len]; simpa [enumD] using e⟩⟩
  obtain ⟨y, e1, e2⟩ := enumD_get e
  subst e2
  obtain ⟨x, x1, x2⟩ := h2.get e1
  refine ⟨⟨q, (List.getElem?_eq_some_iff.mp x1).1⟩, fun z H' hz => ?_⟩
  obtain ⟨T, x', rfl, hT, rfl, hx'⟩ := hz
  rw [x1] at hx'
  cases hx'
  have := upd_pair (K := K) s2 hT (.int (i : Int)) (Dp.mono s1 x2)
  exact ⟨_, this.1, this.2⟩
section
variable {X : Cx} {W : XK} {E : Ent} {pos p tpos : Pos}
theorem pdi_enum {e : Expr} {f : En → M D} {elts : List Expr} {kk : Nat} (hg : Gl X "enumerate") (hm : X.mg "enumerate" = none) (h : PD X W E e f) (hs : starEach [e] X.env = [(false, eval e X.env)] := by rfl) : PDI X W E (.Tuple elts kk tpos) (.Call (.Name "enumerate" p) [e] [] pos) (iEnum f) := by
  refine PI.imp (pi_enumE hg hm (pda_cons h pda_nil hs) hs) fun σ H Q hl => ?_
  obtain ⟨F, ρ, R, ok, run⟩ := hl
  have run' : Run X.K W (aCons f aNil ρ >>= fun ds => match ds with | [x] => (match seqD x with | some xs => pure (enumD xs) | none => stk) | _ => stk) R F H (fun ds R' F' H' => ∀ J, Yields X.prog X.w X.K F' J ds → Q J H') := by
    unfold aCons aNil
    rw [bind_assoc]
    exact run
  refine ⟨F, ρ, R, ok, run'.bind.imp fun ds R1 F1 H1 g1 r1 q vs rs => ?_⟩
  split at q
  · rename_i x
    obtain ⟨v, rfl, rv⟩ := paired1 rs
    cases e1 : seqD x with
    | none => rw [e1] at q; exact q.elim
    | some xs =>
      rw [e1] at q
      obtain ⟨b, a, ys, rfl, h1, h2⟩ := sqB_of rv e1
      exact ⟨b, a, ys, rfl, sqB_up g1.fh h1, Run.pure q g1.fh r1 _ (yieldsE h1 h2)⟩
  · exact q.elim
end
end DL

set_option maxHeartbeats 4000000
namespace DL
open PySem PySem.Spec PyProof.Rows L2

/-! ### zip of two lists or tuples -/
def ItZ (K : PySem.W.Frag) (b c : Bool) (a d : Addr) (xs ys : List V) : It :=
  ⟨fun i H => (sqB K b H a xs ∧ sqB K c H d ys) ∧ i < min xs.length ys.length, fun i H v H' => ∃ T x y, v = .ref T ∧ H T = none ∧ H' = upd H T (.tup [x, y]) ∧ xs[i]? = some x ∧ ys[i]? = some y, fun i H => (sqB K b H a xs ∧ sqB K c H d ys) ∧ min xs.length ys.length ≤ i⟩
theorem turnZ {P : Program} {w : World} {K : PySem.W.Frag} {elts : List Expr} {kk : Nat} {tpos : Pos} {b c : Bool} {a d z TI TO i1 i2 : Addr} {xs ys : List V} (S : ZipSep2 z TI TO i1 i2 [i1, a] [i2, d]) :
    Turn P w K (.Tuple elts kk tpos) (ItZ K b c a d xs ys) [z, TI, TO, i1, i2] z (fun i h => i ≤ min xs.length ys.length ∧ IsZip h z TI TO .none ∧ IsTupOf2 h TI (.ref i1) (.ref i2) ∧ (∃ x y, IsTupOf2 h TO x y) ∧ itB b h i1 a i ∧ itB c h i2 d i) where
  mem := by simp
  obj := fun i h st e he => by
    obtain ⟨_, hz, hTI, ⟨x, y, hTO⟩, h1, h2⟩ := st
    have e' : e = z ∨ e = TI ∨ e = TO ∨ e = i1 ∨ e = i2 := by simpa using he
    rcases e' with q | q | q | q | q
    · rw [q]; exact ⟨_, hz, fun v q => nomatch q⟩
    · rw [q]; exact ⟨_, hTI, fun v q => nomatch q⟩
    · rw [q]; exact ⟨_, hTO, fun v q => nomatch q⟩
    · rw [q]; exact itB_obj h1
    · rw [q]; exact itB_obj h2
  keep := fun i h h' st k => by
    obtain ⟨hl, hz, hTI, ⟨x, y, hTO⟩, h1, h2⟩ := st
    exact ⟨hl, k z (by simp) _ hz, k TI (by simp) _ hTI, ⟨x, y, k TO (by simp) _ hTO⟩, itB_at h1 fun o q => k i1 (by simp) o q, itB_at h2 fun o q => k i2 (by simp) o q⟩
  item := by
    intro X hP hw hK hc i pins s σ H E I hf st hg
    subst hP hw hK
    obtain ⟨hl, hz, hTI, ⟨x0, y0, hTO⟩, h1, h2⟩ := st
    obtain ⟨⟨hqx, hqy⟩, hlt⟩ := hg
    obtain ⟨its, rv, p1, _⟩ := inv_sqB I hqx
    obtain ⟨its2, rv2, p2, _⟩ := inv_sqB I hqy
    have l1 := rv.length
    have l2 := rv2.length
    have hzl : z < s.heap.objs.size := Heap.lt_size hz
    have D1 := drawsB (prog := X.prog) (w := X.w) b (show X.A.in1.handled = none from I.ok.hd hc) i1 a (isB_ne h1 p1) its.toArray
    have D2 := drawsB (prog := X.prog) (w := X.w) c (show X.A.in1.handled = none from I.ok.hd hc) i2 d (isB_ne h2 p2) its2.toArray
    refine wpAny_pyNext_zipD2_item S D1 D2 hz hTI hTO ⟨h1, p1⟩ ⟨h2, p2⟩ (by rw [List.size_toArray]; omega) (by rw [List.size_toArray]; omega) fun u u2 h' tk hu hu2 z' TO' d1 d2 hT hsz hk => ?_
    obtain ⟨x, hx, ru⟩ := vals_at rv (show its[i]? = some u by simpa using hu)
    obtain ⟨y, hy, ru2⟩ := vals_at rv2 (show its2[i]? = some u2 by simpa using hu2)
    refine ⟨_, rfl, wpAny_letOwnedTupleGo_zip (s := { s with heap := h', toks := tk }) z' fun h'' z'' sb => ?_⟩
    have hT2 : h''.get? s.heap.objs.size = some { cls := .type "tuple", data := .seq #[u, u2] } := (sb.2 _ (Nat.ne_of_gt hzl)).trans hT
    have new : ObjOk X.prog X.w (upd H s.heap.objs.size (.tup [x, y])) h'' s.heap.objs.size (.tup [x, y]) :=
      ⟨by show 2 ≤ sizeLine; decide, [u, u2], .cons ru (.cons ru2 .nil), ⟨_, hT2, rfl, _, rfl⟩⟩
    have I1 : Inv X pins σ (upd H s.heap.objs.size (.tup [x, y])) { s with heap := h'', toks := tk } :=
      I.turnedNew (ch := [z, TI, TO, i1, i2]) (fun c o hb q => (sb.2 c (fun q' => hb (by simp [q']))).trans (hk c o (fun q' => hb (by simp [q'])) (fun q' => hb (by simp [q'])) (fun q' => hb (by simp [q'])) (fun q' => hb (by simp [q'])) q)) hf (Nat.le_refl _) new
    refine ⟨.ref s.heap.objs.size, _, I1, rfl, ⟨_, x, y, rfl, I.hok.fresh (Nat.le_refl _), rfl, hx, hy⟩, ⟨hlt, z'', ?_, ⟨u, u2, ?_⟩, ?_, ?_⟩, fun e hem => ?_⟩
    · exact (sb.2 _ S.TIz).trans (hk _ _ S.TIz S.TITO S.TIi1 S.TIi2 hTI)
    · exact (sb.2 _ S.TOz).trans TO'
    · exact itB_at d1.1 fun o q => (sb.2 _ (Ne.symm S.zi1)).trans q
    · exact itB_at d2.1 fun o q => (sb.2 _ (Ne.symm S.zi2)).trans q
    · have hlt : e < s.heap.objs.size := by
        have e' : e = z ∨ e = TI ∨ e = TO ∨ e = i1 ∨ e = i2 := by simpa using hem
        rcases e' with q | q | q | q | q
        · rw [q]; exact hzl
        · rw [q]; exact Heap.lt_size hTI
        · rw [q]; exact Heap.lt_size hTO
        · rw [q]; obtain ⟨_, e1, _⟩ := itB_obj h1; exact Heap.lt_size e1
        · rw [q]; obtain ⟨_, e2, _⟩ := itB_obj h2; exact Heap.lt_size e2
      rw [upd_ne (Nat.ne_of_lt hlt)]
      exact (hf e hem).1
  done := by
    intro X hP hw hK hc i pins s σ H E I hf st hg
    subst hP hw hK
    obtain ⟨hl, hz, hTI, ⟨x0, y0, hTO⟩, h1, h2⟩ := st
    obtain ⟨⟨hqx, hqy⟩, hend⟩ := hg
    obtain ⟨its, rv, p1, _⟩ := inv_sqB I hqx
    obtain ⟨its2, rv2, p2, _⟩ := inv_sqB I hqy
    have l1 := rv.length
    have l2 := rv2.length
    have e0 : i = min its.toArray.size its2.toArray.size := by rw [List.size_toArray, List.size_toArray]; omega
    have D1 := drawsB (prog := X.prog) (w := X.w) b (show X.A.in1.handled = none from I.ok.hd hc) i1 a (isB_ne h1 p1) its.toArray
    have D2 := drawsB (prog := X.prog) (w := X.w) c (show X.A.in1.handled = none from I.ok.hd hc) i2 d (isB_ne h2 p2) its2.toArray
    have Wk := WalksT.zipD2 S D1 D2
    refine Wk.done s _ _ ⟨hz, hTI, ⟨x0, y0, hTO⟩, by rw [← e0]; exact ⟨h1, p1⟩, by rw [← e0]; exact ⟨h2, p2⟩⟩ fun h' tk hk => ⟨rfl, I.turnedL (ch := [z, TI, TO, i1, i2]) (fun e o hb q => hk e o (fun q' => hb ?_) q) hf⟩
    have e' : e = z ∨ e = TO ∨ e = i1 ∨ e = i2 := by simpa using q'
    rcases e' with q | q | q | q <;> simp [q]
  self := fun A i s Q E st h => wpAny_pyIter_zip st.2.1 h
def tiZ (K : PySem.W.Frag) (ta : TA) : TI := fun σ H R => ta σ H fun vs H1 => ∃ b c a d xs ys, vs = [.ref a, .ref d] ∧ sqB K b H1 a xs ∧ sqB K c H1 d ys ∧ R (ItZ K b c a d xs ys) H1
theorem pi_zipB {X : Cx} {e e2 : Expr} {ta : TA} {p pos tpos : Pos} {elts : List Expr} {kk : Nat} (hg : Gl X "zip") (hm : X.mg "zip" = none) (ha : PA X [e, e2] ta)
    (hs : starEach [e, e2] X.env = (false, eval e X.env) :: starEach [e2] X.env := by rfl) (hpl : (backTo pos (starEach [e2] X.env)).any (·.1) = false := by rfl) :
    PI X (.Tuple elts kk tpos) (.Call (.Name "zip" p) [e, e2] [] pos) (tiZ X.K ta) := by
  refine ⟨fun pins s σ H R I h => ?_⟩
  refine Call_ (ld_blt I hg hm PyProof.Rows.boot_zip (PyProof.Rows.callWith_type1 (thn (ha.run pos pins s σ H _ I h) fun us s1 ⟨vs, H1, I1, r1, q1⟩ => ?_) hs hpl))
  obtain ⟨b, c, a, d, xs, ys, ex, hqx, hqy, q⟩ := q1
  subst ex
  cases r1 with
  | cons r rr =>
    cases rr with
    | cons r' rr =>
      cases rr
      cases r
      cases r'
      obtain ⟨its, rv, p1, _⟩ := inv_sqB I1 hqx
      obtain ⟨its2, rv2, p2, _⟩ := inv_sqB I1 hqy
      obtain ⟨o1, B1, ho1⟩ := beginsB b a its.toArray
      obtain ⟨o2, B2, ho2⟩ := beginsB c d its2.toArray
      refine zip_begins2 B1 B2 p1 p2 fun h' hz hTI hTO h1 h2 hsz hk => wpAny_pyIter_zip hz ?_
      have I2 : Inv X pins σ H1 { s1 with heap := h' } := I1.kept (t' := s1.toks) hk
      have la := isB_lt p1
      have ld := isB_lt p2
      refine ⟨s1.heap.objs.size + 4, [s1.heap.objs.size + 4, s1.heap.objs.size + 2, s1.heap.objs.size + 3, s1.heap.objs.size, s1.heap.objs.size + 1], _, _, H1, rfl, I2, turnZ (zip_sep2 (N := s1.heap.objs.size) (fp1 := [a]) (fp2 := [d]) (fun b hb => by rw [List.mem_singleton.mp hb]; exact la) (fun b hb => by rw [List.mem_singleton.mp hb]; exact ld)),
        ⟨Nat.zero_le _, hz, hTI, ⟨_, _, hTO⟩, ho1 _ _ h1, ho2 _ _ h2⟩, fun c hcm => ?_, q⟩
      have e' : c = s1.heap.objs.size + 4 ∨ c = s1.heap.objs.size + 2 ∨ c = s1.heap.objs.size + 3 ∨ c = s1.heap.objs.size ∨ c = s1.heap.objs.size + 1 := by simpa using hcm
      have hle : s1.heap.objs.size ≤ c := by
        rcases e' with z | z | z | z | z
        · rw [z]; exact Nat.le_add_right _ _
        · rw [z]; exact Nat.le_add_right _ _
        · rw [z]; exact Nat.le_add_right _ _
        · rw [z]; exact Nat.le_refl _
        · rw [z]; exact Nat.le_add_right _ _
      exact I1.fpOk hle (I1.hok.fresh hle)
def zipD (xs ys : List PyData) : List D := (xs.zip ys).map fun p => .dat (.tuple [p.1, p.2])
def iZip (f g : En → M D) : En → M (List D) := fun ρ => do
  let x ← f ρ
  let y ← g ρ
  match seqD x, seqD y with
  | some xs, some ys => pure (zipD xs ys)
  | _, _ => stk
theorem yieldsZ {P : Program} {w : World} {K : PySem.W.Frag} {F : Hp} {b c : Bool} {a d : Addr} {us vs : List V} {xs ys : List PyData} (h1 : sqB K b F a us) (h2 : DpAll K F us xs) (h3 : sqB K c F d vs) (h4 : DpAll K F vs ys) : Yields P w K F (ItZ K b c a d us vs) (zipD xs ys) := by
  intro i F' H s1 s2
  have q := sqB_up (s1.trans s2) h1
  have q2 := sqB_up (s1.trans s2) h3
  have el : (zipD xs ys).length = min us.length vs.length := by unfold zipD; rw [List.length_map, List.length_zip, h2.len, h4.len]
  refine ⟨fun d e => ?_, fun e => ⟨⟨q, q2⟩, by rw [← el]; exact e⟩⟩
  have hi := (List.getElem?_eq_some_iff.mp e).1
  unfold zipD at e
  rw [List.getElem?_map] at e
  obtain ⟨y, e1, e2⟩ := Option.map_eq_some_iff.mp e
  subst e2
  obtain ⟨e3, e4⟩ := List.getElem?_zip_eq_some.mp e1
  obtain ⟨x, x1, x2⟩ := h2.get e3
  obtain ⟨z, z1, z2⟩ := h4.get e4
  refine ⟨⟨⟨q, q2⟩, by rw [← el]; exact hi⟩, fun v H' hz => ?_⟩
  obtain ⟨T, x', y', rfl, hT, rfl, hx', hy'⟩ := hz
  rw [x1] at hx'; cases hx'
  rw [z1] at hy'; cases hy'
  have := upd_pair (K := K) s2 hT (Dp.mono s1 x2) (Dp.mono s1 z2)
  exact ⟨_, this.1, this.2⟩
section
variable {X : Cx} {W : XK} {E : Ent} {pos p tpos : Pos}
theorem pdi_zip {e e2 : Expr} {f g : En → M D} {elts : List Expr} {kk : Nat} (hg : Gl X "zip") (hm : X.mg "zip" = none) (h : PD X W E e f) (h2 : PD X W E e2 g) (hs : starEach [e, e2] X.env = (false, eval e X.env) :: starEach [e2] X.env := by rfl) (hs2 : starEach [e2] X.env = (false, eval e2 X.env) :: starEach [] X.env := by rfl) (hpl : (backTo pos (starEach [e2] X.env)).any (·.1) = false := by rfl) :
    PDI X W E (.Tuple elts kk tpos) (.Call (.Name "zip" p) [e, e2] [] pos) (iZip f g) := by
  refine PI.imp (pi_zipB hg hm (pda_cons h (pda_cons h2 pda_nil hs2) hs) hs hpl) fun σ H Q hl => ?_
  obtain ⟨F, ρ, R, ok, run⟩ := hl
  have run' : Run X.K W (aCons f (aCons g aNil) ρ >>= fun ds => match ds with | [x, y] => (match seqD x, seqD y with | some xs, some ys => pure (zipD xs ys) | _, _ => stk) | _ => stk) R F H (fun ds R' F' H' => ∀ J, Yields X.prog X.w X.K F' J ds → Q J H') := by
    unfold aCons aNil
    simp only [bind_assoc, pure_bind]
    exact run
  refine ⟨F, ρ, R, ok, run'.bind.imp fun ds R1 F1 H1 g1 r1 q vs rs => ?_⟩
  split at q
  · rename_i x y
    obtain ⟨v, u, rfl, rv, ru⟩ := paired2 rs
    cases e1 : seqD x with
    | none => rw [e1] at q; exact q.elim
    | some xs =>
      cases e2 : seqD y with
      | none => rw [e1, e2] at q; exact q.elim
      | some ys =>
        rw [e1, e2] at q
        obtain ⟨b, a, us, rfl, h1, h2⟩ := sqB_of rv e1
        obtain ⟨c, d, vs, rfl, h3, h4⟩ := sqB_of ru e2
        exact ⟨b, c, a, d, us, vs, rfl, sqB_up g1.fh h1, sqB_up g1.fh h3, Run.pure q g1.fh r1 _ (yieldsZ h1 h2 h3 h4)⟩
  · exact q.elim
end

end DL

set_option maxHeartbeats 4000000
namespace DL
open PySem PySem.Spec PyProof.Rows L2

/-! ### sorted, int, tuple, list -/
def sortOk (xs : List PyData) : Bool := decide (xs.length ≤ SZ) && decide (PyData.depthAll xs ≤ 60) && xs.all (fun x => xs.all fun y => W.alike x y) &&
  (xs.all (fun x => match x with | .tuple (_ :: _) => true | _ => false) || xs.all fun x => match x with | .tuple _ => false | .none => false | _ => true)
def sortD (xs : List PyData) : List PyData := xs.mergeSort fun a b => !W.dataLt b a
theorem sortOk_ok {xs : List PyData} (h : sortOk xs = true) : xs.length ≤ SZ ∧ PyData.depthAll xs ≤ 60 ∧ W.AllAlike xs ∧ W.Sortable xs := by
  unfold sortOk at h
  simp only [Bool.and_eq_true, Bool.or_eq_true, List.all_eq_true] at h
  obtain ⟨⟨⟨h1, h2⟩, h3⟩, h4⟩ := h
  refine ⟨of_decide_eq_true h1, of_decide_eq_true h2, fun d hd d' hd' => h3 d hd d' hd', ?_⟩
  rcases h4 with h4 | h4
  · refine .inl fun d hd => ?_
    have := h4 d hd
    split at this
    · exact ⟨_, _, rfl⟩
    · cases this
  · refine .inr fun d hd => ?_
    have := h4 d hd
    refine ⟨fun e => ?_, fun ys e => ?_⟩ <;> (subst e; cases this)
theorem depth_mem : ∀ {xs : List PyData} {x : PyData}, x ∈ xs → x.depth ≤ PyData.depthAll xs
  | y :: ys, x, h => by
    rw [PyData.depthAll]
    rcases List.mem_cons.mp h with e | e
    · subst e; exact Nat.le_max_left _ _
    · exact Nat.le_trans (depth_mem e) (Nat.le_max_right _ _)
theorem each_of {K : PySem.W.Frag} {F : Hp} : ∀ {vs : List V} {us : List Value} {ds : List PyData}, Vals vs us → DpAll K F vs ds → W.EachIs (fun u d => ∃ v, RelV v u ∧ Dp K F v d) us ds
  | _, _, _, .nil, .nil => .nil
  | _, _, _, .cons r t, .cons h a => .cons ⟨_, r, h⟩ (each_of t a)
theorem of_each {K : PySem.W.Frag} {F : Hp} : ∀ {us : List Value} {ds : List PyData}, W.EachIs (fun u d => ∃ v, RelV v u ∧ Dp K F v d) us ds → ∃ vs, Vals vs us ∧ DpAll K F vs ds
  | _, _, .nil => ⟨[], .nil, .nil⟩
  | _, _, .cons ⟨v, r, h⟩ t => let ⟨vs, a, b⟩ := of_each t; ⟨v :: vs, .cons r a, .cons h b⟩
theorem each_id {R : Value → PyData → Prop} : ∀ {us : List Value} {ds : List PyData}, W.EachIs R us ds → W.EachIs (fun v b => R v (id b)) us ds := fun h => h
section
variable {X : Cx}
def g_sorted : List D → Option D
  | [.dat (.list xs)] => if sortOk xs = true then some (.dat (.list (sortD xs))) else none
  | _ => none
theorem dc_sorted (hu : X.A.units + 64 < cLine) : DCall X (.builtin "sorted") g_sorted := by
  intro pins s σ H vs us Q I r h
  obtain ⟨F, ds, d, sf, pr, e, q⟩ := h
  unfold g_sorted at e
  split at e
  · split at e
    · rename_i xs hz
      cases e
      obtain ⟨h1, h2, h3, h4⟩ := sortOk_ok hz
      obtain ⟨v, rfl, rv⟩ := paired1 pr
      obtain ⟨a, ys, rfl, h5, h6⟩ := Dp.lst_inv rv
      obtain ⟨its, r2, pl, hz2⟩ := I.list (sf.seq h5)
      rw [Vals.ref1 r]
      have em := each_of r2 h6
      have er : W.EachIs (fun v b => ∃ as, Reads s.heap v (id b) as) its xs := em.mono fun u d ⟨v, ru, hd⟩ => rd_reads I sf hd ru
      refine W.sorted_data (β := PyData) (enc := id) pl.isList em er (by rw [List.map_id]; exact h3) (by rw [List.map_id]; exact h4) (by rw [← sz_eq]; exact h1) (fun b hb => by have := depth_mem hb; show X.A.units + 2 + b.depth < cLine; omega) fun out ho eo => ?_
      obtain ⟨ws, w1, w2⟩ := of_each eo
      obtain ⟨ep, he'⟩ := PyProof.Rows.sortedAll_at s.heap its out.toArray
      have hlen : ws.length ≤ sizeLine := by rw [w1.length, ho, ← sz_eq]; exact h1
      have hf : H (s.heap.objs.size + 1) = none := I.hok.fresh (Nat.le_succ _)
      exact ⟨.ref _, upd H (s.heap.objs.size + 1) (.lst ws), I.laid (t' := s.toks) (fun _ _ => PyProof.Rows.sortedAll_old) (Nat.le_succ _) ⟨hlen, out, ep, w1, he'⟩, rfl, q _ _ _ (.new sf hf) (Dp.newL sf hf w2)⟩
    · cases e
  · cases e
def g_int : List D → Option D
  | [.dat (.int i)] => some (.dat (.int i))
  | [.dat (.bool b)] => some (.dat (.int (if b then 1 else 0)))
  | [.dat (.str a)] => if a.length ≤ 640 then (PySem.intText? a).map fun n => .dat (.int n) else none
  | _ => none
theorem dt_int : DCall X (.type "int") g_int := by
  intro pins s σ H vs us Q I r h
  obtain ⟨F, ds, d, sf, pr, e, q⟩ := h
  unfold g_int at e
  split at e
  · cases e
    obtain ⟨v, rfl, rv⟩ := paired1 pr
    exact call_int1 pins s σ H _ us Q I r (.inl ⟨_, by rw [Dp.int_inv rv], q _ F H (.refl sf) (.int _)⟩)
  · cases e
    obtain ⟨v, rfl, rv⟩ := paired1 pr
    exact call_int1 pins s σ H _ us Q I r (.inr ⟨_, by rw [Dp.bl_inv rv], q _ F H (.refl sf) (.int _)⟩)
  · split at e
    · rename_i hz
      obtain ⟨n, e1, e2⟩ := Option.map_eq_some_iff.mp e
      subst e2
      obtain ⟨v, rfl, rv⟩ := paired1 pr
      exact call_int_str pins s σ H _ us Q I r ⟨_, n, by rw [Dp.str_inv rv], e1, hz, q _ F H (.refl sf) (.int _)⟩
    · cases e
  · cases e
def g_tuple : List D → Option D
  | [.dat (.list xs)] => some (.dat (.tuple xs))
  | [.dat (.tuple xs)] => some (.dat (.tuple xs))
  | _ => none
def g_list : List D → Option D
  | [.dat (.list xs)] => some (.dat (.list xs))
  | [.dat (.tuple xs)] => some (.dat (.list xs))
  | _ => none
theorem dt_tuple : DCall X (.type "tuple") g_tuple := by
  intro pins s σ H vs us Q I r h
  obtain ⟨F, ds, d, sf, pr, e, q⟩ := h
  unfold g_tuple at e
  split at e
  · cases e
    obtain ⟨v, rfl, rv⟩ := paired1 pr
    obtain ⟨a, ys, rfl, h5, h6⟩ := Dp.lst_inv rv
    exact call_tuple_of pins s σ H _ us Q I r ⟨a, ys, rfl, .inl ⟨sf.seq h5, fun l hl => q _ _ _ (.new sf hl) (Dp.newT sf hl h6)⟩⟩
  · cases e
    obtain ⟨v, rfl, rv⟩ := paired1 pr
    obtain ⟨a, ys, rfl, h5, h6⟩ := Dp.tup_inv rv
    exact call_tuple_of pins s σ H _ us Q I r ⟨a, ys, rfl, .inr ⟨sf.tup h5, q _ F H (.refl sf) rv⟩⟩
  · cases e
theorem dt_list : DCall X (.type "list") g_list := by
  intro pins s σ H vs us Q I r h
  obtain ⟨F, ds, d, sf, pr, e, q⟩ := h
  have gen : ∀ {x : D} {xs : List PyData}, ds = [x] → seqD x = some xs → d = .dat (.list xs) → wpAny (model X.prog X.w) X.A (call (.type "list") us) (EP X pins σ Q) X.xe s := fun {x xs} e1 e2 e3 => by
    subst e1 e3
    obtain ⟨v, rfl, rv⟩ := paired1 pr
    obtain ⟨a, ys, rfl, h5, h6⟩ := seqD_inv rv e2
    exact call_list_of pins s σ H _ us Q I r ⟨a, ys, rfl, seq_up sf h5, fun l hl => q _ _ _ (.new sf hl) (Dp.newL sf hl h6)⟩
  unfold g_list at e
  split at e
  · cases e; exact gen rfl rfl rfl
  · cases e; exact gen rfl rfl rfl
  · cases e
end
end DL

set_option maxHeartbeats 4000000
namespace DL
open PySem PySem.Spec PyProof.Rows L2

/-! ### -k, a * b, x[::-1] -/
def opNeg : D → Option D
  | .dat (.int i) => some (.dat (.int (-i)))
  | _ => none
def opMul : D → D → Option D := opII (fun i j => decide (i.natAbs < 2 ^ 63 ∨ j.natAbs < 2 ^ 63)) (fun i j => i * j)
section
variable {X : Cx} {W : XK} {E : Ent} {pos : Pos}
theorem pd_neg {a : Expr} {fa : En → M D} (ha : PD X W E a fa) : PD X W E (.UnaryOp .USub a pos) (e1 opNeg fa) := by
  refine PE.imp (pe_un un_neg ha) fun σ H Q hl => ?_
  obtain ⟨F, ρ, R, ok, run⟩ := hl
  refine ⟨F, ρ, R, ok, run.bind.imp fun d R1 F1 H1 g1 r1 h1 v rv => ?_⟩
  obtain ⟨z, e, h2⟩ := h1.lft
  unfold opNeg at e
  split at e
  · cases e
    exact ⟨_, Dp.int_inv rv, h2 F1 H1 (Grow.refl g1.fh) r1 _ (.int _)⟩
  · cases e
theorem dop_mul : DOp X (binaryOp .Mult) opMul := dop_II op_mul fun i j h => by
  have := of_decide_eq_true h
  unfold CMul
  omega
theorem sliceApplied_rev {prog : Program} {w : World} {A : Around} {E : Value → Shared → Prop} {s : Shared} {sl : Addr} {t : Tok} {n : Nat} {Q : Int × Int × Nat → Shared → Prop} (hs : s.heap.IsSliceOf sl .none .none (.int (-1) t))
    (h : Q ((n : Int) - 1, -1, n) s) : wpAny (model prog w) A (Builtin.Slice.sliceApplied (.ref sl) (pure (n : Int))) Q E s := by
  obtain ⟨os, hos, hcs, hds⟩ := id hs
  unfold Builtin.Slice.sliceApplied Builtin.Slice.sliceFields
  refine wpAny_bind (wpAny_bind (wpAny_field hos hds (x := .none) rfl (wpAny_bind (wpAny_field hos hds (x := .none) rfl (wpAny_bind (wpAny_field hos hds (x := .int (-1) t) rfl (wpAny_pure ?_)))))))
  refine wpAny_bind (HT.slicePart_ (.int (-1) t) ?_)
  show wpAny _ _ (if ((-1 : Int) == 0) = true then _ else _) _ _ s
  rw [if_neg (by decide)]
  refine wpAny_bind (slicePart_none (wpAny_bind (slicePart_none (wpAny_bind (wpAny_pure ?_)))))
  show wpAny _ _ (pure ((n : Int) - 1, (-1 : Int), Builtin.Slice.slicePlaces ((n : Int) - 1) (-1) (-1))) _ _ s
  have e : Builtin.Slice.slicePlaces ((n : Int) - 1) (-1) (-1) = n := by
    unfold Builtin.Slice.slicePlaces
    rw [if_neg (by decide)]
    split
    · rw [show (-(-1 : Int)) = 1 by decide, Int.ediv_one]; omega
    · omega
  rw [e]
  exact wpAny_pure h
theorem fmap_congr {α β : Type} {f g : α → Option β} : ∀ {l : List α}, (∀ x ∈ l, f x = g x) → l.filterMap f = l.filterMap g
  | [], _ => rfl
  | x :: xs, h => by
    rw [List.filterMap_cons, List.filterMap_cons, h x (List.mem_cons_self ..), fmap_congr fun y hy => h y (List.mem_cons_of_mem _ hy)]
theorem rev_pick (items : Array Value) : ((List.range items.size).filterMap fun (m : Nat) => items[(((items.size : Int) - 1) + (m : Int) * (-1)).toNat]?).toArray = items.toList.reverse.toArray := by
  have e : (List.range items.size).filterMap (fun (m : Nat) => items[(((items.size : Int) - 1) + (m : Int) * (-1)).toNat]?) = items.toList.reverse := by
    have e2 : (List.range items.size).filterMap (fun (m : Nat) => items[(((items.size : Int) - 1) + (m : Int) * (-1)).toNat]?) = (List.range items.size).filterMap (fun (m : Nat) => items.toList.reverse[m]?) := by
      refine fmap_congr fun m hm => ?_
      have := List.mem_range.mp hm
      rw [List.getElem?_reverse (by simpa using this), Array.getElem?_toList]
      congr 1
      simp only [Array.length_toList]
      omega
    rw [e2]
    refine List.ext_getElem? fun i => ?_
    have e3 : items.size = items.toList.reverse.length := by simp
    rw [e3]
    generalize items.toList.reverse = l
    have : (List.range l.length).filterMap (fun m => l[m]?) = l := by
      induction l with
      | nil => rfl
      | cons x xs ih =>
        rw [List.length_cons, List.range_succ_eq_map, List.filterMap_cons]
        simp only [List.getElem?_cons_zero, List.filterMap_map]
        rw [show ((fun m => (x :: xs)[m]?) ∘ Nat.succ) = fun m => xs[m]? from by funext m; simp]
        rw [ih]
    rw [this]
  rw [e]
theorem getItem_tuple_rev {prog : Program} {w : World} {A : Around} {E : Value → Shared → Prop} {s : Shared} {t sl : Addr} {items : Array Value} {u : Tok} {Q : Value → Shared → Prop} (ht : IsTup s.heap t items) (hs : s.heap.IsSliceOf sl .none .none (.int (-1) u))
    (h : Q (.ref s.heap.objs.size) { s with heap := s.heap.push { cls := .type "tuple", data := .seq items.toList.reverse.toArray } }) (hsz : items.size ≤ sizeLine) : wpAny (model prog w) A (getItem (.ref t) (.ref sl)) Q E s := by
  have htake : sizeOk (.seq items.toList.reverse.toArray) := by
    show items.toList.reverse.toArray.size ≤ sizeLine
    simpa using hsz
  obtain ⟨os, hos, hcs, hds⟩ := id hs
  have hTs : s.TypeIs (.ref sl) "slice" := ⟨os, hos, hcs⟩
  unfold getItem
  try with_reducible refine wpAny_holding ?_
  first | refine wpAny_bind (wpAny_pure ?_) | skip
  refine wpAny_bind (wpAny_sequenceKey ht.typeIs (by decide) ?_)
  refine wpAny_bind (wpAny_callSpecial?_slot (name := Str.ofString "__getitem__") ht.typeIs PyProof.Rows.slot_tuple_getitem
    (wpAny_call_entry PyProof.Rows.slot_tuple_getitem ht.typeIs entry_tuple_getitem ?_ (args_tuple_getitem _ _)))
  show wpAny _ _ (Builtin.Tuple.tupleItemsOf (.ref t) >>= _) _ _ s
  refine wpAny_bind (tupleItemsOf_ ht ?_)
  refine wpAny_bind (wpAny_typeOf hTs ?_)
  rw [if_pos (by decide)]
  refine wpAny_bind (sliceApplied_rev hs ?_)
  have hno : ¬ ((((items.size : Int) - 1 == 0) && ((-1 : Int) == 1) && (items.size == items.size)) = true) := by
    intro q
    rw [Bool.and_eq_true, Bool.and_eq_true] at q
    exact absurd (eq_of_beq q.1.2) (by decide)
  show wpAny _ _ (if (((items.size : Int) - 1 == 0) && ((-1 : Int) == 1) && (items.size == items.size)) = true then _ else _) _ _ s
  rw [if_neg hno, rev_pick]
  first
    | exact wpAny_bind (m := Builtin.Tuple.tupleExact _) (wpAny_newObj_type (wpAny_pure ⟨_, rfl, wpAny_pure h⟩) htake)
    | exact wpAny_bind (m := Builtin.Tuple.tupleExact _) (wpAny_newObj_type (wpAny_bind (wpAny_pure (wpAny_pure ⟨_, rfl, wpAny_pure h⟩))) htake)
    | exact wpAny_bind (wpAny_bind (m := Builtin.Tuple.tupleExact _) (wpAny_newObj_type (wpAny_pure (wpAny_pure ⟨_, rfl, wpAny_pure h⟩)) htake))
    | exact wpAny_bind (wpAny_bind (m := Builtin.Tuple.tupleExact _) (wpAny_newObj_type (wpAny_pure ⟨_, rfl, wpAny_pure h⟩) htake))
def opRev : D → Option D
  | .dat (.tuple xs) => some (.dat (.tuple xs.reverse))
  | .dat (.list xs) => some (.dat (.list xs.reverse))
  | _ => none
theorem Vals.rev' {xs : List V} {us : List Value} (r : Vals xs us) : Vals xs.reverse us.reverse := r.reverse
def tRevT (K : PySem.W.Frag) (te : TE) : TE := fun σ H Q => te σ H fun x H1 => ∃ b a xs, x = .ref a ∧ sqB K b H1 a xs ∧ ∀ p, H1 p = none → Q (.ref p) (upd H1 p (match b with | true => .lst xs.reverse | false => .tup xs.reverse))
theorem pe_rev {e : Expr} {te : TE} {k : Nat} {p1 p2 p3 pos : Pos} (he : PE X e te) : PE X (.Subscript e (.Slice none none (some (.UnaryOp .USub (.Constant (.int 1) k p1) p2)) p3) pos) (tRevT X.K te) := by
  refine ⟨fun pins s σ H Q I h => ?_⟩
  refine Subscript_ (thn (he.run pins s σ H _ I h) fun v s1 ⟨x, H1, I1, r1, q1⟩ => ?_)
  obtain ⟨b, a, xs, ex, hx, q⟩ := q1
  subst ex
  cases r1
  have hst : PO X (some (.UnaryOp .USub (.Constant (.int 1) k p1) p2)) (tPart (tUn (rU fun i => .int (-i)) (tC (.int 1)))) := po_some (pe_un un_neg pe_int)
  refine wpAny_Slice (thn (po_none.run pins s1 σ H1 (fun o H2 => o = none ∧ H2 = H1) I1 ⟨rfl, rfl⟩) fun vl s2 ⟨l, H2, I2, pl, el, e2⟩ => ?_)
  subst el e2
  refine thn (po_none.run pins s2 σ H2 (fun o H3 => o = none ∧ H3 = H2) I2 ⟨rfl, rfl⟩) fun vu s3 ⟨u, H3, I3, pu, eu, e3⟩ => ?_
  subst eu e3
  refine thn (hst.run pins s3 σ H3 (fun o H4 => o = some (-1) ∧ H4 = H3) I3 ⟨1, rfl, -1, rfl, rfl, rfl⟩) fun vs s4 ⟨o, H4, I4, ps, eo, e4⟩ => ?_
  subst eo e4
  have I5 : Inv X pins σ H4 { s4 with heap := s4.heap.push { cls := .type "slice", data := .fields #[vl, vu, vs] } } := I4.kept (t' := s4.toks) fun b ob q => Heap.get?_push_of_some _ q
  obtain ⟨its, r, ht, hz⟩ := inv_sqB I5 hx
  have hlen := r.length
  show wpAny (model X.prog X.w) X.A (subscriptTail e (.Slice none none (some (.UnaryOp .USub (.Constant (.int 1) k p1) p2)) p3) (.ref a) (.ref s4.heap.objs.size)) (EP X pins σ Q) X.xe { s4 with heap := s4.heap.push { cls := .type "slice", data := .fields #[vl, vu, vs] } }
  cases b with
  | true =>
    refine tail_any (ops := [.ref a, .ref s4.heap.objs.size]) (Heap.IsList.typeIs ht) (PySem.slot_list_getitem.lookup) ?_ (by with_unfolding_all rfl)
    refine wpAny_getItem_list_slice ht (Heap.IsSliceOf.new _ vl vu vs) pl pu ps (by decide) ?_ (by rw [List.size_toArray]; omega)
    rw [PySem.W.krv_pick]
    refine ⟨.ref _, _, I5.laid (t' := s4.toks) (o := .lst xs.reverse) (fun b ob q => Heap.get?_push_of_some _ q) (Nat.le_refl _) ?_, rfl, q _ (I5.hok.fresh (Nat.le_refl _))⟩
    exact ⟨by rw [List.length_reverse]; exact hz, _, 0, r.reverse, Heap.get?_push_size _ rfl⟩
  | false =>
    cases pl
    cases pu
    cases ps with
    | int _ t =>
    refine tail_any (ops := [.ref a, .ref s4.heap.objs.size]) (IsTup.typeIs ht) (PyProof.Rows.slot_tuple_getitem.lookup) ?_ (by with_unfolding_all rfl)
    refine getItem_tuple_rev ht (Heap.IsSliceOf.new _ .none .none (.int (-1) t)) ?_ (by rw [List.size_toArray]; omega)
    refine ⟨.ref _, _, I5.laid (t' := s4.toks) (o := .tup xs.reverse) (fun b ob q => Heap.get?_push_of_some _ q) (Nat.le_refl _) ?_, rfl, q _ (I5.hok.fresh (Nat.le_refl _))⟩
    exact ⟨by rw [List.length_reverse]; exact hz, _, r.reverse, IsTup.new _ _⟩
theorem pd_rev {e : Expr} {fa : En → M D} {k : Nat} {p1 p2 p3 : Pos} (ha : PD X W E e fa) : PD X W E (.Subscript e (.Slice none none (some (.UnaryOp .USub (.Constant (.int 1) k p1) p2)) p3) pos) (e1 opRev fa) := by
  refine PE.imp (pe_rev ha) fun σ H Q hl => ?_
  obtain ⟨F, ρ, R, ok, run⟩ := hl
  refine ⟨F, ρ, R, ok, run.bind.imp fun d R1 F1 H1 g1 r1 h1 v rv => ?_⟩
  obtain ⟨z, e, h2⟩ := h1.lft
  unfold opRev at e
  split at e
  · cases e
    obtain ⟨a, ys, rfl, h5, h6⟩ := Dp.tup_inv rv
    refine ⟨false, a, ys, rfl, g1.fh.tup h5, fun p hp => ?_⟩
    have gp := GrowP.new (o := .tup ys.reverse) g1.fh hp
    exact h2 _ _ gp.g (gp.row r1) _ (Dp.newT g1.fh hp h6.rev)
  · cases e
    obtain ⟨a, ys, rfl, h5, h6⟩ := Dp.lst_inv rv
    refine ⟨true, a, ys, rfl, g1.fh.seq h5, fun p hp => ?_⟩
    have gp := GrowP.new (o := .lst ys.reverse) g1.fh hp
    exact h2 _ _ gp.g (gp.row r1) _ (Dp.newL g1.fh hp h6.rev)
  · cases e
end
end DL

set_option maxHeartbeats 4000000
namespace DL
open PySem PySem.Spec PyProof.Rows L2

/-! ### isinstance of data -/
def tyName : PyData → String
  | .none => "NoneType"
  | .bool _ => "bool"
  | .int _ => "int"
  | .str _ => "str"
  | .list _ => "list"
  | .tuple _ => "tuple"
  | .dict _ => "dict"
def isTyS (T t : String) : Bool := if T = "int" then (t == "int" || t == "bool") else t == T
abbrev isTy (T : String) (d : PyData) : Bool := isTyS T (tyName d)
theorem kit_all : ∀ T ∈ ["int", "bool", "str", "tuple", "list"], ∀ t ∈ ["NoneType", "bool", "int", "str", "list", "tuple", "dict"], kitB t T = some (isTyS T t) := by decide +kernel
def opIs (T : String) : D → Option D
  | .dat x => some (dB (isTy T x))
  | _ => none
def opIsTL : D → Option D
  | .dat x => some (dB (isTy "tuple" x || isTy "list" x))
  | _ => none
theorem tyX_data {K : PySem.W.Frag} {F : Hp} {x : V} {d : PyData} (h : Dp K F x d) : TyX K F x (.type (tyName d)) := by
  cases h with
  | non => exact .base .non
  | bl b => exact .base (.bl b)
  | int i => exact .base (.int i)
  | str s => exact .base (.str s)
  | lst h a =>
    rcases h with (h | ⟨o, h⟩) | ⟨o, its, n, hk, hc, _⟩
    · exact .base (.lst h)
    · exact .base (.frz h)
    · exact .kList hk hc
  | tup h a =>
    rcases h with (h | ⟨o, h⟩) | ⟨o, its, n, hk, hc, _⟩
    · exact .base (.tup h)
    · exact .fTuple h
    · exact .kTuple hk hc
theorem isTy_kit (T : String) (hT : T = "int" ∨ T = "bool" ∨ T = "str" ∨ T = "tuple" ∨ T = "list") : ∀ (d : PyData), kitB (tyName d) T = some (isTy T d) := by
  intro d
  refine kit_all T (by rcases hT with rfl | rfl | rfl | rfl | rfl <;> simp) _ ?_
  cases d <;> simp [tyName]
section
variable {X : Cx} {W : XK} {E : Ent} {pos p p2 : Pos}
theorem pd_isi (T : String) (hT : T = "int" ∨ T = "bool" ∨ T = "str" ∨ T = "tuple" ∨ T = "list") {x : Str} {a : Expr} {fa : En → M D} (hg : Gl X "isinstance") (hm : X.mg "isinstance" = none) (hg2 : Gl X x) (hm2 : X.mg x = none) (hv : bootBuiltins x = some (.type T)) (hn : x ≠ "__name__") (hd : (x == ("__debug__" : Str)) = false) (ha : PD X W E a fa)
    (hs : starEach [a, .Name x p2] X.env = (false, eval a X.env) :: starEach [.Name x p2] X.env := by rfl) (hs2 : starEach [.Name x p2] X.env = (false, eval (.Name x p2) X.env) :: starEach [] X.env := by rfl) (hpl : (backTo pos (starEach [.Name x p2] X.env)).any (·.1) = false := by rfl) :
    PD X W E (.Call (.Name "isinstance" p) [a, .Name x p2] [] pos) (e1 (opIs T) fa) := by
  refine PE.imp (pe_callB call_isi hg hm PyProof.Rows.boot_isinstance (pa_cons ha (pa_cons (pe_bltn hg2 hm2 hv (v := .ty T) rfl hn hd) pa_nil hs2) hs) (he := hs) (hpl := hpl)) fun σ H Q hl => ?_
  obtain ⟨F, ρ, R, ok, run⟩ := hl
  refine ⟨F, ρ, R, ok, run.bind.imp fun d R1 F1 H1 g1 r1 h1 v rv => ?_⟩
  obtain ⟨z, e, h2⟩ := h1.lft
  cases d with
  | dat x =>
    cases e
    exact ⟨v, .ty T, _, _, _, rfl, .ty T, tyX_data (Dp.mono g1.fh rv), kit_ty (isTy_kit T hT x), h2 F1 H1 (Grow.refl g1.fh) r1 _ (.bl _)⟩
  | _ => cases e
theorem isTL_kit (K : PySem.W.Frag) (d : PyData) : PySem.W.kitAny K (.type (tyName d)) [.type "tuple", .type "list"] = some (isTy "tuple" d || isTy "list" d) := by
  refine kitAny_cons (kit_ty (isTy_kit "tuple" (by simp) d)) (fun h => kitAny_cons (kit_ty (isTy_kit "list" (by simp) d)) (fun h2 => ?_) fun h2 => by rw [h2]; simp) fun h => by rw [h]; simp
  rw [h, h2]
  exact kitAny_nil
theorem pd_isTL {a : Expr} {fa : En → M D} {k : Nat} {p3 p4 tpos : Pos} (hg : Gl X "isinstance") (hm : X.mg "isinstance" = none) (hg2 : Gl X "tuple") (hm2 : X.mg "tuple" = none) (hg3 : Gl X "list") (hm3 : X.mg "list" = none) (ha : PD X W E a fa)
    (hs : starEach [a, .Tuple [.Name "tuple" p3, .Name "list" p4] k tpos] X.env = (false, eval a X.env) :: starEach [.Tuple [.Name "tuple" p3, .Name "list" p4] k tpos] X.env := by rfl) (hs2 : starEach [.Tuple [.Name "tuple" p3, .Name "list" p4] k tpos] X.env = (false, eval (.Tuple [.Name "tuple" p3, .Name "list" p4] k tpos) X.env) :: starEach [] X.env := by rfl) (hpl : (backTo pos (starEach [.Tuple [.Name "tuple" p3, .Name "list" p4] k tpos] X.env)).any (·.1) = false := by rfl)
    (hs3 : starEach [.Name "tuple" p3, .Name "list" p4] X.env = (false, eval (.Name "tuple" p3) X.env) :: starEach [.Name "list" p4] X.env := by rfl) (hs4 : starEach [.Name "list" p4] X.env = (false, eval (.Name "list" p4) X.env) :: starEach [] X.env := by rfl) :
    PD X W E (.Call (.Name "isinstance" p) [a, .Tuple [.Name "tuple" p3, .Name "list" p4] k tpos] [] pos) (e1 opIsTL fa) := by
  refine PE.imp (pe_callB call_isiT hg hm PyProof.Rows.boot_isinstance (pa_cons ha (pa_cons (pe_tup (pa_cons (pe_bltn hg2 hm2 PyProof.Rows.boot_tuple (v := .ty "tuple") rfl) (pa_cons (pe_bltn hg3 hm3 PyProof.Rows.boot_list (v := .ty "list") rfl) pa_nil hs4) hs3)) pa_nil hs2) hs) (he := hs) (hpl := hpl)) fun σ H Q hl => ?_
  obtain ⟨F, ρ, R, ok, run⟩ := hl
  refine ⟨F, ρ, R, ok, run.bind.imp fun d R1 F1 H1 g1 r1 h1 v rv => ?_⟩
  obtain ⟨z, e, h2⟩ := h1.lft
  cases d with
  | dat x =>
    cases e
    refine ⟨by show 2 ≤ sizeLine; decide, fun tp htp => ?_⟩
    have hF : F1 tp = none := by
      cases e : F1 tp with
      | none => rfl
      | some o => rw [g1.fh tp o e] at htp; cases htp
    have hk : Same H1 (upd H1 tp (.tup [.ty "tuple", .ty "list"])) := fun b o e => by rw [upd_ne (ne_of_none e htp)]; exact e
    have gp : GrowP F1 H1 F1 (upd H1 tp (.tup [.ty "tuple", .ty "list"])) := ⟨Same.refl F1, g1.fh.trans hk, hk, fun a _ h => h⟩
    exact ⟨v, tp, _, _, _, _, rfl, upd_same, .cons (.ty _) (.cons (.ty _) .nil), tyX_data (Dp.mono gp.fh rv), isTL_kit X.K x, h2 F1 _ gp.g (gp.row r1) _ (.bl _)⟩
  | _ => cases e

/-! ### a board's fields -/
def opMany : D → Option D
  | .brd m _ => some (.dat (.int m))
  | _ => none
def opLeaps : D → Option D
  | .brd _ l => some (.dat l)
  | _ => none
theorem pd_many {e : Expr} {fa : En → M D} (hC : Cls X.K (He.ga X.K "Board")) (hn : NoAttr X.K (He.ga X.K "Board") "many") (ha : PD X W E e fa) (hb : attributeBase e "many" X.env (eval e X.env) = eval e X.env := by rfl) : PD X W E (.Attribute e "many" pos) (e1 opMany fa) := by
  refine PE.imp (pe_fld ha hb) fun σ H Q hl => ?_
  obtain ⟨F, ρ, R, ok, run⟩ := hl
  refine ⟨F, ρ, R, ok, run.bind.imp fun d R1 F1 H1 g1 r1 h1 v rv => ?_⟩
  obtain ⟨z, e, h2⟩ := h1.lft
  cases d with
  | brd m l =>
    cases e
    obtain ⟨a, dx, vl, rfl, h3, h4⟩ := rv
    exact ⟨a, _, dx, _, .int m, rfl, g1.fh _ _ h3, hC, hn, rfl, h2 F1 H1 (Grow.refl g1.fh) r1 _ (.int _)⟩
  | _ => cases e
theorem pd_leaps {e : Expr} {fa : En → M D} (hC : Cls X.K (He.ga X.K "Board")) (hn : NoAttr X.K (He.ga X.K "Board") "leaps") (ha : PD X W E e fa) (hb : attributeBase e "leaps" X.env (eval e X.env) = eval e X.env := by rfl) : PD X W E (.Attribute e "leaps" pos) (e1 opLeaps fa) := by
  refine PE.imp (pe_fld ha hb) fun σ H Q hl => ?_
  obtain ⟨F, ρ, R, ok, run⟩ := hl
  refine ⟨F, ρ, R, ok, run.bind.imp fun d R1 F1 H1 g1 r1 h1 v rv => ?_⟩
  obtain ⟨z, e, h2⟩ := h1.lft
  cases d with
  | brd m l =>
    cases e
    obtain ⟨a, dx, vl, rfl, h3, h4⟩ := rv
    exact ⟨a, _, dx, _, vl, rfl, g1.fh _ _ h3, hC, hn, rfl, h2 F1 H1 (Grow.refl g1.fh) r1 _ h4⟩
  | _ => cases e

/-! ### list(range(..)), tuple(range(..)) -/
def rgD (n : Nat) : List PyData := (List.range n).map fun (i : Nat) => .int (0 + (i : Int))
def opListRg : D → Option D
  | .dat (.int n) => if n ≤ 16777216 ∧ -16777216 ≤ n then some (.dat (.list (rgD n.toNat))) else none
  | _ => none
def opTupRg : D → Option D
  | .dat (.int n) => if n ≤ 16777216 ∧ -16777216 ≤ n then some (.dat (.tuple (rgD n.toNat))) else none
  | _ => none
theorem rg_dp {K : PySem.W.Frag} {F : Hp} (n : Int) : DpAll K F (rgV 0 n) (rgD n.toNat) := by
  unfold rgV rgD
  rw [Int.sub_zero]
  generalize List.range n.toNat = l
  induction l with
  | nil => exact .nil
  | cons x xs ih => exact .cons (.int _) ih
theorem pd_listRg {a : Expr} {fa : En → M D} {q : Pos} (hc : X.calm = true) (hg : Gl X "list") (hm : X.mg "list" = none) (hg2 : Gl X "range") (hm2 : X.mg "range" = none) (ha : PD X W E a fa) (na : starEach [a] X.env = (false, eval a X.env) :: starEach [] X.env := by rfl)
    (nb : starEach [.Call (.Name "range" p2) [a] [] q] X.env = (false, eval (.Call (.Name "range" p2) [a] [] q) X.env) :: starEach [] X.env := by rfl) : PD X W E (.Call (.Name "list" p) [.Call (.Name "range" p2) [a] [] q] [] pos) (e1 opListRg fa) := by
  refine PE.imp (pe_listRg hc hg hm (prg_1 hg2 hm2 ha na) nb) fun σ H Q hl => ?_
  obtain ⟨F, ρ, R, ok, run⟩ := hl
  refine ⟨F, ρ, R, ok, run.bind.imp fun d R1 F1 H1 g1 r1 h1 v rv => ?_⟩
  obtain ⟨z, e, h2⟩ := h1.lft
  unfold opListRg at e
  split at e
  · rename_i n
    split at e
    · rename_i hz
      cases e
      refine ⟨n, Dp.int_inv rv, ⟨by omega, by omega, by omega, by omega, by omega⟩, fun l hl => ?_⟩
      have gp := GrowP.new (o := .lst (rgV 0 n)) g1.fh hl
      exact h2 _ _ gp.g (gp.row r1) _ (Dp.newL g1.fh hl (rg_dp n))
    · cases e
  · cases e
theorem pd_tupRg {a : Expr} {fa : En → M D} {q : Pos} (hc : X.calm = true) (hg : Gl X "tuple") (hm : X.mg "tuple" = none) (hg2 : Gl X "range") (hm2 : X.mg "range" = none) (ha : PD X W E a fa) (na : starEach [a] X.env = (false, eval a X.env) :: starEach [] X.env := by rfl)
    (nb : starEach [.Call (.Name "range" p2) [a] [] q] X.env = (false, eval (.Call (.Name "range" p2) [a] [] q) X.env) :: starEach [] X.env := by rfl) : PD X W E (.Call (.Name "tuple" p) [.Call (.Name "range" p2) [a] [] q] [] pos) (e1 opTupRg fa) := by
  refine PE.imp (pe_tupRg hc hg hm (prg_1 hg2 hm2 ha na) nb) fun σ H Q hl => ?_
  obtain ⟨F, ρ, R, ok, run⟩ := hl
  refine ⟨F, ρ, R, ok, run.bind.imp fun d R1 F1 H1 g1 r1 h1 v rv => ?_⟩
  obtain ⟨z, e, h2⟩ := h1.lft
  unfold opTupRg at e
  split at e
  · rename_i n
    split at e
    · rename_i hz
      cases e
      refine ⟨n, Dp.int_inv rv, ⟨by omega, by omega, by omega, by omega, by omega⟩, fun l hl => ?_⟩
      have gp := GrowP.new (o := .tup (rgV 0 n)) g1.fh hl
      exact h2 _ _ gp.g (gp.row r1) _ (Dp.newT g1.fh hl (rg_dp n))
    · cases e
  · cases e
/-! ### len(set(x)), x a tuple of ints -/
def distinct : List Int → List Int
  | [] => []
  | x :: xs => if x ∈ xs then distinct xs else x :: distinct xs
theorem mem_distinct {k : Int} : ∀ {xs : List Int}, k ∈ distinct xs ↔ k ∈ xs
  | [] => by simp [distinct]
  | x :: xs => by
    unfold distinct
    split
    · rename_i h
      rw [mem_distinct, List.mem_cons]
      exact ⟨.inr, fun q => q.elim (fun e => e ▸ h) id⟩
    · rw [List.mem_cons, List.mem_cons, mem_distinct]
theorem nodup_distinct : ∀ xs : List Int, (distinct xs).Nodup
  | [] => by simp [distinct]
  | x :: xs => by
    unfold distinct
    split
    · exact nodup_distinct xs
    · rename_i h
      exact List.nodup_cons.mpr ⟨fun q => h (mem_distinct.mp q), nodup_distinct xs⟩
theorem len_of_same {l m : List Int} (h1 : l.Nodup) (h2 : m.Nodup) (h : ∀ k, k ∈ l ↔ k ∈ m) : l.length = m.length :=
  ((List.perm_ext_iff_of_nodup h1 h2).mpr h).length_eq
def opLenSet : D → Option D
  | .dat (.tuple xs) => (intsD xs).bind fun ns => if ns.length ≤ 60 then some (.dat (.int (distinct ns).length)) else none
  | _ => none
def tLenSetT (K : PySem.W.Frag) (ta : TE) : TE := fun σ H Q => ta σ H fun x H1 => ∃ (l : Addr) (ns : List Int), x = V.ref l ∧ SqT K H1 l (ns.map V.int) ∧ ns.length ≤ 60 ∧ Q (.int (distinct ns).length) H1
theorem pe_lenSetT {a : Expr} {ta : TE} {q : Pos} (hc : X.calm = true) (hg : Gl X "len") (hm : X.mg "len" = none) (hg2 : Gl X "set") (hm2 : X.mg "set" = none) (ha : PE X a ta)
    (na : starEach [a] X.env = (false, eval a X.env) :: starEach [] X.env := by rfl) : PE X (.Call (.Name "len" p) [.Call (.Name "set" p2) [a] [] q] [] pos) (tLenSetT X.K ta) := by
  refine ⟨fun pins s σ H Q I h => ?_⟩
  refine Call_ (ld_blt I hg hm PySem.boot_len ?_)
  refine PyProof.Rows.callWith_builtin1 (PyProof.Rows.args_cons ?_ rfl) rfl rfl
  refine Call_ (ld_blt I hg2 hm2 PyProof.Rows.boot_set ?_)
  refine PyProof.Rows.callWith_type1 (PyProof.Rows.args_cons (thn (ha.run pins s σ H _ I h) fun v s1 ⟨x, H1, I1, r1, q1⟩ => PyProof.Rows.args_nil ?_) na) na rfl
  obtain ⟨l, ns, rfl, hq, h1, q1⟩ := q1
  cases r1
  obtain ⟨its, r, pl, hz⟩ := I1.tuple hq
  refine call_set_tupI ns (I1.ok.hd hc) (show s1.heap.IsTuple l its.toArray from pl) (by simpa using r.ints) (by unfold scanBound; omega) fun h' tk c hS hcn hk => ?_
  refine PyProof.Rows.args_nil ?_
  obtain ⟨o, es, ep, t, ho, hex, hd, _, hnd, hmem, _, hf, hn, _⟩ := hS
  have I2 : Inv X pins σ H1 { s1 with heap := h', toks := tk } := I1.kept fun b o e => hk b o e
  have el : es.size = (distinct ns).length := by
    rw [← Array.length_toList, ← List.length_map (f := L2.keyOf)]
    refine len_of_same hnd (nodup_distinct ns) fun k => ?_
    rw [← hmem k, mem_distinct, decide_eq_true_eq]
  refine call_len_set ho hex hd hf (by omega) ⟨.int (distinct ns).length, H1, I2.tok _, ⟨_, by rw [el]⟩, q1⟩
theorem pd_lenSet {a : Expr} {fa : En → M D} {q : Pos} (hc : X.calm = true) (hg : Gl X "len") (hm : X.mg "len" = none) (hg2 : Gl X "set") (hm2 : X.mg "set" = none) (ha : PD X W E a fa)
    (na : starEach [a] X.env = (false, eval a X.env) :: starEach [] X.env := by rfl) : PD X W E (.Call (.Name "len" p) [.Call (.Name "set" p2) [a] [] q] [] pos) (e1 opLenSet fa) := by
  refine PE.imp (pe_lenSetT hc hg hm hg2 hm2 ha na) fun σ H Q hl => ?_
  obtain ⟨F, ρ, R, ok, run⟩ := hl
  refine ⟨F, ρ, R, ok, run.bind.imp fun d R1 F1 H1 g1 r1 h1 v rv => ?_⟩
  obtain ⟨z, e, h2⟩ := h1.lft
  unfold opLenSet at e
  split at e
  · obtain ⟨ns, e3, e4⟩ := Option.bind_eq_some_iff.mp e
    split at e4
    · rename_i hz
      cases e4
      have e5 := intsD_inv e3
      subst e5
      obtain ⟨l, ys, rfl, h5, h6⟩ := Dp.tup_inv rv
      have := h6.ints
      subst this
      exact ⟨l, ns, rfl, g1.fh.tup h5, hz, h2 F1 H1 (Grow.refl g1.fh) r1 _ (.int _)⟩
    · cases e4
  · cases e
end
end DL

set_option maxHeartbeats 4000000
namespace DL
open PySem PySem.Spec PyProof.Rows L2

section
variable {P : Program} {w : World} {K : PySem.W.Frag} {E : Ent} {F H : Hp} {σ : L2.St} {ρ : En} {R R' : RS} {W : XK} {α : Type}
/-- a name takes a list or dict that no other name of the frame has -/
theorem Ok.own (ok : Ok P w K E F σ H ρ R) (i : Nat) {p : Addr} {o : OW} (f1 : E.H p = none) (f2 : F p = none) (f3 : RS.ad R ≠ some p) (ow : OwnAt P w K F H p o)
    (hn : ∀ (j : Nat) (oj : OW), j ≠ i → ρ[j]? = some (.own oj) → σ[j]? ≠ some (some (.ref p))) : Ok P w K E F (σ.set i (some (.ref p))) H (ρ.set i (.own o)) R := by
  refine ⟨ok.g, ok.row, fun j sv e => ?_, fun j k oj ok' a e1 e2 e3 e4 => ?_, by simp [ok.ln]⟩
  · by_cases hj : i = j
    · subst hj
      by_cases hl : i < ρ.length
      · rw [List.getElem?_set_self hl] at e
        cases e
        exact ⟨p, List.getElem?_set_self (by rw [← ok.ln]; exact hl), f2, f1, f3, ow⟩
      · rw [List.getElem?_eq_none (by simpa using hl)] at e; cases e
    · rw [List.getElem?_set_ne hj] at e
      rw [List.getElem?_set_ne hj]
      exact ok.sl j sv e
  · have at_i : ∀ oj a, (ρ.set i (.own o))[i]? = some (SV.own oj) → (σ.set i (some (.ref p)))[i]? = some (some (.ref a)) → a = p := fun oj a e1 e3 => by
      by_cases hl : i < ρ.length
      · rw [List.getElem?_set_self (by rw [← ok.ln]; exact hl)] at e3
        cases e3; rfl
      · rw [List.getElem?_eq_none (by simpa using hl)] at e1; cases e1
    by_cases hj : i = j
    · subst hj
      by_cases hk : i = k
      · exact hk
      · have ea := at_i _ _ e1 e3
        rw [List.getElem?_set_ne hk] at e2 e4
        exact absurd (ea ▸ e4) (hn k _ (Ne.symm hk) e2)
    · by_cases hk : i = k
      · subst hk
        have ea := at_i _ _ e2 e4
        rw [List.getElem?_set_ne hj] at e1 e3
        exact absurd (ea ▸ e3) (hn j _ (Ne.symm hj) e1)
      · rw [List.getElem?_set_ne hj] at e1 e3
        rw [List.getElem?_set_ne hk] at e2 e4
        exact ok.dj j k oj ok' a e1 e2 e3 e4
/-- a new object that nothing tracks yet -/
theorem Grow.lay {F H : Hp} {R : RS} {p : Addr} {o : HO} (s : Same F H) (hp : H p = none) : Grow R R F H F (upd H p o) :=
  Grow.of (Same.refl F) (fun b x e => by rw [upd_ne (ne_of_none (s b x e) hp)]; exact s b x e) (fun b x e => by rw [upd_ne (ne_of_none e hp)]; exact e) fun a _ h => h
theorem RowOk.lay {F H : Hp} {R : RS} {p : Addr} {o : HO} (hp : H p = none) (r : RowOk K F H R) : RowOk K F (upd H p o) R := by
  refine ⟨?_, r.tb.new hp⟩
  cases R with
  | none => trivial
  | some x => obtain ⟨h1, h2, h3, h4⟩ := r.rw; exact ⟨by rw [upd_ne (ne_of_none h1 hp)]; exact h1, h2, h3, h4⟩
theorem Ok.noref (ok : Ok P w K E F σ H ρ R) {p : Addr} (hp : H p = none) (j : Nat) (oj : OW) (e : ρ[j]? = some (.own oj)) : σ[j]? ≠ some (some (.ref p)) := fun e2 => by
  obtain ⟨a, q1, q2, q3, q4, q5⟩ := ok.sl j _ e
  rw [e2] at q1
  cases q1
  obtain ⟨x, hx⟩ := q5.some
  rw [hp] at hx
  cases hx
end

/-! ### a, b = x, y -/
def sParEE (i j : Nat) (f g : En → M D) : En → M Fl := fun ρ => do let x ← f ρ; let y ← g ρ; pure (.nx ((ρ.set i (.val x)).set j (.val y)))
def sParEEE (i j l : Nat) (f g h : En → M D) : En → M Fl := fun ρ => do let x ← f ρ; let y ← g ρ; let z ← h ρ; pure (.nx (((ρ.set i (.val x)).set j (.val y)).set l (.val z)))
def sParNN (i j : Nat) (f g : En → M OW) : En → M Fl := fun ρ => do let x ← f ρ; let y ← g ρ; pure (.nx ((ρ.set i (.own x)).set j (.own y)))
section
variable {X : Cx} {W : XK} {E : Ent} {pos : Pos}
theorem pds_parEE {x y : Str} {a b : Expr} {px py pt : Pos} {kt k2 pt2} {f g : En → M D} (i j : Nat) (hc : X.calm = true) (hN : X.N.Nodup) (hi : X.N[i]? = some x) (hj : X.N[j]? = some y) (hij : i ≠ j)
    (hx : X.env.scope.names.lookup x = some .local) (hy : X.env.scope.names.lookup y = some .local) (ha : PD X W E a f) (hb : PD X W E b g)
    (hw : swappedStores [.Tuple [.Name x px, .Name y py] kt pt] (.Tuple [a, b] k2 pt2) X.env = pure (some [x, y]))
    (hs : swapsWithSole [.Tuple [.Name x px, .Name y py] kt pt] (.Tuple [a, b] k2 pt2) pos.line X.env = pure false := by rfl) (h1 : starEach [a, b] X.env = (false, eval a X.env) :: starEach [b] X.env := by rfl) (h2 : starEach [b] X.env = (false, eval b X.env) :: starEach [] X.env := by rfl) :
    PDS X W E (.Assign [.Tuple [.Name x px, .Name y py] kt pt] (.Tuple [a, b] k2 pt2) pos) (sParEE i j f g) := by
  refine PS.imp (ps_par hc hN hi hj hij hx hy (pa_cons ha (pa_cons hb pa_nil h2) h1) hw hs) fun D₀ σ H hl => ?_
  obtain ⟨F, ρ, R, ok, run⟩ := hl
  refine ⟨F, ρ, R, ok, (run.bind ok).imp fun dx R1 F1 H1 g1 r1 q1 vx rx => ?_⟩
  have ok1 := ok.grow g1 r1
  refine ⟨F1, ρ, R1, ok1, (q1.bind ok1).imp fun dy R2 F2 H2 g2 r2 q2 vy ry => ?_⟩
  have ok2 := ok1.grow g2 r2
  exact ⟨vx, vy, rfl, q2 _ F2 H2 (Same.refl F2) ((ok2.set i (rx.mono g2.ff)).set j ry)⟩
theorem pds_parEEE {x y z : Str} {a b c : Expr} {px py pz pt : Pos} {kt k2 pt2} {f g h : En → M D} (i j l : Nat) (hc : X.calm = true) (hN : X.N.Nodup) (hi : X.N[i]? = some x) (hj : X.N[j]? = some y) (hl : X.N[l]? = some z) (hij : i ≠ j) (hil : i ≠ l) (hjl : j ≠ l)
    (hx : X.env.scope.names.lookup x = some .local) (hy : X.env.scope.names.lookup y = some .local) (hz : X.env.scope.names.lookup z = some .local) (ha : PD X W E a f) (hb : PD X W E b g) (hcc : PD X W E c h)
    (hw : swappedStores [.Tuple [.Name x px, .Name y py, .Name z pz] kt pt] (.Tuple [a, b, c] k2 pt2) X.env = pure (some [x, y, z]))
    (hs : swapsWithSole [.Tuple [.Name x px, .Name y py, .Name z pz] kt pt] (.Tuple [a, b, c] k2 pt2) pos.line X.env = pure false := by rfl) (h1 : starEach [a, b, c] X.env = (false, eval a X.env) :: starEach [b, c] X.env := by rfl) (h2 : starEach [b, c] X.env = (false, eval b X.env) :: starEach [c] X.env := by rfl) (h3 : starEach [c] X.env = (false, eval c X.env) :: starEach [] X.env := by rfl) :
    PDS X W E (.Assign [.Tuple [.Name x px, .Name y py, .Name z pz] kt pt] (.Tuple [a, b, c] k2 pt2) pos) (sParEEE i j l f g h) := by
  refine PS.imp (ps_par3 hc hN hi hj hl hij hil hjl hx hy hz (pa_cons ha (pa_cons hb (pa_cons hcc pa_nil h3) h2) h1) hw hs) fun D₀ σ H hl => ?_
  obtain ⟨F, ρ, R, ok, run⟩ := hl
  refine ⟨F, ρ, R, ok, (run.bind ok).imp fun dx R1 F1 H1 g1 r1 q1 vx rx => ?_⟩
  have ok1 := ok.grow g1 r1
  refine ⟨F1, ρ, R1, ok1, (q1.bind ok1).imp fun dy R2 F2 H2 g2 r2 q2 vy ry => ?_⟩
  have ok2 := ok1.grow g2 r2
  refine ⟨F2, ρ, R2, ok2, (q2.bind ok2).imp fun dz R3 F3 H3 g3 r3 q3 vz rz => ?_⟩
  have ok3 := ok2.grow g3 r3
  exact ⟨vx, vy, vz, rfl, q3 _ F3 H3 (Same.refl F3) (((ok3.set i ((rx.mono g2.ff).mono g3.ff)).set j (ry.mono g3.ff)).set l rz)⟩
theorem pds_parNN {x y : Str} {a b : Expr} {px py pt : Pos} {kt k2 pt2} {f g : En → M OW} (i j : Nat) (hc : X.calm = true) (hN : X.N.Nodup) (hi : X.N[i]? = some x) (hj : X.N[j]? = some y) (hij : i ≠ j)
    (hx : X.env.scope.names.lookup x = some .local) (hy : X.env.scope.names.lookup y = some .local) (ha : PDN X W E a f) (hb : PDN X W E b g)
    (hw : swappedStores [.Tuple [.Name x px, .Name y py] kt pt] (.Tuple [a, b] k2 pt2) X.env = pure (some [x, y]))
    (hs : swapsWithSole [.Tuple [.Name x px, .Name y py] kt pt] (.Tuple [a, b] k2 pt2) pos.line X.env = pure false := by rfl) (h1 : starEach [a, b] X.env = (false, eval a X.env) :: starEach [b] X.env := by rfl) (h2 : starEach [b] X.env = (false, eval b X.env) :: starEach [] X.env := by rfl) :
    PDS X W E (.Assign [.Tuple [.Name x px, .Name y py] kt pt] (.Tuple [a, b] k2 pt2) pos) (sParNN i j f g) := by
  refine PS.imp (ps_par hc hN hi hj hij hx hy (pa_cons ha (pa_cons hb pa_nil h2) h1) hw hs) fun D₀ σ H hl => ?_
  obtain ⟨F, ρ, R, ok, run⟩ := hl
  refine ⟨F, ρ, R, ok, (run.bind ok).imp fun ox R1 F1 H1 g1 r1 q1 p u hp ow => ?_⟩
  have ok1 := ok.grow g1 r1
  obtain ⟨f1, f2, f3⟩ := ok1.fresh hp
  have nor := ok1.noref hp
  have ok1' := ok1.grow (Grow.lay (o := u) g1.fh hp) (r1.lay hp)
  refine ⟨F1, ρ, R1, ok1', (q1.bind ok1').imp fun oy R2 F2 H2 g2 r2 q2 p2 u2 hp2 ow2 => ?_⟩
  have ok2 := ok1'.grow g2 r2
  have e2 : H2 p = some u := g2.hs p u upd_same f2 f3 (ow.nt upd_same)
  have hpp : p ≠ p2 := fun z => by rw [← z, e2] at hp2; cases hp2
  have ok3 := ok2.own i (o := ox) (p := p) f1 (g2.hn p (by rw [upd_same]; simp) f2).2 (by rw [RS.ad_key g2.rk]; exact f3) (ow.mono g2.ff (by rw [e2, upd_same])) (fun j oj _ e => nor j oj e)
  exact ⟨.ref p, .ref p2, rfl, q2 _ F2 _ (Same.refl F2) (ok3.setOwn j hp2 ow2)⟩

/-! ### a, b = value; a, b, c = value -/
def sUnp (i j : Nat) (f : En → M D) : En → M Fl := fun ρ => do let d ← f ρ; let ρ' ← lft (gT i j d ρ); pure (.nx ρ')
def gT3 (i j l : Nat) : D → En → Option En := fun d ρ => match d with
  | .dat (.tuple [x, y, z]) => some (((ρ.set i (.val (.dat x))).set j (.val (.dat y))).set l (.val (.dat z)))
  | _ => none
def sUnp3 (i j l : Nat) (f : En → M D) : En → M Fl := fun ρ => do let d ← f ρ; let ρ' ← lft (gT3 i j l d ρ); pure (.nx ρ')
theorem pdg_three {x y z : Str} {p p' p'' tpos : Pos} {k : Nat} (i j l : Nat) (hc : X.calm = true) (h1 : PG X (.Name x p) (gName i)) (h2 : PG X (.Name y p') (gName j)) (h3 : PG X (.Name z p'') (gName l))
    (hs1 : (assignEach [Expr.Name x p, Expr.Name y p', Expr.Name z p''] X.env).map (·.2) = assign (.Name x p) X.env :: (assignEach [Expr.Name y p', Expr.Name z p''] X.env).map (·.2) := by rfl)
    (hs2 : (assignEach [Expr.Name y p', Expr.Name z p''] X.env).map (·.2) = assign (.Name y p') X.env :: (assignEach [Expr.Name z p''] X.env).map (·.2) := by rfl)
    (hs3 : (assignEach [Expr.Name z p''] X.env).map (·.2) = assign (.Name z p'') X.env :: (assignEach [] X.env).map (·.2) := by rfl)
    (hn : (assignEach [Expr.Name x p, Expr.Name y p', Expr.Name z p''] X.env).length = 3 := by rfl) (hst : (assignEach [Expr.Name x p, Expr.Name y p', Expr.Name z p''] X.env).findIdx? (·.1) = none := by rfl) :
    PDG X (.Tuple [.Name x p, .Name y p', .Name z p''] k tpos) (gT3 i j l) :=
  ⟨_, pg_tup hc (pgs_cons h1 (pgs_cons h2 (pgs_cons h3 pgs_nil hs3) hs2) hs1) hn hst, fun E F σ H ρ ρ' R v d Q ok rd e q => by
    unfold gT3 at e
    split at e
    · cases e
      obtain ⟨a, xs, rfl, h3, h4⟩ := Dp.tup_inv rd
      cases h4 with
      | cons p1 p2 =>
        cases p2 with
        | cons p3 p4 =>
          cases p4 with
          | cons p5 p6 =>
            cases p6
            exact ⟨a, _, rfl, ok.g.fh.tup h3, rfl, _, _, rfl, _, _, rfl, _, _, rfl, rfl, q _ (((ok.set (d := .dat _) i p1).set (d := .dat _) j p3).set (d := .dat _) l p5)⟩
    · cases e⟩
theorem pds_asgG {tg e : Expr} {f : En → M D} {t : D → En → Option En} (hg : PDG X tg t) (h : PD X W E e f) (hs : swapsWithSole [tg] e pos.line X.env = pure false := by rfl) (hw : swappedStores [tg] e X.env = pure none := by rfl)
    (h1 : (assignEach [tg] X.env).map (·.2) = [assign tg X.env] := by rfl) : PDS X W E (.Assign [tg] e pos) (fun ρ => do let d ← f ρ; let ρ' ← lft (t d ρ); pure (.nx ρ')) := by
  obtain ⟨g, pg, sg⟩ := hg
  refine PS.imp (ps_asg h pg hs hw h1) fun D₀ σ H hl => ?_
  obtain ⟨F, ρ, R, ok, run⟩ := hl
  refine ⟨F, ρ, R, ok, (run.bind ok).imp fun d R1 F1 H1 g1 r1 q v rv => ?_⟩
  have ok1 := ok.grow g1 r1
  obtain ⟨ρ', e', q'⟩ := RunS.lft ok1 q
  exact sg E F1 σ H1 ρ ρ' R1 v d _ ok1 rv e' fun σ' ok' => q' σ' F1 H1 (Same.refl F1) ok'
theorem pds_unp {x y : Str} {p p' tpos : Pos} {k : Nat} {e : Expr} {f : En → M D} (i j : Nat) (hg : PDG X (.Tuple [.Name x p, .Name y p'] k tpos) (gT i j)) (h : PD X W E e f) (hs : swapsWithSole [.Tuple [.Name x p, .Name y p'] k tpos] e pos.line X.env = pure false := by rfl) (hw : swappedStores [.Tuple [.Name x p, .Name y p'] k tpos] e X.env = pure none := by rfl)
    (h1 : (assignEach [.Tuple [.Name x p, .Name y p'] k tpos] X.env).map (·.2) = [assign (.Tuple [.Name x p, .Name y p'] k tpos) X.env] := by rfl) : PDS X W E (.Assign [.Tuple [.Name x p, .Name y p'] k tpos] e pos) (sUnp i j f) := pds_asgG hg h hs hw h1
theorem pds_unp3 {x y z : Str} {p p' p'' tpos : Pos} {k : Nat} {e : Expr} {f : En → M D} (i j l : Nat) (hg : PDG X (.Tuple [.Name x p, .Name y p', .Name z p''] k tpos) (gT3 i j l)) (h : PD X W E e f) (hs : swapsWithSole [.Tuple [.Name x p, .Name y p', .Name z p''] k tpos] e pos.line X.env = pure false := by rfl) (hw : swappedStores [.Tuple [.Name x p, .Name y p', .Name z p''] k tpos] e X.env = pure none := by rfl)
    (h1 : (assignEach [.Tuple [.Name x p, .Name y p', .Name z p''] k tpos] X.env).map (·.2) = [assign (.Tuple [.Name x p, .Name y p', .Name z p''] k tpos) X.env] := by rfl) : PDS X W E (.Assign [.Tuple [.Name x p, .Name y p', .Name z p''] k tpos] e pos) (sUnp3 i j l f) := pds_asgG hg h hs hw h1

/-! ### row[k] = e -/
def rowPut (a : Addr) (k v : D) : M Unit := fun R => match R, k, v with
  | some r, .dat (.int k), .dat (.int n) => if r.a = a then
      (if k = 1 then some (.val (), some { r with i := n }) else if k = 2 then some (.val (), some { r with r := n }) else if k = 3 then some (.val (), some { r with c := n }) else none)
    else none
  | _, _, _ => none
def sRowPut (fr fk f : En → M D) : En → M Fl := fun ρ => do
  let d ← f ρ
  let o ← fr ρ
  let k ← fk ρ
  match o with
  | .row a => do let _ ← rowPut a k d; pure (.nx ρ)
  | _ => stk
theorem row_put {P : Program} {w : World} {K : PySem.W.Frag} {F H : Hp} {σ : L2.St} {ρ : En} {R : RS} {a : Addr} {k v : D} {D₀ : Ends} (ok : Ok P w K E F σ H ρ R) (run : RunS P w K W E (rowPut a k v >>= fun _ => pure (.nx ρ)) R F D₀) :
    ∃ (j : Int) (n : Int) (xs : List V), k = .dat (.int j) ∧ v = .dat (.int n) ∧ H a = some (.lst xs) ∧ 0 ≤ j ∧ j < 4 ∧ xs.length = 4 ∧ D₀.nx σ (upd H a (.lst (xs.set j.toNat (.int n)))) := by
  unfold RunS at run
  rw [M.bind_def] at run
  unfold M.bnd rowPut at run
  cases R with
  | none => exact run.elim
  | some r =>
    cases k with
    | dat kk =>
      cases kk with
      | int j =>
        cases v with
        | dat vv =>
          cases vv with
          | int n =>
            dsimp only at run
            by_cases ea : r.a = a
            · rw [if_pos ea] at run
              subst ea
              have okR := ok.row
              obtain ⟨h1, h2, h3, h4⟩ := okR.rw
              have hnt : NoT K r.a := okR.tb.nt h1 fun ps e => nomatch e
              have hE : RS.ad E.R = some r.a := (RS.ad_key ok.g.rk).symm
              have main : ∀ (r' : Row) (m : Nat), m < 4 → r'.a = r.a → r'.sc = r.sc → r'.ns = r.ns → ([V.ref r.sc, .int r.i, .int r.r, .int r.c].set m (.int n)) = [V.ref r'.sc, .int r'.i, .int r'.r, .int r'.c] → Ok P w K E F σ (upd H r.a (.lst ([V.ref r.sc, .int r.i, .int r.r, .int r.c].set m (.int n)))) ρ (some r') := fun r' m hm ea es en el => by
                have ne : ∀ b, b ≠ r.a → (upd H r.a (.lst ([V.ref r.sc, .int r.i, .int r.r, .int r.c].set m (.int n)))) b = H b := fun b hb => upd_ne hb
                refine ⟨⟨by rw [← ok.g.rk]; simp [RS.key, ea, es, en], ok.g.ff, fun b x e => ?_, fun b p q => ?_, fun b x p q t y => ?_⟩, ⟨⟨?_, by rw [ea]; exact h2, by rw [es, en]; exact h3, by rw [en]; exact h4⟩, okR.tb.upd hnt⟩, fun i sv e => ?_, ok.dj, ok.ln⟩
                · rw [ne b (fun z => by rw [z, h2] at e; cases e)]; exact ok.g.fh b x e
                · obtain ⟨q1, q2⟩ := ok.g.hn b p q
                  refine ⟨?_, q2⟩
                  by_cases hb : b = r.a
                  · rw [hb, upd_same]; simp
                  · rw [ne b hb]; exact q1
                · rw [ne b (fun z => t (by rw [hE, z]))]
                  exact ok.g.hs b x p q t y
                · rw [ea, upd_same, el]
                · have h := ok.sl i sv e
                  cases sv with
                  | no => trivial
                  | val d => exact h
                  | own o =>
                    obtain ⟨b, q1, q2, q3, q4, q5⟩ := h
                    have hb : b ≠ r.a := fun z => q4 (by show some r.a = some b; rw [z])
                    exact ⟨b, q1, q2, q3, by show some r'.a ≠ some b; rw [ea]; exact q4, q5.mono (Same.refl F) (ne b hb)⟩
              by_cases e1 : j = 1
              · subst e1
                exact ⟨1, n, _, rfl, rfl, h1, by decide, by decide, rfl, run σ F _ (Same.refl F) (main _ 1 (by decide) rfl rfl rfl rfl)⟩
              · rw [if_neg e1] at run
                by_cases e2 : j = 2
                · subst e2
                  exact ⟨2, n, _, rfl, rfl, h1, by decide, by decide, rfl, run σ F _ (Same.refl F) (main _ 2 (by decide) rfl rfl rfl rfl)⟩
                · rw [if_neg e2] at run
                  by_cases e3 : j = 3
                  · subst e3
                    exact ⟨3, n, _, rfl, rfl, h1, by decide, by decide, rfl, run σ F _ (Same.refl F) (main _ 3 (by decide) rfl rfl rfl rfl)⟩
                  · rw [if_neg e3] at run
                    exact run.elim
            · rw [if_neg ea] at run
              exact run.elim
          | _ => exact run.elim
        | _ => exact run.elim
      | _ => exact run.elim
    | _ => exact run.elim
def sIxP (t : TSet) (to ti tv : TE) : TS := fun D σ H => tv σ H fun v H1 => to σ H1 fun x H2 => ti σ H2 fun y H3 => t x y v H3 fun H4 => D.nx σ H4
theorem ps_ixput {o i value : Expr} {pos' : Pos} {t : TSet} {to ti tv : TE} (hp : PSet X t) (ho : PE X o to) (hi : PE X i ti) (hv : PE X value tv) (hs : swapsWith value (some (.Subscript o i pos')) pos.line X.env = pure false := by rfl) : PS X (.Assign [.Subscript o i pos'] value pos) (sIxP t to ti tv) := by
  refine ⟨fun pins s σ H D I h => ?_⟩
  refine wpAny_Assign_Subscript (thn (hv.run pins s σ H _ I h) fun r s1 ⟨v, H1, I1, rv, q1⟩ => thn (ho.run pins s1 σ H1 _ I1 q1) fun u s2 ⟨x, H2, I2, rx, q2⟩ => thn (hi.run pins s2 σ H2 _ I2 q2) fun iv s3 ⟨y, H3, I3, ry, q3⟩ => ?_) hs
  exact thn (hp pins s3 σ H3 x y v u iv r _ I3 rx ry rv q3) fun _ s4 ⟨H4, I4, q4⟩ => ⟨σ, H4, I4, q4⟩
theorem pds_row {o i value : Expr} {pos' : Pos} {fr fk f : En → M D} (ho : PD X W E o fr) (hi : PD X W E i fk) (hv : PD X W E value f) (hs : swapsWith value (some (.Subscript o i pos')) pos.line X.env = pure false := by rfl) : PDS X W E (.Assign [.Subscript o i pos'] value pos) (sRowPut fr fk f) := by
  refine PS.imp (ps_ixput set_list ho hi hv hs) fun D₀ σ H hl => ?_
  obtain ⟨F, ρ, R, ok, run⟩ := hl
  refine ⟨F, ρ, R, ok, (run.bind ok).imp fun dv R1 F1 H1 g1 r1 q1 v rv => ?_⟩
  have ok1 := ok.grow g1 r1
  refine ⟨F1, ρ, R1, ok1, (q1.bind ok1).imp fun dr R2 F2 H2 g2 r2 q2 vr rr => ?_⟩
  have ok2 := ok1.grow g2 r2
  refine ⟨F2, ρ, R2, ok2, (q2.bind ok2).imp fun dk R3 F3 H3 g3 r3 q3 vk rk => ?_⟩
  have ok3 := ok2.grow g3 r3
  cases dr with
  | row a =>
    obtain ⟨j, n, xs, rfl, rfl, hH, h0, h4, hl, q⟩ := row_put ok3 q3
    have rv' : v = .int n := Dp.int_inv rv
    subst rv'
    refine ⟨a, xs, j, j.toNat, rr, Dp.int_inv rk, hH, ?_, q⟩
    have : ixN xs.length ((j.toNat : Nat) : Int) = some j.toNat := by unfold ixN; rw [if_pos (by omega), if_pos (by omega)]; exact congrArg some (Int.toNat_natCast j.toNat)
    rwa [Int.toNat_of_nonneg h0] at this
  | _ => exact q3.elim
/-! ### own list, own dict: x[k] = e -/
def stD : List (PyData × PyData) → PyData → NestedKey → PyData → List (PyData × PyData)
  | kvs, dk, k, y => if (dicAt kvs k).isSome then kvs.map (fun p => if keyOf p.1 = some k then (p.1, y) else p) else kvs ++ [(dk, y)]
def sLPut (i : Nat) (fk f : En → M D) : En → M Fl := fun ρ => do
  let d ← f ρ
  match d, ρ[i]? with
  | .dat y, some (.own (.lst ds)) => do
    let k ← fk ρ
    match k with
    | .dat (.int n) => match ixN ds.length n with
      | some j => pure (.nx (ρ.set i (.own (.lst (ds.set j y)))))
      | none => stk
    | _ => stk
  | _, _ => stk
theorem DpAll.set {K : PySem.W.Frag} {F : Hp} : ∀ {xs : List V} {ds : List PyData} {x : V} {d : PyData} (n : Nat), DpAll K F xs ds → Dp K F x d → DpAll K F (xs.set n x) (ds.set n d)
  | _, _, _, _, _, .nil, _ => .nil
  | _, _, _, _, 0, .cons _ t, r => .cons r t
  | _, _, _, _, n + 1, .cons h t, r => .cons h (DpAll.set n t r)
theorem pds_lput {x : Str} {p pos' : Pos} {ix value : Expr} {fk f : En → M D} (i : Nat) (ho : PE X (.Name x p) (tVar i)) (hi : PD X W E ix fk) (hv : PD X W E value f) (hs : swapsWith value (some (.Subscript (.Name x p) ix pos')) pos.line X.env = pure false := by rfl) : PDS X W E (.Assign [.Subscript (.Name x p) ix pos'] value pos) (sLPut i fk f) := by
  refine PS.imp (ps_ixput set_list ho hi hv hs) fun D₀ σ H hl => ?_
  obtain ⟨F, ρ, R, ok, run⟩ := hl
  refine ⟨F, ρ, R, ok, (run.bind ok).imp fun dv R1 F1 H1 g1 r1 q1 v rv => ?_⟩
  have ok1 := ok.grow g1 r1
  cases dv with
  | dat y =>
    cases eq : ρ[i]? with
    | none => rw [eq] at q1; exact q1.elim
    | some sv =>
      rw [eq] at q1
      cases sv with
      | no => exact q1.elim
      | val d => exact q1.elim
      | own o =>
        cases o with
        | dic k => exact q1.elim
        | ids k => exact q1.elim
        | lst ds =>
          obtain ⟨a, h1, h2, h3, h4, xs, h5, h6⟩ := ok1.sl i _ eq
          refine ⟨.ref a, h1, F1, ρ, R1, ok1, (RunS.bind ok1 q1).imp fun dk R2 F2 H2 g2 r2 q2 vk rk => ?_⟩
          have ok2 := ok1.grow g2 r2
          cases dk with
          | dat z =>
            cases z with
            | int n =>
              dsimp only at q2
              cases ej : ixN ds.length n with
              | none => rw [ej] at q2; exact q2.elim
              | some j =>
                rw [ej] at q2
                have e5 := g2.hs a _ h5 h2 h4 fun ps e => nomatch e
                refine ⟨a, xs, n, j, rfl, Dp.int_inv rk, e5, by rw [h6.len]; exact ej, ?_⟩
                exact q2 σ F2 _ (Same.refl F2) (ok2.mut eq h1 ⟨_, upd_same, DL.DpAll.set j (DpAll.mono g2.ff h6) (rv.mono g2.ff)⟩)
            | _ => exact q2.elim
          | _ => exact q2.elim
  | _ => exact q1.elim
end
end DL

set_option maxHeartbeats 4000000
namespace DL
open PySem PySem.Spec PyProof.Rows L2

/-! ### a statement of which nothing is claimed -/
def sStk : En → M Fl := fun _ => stk
theorem pds_stk {X : Cx} {W : XK} {E : Ent} {st : Stmt} : PDS X W E st sStk := ⟨fun pins s σ H D₀ I h => by
  obtain ⟨F, ρ, R, ok, run⟩ := h
  exact run.elim⟩

/-! ### Board(..) -/
def preB (wp : List D → M D) (d : D) : M (Int × PyData) := do
  let w ← wp [d]
  match w, d with
  | .dat .none, .dat (.tuple [.int m, l]) => pure (m, l)
  | _, _ => stk
def mkBoard (wp : List D → M D) : List D → M D := fun ds => match ds with
  | [d] => do let p ← preB wp d; pure (.brd p.1 p.2)
  | _ => stk
theorem sqT_ins {K : PySem.W.Frag} {H : Hp} {a x C dx : Addr} {fs : List (Str × V)} {o : HO} {xs : List V} (hx : H x = some (.ins C dx fs)) (h : SqT K H a xs) : SqT K (upd H x o) a xs := by
  rcases h with (h | ⟨u, h⟩) | h
  · exact .inl (.inl (by rw [upd_ne (fun z => by rw [z, hx] at h; cases h)]; exact h))
  · exact .inl (.inr ⟨u, by rw [upd_ne (fun z => by rw [z, hx] at h; cases h)]; exact h⟩)
  · exact .inr h
section
variable {P : Program} {w : World} {K : PySem.W.Frag}
def spB (P : Program) (w : World) (K : PySem.W.Frag) (wp : List D → M D) : Sp := fun vs H Q EX =>
  ∃ x dx v F0 d R, vs = [.ref x, v] ∧ H x = some (.ins (He.ga K "Board") dx []) ∧ F0 x = none ∧ RS.ad R ≠ some x ∧ Same F0 H ∧ RowOk K F0 H R ∧ RD P w K F0 v d ∧
    Run K EX (preB wp d) R F0 H fun p R' F' H' => ∀ vl, Dp K F' vl p.2 → Q .non (upd H' x (.ins (He.ga K "Board") dx [("many", .int p.1), ("leaps", vl)]))
end
theorem atI_0 {x y : V} : L2.atI [x, y] 0 = some x := rfl
theorem atI_1 {x y : V} : L2.atI [x, y] 1 = some y := rfl
section
variable {X : Cx} {EX : XK}
/-- Board's __init__, as a text -/
theorem pss_board {wp : List D → M D} {k : Nat} {p1 p2 p3 p4 p5 p6 p7 p8 p9 q1 q2 q3 q4 q5 q6 q7 q8 q9 r1 r2 r3 : Pos} {kk k0 k1 : _} {rs : List Stmt}
    (h : Fn X.prog X.w X.K X.mg X.base k "wrong_part" wp) (hr : Room k X.A) (hg : Gl X "wrong_part") (tk : Takes X (fun c d _ H => EX c d H)) (hC : Cls X.K (He.ga X.K "Board")) (hm : NoAttr X.K (He.ga X.K "Board") "many") (hl : NoAttr X.K (He.ga X.K "Board") "leaps")
    (v0 : ∀ p, PE X (.Name "self" p) (tVar 0)) (v1 : ∀ p, PE X (.Name "parts" p) (tVar 1)) (v2 : ∀ p, PE X (.Name "wrong" p) (tVar 2)) (hn : ∀ p, PG X (.Name "wrong" p) (gName 2))
    (e1 : swapsWithSole [Expr.Name "wrong" p1] (.Call (.Name "wrong_part" p2) [.Name "parts" p3] [] p4) p5.line X.env = pure false := by rfl)
    (e2 : swappedStores [Expr.Name "wrong" p1] (.Call (.Name "wrong_part" p2) [.Name "parts" p3] [] p4) X.env = pure none := by rfl) (e3 : (assignEach [Expr.Name "wrong" p1] X.env).map (·.2) = [assign (.Name "wrong" p1) X.env] := by rfl)
    (e4 : starEach [.Name "parts" p3] X.env = (false, eval (.Name "parts" p3) X.env) :: starEach [] X.env := by rfl)
    (e5 : swapsWith (.Subscript (.Name "parts" q3) (.Constant (.int 0) k0 q4) q5) (some (.Attribute (.Name "self" q1) "many" q2)) q6.line X.env = pure false := by rfl) (e6 : swapsWith (.Subscript (.Name "parts" q9) (.Constant (.int 1) k1 r1) r2) (some (.Attribute (.Name "self" q7) "leaps" q8)) r3.line X.env = pure false := by rfl) :
    ∃ t, PSs X [.Assign [.Name "wrong" p1] (.Call (.Name "wrong_part" p2) [.Name "parts" p3] [] p4) p5, .If (.Compare (.Name "wrong" p6) [.IsNot] [.Constant .none kk p7] p8) rs [] p9,
        .Assign [.Attribute (.Name "self" q1) "many" q2] (.Subscript (.Name "parts" q3) (.Constant (.int 0) k0 q4) q5) q6, .Assign [.Attribute (.Name "self" q7) "leaps" q8] (.Subscript (.Name "parts" q9) (.Constant (.int 1) k1 r1) r2) r3] t ∧
      ∀ vs H Q, spB X.prog X.w X.K wp vs H Q EX → t { nx := fun _ H' => Q .non H', rt := Q } (L2.start ["self", "parts", "wrong"] vs) H := by
  obtain ⟨f, fd, ps, hm0, hk, hb, F⟩ := h.ex
  have s1 := ps_asg (pos := p5) (pe_call (p := p2) (pos := p4) F hr hg hm0 hk hb .nil (passes_call (E := EX) tk fun _ _ _ _ h => h) (pa_cons (v1 p3) pa_nil e4) (he := e4)) (hn p1) e1 e2 e3
  have s2 := ps_if (X := X) (pos := p9) (pt_cmp (pos := p8) (b := .Constant .none kk p7) (pc_notN (v2 p6)) rfl) (⟨fun pins s σ H D₀ I h => h.elim⟩ : PSs X rs (fun _ _ _ => False)) pss_nil
  have s3 := ps_fld (X := X) (pos := q6) (pos' := q2) (f := "many") (v0 q1) (pe_ix (pos := q5) ix_tup (v1 q3) (pe_int (i := 0) (j := k0) (pos := q4)) (fun _ _ => rfl)) e5
  have s4 := ps_fld (X := X) (pos := r3) (pos' := q8) (f := "leaps") (v0 q7) (pe_ix (pos := r2) ix_tup (v1 q9) (pe_int (i := 1) (j := k1) (pos := r1)) (fun _ _ => rfl)) e6
  refine ⟨_, pss_cons s1 (pss_cons s2 (pss_cons s3 (pss_one s4))), fun vs H Q hs => ?_⟩
  obtain ⟨x, dx, v, F0, d, R, rfl, hx, fx, ax, sf, ro, rd, run⟩ := hs
  unfold preB at run
  refine ⟨v, rfl, F0, [d], R, sf, ro, .cons rd .nil, run.bind.imp fun wv R1 F1 H1 g1 r1 q y ry => ?_⟩
  have hx1 := g1.hs x _ hx fx ax fun ps e => nomatch e
  split at q
  · rename_i m l
    obtain ⟨a, xs, rfl, h3, h4⟩ := Dp.tup_inv (rd.mono g1.ff)
    have ey : y = .non := Dp.non_inv ry
    subst ey
    cases h4 with
    | cons p1 p2 =>
      cases p2 with
      | cons p3 p4 =>
        cases p4
        rename_i v1 v2
        have ev1 := Dp.int_inv p1
        subst ev1
        have hq := Run.pure q g1.fh r1 v2 p3
        have h3' := g1.fh.tup h3
        refine ⟨.non, rfl, false, rfl, iteF ?_⟩
        refine ⟨.ref a, rfl, a, _, 0, _, rfl, rfl, h3', atI_0, .ref x, rfl, x, _, dx, [], rfl, hx1, hC, hm, by decide, ?_⟩
        refine ⟨.ref a, rfl, a, _, 1, _, rfl, rfl, sqT_ins hx1 h3', atI_1, .ref x, rfl, x, _, dx, _, rfl, upd_same, hC, hl, (by show 1 < 1000; decide), ?_⟩
        rw [L2.upd_upd]
        exact hq
  · exact q.elim
end
/-- the class Board, its __init__ a def of the row -/
structure FnB (P : Program) (w : World) (K : PySem.W.Frag) (mg : Str → Option Value) (base : Heap) (k : Nat) (wp : List D → M D) : Prop where
  ex : ∃ f fd ps, mg "Board" = some (.ref (He.ga K "Board")) ∧ Mk K (He.ga K "Board") f ∧ Binds K fd ps [] ∧ FnOk P w K mg base (L2.CX P w) k f fd ps (spB P w K wp)
theorem FnB.mono {P : Program} {w : World} {K : PySem.W.Frag} {mg : Str → Option Value} {base : Heap} {k k' : Nat} {wp : List D → M D} (h : FnB P w K mg base k wp) (l : k ≤ k') : FnB P w K mg base k' wp :=
  let ⟨f, fd, ps, a, b, c, d⟩ := h.ex; ⟨f, fd, ps, a, b, c, d.mono l⟩
/-- the final steps from an instance laid over (F, H) -/
theorem Grow.inst {F H F' H' : Hp} {R R' : RS} {x dx : Addr} {o1 o2 o3 : HO} (sf : Same F H) (hx : H x = none) (hdx : H dx = none) (hne : dx ≠ x) (g : Grow R R' F (upd (upd H dx o1) x o2) F' H') : Grow R R' F H (upd F' x o3) (upd H' x o3) ∧ F' x = none := by
  have fx : F x = none := by
    cases e : F x with
    | none => rfl
    | some o => rw [sf x o e] at hx; cases hx
  have fx' : F' x = none := (g.hn x (by rw [upd_same]; simp) fx).2
  refine ⟨⟨g.rk, fun b o e => ?_, fun b o e => ?_, fun a h1 h2 => ?_, fun a o h1 h2 h3 h4 => ?_⟩, fx'⟩
  · rw [upd_ne (ne_of_none e fx)]
    exact g.ff b o e
  · by_cases hb : b = x
    · subst hb; rw [upd_same] at e ⊢; exact e
    · rw [upd_ne hb] at e ⊢; exact g.fh b o e
  · have ax : a ≠ x := fun z => h1 (by rw [z]; exact hx)
    have ad : a ≠ dx := fun z => h1 (by rw [z]; exact hdx)
    obtain ⟨q1, q2⟩ := g.hn a (by rw [upd_ne ax, upd_ne ad]; exact h1) h2
    rw [upd_ne ax, upd_ne ax]
    exact ⟨q1, q2⟩
  · have ax : a ≠ x := fun z => by rw [z, hx] at h1; cases h1
    have ad : a ≠ dx := fun z => by rw [z, hdx] at h1; cases h1
    rw [upd_ne ax]
    exact g.hs a o (by rw [upd_ne ax, upd_ne ad]; exact h1) h2 h3 h4
section
variable {X : Cx} {W : XK} {E : Ent} {pos p : Pos}
theorem pd_mk {k : Nat} {e : Expr} {es : List Expr} {wp : List D → M D} {fr : En → M (List D)} (h : FnB X.prog X.w X.K X.mg X.base k wp) (hr : Room (k + 1) X.A) (hg : Gl X "Board") (tk : Takes X (fun c d _ H => W c d H)) (ha : PDA X W E (e :: es) fr)
    (he : starEach (e :: es) X.env = (false, eval e X.env) :: starEach es X.env := by rfl) (hpl : (backTo pos (starEach es X.env)).any (·.1) = false := by rfl) :
    PD X W E (.Call (.Name "Board" p) (e :: es) [] pos) (eF (mkBoard wp) fr) := by
  obtain ⟨f, fd, ps, hm, hk, hb, F⟩ := h.ex
  refine PE.imp (pe_make hk F hr hg hm hb .nil (passes_call (E := W) tk fun _ _ _ _ h => h) ha (he := he) (hpl := hpl)) fun σ H Q hl => ?_
  obtain ⟨F0, ρ, R, ok, run⟩ := hl
  refine ⟨F0, ρ, R, ok, run.bind.imp fun ds R1 F1 H1 g1 r1 h1 vs rs => ?_⟩
  intro x dx hx hdx hne
  rw [List.append_nil]
  unfold mkBoard at h1
  split at h1
  · rename_i d
    obtain ⟨v, rfl, rv⟩ := paired1 rs
    have fx : F1 x = none := by
      cases e : F1 x with
      | none => rfl
      | some o => rw [g1.fh x o e] at hx; cases hx
    have ax : RS.ad R1 ≠ some x := fun e => by
      cases R1 with
      | none => cases e
      | some r => have e' : r.a = x := Option.some.inj e; have := r1.rw.1; rw [e', hx] at this; cases this
    have hx2 : (upd H1 dx (.own x)) x = none := by rw [upd_ne (Ne.symm hne)]; exact hx
    have lay := (Grow.lay (R := R1) (o := .own x) g1.fh hdx).trans (Grow.lay (o := .ins (He.ga X.K "Board") dx []) (Grow.lay (R := R1) (o := .own x) g1.fh hdx).fh hx2)
    have q1 := h1.bind
    refine ⟨x, dx, v, F1, d, R1, rfl, upd_same, fx, ax, lay.fh, RowOk.lay hx2 (RowOk.lay hdx r1), rv, ?_⟩
    unfold Run at q1 ⊢
    cases em : preB wp d R1 with
    | none => rw [em] at q1; exact q1
    | some pr =>
      obtain ⟨o, R'⟩ := pr
      rw [em] at q1
      cases o with
      | exn xn => exact fun c dd F' H' g r rx => q1 c dd F' H' (lay.trans g) r rx
      | val pq =>
        intro F' H' g r vl hvl
        obtain ⟨gi, fx'⟩ := Grow.inst (o3 := .ins (He.ga X.K "Board") dx [("many", .int pq.1), ("leaps", vl)]) g1.fh hx hdx hne g
        have rk : RowOk X.K (upd F' x (.ins (He.ga X.K "Board") dx [("many", .int pq.1), ("leaps", vl)])) (upd H' x (.ins (He.ga X.K "Board") dx [("many", .int pq.1), ("leaps", vl)])) R' := by
          have nx : NoT X.K x := r1.tb.free hx
          have hs : Same F' (upd F' x (.ins (He.ga X.K "Board") dx [("many", .int pq.1), ("leaps", vl)])) := fun b o e => by rw [upd_ne (ne_of_none e fx')]; exact e
          refine ⟨?_, r.tb.mv hs (fun P q i => by rw [upd_ne (nx P q i)]; exact (r.tb.2 P q i).out) fun P q i => upd_ne (nx P q i)⟩
          cases R' with
          | none => trivial
          | some r' =>
            obtain ⟨a1, a2, a3, a4⟩ := r.rw
            have hra : r'.a ≠ x := fun z => ax ((RS.ad_key g.rk).symm.trans (congrArg some z))
            refine ⟨by rw [upd_ne hra]; exact a1, by rw [upd_ne hra]; exact a2, ?_, a4⟩
            exact Same.seq (fun b o e => by rw [upd_ne (ne_of_none e fx')]; exact e) a3
        have hs : Same F' (upd F' x (.ins (He.ga X.K "Board") dx [("many", .int pq.1), ("leaps", vl)])) := fun b o e => by rw [upd_ne (ne_of_none e fx')]; exact e
        exact ⟨rfl, Run.pure (show Run X.K W (pure (D.brd pq.1 pq.2) : M D) R' _ _ (fun d R' F' H' => ∀ v, RD X.prog X.w X.K F' v d → Q v H') from q1 _ _ gi rk) gi.fh rk (.ref x) ⟨x, dx, vl, rfl, upd_same, Dp.mono hs hvl⟩⟩
  · exact h1.elim
end
end DL

set_option maxHeartbeats 4000000
namespace DL
open PySem PySem.Spec PyProof.Rows L2
section
variable {X : Cx} {W : XK} {E : Ent} {pos p : Pos}
theorem pd_gint {x : Str} {i : Int} (hg : Gl X x) (hm : ∃ t, X.mg x = some (.int i t)) (hd : (x == ("__debug__" : Str)) = false := by decide) : PD X W E (.Name x pos) (eC (.dat (.int i))) := by
  obtain ⟨t, h⟩ := hm
  exact pd_glob (v := .int i) hg h ⟨t, rfl⟩ (fun _ => .int i) hd
theorem pd_gstr {x z : Str} (hg : Gl X x) (hm : ∃ t, X.mg x = some (.str z t)) (hd : (x == ("__debug__" : Str)) = false := by decide) : PD X W E (.Name x pos) (eC (.dat (.str z))) := by
  obtain ⟨t, h⟩ := hm
  exact pd_glob (v := .str z) hg h ⟨t, rfl⟩ (fun _ => .str z) hd
end
/-- a def of which nothing is claimed -/
theorem fn_stk {P : Program} {w : World} {K : PySem.W.Frag} {mg : Str → Option Value} {base : Heap} {x : Str} {f : Addr} {fd : FuncData} {ps : List Str} {k : Nat} (hm : mg x = some (.ref f)) (hk : PySem.W.keepIn K (.ref f) = true) (hb : Binds K fd ps []) : Fn P w K mg base k x (fun _ => stk) :=
  ⟨f, fd, ps, hm, hk, hb, ⟨fun vs H Q E h => by
    obtain ⟨F, ds, R, _, _, _, run⟩ := h
    exact run.elim, fun A outer s H args us vs Q E _ _ _ _ h => by
    obtain ⟨F, ds, R, _, _, _, run⟩ := h
    exact run.elim⟩⟩
/-- the class from its __init__ -/
theorem fnB_mk {P : Program} {w : World} {K : PySem.W.Frag} {mg : Str → Option Value} {base : Heap} {st : Stmt} {f : Addr} {fd : FuncData} {k : Nat} {wp : List D → M D} (hm : mg "Board" = some (.ref (He.ga K "Board"))) (hk : Mk K (He.ga K "Board") f) (F : Fun K "__init__" "Board.__init__" st f fd) (hb : Binds K fd ["self", "parts"] [])
    (S : FnScope ["self", "parts", "wrong"] ["self", "parts"] (defScope st))
    (hbody : ∀ (cdv : Value) (A : Around) (outer : List Env) (s : Shared) (H : Hp) (EX : XK), Room k (A.deeper (envOfC "Board.__init__" (defScope st) s.heap.objs.size f cdv)) →
      ∃ t, PSs (cxOf (L2.CX P w) P w K mg base ["self", "parts", "wrong"] "Board.__init__" (defScope st) f cdv A outer s H EX) (defBody st) t ∧ ∀ vs H Q, spB P w K wp vs H Q EX → t { nx := fun _ H' => Q .non H', rt := Q } (L2.start ["self", "parts", "wrong"] vs) H) : FnB P w K mg base (k + 1) wp :=
  ⟨f, fd, _, hm, hk, hb, F.okX S (fun vs H Q E h => by
    obtain ⟨x, dx, v, F0, d, R, rfl, _⟩ := h
    rfl) fun cdv A outer s H vs Q EX hr h => by
    obtain ⟨t, h1, h2⟩ := hbody cdv A outer s H EX hr
    exact ⟨t, h1, h2 vs H Q h⟩⟩

/-! ### a, b = x, y where a name is captured: the tuple is made, and taken apart -/
section
variable {X : Cx} {W : XK} {E : Ent} {pos : Pos}
theorem pds_parEEc {x y : Str} {a b : Expr} {px py pt : Pos} {kt k2 pt2} {f g : En → M D} (i j : Nat) (hc : X.calm = true) (n1 : PG X (.Name x px) (gName i)) (n2 : PG X (.Name y py) (gName j)) (ha : PD X W E a f) (hb : PD X W E b g)
    (hw : swappedStores [.Tuple [.Name x px, .Name y py] kt pt] (.Tuple [a, b] k2 pt2) X.env = pure none := by rfl)
    (hs : swapsWithSole [.Tuple [.Name x px, .Name y py] kt pt] (.Tuple [a, b] k2 pt2) pos.line X.env = pure false := by rfl) (h1 : starEach [a, b] X.env = (false, eval a X.env) :: starEach [b] X.env := by rfl) (h2 : starEach [b] X.env = (false, eval b X.env) :: starEach [] X.env := by rfl)
    (hs1 : (assignEach [Expr.Name x px, Expr.Name y py] X.env).map (·.2) = assign (.Name x px) X.env :: (assignEach [Expr.Name y py] X.env).map (·.2) := by rfl) (hs2 : (assignEach [Expr.Name y py] X.env).map (·.2) = assign (.Name y py) X.env :: (assignEach [] X.env).map (·.2) := by rfl)
    (hn : (assignEach [Expr.Name x px, Expr.Name y py] X.env).length = 2 := by rfl) (hst : (assignEach [Expr.Name x px, Expr.Name y py] X.env).findIdx? (·.1) = none := by rfl)
    (h0 : (assignEach [Expr.Tuple [.Name x px, .Name y py] kt pt] X.env).map (·.2) = [assign (.Tuple [.Name x px, .Name y py] kt pt) X.env] := by rfl) :
    PDS X W E (.Assign [.Tuple [.Name x px, .Name y py] kt pt] (.Tuple [a, b] k2 pt2) pos) (sParEE i j f g) := by
  refine PS.imp (ps_asg (pe_tup (pos := pt2) (pa_cons ha (pa_cons hb pa_nil h2) h1)) (pg_tup hc (pgs_cons n1 (pgs_cons n2 pgs_nil hs2) hs1) hn hst) hs hw h0) fun D₀ σ H hl => ?_
  obtain ⟨F, ρ, R, ok, run⟩ := hl
  refine ⟨F, ρ, R, ok, (run.bind ok).imp fun dx R1 F1 H1 g1 r1 q1 vx rx => ?_⟩
  have ok1 := ok.grow g1 r1
  refine ⟨F1, ρ, R1, ok1, (q1.bind ok1).imp fun dy R2 F2 H2 g2 r2 q2 vy ry => ?_⟩
  have ok2 := ok1.grow g2 r2
  refine ⟨by show 2 ≤ sizeLine; decide, fun t ht => ?_⟩
  have ok3 := ok2.grow (Grow.lay (o := .tup [vx, vy]) g2.fh ht) (r2.lay ht)
  exact ⟨t, _, rfl, SqT.of upd_same, rfl, _, _, rfl, _, _, rfl, rfl, q2 _ F2 _ (Same.refl F2) ((ok3.set i (rx.mono g2.ff)).set j ry)⟩
theorem pds_parNNc {x y : Str} {a b : Expr} {px py pt : Pos} {kt k2 pt2} {f g : En → M OW} (i j : Nat) (hc : X.calm = true) (n1 : PG X (.Name x px) (gName i)) (n2 : PG X (.Name y py) (gName j)) (ha : PDN X W E a f) (hb : PDN X W E b g)
    (hw : swappedStores [.Tuple [.Name x px, .Name y py] kt pt] (.Tuple [a, b] k2 pt2) X.env = pure none := by rfl)
    (hs : swapsWithSole [.Tuple [.Name x px, .Name y py] kt pt] (.Tuple [a, b] k2 pt2) pos.line X.env = pure false := by rfl) (h1 : starEach [a, b] X.env = (false, eval a X.env) :: starEach [b] X.env := by rfl) (h2 : starEach [b] X.env = (false, eval b X.env) :: starEach [] X.env := by rfl)
    (hs1 : (assignEach [Expr.Name x px, Expr.Name y py] X.env).map (·.2) = assign (.Name x px) X.env :: (assignEach [Expr.Name y py] X.env).map (·.2) := by rfl) (hs2 : (assignEach [Expr.Name y py] X.env).map (·.2) = assign (.Name y py) X.env :: (assignEach [] X.env).map (·.2) := by rfl)
    (hn : (assignEach [Expr.Name x px, Expr.Name y py] X.env).length = 2 := by rfl) (hst : (assignEach [Expr.Name x px, Expr.Name y py] X.env).findIdx? (·.1) = none := by rfl)
    (h0 : (assignEach [Expr.Tuple [.Name x px, .Name y py] kt pt] X.env).map (·.2) = [assign (.Tuple [.Name x px, .Name y py] kt pt) X.env] := by rfl) :
    PDS X W E (.Assign [.Tuple [.Name x px, .Name y py] kt pt] (.Tuple [a, b] k2 pt2) pos) (sParNN i j f g) := by
  refine PS.imp (ps_asg (pe_tup (pos := pt2) (pa_cons ha (pa_cons hb pa_nil h2) h1)) (pg_tup hc (pgs_cons n1 (pgs_cons n2 pgs_nil hs2) hs1) hn hst) hs hw h0) fun D₀ σ H hl => ?_
  obtain ⟨F, ρ, R, ok, run⟩ := hl
  refine ⟨F, ρ, R, ok, (run.bind ok).imp fun ox R1 F1 H1 g1 r1 q1 p u hp ow => ?_⟩
  have ok1 := ok.grow g1 r1
  obtain ⟨f1, f2, f3⟩ := ok1.fresh hp
  have nor := ok1.noref hp
  have ok1' := ok1.grow (Grow.lay (o := u) g1.fh hp) (r1.lay hp)
  refine ⟨F1, ρ, R1, ok1', (q1.bind ok1').imp fun oy R2 F2 H2 g2 r2 q2 p2 u2 hp2 ow2 => ?_⟩
  have ok2 := ok1'.grow g2 r2
  have e2 : H2 p = some u := g2.hs p u upd_same f2 f3 (ow.nt upd_same)
  have hpp : p ≠ p2 := fun z => by rw [← z, e2] at hp2; cases hp2
  have ok3 := ok2.own i (o := ox) (p := p) f1 (g2.hn p (by rw [upd_same]; simp) f2).2 (by rw [RS.ad_key g2.rk]; exact f3) (ow.mono g2.ff (by rw [e2, upd_same])) (fun j oj _ e => nor j oj e)
  refine ⟨by show 2 ≤ sizeLine; decide, fun t ht => ?_⟩
  have ok4 := ok3.setOwn j hp2 ow2
  have ok5 := ok4.grow (Grow.lay (o := .tup [.ref p, .ref p2]) ok4.g.fh ht) (ok4.row.lay ht)
  exact ⟨t, _, rfl, SqT.of upd_same, rfl, _, _, rfl, _, _, rfl, rfl, q2 _ F2 _ (Same.refl F2) ok5⟩
end

/-! ### the law's def: row = [script, 0, seed, 0], then the rest -/
def spLaw (K : PySem.W.Frag) (good : List Int → Prop) : Sp := fun vs H Q _ => ∃ (a : Addr) (ns : List Int), vs = [.ref a] ∧ SqL K H a (ns.map V.int) ∧ ns.length ≤ 63 ∧ good ns ∧ TabsUn K ∧ (∀ P q, IsTab K P q → H P = some (.tbl #[]) ∧ P ≠ a) ∧ ∀ H', Q (.bl true) H'
/-- of the heap, the script alone stands still -/
def only (H : Hp) (a : Addr) : Hp := fun b => if b = a then H a else none
theorem only_same {H : Hp} {a : Addr} : Same (only H a) H := fun b o e => by
  unfold only at e
  split at e
  · rename_i hb; rw [hb]; exact e
  · cases e
theorem only_seq {K : PySem.W.Frag} {H : Hp} {a : Addr} {xs : List V} (h : SqL K H a xs) : SqL K (only H a) a xs := by
  have e : only H a a = H a := if_pos rfl
  rcases h with (h | ⟨o, h⟩) | h
  · exact .inl (.inl (by show only H a a = _; rw [e]; exact h))
  · exact .inl (.inr ⟨o, by rw [e]; exact h⟩)
  · exact .inr h
theorem law_top {X : Cx} {EX : XK} {seed : Int} {rest : List Stmt} {fb : En → M Fl} {n : Nat} {good : List Int → Prop} {p1 p2 p3 p4 : Pos} {k1 k2 k3} {z1 z2 z3 : Pos}
    (hrow : PG X (.Name "row" p1) (gName 1)) (v0 : PE X (.Name "script" p2) (tVar 0))
    (hrest : ∀ E, PDSs X EX E rest fb)
    (hden : ∀ (ns : List Int) (a sc : Addr), ns.length ≤ 63 → good ns → ∃ R', fb (.no :: .val (.row a) :: List.replicate n .no) (some ⟨a, sc, ns, 0, seed, 0⟩) = some (.val (.rt (dB true)), R'))
    (e1 : swapsWithSole [Expr.Name "row" p1] (.List [.Name "script" p2, .Constant (.int 0) k1 z1, .Constant (.int seed) k2 z2, .Constant (.int 0) k3 z3] p3) p4.line X.env = pure false := by rfl)
    (e2 : swappedStores [Expr.Name "row" p1] (.List [.Name "script" p2, .Constant (.int 0) k1 z1, .Constant (.int seed) k2 z2, .Constant (.int 0) k3 z3] p3) X.env = pure none := by rfl) (e3 : (assignEach [Expr.Name "row" p1] X.env).map (·.2) = [assign (.Name "row" p1) X.env] := by rfl)
    (s1 : starEach [.Name "script" p2, .Constant (.int 0) k1 z1, .Constant (.int seed) k2 z2, .Constant (.int 0) k3 z3] X.env = (false, eval (.Name "script" p2) X.env) :: starEach [.Constant (.int 0) k1 z1, .Constant (.int seed) k2 z2, .Constant (.int 0) k3 z3] X.env := by rfl)
    (s2 : starEach [.Constant (.int 0) k1 z1, .Constant (.int seed) k2 z2, .Constant (.int 0) k3 z3] X.env = (false, eval (.Constant (.int 0) k1 z1) X.env) :: starEach [.Constant (.int seed) k2 z2, .Constant (.int 0) k3 z3] X.env := by rfl)
    (s3 : starEach [.Constant (.int seed) k2 z2, .Constant (.int 0) k3 z3] X.env = (false, eval (.Constant (.int seed) k2 z2) X.env) :: starEach [.Constant (.int 0) k3 z3] X.env := by rfl)
    (s4 : starEach [.Constant (.int 0) k3 z3] X.env = (false, eval (.Constant (.int 0) k3 z3) X.env) :: starEach [] X.env := by rfl) :
    ∃ t, PSs X (.Assign [.Name "row" p1] (.List [.Name "script" p2, .Constant (.int 0) k1 z1, .Constant (.int seed) k2 z2, .Constant (.int 0) k3 z3] p3) p4 :: rest) t ∧
      ∀ (N : List Str) vs H Q, N.length = n + 2 → spLaw X.K good vs H Q EX → t { nx := fun _ H' => Q .non H', rt := Q } (L2.start N vs) H := by
  have r1 := ps_asg (X := X) (pos := p4) (pe_lst (pos := p3) (pa_cons v0 (pa_cons (pe_int (i := 0) (j := k1) (pos := z1)) (pa_cons (pe_int (i := seed) (j := k2) (pos := z2)) (pa_cons (pe_int (i := 0) (j := k3) (pos := z3)) pa_nil s4) s3) s2) s1)) hrow e1 e2 e3
  refine ⟨fun D₀ σ H => _, pss_cons r1 (st := _) (rest := rest) (t := _) (u := fun D₀ σ H => ∃ E, liftS X.prog X.w X.K EX E fb D₀ σ H) ⟨fun pins s σ H D₀ I h => ?_⟩, fun N vs H Q hN hs => ?_⟩
  · obtain ⟨E, h⟩ := h
    exact (hrest E).run pins s σ H D₀ I h
  · obtain ⟨sc, ns, rfl, hS, hl, hgd, hU, hT, hQ⟩ := hs
    refine ⟨.ref sc, rfl, by show 4 ≤ sizeLine; decide, fun a ha => ?_⟩
    obtain ⟨R', hd⟩ := hden ns a sc hl hgd
    have hO : only H sc a = none := by
      unfold only
      split
      · rename_i e; rw [← e]; exact ha
      · rfl
    have hs : Same (only H sc) (upd H a (.lst [.ref sc, .int 0, .int seed, .int 0])) := fun b o e => by
      rw [upd_ne (ne_of_none e hO)]
      exact only_same b o e
    refine ⟨⟨only H sc, upd H a (.lst [.ref sc, .int 0, .int seed, .int 0]), some ⟨a, sc, ns, 0, seed, 0⟩⟩, only H sc, (.no :: .val (.row a) :: List.replicate n .no), some ⟨a, sc, ns, 0, seed, 0⟩, ⟨Grow.refl hs, ⟨⟨upd_same, hO, only_seq hS, hl⟩, ⟨hU, fun P q i => ?_⟩⟩, fun i sv e => ?_, fun i j oi oj b e _ _ _ => ?_, ?_⟩, ?_⟩
    · obtain ⟨t1, t2⟩ := hT P q i
      refine ⟨if_neg t2, #[], by rw [upd_ne (fun z => by rw [z, ha] at t1; cases t1)]; exact t1, trivial, fun pos cv e => nomatch e⟩
    · match i with
      | 0 => cases e; trivial
      | 1 =>
        cases e
        refine ⟨.ref a, ?_, rfl⟩
        show ((L2.start N [.ref sc]).set 1 (some (.ref a)))[1]? = _
        rw [List.getElem?_set_self]
        unfold L2.start
        simp
        omega
      | i + 2 =>
        have e' : (List.replicate n SV.no)[i]? = some sv := e
        rw [List.getElem?_replicate] at e'
        split at e'
        · cases e'; trivial
        · cases e'
    · match i with
      | 0 => cases e
      | 1 => cases e
      | i + 2 =>
        have e' : (List.replicate n SV.no)[i]? = some (.own oi) := e
        rw [List.getElem?_replicate] at e'
        split at e' <;> cases e'
    · unfold L2.start
      simp
      omega
    · unfold RunS
      rw [hd]
      exact fun v F' H' g r rd => by
        rw [show v = .bl true from Dp.bl_inv rd]
        exact hQ H'
end DL

set_option maxHeartbeats 400000
namespace DL
open PySem PySem.Spec PyProof.Rows L2
/-! ### the plain side: equations -/
abbrev dI (i : Int) : D := .dat (.int i)
abbrev tI (p : List Int) : PyData := .tuple (p.map .int)
@[simp] theorem pure_bind_m {α β : Type} (a : α) (f : α → M β) : (pure a >>= f) = f a := pure_bind a f
@[simp] theorem bind_assoc_m {α β γ : Type} (x : M α) (f : α → M β) (g : β → M γ) : (x >>= f >>= g) = x >>= fun y => f y >>= g := bind_assoc x f g
@[simp] theorem lft_none' {α : Type} : (lft (none : Option α)) = stk := rfl
@[simp] theorem eV_def (i : Nat) (ρ : En) : eV i ρ = (match ρ[i]? with | some (.val d) => pure d | _ => stk) := rfl
@[simp] theorem eC_def (d : D) (ρ : En) : eC d ρ = pure d := rfl
@[simp] theorem e1_def (r : D → Option D) (a : En → M D) (ρ : En) : e1 r a ρ = (do let x ← a ρ; lft (r x)) := rfl
@[simp] theorem e2_def (r : D → D → Option D) (a b : En → M D) (ρ : En) : e2 r a b ρ = (do let x ← a ρ; let y ← b ρ; lft (r x y)) := rfl
@[simp] theorem asB_dB (b : Bool) : asB (dB b) = some b := rfl
@[simp] theorem asB_b (b : Bool) : asB (.dat (.bool b)) = some b := rfl
@[simp] theorem eAnd_def (a b : En → M D) (ρ : En) : eAnd a b ρ = (do let x ← a ρ; let c ← lft (asB x); if c = true then b ρ else pure (dB false)) := rfl
@[simp] theorem eOr_def (a b : En → M D) (ρ : En) : eOr a b ρ = (do let x ← a ρ; let c ← lft (asB x); if c = true then pure (dB true) else b ρ) := rfl
@[simp] theorem eNot_def (a : En → M D) (ρ : En) : eNot a ρ = (do let x ← a ρ; let c ← lft (asB x); pure (dB !c)) := rfl
@[simp] theorem eIf_def (c : En → M Bool) (a b : En → M D) (ρ : En) : eIf c a b ρ = (do let x ← c ρ; if x = true then a ρ else b ρ) := rfl
@[simp] theorem bE_def (a : En → M D) (ρ : En) : bE a ρ = (do let x ← a ρ; lft (asB x)) := rfl
@[simp] theorem bAnd_def (a b : En → M Bool) (ρ : En) : bAnd a b ρ = (do let x ← a ρ; if x = true then b ρ else pure false) := rfl
@[simp] theorem bOr_def (a b : En → M Bool) (ρ : En) : bOr a b ρ = (do let x ← a ρ; if x = true then pure true else b ρ) := rfl
@[simp] theorem bNot_def (a : En → M Bool) (ρ : En) : bNot a ρ = (do let x ← a ρ; pure !x) := rfl
@[simp] theorem bYes_def (ρ : En) : bYes ρ = pure true := rfl
@[simp] theorem aNil_def (ρ : En) : aNil ρ = pure [] := rfl
@[simp] theorem aCons_def (a : En → M D) (r : En → M (List D)) (ρ : En) : aCons a r ρ = (do let x ← a ρ; let xs ← r ρ; pure (x :: xs)) := rfl
@[simp] theorem eN_def (g : List D → Option D) (a : En → M (List D)) (ρ : En) : eN g a ρ = (do let xs ← a ρ; lft (g xs)) := rfl
@[simp] theorem eF_def (fn : List D → M D) (a : En → M (List D)) (ρ : En) : eF fn a ρ = (do let ds ← a ρ; fn ds) := rfl
@[simp] theorem eIx_def (a b : En → M D) (ρ : En) : eIx a b ρ = (do let x ← a ρ; let y ← b ρ; ixM x y) := rfl
@[simp] theorem ixM_dat (x : PyData) (y : D) : ixM (.dat x) y = lft (opIx (.dat x) y) := rfl
@[simp] theorem eCh_def (r r' : D → D → Option D) (a b c : En → M D) (ρ : En) : eCh r r' a b c ρ = (do
  let x ← a ρ; let y ← b ρ; let z ← lft (r x y); let k ← lft (asB z)
  if k = true then (do let w ← c ρ; let z' ← lft (r' y w); let k' ← lft (asB z'); pure (dB k')) else pure (dB false)) := rfl
@[simp] theorem sNil_def (ρ : En) : sNil ρ = pure (.nx ρ) := rfl
@[simp] theorem sSeq_def (f g : En → M Fl) (ρ : En) : sSeq f g ρ = (do
  let x ← f ρ
  match x with
  | .nx ρ' => g ρ'
  | y => pure y) := rfl
@[simp] theorem sEx_def (f : En → M D) (ρ : En) : sEx f ρ = (do let _ ← f ρ; pure (.nx ρ)) := rfl
@[simp] theorem sRet_def (f : En → M D) (ρ : En) : sRet f ρ = (do let d ← f ρ; pure (.rt d)) := rfl
@[simp] theorem sSet_def (i : Nat) (f : En → M D) (ρ : En) : sSet i f ρ = (do let d ← f ρ; pure (.nx (ρ.set i (.val d)))) := rfl
@[simp] theorem sOwn_def (i : Nat) (f : En → M OW) (ρ : En) : sOwn i f ρ = (do let o ← f ρ; pure (.nx (ρ.set i (.own o)))) := rfl
@[simp] theorem sIf_def (c : En → M Bool) (f g : En → M Fl) (ρ : En) : sIf c f g ρ = (do let b ← c ρ; if b = true then f ρ else g ρ) := rfl
@[simp] theorem sFrz_def (i : Nat) (f : En → M Fl) (ρ : En) : sFrz i f ρ = f (frz i ρ) := rfl
@[simp] theorem sStk_def (ρ : En) : sStk ρ = stk := rfl
@[simp] theorem eFresh_def (f : En → M OW) (ρ : En) : eFresh f ρ = (do let o ← f ρ; pure (owD o)) := rfl
@[simp] theorem owD_lst (ds : List PyData) : owD (.lst ds) = .dat (.list ds) := rfl
@[simp] theorem nLst_nil (ρ : En) : nLst aNil ρ = pure (.lst []) := rfl
@[simp] theorem iSeq_def (f : En → M D) (ρ : En) : iSeq f ρ = (do
  let x ← f ρ
  match x with
  | .dat (.tuple xs) => pure (xs.map .dat)
  | .dat (.list xs) => pure (xs.map .dat)
  | _ => stk) := rfl
@[simp] theorem iEnum_def (f : En → M D) (ρ : En) : iEnum f ρ = (do
  let x ← f ρ
  match seqD x with
  | some xs => pure (enumD xs)
  | none => stk) := rfl
@[simp] theorem seqD_l (xs : List PyData) : seqD (.dat (.list xs)) = some xs := rfl
@[simp] theorem seqD_t (xs : List PyData) : seqD (.dat (.tuple xs)) = some xs := rfl
@[simp] theorem oNo_def (ρ : En) : oNo ρ = pure none := rfl
@[simp] theorem oSo_def (a : En → M D) (ρ : En) : oSo a ρ = (do let x ← a ρ; let i ← lft (asI x); pure (some i)) := rfl
@[simp] theorem asI_i (i : Int) : asI (.dat (.int i)) = some i := rfl
@[simp] theorem eSl_def (a : En → M D) (lo hi : En → M (Option Int)) (ρ : En) : eSl a lo hi ρ = (do let x ← a ρ; let l ← lo ρ; let h ← hi ρ; lft (opSl x l h)) := rfl
/-! operators -/
@[simp] theorem opAdd_i (a b : Int) : opAdd (.dat (.int a)) (.dat (.int b)) = some (.dat (.int (a + b))) := rfl
@[simp] theorem opSub_i (a b : Int) : opSub (.dat (.int a)) (.dat (.int b)) = some (.dat (.int (a - b))) := rfl
theorem near_i (a : Int) (b : PyData) : near (.int a) b = true := by unfold near; simp [PyData.depth]
theorem near_i' (a : PyData) (b : Int) : near a (.int b) = true := by unfold near; simp [PyData.depth]
theorem ord_i (a b : Int) : ordOk (.int a) (.int b) = true := by unfold ordOk; rw [near_i]; simp [W.alike]
theorem int_lt' (a b : Int) : W.dataLt (.int a) (.int b) = decide (a < b) := W.dataLt_int a b
@[simp] theorem opEq_i (a b : Int) : opEq (.dat (.int a)) (.dat (.int b)) = some (dB (decide (a = b))) := by
  show (if near (.int a) (.int b) = true then some (D.dat (.bool (PyData.eqv (.int a) (.int b)))) else none) = _
  rw [near_i, if_pos rfl]
  simp only [PyData.eqv, W.beq_decide]
  rfl
@[simp] theorem opNe_i (a b : Int) : opNe (.dat (.int a)) (.dat (.int b)) = some (dB (decide (a ≠ b))) := by
  show (if near (.int a) (.int b) = true then some (D.dat (.bool (!PyData.eqv (.int a) (.int b)))) else none) = _
  rw [near_i, if_pos rfl]
  simp only [PyData.eqv, W.beq_decide]
  by_cases h : a = b <;> simp [h, dB]
@[simp] theorem opLt_i (a b : Int) : opLt (.dat (.int a)) (.dat (.int b)) = some (dB (decide (a < b))) := by
  show (if ordOk (.int a) (.int b) = true then some (D.dat (.bool (W.dataLt (.int a) (.int b)))) else none) = _
  rw [ord_i, if_pos rfl, int_lt']
  rfl
@[simp] theorem opGt_i (a b : Int) : opGt (.dat (.int a)) (.dat (.int b)) = some (dB (decide (b < a))) := by
  show (if ordOk (.int a) (.int b) = true then some (D.dat (.bool (W.dataLt (.int b) (.int a)))) else none) = _
  rw [ord_i, if_pos rfl, int_lt']
  rfl
@[simp] theorem opLe_i (a b : Int) : opLe (.dat (.int a)) (.dat (.int b)) = some (dB (decide (a ≤ b))) := by
  show (if ordOk (.int a) (.int b) = true then some (D.dat (.bool (!W.dataLt (.int b) (.int a)))) else none) = _
  rw [ord_i, if_pos rfl, int_lt', W.not_lt_int]
  rfl
@[simp] theorem opGe_i (a b : Int) : opGe (.dat (.int a)) (.dat (.int b)) = some (dB (decide (b ≤ a))) := by
  show (if ordOk (.int a) (.int b) = true then some (D.dat (.bool (!W.dataLt (.int a) (.int b)))) else none) = _
  rw [ord_i, if_pos rfl, int_lt', W.not_lt_int]
  rfl
theorem depth_ints (p : List Int) : PyData.depthAll (p.map .int) = 0 := W.depth_ints p
@[simp] theorem memD_ints (p : List Int) (x : Int) : memD (p.map .int) (.int x) = decide (x ∈ p) := by
  have := W.any_datum (α := Int) p x
  exact this
theorem nearAll_i (xs : List PyData) (x : Int) : nearAll xs (.int x) = true := by unfold nearAll; simp [PyData.depth]
@[simp] theorem opIn_it (p : List Int) (x : Int) : opIn (.dat (.int x)) (.dat (.tuple (p.map .int))) = some (dB (decide (x ∈ p))) := by
  show (if nearAll (p.map .int) (.int x) = true then some (dB (memD (p.map .int) (.int x))) else none) = _
  rw [nearAll_i, if_pos rfl, memD_ints]
@[simp] theorem opIn_il (p : List Int) (x : Int) : opIn (.dat (.int x)) (.dat (.list (p.map .int))) = some (dB (decide (x ∈ p))) := by
  show (if nearAll (p.map .int) (.int x) = true then some (dB (memD (p.map .int) (.int x))) else none) = _
  rw [nearAll_i, if_pos rfl, memD_ints]
@[simp] theorem opNotIn_it (p : List Int) (x : Int) : opNotIn (.dat (.int x)) (.dat (.tuple (p.map .int))) = some (dB (decide (x ∉ p))) := by
  unfold opNotIn
  rw [opIn_it]
  by_cases h : x ∈ p <;> simp [h, dB, asB]
@[simp] theorem opNotIn_il (p : List Int) (x : Int) : opNotIn (.dat (.int x)) (.dat (.list (p.map .int))) = some (dB (decide (x ∉ p))) := by
  unfold opNotIn
  rw [opIn_il]
  by_cases h : x ∈ p <;> simp [h, dB, asB]
@[simp] theorem opMany_b (m : Int) (l : PyData) : opMany (.brd m l) = some (.dat (.int m)) := rfl
@[simp] theorem opLeaps_b (m : Int) (l : PyData) : opLeaps (.brd m l) = some (.dat l) := rfl
@[simp] theorem opNeg_i (i : Int) : opNeg (.dat (.int i)) = some (.dat (.int (-i))) := rfl
/-- a leap -/
structure Lp where
  s : Int
  m : Int
  e : Int
deriving DecidableEq
abbrev Lp.d (l : Lp) : PyData := .tuple [.int l.s, .int l.m, .int l.e]
abbrev Lp.li (l : Lp) : List Int := [l.s, l.m, l.e]
theorem Lp.d_li (l : Lp) : l.d = tI l.li := rfl
@[simp] theorem ix_l0 (x y z : PyData) : opIx (.dat (.tuple [x, y, z])) (.dat (.int 0)) = some (.dat x) := rfl
@[simp] theorem ix_l1 (x y z : PyData) : opIx (.dat (.tuple [x, y, z])) (.dat (.int 1)) = some (.dat y) := rfl
@[simp] theorem ix_l2 (x y z : PyData) : opIx (.dat (.tuple [x, y, z])) (.dat (.int 2)) = some (.dat z) := rfl
@[simp] theorem runFn_def (n m : Nat) (fb : En → M Fl) (ds : List D) : runFn n m fb ds = (if ds.length = n then (do
  let fl ← fb (ds.map .val ++ List.replicate (m - n) .no)
  match fl with
  | .nx _ => pure (.dat .none)
  | .rt d => pure d
  | _ => stk) else stk) := rfl
end DL

set_option maxHeartbeats 400000
namespace DL
open PySem PySem.Spec PyProof.Rows L2
/-! ### loops, own lists -/
@[simp] theorem forL_nil (t : D → En → Option En) (fb : En → M Fl) (ρ : En) : forL t fb [] ρ = pure (.nx ρ) := rfl
@[simp] theorem forL_cons (t : D → En → Option En) (fb : En → M Fl) (d : D) (ds : List D) (ρ : En) : forL t fb (d :: ds) ρ = (do
    let ρ1 ← lft (t d ρ)
    let fl ← fb ρ1
    match fl with
    | .nx ρ2 => forL t fb ds ρ2
    | .ct ρ2 => forL t fb ds ρ2
    | .bk ρ2 => pure (.nx ρ2)
    | .rt d => pure (.rt d)) := rfl
@[simp] theorem sFor_def (fi : En → M (List D)) (t : D → En → Option En) (fb : En → M Fl) (ρ : En) : sFor fi t fb ρ = (do let ds ← fi ρ; forL t fb ds ρ) := rfl
@[simp] theorem gN_def (i : Nat) (d : D) (ρ : En) : gN i d ρ = some (ρ.set i (.val d)) := rfl
@[simp] theorem gT_def (i j : Nat) (x y : PyData) (ρ : En) : gT i j (.dat (.tuple [x, y])) ρ = some ((ρ.set i (.val (.dat x))).set j (.val (.dat y))) := rfl
@[simp] theorem gT3_def (i j l : Nat) (x y z : PyData) (ρ : En) : gT3 i j l (.dat (.tuple [x, y, z])) ρ = some (((ρ.set i (.val (.dat x))).set j (.val (.dat y))).set l (.val (.dat z))) := rfl
@[simp] theorem sUnp_def (i j : Nat) (f : En → M D) (ρ : En) : sUnp i j f ρ = (do let d ← f ρ; let ρ' ← lft (gT i j d ρ); pure (.nx ρ')) := rfl
@[simp] theorem sUnp3_def (i j l : Nat) (f : En → M D) (ρ : En) : sUnp3 i j l f ρ = (do let d ← f ρ; let ρ' ← lft (gT3 i j l d ρ); pure (.nx ρ')) := rfl
@[simp] theorem sParEE_def (i j : Nat) (f g : En → M D) (ρ : En) : sParEE i j f g ρ = (do let x ← f ρ; let y ← g ρ; pure (.nx ((ρ.set i (.val x)).set j (.val y)))) := rfl
@[simp] theorem sParEEE_def (i j l : Nat) (f g h : En → M D) (ρ : En) : sParEEE i j l f g h ρ = (do let x ← f ρ; let y ← g ρ; let z ← h ρ; pure (.nx (((ρ.set i (.val x)).set j (.val y)).set l (.val z)))) := rfl
@[simp] theorem sParNN_def (i j : Nat) (f g : En → M OW) (ρ : En) : sParNN i j f g ρ = (do let x ← f ρ; let y ← g ρ; pure (.nx ((ρ.set i (.own x)).set j (.own y)))) := rfl
@[simp] theorem eOwnIx_def (i : Nat) (b : En → M D) (ρ : En) : eOwnIx i b ρ = (match ρ[i]? with
  | some (.own (.lst ds)) => do
    let y ← b ρ
    match y with
    | .dat (.int k) => lft ((atI ds k).map .dat)
    | _ => stk
  | _ => stk) := rfl
@[simp] theorem sApp_def (i : Nat) (f : En → M D) (ρ : En) : sApp i f ρ = (match ρ[i]? with
  | some (.own (.lst ds)) => do
    let d ← f ρ
    match d with
    | .dat y => if ds.length < SZ then pure (.nx (ρ.set i (.own (.lst (ds ++ [y]))))) else stk
    | _ => stk
  | _ => stk) := rfl
@[simp] theorem nLst_one (f : En → M D) (ρ : En) : nLst (aCons f aNil) ρ = (do let x ← f ρ; let xs ← lft (dats [x]); if xs.length ≤ SZ then pure (.lst xs) else stk) := by
  unfold nLst
  simp
@[simp] theorem dats_nil : dats [] = some [] := rfl
@[simp] theorem dats_cons (x : PyData) (r : List D) : dats (.dat x :: r) = (dats r).map (x :: ·) := rfl
theorem dats_map (xs : List PyData) : dats (xs.map .dat) = some xs := by
  induction xs with
  | nil => rfl
  | cons x xs ih => rw [List.map_cons, dats_cons, ih]; rfl
theorem gTupD_of (xs : List PyData) (h : xs.length ≤ SZ) : gTupD (xs.map .dat) = some (.dat (.tuple xs)) := by
  unfold gTupD
  rw [dats_map]
  exact if_pos h
theorem gLstD_of (xs : List PyData) (h : xs.length ≤ SZ) : gLstD (xs.map .dat) = some (.dat (.list xs)) := by
  unfold gLstD
  rw [dats_map]
  exact if_pos h
@[simp] theorem gTupD0 : gTupD [] = some (.dat (.tuple [])) := rfl
@[simp] theorem gTupD1 (x : PyData) : gTupD [.dat x] = some (.dat (.tuple [x])) := rfl
@[simp] theorem gTupD2 (x y : PyData) : gTupD [.dat x, .dat y] = some (.dat (.tuple [x, y])) := rfl
@[simp] theorem gTupD3 (x y z : PyData) : gTupD [.dat x, .dat y, .dat z] = some (.dat (.tuple [x, y, z])) := rfl
@[simp] theorem gTupD4 (x y z u : PyData) : gTupD [.dat x, .dat y, .dat z, .dat u] = some (.dat (.tuple [x, y, z, u])) := rfl
@[simp] theorem gLstD0 : gLstD [] = some (.dat (.list [])) := rfl
@[simp] theorem gLstD1 (x : PyData) : gLstD [.dat x] = some (.dat (.list [x])) := rfl
@[simp] theorem g_len_l (xs : List PyData) : g_len [.dat (.list xs)] = some (.dat (.int xs.length)) := rfl
@[simp] theorem g_len_t (xs : List PyData) : g_len [.dat (.tuple xs)] = some (.dat (.int xs.length)) := rfl
@[simp] theorem g_tuple_l (xs : List PyData) : g_tuple [.dat (.list xs)] = some (.dat (.tuple xs)) := rfl
@[simp] theorem g_tuple_t (xs : List PyData) : g_tuple [.dat (.tuple xs)] = some (.dat (.tuple xs)) := rfl
@[simp] theorem g_list_l (xs : List PyData) : g_list [.dat (.list xs)] = some (.dat (.list xs)) := rfl
@[simp] theorem g_list_t (xs : List PyData) : g_list [.dat (.tuple xs)] = some (.dat (.list xs)) := rfl
@[simp] theorem g_int_i (i : Int) : g_int [.dat (.int i)] = some (.dat (.int i)) := rfl
@[simp] theorem g_int_b (b : Bool) : g_int [.dat (.bool b)] = some (.dat (.int (if b then 1 else 0))) := rfl
@[simp] theorem opIs_def (T : String) (x : PyData) : opIs T (.dat x) = some (dB (isTy T x)) := rfl
@[simp] theorem opIsTL_def (x : PyData) : opIsTL (.dat x) = some (dB (isTy "tuple" x || isTy "list" x)) := rfl
@[simp] theorem isTy_int_int (i : Int) : isTyS "int" (tyName (.int i)) = true := rfl
@[simp] theorem isTy_bool_int (i : Int) : isTyS "bool" (tyName (.int i)) = false := rfl
@[simp] theorem isTy_str_int (i : Int) : isTyS "str" (tyName (.int i)) = false := rfl
@[simp] theorem isTy_tuple_int (i : Int) : isTyS "tuple" (tyName (.int i)) = false := rfl
@[simp] theorem isTy_list_int (i : Int) : isTyS "list" (tyName (.int i)) = false := rfl
@[simp] theorem isTy_tuple_tuple (i : List PyData) : isTyS "tuple" (tyName (.tuple i)) = true := rfl
@[simp] theorem isTy_list_tuple (i : List PyData) : isTyS "list" (tyName (.tuple i)) = false := rfl
@[simp] theorem isTy_tuple_list (i : List PyData) : isTyS "tuple" (tyName (.list i)) = false := rfl
@[simp] theorem isTy_list_list (i : List PyData) : isTyS "list" (tyName (.list i)) = true := rfl
@[simp] theorem opIsN_none : opIsN (.dat .none) = some (dB true) := rfl
@[simp] theorem opNotN_none : opNotN (.dat .none) = some (dB false) := rfl
@[simp] theorem opIsN_i (i : Int) : opIsN (.dat (.int i)) = some (dB false) := rfl
@[simp] theorem opNotN_i (i : Int) : opNotN (.dat (.int i)) = some (dB true) := rfl
@[simp] theorem opIsN_t (i : List PyData) : opIsN (.dat (.tuple i)) = some (dB false) := rfl
@[simp] theorem opNotN_t (i : List PyData) : opNotN (.dat (.tuple i)) = some (dB true) := rfl
theorem atI_nat' {α : Type} (xs : List α) (n : Nat) : atI xs (n : Int) = xs[n]? := by
  unfold atI ixN
  rw [if_pos (by omega)]
  by_cases h : (n : Int) < (xs.length : Int)
  · rw [if_pos h]
    simp
  · rw [if_neg h]
    simp
    omega
theorem atI_neg1 {α : Type} (xs : List α) : atI xs (-1) = xs.getLast? := by
  unfold atI ixN
  rw [if_neg (by omega)]
  cases xs with
  | nil => rfl
  | cons x xs =>
    rw [List.getLast?_eq_getElem?]
    have h1 : -(((x :: xs).length : Nat) : Int) ≤ -1 := by simp; omega
    rw [if_pos h1]
    have h2 : (-1 + (((x :: xs).length : Nat) : Int)).toNat = (x :: xs).length - 1 := by simp; omega
    rw [h2]
    rfl
@[simp] theorem opIx_tn (xs : List PyData) (n : Nat) : opIx (.dat (.tuple xs)) (.dat (.int (n : Int))) = (xs[n]?).map .dat := by
  show (atI xs n).map D.dat = _
  rw [atI_nat']
@[simp] theorem opIx_ln (xs : List PyData) (n : Nat) : opIx (.dat (.list xs)) (.dat (.int (n : Int))) = (xs[n]?).map .dat := by
  show (atI xs n).map D.dat = _
  rw [atI_nat']
/-! enumerate from a place on -/
def enumF : Nat → List PyData → List D
  | _, [] => []
  | n, x :: xs => .dat (.tuple [.int (n : Int), x]) :: enumF (n + 1) xs
theorem enumF_eq : ∀ (xs : List PyData) (n : Nat), enumF n xs = (List.range xs.length).map fun (i : Nat) => .dat (.tuple [.int ((n + i : Nat) : Int), xs.getD i .none])
  | [], n => rfl
  | x :: xs, n => by
    rw [enumF, enumF_eq xs (n + 1), List.length_cons, List.range_succ_eq_map, List.map_cons, List.map_map]
    congr 1
    refine List.map_congr_left fun i _ => ?_
    simp
    omega
theorem enumD_eq (xs : List PyData) : enumD xs = enumF 0 xs := by
  rw [enumF_eq]
  unfold enumD
  refine List.map_congr_left fun i _ => ?_
  simp
/-! comprehensions over one name -/
@[simp] theorem wip1 (ρ : En) (i : Nat) : wipD ρ [i] = ρ.set i .no := rfl
@[simp] theorem wip2 (ρ : En) (i j : Nat) : wipD ρ [i, j] = (ρ.set j .no).set i .no := rfl
theorem noX_pure {α : Type} (a : α) : noX (pure a : M α) = pure a := rfl
theorem lcL_map {α : Type} {t : D → En → Option En} {ft : En → M Bool} {fe : En → M D} {e : α → D} {p : α → Bool} {g : α → PyData} {ρ : En} {s : α → En} : ∀ (xs : List α), (∀ x ∈ xs, t (e x) ρ = some (s x)) → (∀ x ∈ xs, ft (s x) = pure (p x)) → (∀ x ∈ xs, p x = true → fe (s x) = pure (.dat (g x))) →
    lcL t ft fe (xs.map e) ρ = pure ((xs.filter p).map g)
  | [], _, _, _ => rfl
  | x :: xs, h0, h1, h2 => by
    have ih := lcL_map xs (fun y hy => h0 y (List.mem_cons_of_mem _ hy)) (fun y hy => h1 y (List.mem_cons_of_mem _ hy)) fun y hy => h2 y (List.mem_cons_of_mem _ hy)
    rw [List.map_cons, lcL, h0 x (List.mem_cons_self ..)]
    simp only [lft_some, pure_bind, h1 x (List.mem_cons_self ..)]
    cases hp : p x with
    | true =>
      rw [if_pos rfl, h2 x (List.mem_cons_self ..) hp]
      simp only [pure_bind, asDat, lft_some, ih]
      rw [List.filter_cons_of_pos hp, List.map_cons]
    | false =>
      rw [if_neg (by decide), ih, List.filter_cons_of_neg (by simp [hp])]
theorem nLc_map {α : Type} {fi : En → M (List D)} {t : D → En → Option En} {ft : En → M Bool} {fe : En → M D} {vs : List Nat} {ρ : En} (xs : List α) (e : α → D) (p : α → Bool) (g : α → PyData) (s : α → En) (hi : fi ρ = pure (xs.map e)) (hz : xs.length ≤ SZ) (h0 : ∀ x ∈ xs, t (e x) (wipD ρ vs) = some (s x)) (h1 : ∀ x ∈ xs, ft (s x) = pure (p x)) (h2 : ∀ x ∈ xs, p x = true → fe (s x) = pure (.dat (g x))) :
    nLc fi t ft fe vs ρ = pure (.lst ((xs.filter p).map g)) := by
  unfold nLc
  rw [hi]
  simp only [pure_bind]
  rw [if_pos (by rw [List.length_map]; exact hz), lcL_map xs h0 h1 h2, noX_pure]
  rfl
end DL

set_option maxHeartbeats 400000
namespace DL
open PySem PySem.Spec PyProof.Rows L2
/-! ### data of a type -/
section
variable {α : Type} [DecidableEq α]
theorem near_t [W.Datum α] (h : W.Datum.depth α ≤ 60) (x : α) (d : PyData) : near (W.Datum.toD x) d = true := by
  unfold near
  have := W.Datum.depth_le x
  exact decide_eq_true (by omega)
theorem opEq_t [W.Datum α] (h : W.Datum.depth α ≤ 60) (x y : α) : opEq (.dat (W.Datum.toD x)) (.dat (W.Datum.toD y)) = some (dB (decide (x = y))) := by
  show (if near _ _ = true then some (D.dat (.bool (PyData.eqv (W.Datum.toD x) (W.Datum.toD y)))) else none) = _
  rw [near_t h, if_pos rfl, W.Datum.eqv]
  rfl
theorem opNe_t [W.Datum α] (h : W.Datum.depth α ≤ 60) (x y : α) : opNe (.dat (W.Datum.toD x)) (.dat (W.Datum.toD y)) = some (dB (decide (x ≠ y))) := by
  show (if near _ _ = true then some (D.dat (.bool (!PyData.eqv (W.Datum.toD x) (W.Datum.toD y)))) else none) = _
  rw [near_t h, if_pos rfl, W.Datum.eqv]
  by_cases e : x = y <;> simp [e, dB]
theorem nearAll_t [W.Datum α] (h : W.Datum.depth α ≤ 60) (xs : List PyData) (x : α) : nearAll xs (W.Datum.toD x) = true := by
  unfold nearAll
  have := W.Datum.depth_le x
  exact decide_eq_true (by omega)
theorem memD_t [W.Datum α] (xs : List α) (x : α) : memD (xs.map W.Datum.toD) (W.Datum.toD x) = decide (x ∈ xs) := W.any_datum xs x
theorem opIn_tt [W.Datum α] (h : W.Datum.depth α ≤ 60) (xs : List α) (x : α) : opIn (.dat (W.Datum.toD x)) (.dat (.tuple (xs.map W.Datum.toD))) = some (dB (decide (x ∈ xs))) := by
  show (if nearAll _ _ = true then some (dB (memD _ _)) else none) = _
  rw [nearAll_t h, if_pos rfl, memD_t]
theorem opIn_tl [W.Datum α] (h : W.Datum.depth α ≤ 60) (xs : List α) (x : α) : opIn (.dat (W.Datum.toD x)) (.dat (.list (xs.map W.Datum.toD))) = some (dB (decide (x ∈ xs))) := by
  show (if nearAll _ _ = true then some (dB (memD _ _)) else none) = _
  rw [nearAll_t h, if_pos rfl, memD_t]
theorem notIn_of {x y : D} {p : Prop} [Decidable p] (h : opIn x y = some (dB (decide p))) : opNotIn x y = some (dB (decide ¬p)) := by
  unfold opNotIn
  rw [h]
  by_cases e : p <;> simp [e, asB, dB]
theorem ord_t [W.DatumOrd α] (h : W.Datum.depth α ≤ 60) (x y : α) : ordOk (W.Datum.toD x) (W.Datum.toD y) = true := by
  unfold ordOk
  rw [near_t h, W.DatumOrd.alike]
  have := W.DatumOrd.notNone x
  revert this
  cases (W.Datum.toD x : PyData) <;> first | (intro _; rfl) | (intro h; exact absurd rfl h)
theorem opLt_t [W.DatumOrd α] (h : W.Datum.depth α ≤ 60) (x y : α) : opLt (.dat (W.Datum.toD x)) (.dat (W.Datum.toD y)) = some (dB (W.DatumOrd.lt x y)) := by
  show (if ordOk _ _ = true then some (D.dat (.bool (W.dataLt _ _))) else none) = _
  rw [ord_t h, if_pos rfl, W.DatumOrd.lt_eq]
  rfl
theorem depthAll_le [W.Datum α] (xs : List α) : PyData.depthAll (xs.map W.Datum.toD) ≤ W.Datum.depth α := W.depthAll_map xs
/-- the kind of keys that can be sorted -/
class Srt (α : Type) [DecidableEq α] [W.DatumOrd α] : Prop where
  ok : (∀ x : α, ∃ y ys, W.Datum.toD x = .tuple (y :: ys)) ∨ ∀ x : α, (∀ ys, W.Datum.toD x ≠ .tuple ys)
  dep : W.Datum.depth α ≤ 60
theorem sortOk_t [W.DatumOrd α] [s : Srt α] (xs : List α) (hz : xs.length ≤ SZ) : sortOk (xs.map W.Datum.toD) = true := by
  unfold sortOk
  simp only [Bool.and_eq_true, Bool.or_eq_true, List.all_eq_true]
  have hd := depthAll_le xs
  have hd2 := s.dep
  refine ⟨⟨⟨decide_eq_true (by rw [List.length_map]; exact hz), decide_eq_true (by omega)⟩, fun x hx y hy => ?_⟩, ?_⟩
  · obtain ⟨a, _, rfl⟩ := List.mem_map.mp hx
    obtain ⟨b, _, rfl⟩ := List.mem_map.mp hy
    exact W.DatumOrd.alike a b
  · rcases s.ok with h | h
    · refine .inl fun x hx => ?_
      obtain ⟨a, _, rfl⟩ := List.mem_map.mp hx
      obtain ⟨y, ys, e⟩ := h a
      rw [e]
    · refine .inr fun x hx => ?_
      obtain ⟨a, _, rfl⟩ := List.mem_map.mp hx
      have h1 := h a
      have h2 := W.DatumOrd.notNone a
      revert h1 h2
      cases (W.Datum.toD a : PyData) <;> intro h1 h2 <;> first | rfl | exact absurd rfl h2 | exact absurd rfl (h1 _)
/-- sorted, of that type -/
def sortT [W.DatumOrd α] (xs : List α) : List α := xs.mergeSort fun a b => !W.DatumOrd.lt b a
theorem sortD_t [W.DatumOrd α] (xs : List α) : sortD (xs.map W.Datum.toD) = (sortT xs).map W.Datum.toD := by
  unfold sortD sortT
  rw [← List.map_mergeSort]
  intro a _ b _
  rw [W.DatumOrd.lt_eq]
theorem g_sorted_t [W.DatumOrd α] [Srt α] (xs : List α) (hz : xs.length ≤ SZ) : g_sorted [.dat (.list (xs.map W.Datum.toD))] = some (.dat (.list ((sortT xs).map W.Datum.toD))) := by
  show (if sortOk _ = true then some (D.dat (.list (sortD _))) else none) = _
  rw [sortOk_t xs hz, if_pos rfl, sortD_t]
end
instance : Srt Int := ⟨.inr (fun x ys e => nomatch e), by decide⟩
/-- leaps as data -/
theorem Lp.li_inj {a b : Lp} (h : a.li = b.li) : a = b := by
  obtain ⟨a1, a2, a3⟩ := a
  obtain ⟨b1, b2, b3⟩ := b
  simp [Lp.li] at h
  simp [h]
instance : W.DatumOrd Lp where
  toD l := l.d
  plain l := W.Datum.plain (W.Tup.mk l.li)
  eqv a b := (W.Datum.eqv (W.Tup.mk a.li) (W.Tup.mk b.li)).trans (decide_eq_decide.mpr ⟨fun e => Lp.li_inj (congrArg W.Tup.items e), fun e => by rw [e]⟩)
  depth := 1
  depth_le l := W.Datum.depth_le (W.Tup.mk l.li)
  lt a b := W.listLt a.li b.li
  alike a b := W.DatumOrd.alike (W.Tup.mk a.li) (W.Tup.mk b.li)
  notNone a := fun e => by cases e
  lt_eq a b := W.DatumOrd.lt_eq (W.Tup.mk a.li) (W.Tup.mk b.li)
instance : Srt Lp := ⟨.inl fun x => ⟨_, _, rfl⟩, by decide⟩
@[simp] theorem toD_lp (l : Lp) : (W.Datum.toD l : PyData) = l.d := rfl
@[simp] theorem toD_int (i : Int) : (W.Datum.toD i : PyData) = .int i := rfl
theorem map_lp (ls : List Lp) : ls.map W.Datum.toD = ls.map Lp.d := rfl
theorem map_int (ls : List Int) : ls.map W.Datum.toD = ls.map PyData.int := rfl
@[simp] theorem opLt_lp (a b : Lp) : opLt (.dat a.d) (.dat b.d) = some (dB (W.DatumOrd.lt a b)) := opLt_t (α := Lp) (by decide) a b
@[simp] theorem opNotIn_lp (a : Lp) (ls : List Lp) : opNotIn (.dat a.d) (.dat (.tuple (ls.map Lp.d))) = some (dB (decide (a ∉ ls))) := notIn_of (opIn_tt (α := Lp) (by decide) ls a)
@[simp] theorem g_sorted_i (xs : List Int) (hz : xs.length ≤ SZ) : g_sorted [.dat (.list (xs.map .int))] = some (.dat (.list ((sortT xs).map .int))) := g_sorted_t (α := Int) xs hz
@[simp] theorem g_sorted_lp (xs : List Lp) (hz : xs.length ≤ SZ) : g_sorted [.dat (.list (xs.map Lp.d))] = some (.dat (.list ((sortT xs).map Lp.d))) := g_sorted_t (α := Lp) xs hz
theorem boolsD_rep (n : Nat) : boolsD (List.replicate n (.bool true)) = some (List.replicate n true) := by
  have := boolsD_of (List.replicate n true)
  rwa [List.map_replicate] at this
end DL

set_option maxHeartbeats 400000
namespace DL
open PySem PySem.Spec PyProof.Rows L2
/-! ### runs that draw -/
def Ter {α : Type} (m : M α) (R : RS) (Q : α → RS → Prop) : Prop := ∃ a R', m R = some (.val a, R') ∧ Q a R'
theorem Ter.pure {α : Type} {a : α} {R : RS} {Q : α → RS → Prop} (h : Q a R) : Ter (Pure.pure a) R Q := ⟨a, R, rfl, h⟩
theorem Ter.bind {α β : Type} {m : M α} {f : α → M β} {R : RS} {Q : β → RS → Prop} (h : Ter m R fun a R' => Ter (f a) R' Q) : Ter (m >>= f) R Q := by
  obtain ⟨a, R', e, b, R'', e2, q⟩ := h
  refine ⟨b, R'', ?_, q⟩
  show M.bnd m f R = _
  unfold M.bnd
  rw [e]
  exact e2
theorem Ter.imp {α : Type} {m : M α} {R : RS} {Q Q' : α → RS → Prop} (h : Ter m R Q) (i : ∀ a R', Q a R' → Q' a R') : Ter m R Q' := by
  obtain ⟨a, R', e, q⟩ := h
  exact ⟨a, R', e, i _ _ q⟩
theorem Ter.eq {α : Type} {m : M α} {a : α} {R : RS} {Q : α → RS → Prop} (e : m = Pure.pure a) (h : Q a R) : Ter m R Q := by rw [e]; exact Ter.pure h
structure RowIn (a : Addr) (r : Row) : Prop where
  ea : r.a = a
  i0 : 0 ≤ r.i
  r0 : 0 ≤ r.r
  r1 : r.r < 2147483648
  c0 : 0 ≤ r.c
def RowInv (a : Addr) (R : RS) : Prop := ∃ r, R = some r ∧ RowIn a r
theorem bind_at {α β : Type} (m : M α) (f : α → M β) (R : RS) : (m >>= f) R = (match m R with
  | some (.val a, R') => f a R'
  | some (.exn x, R') => some (.exn x, R')
  | none => none) := rfl
theorem pure_at {α : Type} (a : α) (R : RS) : (Pure.pure a : M α) R = some (.val a, R) := rfl
@[simp] theorem ixM_row (a : Addr) (y : D) : ixM (.row a) y = rowGet a y := rfl
@[simp] theorem sRowPut_def (fr fk f : En → M D) (ρ : En) : sRowPut fr fk f ρ = (do
  let d ← f ρ
  let o ← fr ρ
  let k ← fk ρ
  match o with
  | .row a => do let _ ← rowPut a k d; pure (.nx ρ)
  | _ => stk) := rfl
theorem get0 (a sc : Addr) (ns : List Int) (i r c : Int) : rowGet a (.dat (.int 0)) (some ⟨a, sc, ns, i, r, c⟩) = some (.val (.dat (.list (ns.map .int))), some ⟨a, sc, ns, i, r, c⟩) := by simp [rowGet]
theorem get1 (a sc : Addr) (ns : List Int) (i r c : Int) : rowGet a (.dat (.int 1)) (some ⟨a, sc, ns, i, r, c⟩) = some (.val (.dat (.int i)), some ⟨a, sc, ns, i, r, c⟩) := by simp [rowGet]
theorem get2 (a sc : Addr) (ns : List Int) (i r c : Int) : rowGet a (.dat (.int 2)) (some ⟨a, sc, ns, i, r, c⟩) = some (.val (.dat (.int r)), some ⟨a, sc, ns, i, r, c⟩) := by simp [rowGet]
theorem get3 (a sc : Addr) (ns : List Int) (i r c : Int) : rowGet a (.dat (.int 3)) (some ⟨a, sc, ns, i, r, c⟩) = some (.val (.dat (.int c)), some ⟨a, sc, ns, i, r, c⟩) := by simp [rowGet]
theorem put1 (a sc : Addr) (ns : List Int) (i r c n : Int) : rowPut a (.dat (.int 1)) (.dat (.int n)) (some ⟨a, sc, ns, i, r, c⟩) = some (.val (), some ⟨a, sc, ns, n, r, c⟩) := by simp [rowPut]
theorem put2 (a sc : Addr) (ns : List Int) (i r c n : Int) : rowPut a (.dat (.int 2)) (.dat (.int n)) (some ⟨a, sc, ns, i, r, c⟩) = some (.val (), some ⟨a, sc, ns, i, n, c⟩) := by simp [rowPut]
theorem put3 (a sc : Addr) (ns : List Int) (i r c n : Int) : rowPut a (.dat (.int 3)) (.dat (.int n)) (some ⟨a, sc, ns, i, r, c⟩) = some (.val (), some ⟨a, sc, ns, i, r, n⟩) := by simp [rowPut]
theorem opMod_i (a b : Int) (h : 0 < b) : opMod (.dat (.int a)) (.dat (.int b)) = some (.dat (.int (a % b))) := by
  show (if decide (0 < b) = true then _ else _) = _
  rw [if_pos (decide_eq_true h)]
theorem opFdiv_i (a b : Int) (h : 0 < b) (h2 : b < 1073741824) : opFdiv (.dat (.int a)) (.dat (.int b)) = some (.dat (.int (a / b))) := by
  show (if decide (0 < b ∧ b < 1073741824) = true then _ else _) = _
  rw [if_pos (decide_eq_true ⟨h, h2⟩)]
theorem opMul_i (a b : Int) (h : a.natAbs < 2 ^ 63 ∨ b.natAbs < 2 ^ 63) : opMul (.dat (.int a)) (.dat (.int b)) = some (.dat (.int (a * b))) := by
  show (if decide (a.natAbs < 2 ^ 63 ∨ b.natAbs < 2 ^ 63) = true then _ else _) = _
  rw [if_pos (decide_eq_true h)]
theorem opPow_18 : opPow (.dat (.int 10)) (.dat (.int 18)) = some (.dat (.int 1000000000000000000)) := by
  show (if decide ((0 : Int) ≤ 18 ∧ (18 : Int) ≤ 1000000 ∧ (10 : Int).natAbs < 2 ^ 64) = true then some (D.dat (.int ((10 : Int) ^ (18 : Int).toNat))) else none) = _
  rw [if_pos (by decide)]
  rfl
end DL

set_option maxHeartbeats 400000
namespace DL
open PySem PySem.Spec PyProof.Rows L2
/-! ### comprehensions and loops that draw -/
theorem noX_ter {α : Type} {m : M α} {R : RS} {Q : α → RS → Prop} (h : Ter m R Q) : Ter (noX m) R Q := by
  obtain ⟨a, R', e, q⟩ := h
  refine ⟨a, R', ?_, q⟩
  unfold noX
  rw [e]
theorem lcL_ter {α : Type} {t : D → En → Option En} {ft : En → M Bool} {fe : En → M D} {e : α → D} {g : α → PyData} {ρ : En} {s : α → En} {I : RS → Prop} : ∀ (xs : List α) (R : RS), I R → (∀ x ∈ xs, t (e x) ρ = some (s x)) → (∀ x ∈ xs, ∀ R, I R → Ter (ft (s x)) R fun _ R' => I R') → (∀ x ∈ xs, fe (s x) = pure (.dat (g x))) →
    Ter (lcL t ft fe (xs.map e) ρ) R fun ys R' => (∃ zs : List α, zs.Sublist xs ∧ ys = zs.map g) ∧ I R'
  | [], R, hI, _, _, _ => Ter.pure ⟨⟨[], .slnil, rfl⟩, hI⟩
  | x :: xs, R, hI, h0, h1, h2 => by
    have ih := fun R hI => lcL_ter xs R hI (fun y hy => h0 y (List.mem_cons_of_mem _ hy)) (fun y hy => h1 y (List.mem_cons_of_mem _ hy)) fun y hy => h2 y (List.mem_cons_of_mem _ hy)
    rw [List.map_cons, lcL, h0 x (List.mem_cons_self ..)]
    simp only [lft_some, pure_bind]
    refine Ter.bind ((h1 x (List.mem_cons_self ..) R hI).imp fun b R1 hI1 => ?_)
    cases b with
    | true =>
      rw [if_pos rfl, h2 x (List.mem_cons_self ..)]
      simp only [pure_bind, asDat, lft_some]
      refine Ter.bind ((ih R1 hI1).imp fun ys R2 ⟨⟨zs, z1, z2⟩, hI2⟩ => Ter.pure ⟨⟨x :: zs, z1.cons_cons x, by rw [z2]; rfl⟩, hI2⟩)
    | false =>
      rw [if_neg (by decide)]
      exact (ih R1 hI1).imp fun ys R2 ⟨⟨zs, z1, z2⟩, hI2⟩ => ⟨⟨zs, z1.cons x, z2⟩, hI2⟩
theorem nLc_ter {α : Type} {fi : En → M (List D)} {t : D → En → Option En} {ft : En → M Bool} {fe : En → M D} {vs : List Nat} {ρ : En} {I : RS → Prop} {R : RS} (xs : List α) (e : α → D) (g : α → PyData) (s : α → En) (hI : I R) (hi : fi ρ = pure (xs.map e)) (hz : xs.length ≤ SZ) (h0 : ∀ x ∈ xs, t (e x) (wipD ρ vs) = some (s x)) (h1 : ∀ x ∈ xs, ∀ R, I R → Ter (ft (s x)) R fun _ R' => I R') (h2 : ∀ x ∈ xs, fe (s x) = pure (.dat (g x))) :
    Ter (nLc fi t ft fe vs ρ) R fun o R' => (∃ zs : List α, zs.Sublist xs ∧ o = .lst (zs.map g)) ∧ I R' := by
  unfold nLc
  rw [hi]
  simp only [pure_bind]
  rw [if_pos (by rw [List.length_map]; exact hz)]
  exact Ter.bind ((noX_ter (lcL_ter xs R hI h0 h1 h2)).imp fun ys R' ⟨⟨zs, z1, z2⟩, hI'⟩ => Ter.pure ⟨⟨zs, z1, by rw [z2]⟩, hI'⟩)
/-- a loop, by an invariant of what is gone through and the state -/
theorem forL_ter {t : D → En → Option En} {fb : En → M Fl} (I : Nat → En → RS → Prop) : ∀ (ds : List D) (n : Nat) (ρ : En) (R : RS), I n ρ R →
    (∀ (i : Nat) (d : D), ds[i]? = some d → ∀ ρ R, I (n + i) ρ R → ∃ ρ1, t d ρ = some ρ1 ∧ Ter (fb ρ1) R fun fl R' => ∃ ρ2, fl = .nx ρ2 ∧ I (n + i + 1) ρ2 R') →
    Ter (forL t fb ds ρ) R fun fl R' => ∃ ρ2, fl = .nx ρ2 ∧ I (n + ds.length) ρ2 R'
  | [], n, ρ, R, h, _ => Ter.pure ⟨ρ, rfl, h⟩
  | d :: ds, n, ρ, R, h, hb => by
    obtain ⟨ρ1, e, hb1⟩ := hb 0 d rfl ρ R h
    rw [forL_cons, e]
    simp only [lft_some, pure_bind]
    refine Ter.bind (hb1.imp fun fl R1 ⟨ρ2, e2, h2⟩ => ?_)
    subst e2
    have ih := forL_ter I ds (n + 1) ρ2 R1 h2 fun i d' e' ρ R h' => by
      have := hb (i + 1) d' (by simpa using e') ρ R (by rw [show n + (i + 1) = n + 1 + i from by omega]; exact h')
      rw [show n + (i + 1) + 1 = n + 1 + i + 1 from by omega] at this
      exact this
    exact ih.imp fun fl R2 ⟨ρ3, e3, h3⟩ => ⟨ρ3, e3, by rw [show n + (d :: ds).length = n + 1 + ds.length from by simp; omega]; exact h3⟩
/-! ### ranges -/
@[simp] theorem iRange1_def (a : En → M (List D)) (ρ : En) : iRange1 a ρ = (do
  let xs ← a ρ
  match xs with
  | [.dat (.int j)] => if inLine j = true then pure (rangeD 0 j.toNat) else stk
  | _ => stk) := rfl
@[simp] theorem iRange2_def (a : En → M (List D)) (ρ : En) : iRange2 a ρ = (do
  let xs ← a ρ
  match xs with
  | [.dat (.int i), .dat (.int j)] => if (inLine i && inLine j) = true then pure (rangeD i (j - i).toNat) else stk
  | _ => stk) := rfl
theorem inLine_ok {i : Int} (h1 : -1000000000 ≤ i) (h2 : i ≤ 1000000000) : inLine i = true := decide_eq_true (by omega)
theorem rangeD_eq (n : Nat) : rangeD 0 n = (List.range n).map fun (i : Nat) => .dat (.int (i : Int)) := by
  unfold rangeD
  simp
/-! ### sorted ints -/
theorem sortI_perm (xs : List Int) : (sortT xs).Perm xs := List.mergeSort_perm _ _
theorem sortI_mem {x : Int} {xs : List Int} : x ∈ sortT xs ↔ x ∈ xs := (sortI_perm xs).mem_iff
theorem sortI_len (xs : List Int) : (sortT xs).length = xs.length := (sortI_perm xs).length_eq
theorem sortI_up (xs : List Int) : (sortT xs).Pairwise (· ≤ ·) := by
  have := List.pairwise_mergeSort (le := fun a b : Int => !W.DatumOrd.lt b a) (fun a b c h1 h2 => by
    have h1' : (!decide (b < a)) = true := h1
    have h2' : (!decide (c < b)) = true := h2
    show (!decide (c < a)) = true
    simp at *
    omega) (fun a b => by
    show (!decide (b < a) || !decide (a < b)) = true
    simp
    omega) xs
  refine this.imp fun {a b} h => ?_
  have h' : (!decide (b < a)) = true := h
  simp at h'
  exact h'
theorem up_of {xs : List Int} (h : xs.Pairwise (· ≤ ·)) (hn : xs.Nodup) : xs.Pairwise (· < ·) := by
  have := h.and hn
  exact this.imp fun {a b} ⟨h1, h2⟩ => by omega
theorem sortI_lt {xs : List Int} (hn : xs.Nodup) : (sortT xs).Pairwise (· < ·) := up_of (sortI_up xs) ((sortI_perm xs).nodup_iff.mpr hn)
/-- two rows upwards with the same members are one -/
theorem up_unique {xs ys : List Int} (h1 : xs.Pairwise (· < ·)) (h2 : ys.Pairwise (· < ·)) (h : ∀ x, x ∈ xs ↔ x ∈ ys) : xs = ys := by
  have n1 : xs.Nodup := h1.imp fun {a b} h => by omega
  have n2 : ys.Nodup := h2.imp fun {a b} h => by omega
  exact List.Perm.eq_of_pairwise (le := (· < ·)) (fun a b _ _ h h' => absurd h (by omega)) h1 h2 ((List.perm_ext_iff_of_nodup n1 n2).mpr h)
theorem up_nodup {xs : List Int} (h1 : xs.Pairwise (· < ·)) : xs.Nodup := h1.imp fun {a b} h => by omega
end DL

set_option maxHeartbeats 400000
namespace DL
open PySem PySem.Spec PyProof.Rows L2
/-! ### the greatest of ints -/
def maxI : List Int → Int
  | [] => 0
  | x :: r => r.foldl max x
theorem alike_ints_ok (xs : List Int) : alikeL (xs.map .int) = true := by
  unfold alikeL
  simp only [Bool.and_eq_true, List.all_eq_true]
  refine ⟨fun x hx => ?_, by rw [W.depth_ints]; rfl⟩
  obtain ⟨a, _, rfl⟩ := List.mem_map.mp hx
  refine ⟨fun y hy => ?_, rfl⟩
  obtain ⟨b, _, rfl⟩ := List.mem_map.mp hy
  simp [W.alike]
theorem g_max_i (xs : List Int) (h : xs ≠ []) : g_max [.dat (.list (xs.map .int))] = some (.dat (.int (maxI xs))) := by
  cases xs with
  | nil => exact absurd rfl h
  | cons x r =>
    show (if alikeL ((x :: r).map .int) = true then some (D.dat (W.maxD (.int x) (r.map .int))) else none) = _
    rw [alike_ints_ok, if_pos rfl, W.maxD_ints]
    rfl
theorem foldl_max_le (r : List Int) : ∀ (x y : Int), r.foldl max x ≤ y ↔ x ≤ y ∧ ∀ z ∈ r, z ≤ y := by
  induction r with
  | nil => intro x y; simp
  | cons z r ih =>
    intro x y
    rw [List.foldl_cons, ih]
    simp only [List.mem_cons, forall_eq_or_imp]
    constructor
    · intro ⟨h1, h2⟩
      exact ⟨by omega, by omega, h2⟩
    · intro ⟨h1, h2, h3⟩
      exact ⟨by omega, h3⟩
theorem maxI_le {xs : List Int} {y : Int} (h : xs ≠ []) : maxI xs ≤ y ↔ ∀ z ∈ xs, z ≤ y := by
  cases xs with
  | nil => exact absurd rfl h
  | cons x r =>
    show r.foldl max x ≤ y ↔ _
    rw [foldl_max_le]
    simp
theorem maxI_ge {xs : List Int} {x : Int} (h : x ∈ xs) : x ≤ maxI xs := by
  have hne : xs ≠ [] := fun e => by rw [e] at h; cases h
  exact (maxI_le hne).mp (Int.le_refl _) x h
theorem maxI_ext {xs ys : List Int} (h1 : xs ≠ []) (h2 : ys ≠ []) (h : ∀ x, x ∈ xs ↔ x ∈ ys) : maxI xs = maxI ys := by
  apply Int.le_antisymm
  · exact (maxI_le h1).mpr fun z hz => maxI_ge ((h z).mp hz)
  · exact (maxI_le h2).mpr fun z hz => maxI_ge ((h z).mpr hz)
theorem maxI_succ {xs : List Int} (h : xs ≠ []) : maxI (xs.map (· + 1)) = maxI xs + 1 := by
  apply Int.le_antisymm
  · refine (maxI_le (by simpa using h)).mpr fun z hz => ?_
    obtain ⟨y, hy, rfl⟩ := List.mem_map.mp hz
    have := maxI_ge hy
    omega
  · have : maxI xs ≤ maxI (xs.map (· + 1)) - 1 := (maxI_le h).mpr fun z hz => by
      have := maxI_ge (List.mem_map.mpr ⟨z, hz, rfl⟩ : z + 1 ∈ xs.map (· + 1))
      omega
    omega
theorem foldl_max_mem : ∀ (r : List Int) (x : Int), r.foldl max x ∈ x :: r
  | [], x => by simp
  | y :: r, x => by
    rw [List.foldl_cons]
    rcases List.mem_cons.mp (foldl_max_mem r (max x y)) with h | h
    · rw [h]
      rcases Int.le_total x y with hxy | hxy
      · rw [Int.max_eq_right hxy]; simp
      · rw [Int.max_eq_left hxy]; simp
    · exact List.mem_cons_of_mem _ (List.mem_cons_of_mem _ h)
theorem maxI_mem {xs : List Int} (h : xs ≠ []) : maxI xs ∈ xs := by
  cases xs with
  | nil => exact absurd rfl h
  | cons x r => exact foldl_max_mem r x
/-- a list's places, filtered, are the zip's -/
theorem range_zip {α : Type} (d : α) (p : Int → Bool) : ∀ (w : List α) (rs : List Int), w.length = rs.length → ((List.range w.length).filter fun k => p (rs.getD k 0)).map (fun k => w.getD k d) = ((w.zip rs).filter fun q => p q.2).map (·.1)
  | [], rs, _ => by simp
  | x :: w, [], h => by simp at h
  | x :: w, r :: rs, h => by
    have ih := range_zip d p w rs (by simpa using h)
    rw [List.length_cons, List.range_succ_eq_map, List.filter_cons, List.zip_cons_cons, List.filter_cons]
    have e : (List.map Nat.succ (List.range w.length)).filter (fun k => p ((r :: rs).getD k 0)) = ((List.range w.length).filter fun k => p (rs.getD k 0)).map Nat.succ := by
      rw [List.filter_map]
      congr 1
    have e2 : (((List.range w.length).filter fun k => p (rs.getD k 0)).map Nat.succ).map (fun k => (x :: w).getD k d) = ((List.range w.length).filter fun k => p (rs.getD k 0)).map (fun k => w.getD k d) := by
      rw [List.map_map]
      rfl
    by_cases hp : p r = true
    · rw [if_pos (by simpa using hp), if_pos hp, List.map_cons, List.map_cons, e, e2, ih]
      rfl
    · rw [if_neg (by simpa using hp), if_neg hp, e, e2, ih]
@[simp] theorem iZip_def (f g : En → M D) (ρ : En) : iZip f g ρ = (do
  let x ← f ρ
  let y ← g ρ
  match seqD x, seqD y with
  | some xs, some ys => pure (zipD xs ys)
  | _, _ => stk) := rfl
theorem frz_at {i : Nat} {ρ : En} {o : OW} (h : ρ[i]? = some (.own o)) : frz i ρ = ρ.set i (.val (owD o)) := by
  unfold frz
  rw [h]
end DL

set_option maxHeartbeats 4000000
/-! tables of sets, with masks up to 511 -/
namespace NS
open PySem PySem.Spec PyProof.Rows L2
/-- a mask whose round i -> 5 i + 1 meets every slot from every slot -/
structure MaskB (m : Nat) : Prop where
  all : ∀ i j, i ≤ m → j ≤ m → ∃ k, k ≤ m ∧ lcgI m i k = j
  one : m = 7 ∨ m = 31 ∨ m = 127 ∨ m = 511
theorem MaskB.small {m : Nat} (h : MaskOk m) : MaskB m where
  all := fun i j hi hj => lcgI_all h hi hj
  one := by
    rcases h with e | e | e
    · exact .inl e
    · exact .inr (.inl e)
    · exact .inr (.inr (.inl e))
/-- the round from x, n slots of it -/
def orb : Nat → Nat → List Nat
  | 0, _ => []
  | n + 1, x => x :: orb n ((x * 5 + 1) % 512)
theorem lcgI_shift (m x : Nat) : ∀ k, lcgI m ((x * 5 + 1) % (m + 1)) k = lcgI m x (k + 1)
  | 0 => rfl
  | k + 1 => by
    show (lcgI m _ k * 5 + 1) % (m + 1) = (lcgI m x (k + 1) * 5 + 1) % (m + 1)
    rw [lcgI_shift m x k]
theorem orb_at : ∀ (n x k : Nat), k < n → (orb n x)[k]? = some (lcgI 511 x k)
  | 0, _, _, h => absurd h (Nat.not_lt_zero _)
  | n + 1, x, 0, _ => rfl
  | n + 1, x, k + 1, h => by
    show (orb n ((x * 5 + 1) % 512))[k]? = _
    rw [orb_at n _ k (by omega), ← lcgI_shift 511 x k]
theorem orb_len : ∀ n x, (orb n x).length = n
  | 0, _ => rfl
  | n + 1, x => by show (orb n _).length + 1 = n + 1; rw [orb_len n]
theorem orb_all : ((List.range 512).all fun j => (orb 512 0).contains j) = true := by decide +kernel
theorem orb_back : lcgI 511 0 512 = 0 := by
  have h : (orb 513 0)[512]? = some 0 := by decide +kernel
  rw [orb_at 513 0 512 (by decide)] at h
  exact Option.some.inj h
theorem met0 {j : Nat} (hj : j ≤ 511) : ∃ k, k < 512 ∧ lcgI 511 0 k = j := by
  have h := List.all_eq_true.mp orb_all j (List.mem_range.mpr (by omega))
  obtain ⟨k, hk, e⟩ := List.getElem_of_mem (List.contains_iff_mem.mp h)
  rw [orb_len] at hk
  refine ⟨k, hk, ?_⟩
  have e2 := orb_at 512 0 k hk
  rw [List.getElem?_eq_getElem (by rw [orb_len]; exact hk), e] at e2
  exact (Option.some.inj e2).symm
theorem lcgI_add (m x a : Nat) : ∀ k, lcgI m (lcgI m x a) k = lcgI m x (a + k)
  | 0 => rfl
  | k + 1 => by
    show (lcgI m (lcgI m x a) k * 5 + 1) % (m + 1) = (lcgI m x (a + k) * 5 + 1) % (m + 1)
    rw [lcgI_add m x a k]
theorem big511 : MaskB 511 where
  all := fun i j hi hj => by
    obtain ⟨a, ha, ea⟩ := met0 hi
    obtain ⟨b, hb, eb⟩ := met0 hj
    have turn : lcgI 511 0 (512 + b) = j := by rw [← lcgI_add, orb_back, eb]
    by_cases c : a ≤ b
    · exact ⟨b - a, by omega, by rw [← ea, lcgI_add, show a + (b - a) = b from by omega, eb]⟩
    · exact ⟨512 + b - a, by omega, by rw [← ea, lcgI_add, show a + (512 + b - a) = 512 + b from by omega, turn]⟩
  one := .inr (.inr (.inr rfl))
theorem MaskB.odd {m : Nat} (h : MaskB m) : m % 2 = 1 := by
  rcases h.one with e | e | e | e <;> subst e <;> rfl
/-- a slot begins a run, soon enough -/
theorem MaskB.run {m : Nat} (hm : MaskB m) (h : Int) {j : Nat} (hj : j ≤ m) : ∃ n, n ≤ m + 12 ∧ runI m (SetTable.bits h) n = j := by
  obtain ⟨k, hk, e⟩ := hm.all (runI m (SetTable.bits h) 12) j (runI_le m (SetTable.bits h) 12) hj
  refine ⟨12 + k, by omega, ?_⟩
  rw [runI_tail (bits_lt h)]
  exact e
theorem MaskB.soon {m : Nat} (hm : MaskB m) (h : Int) {j : Nat} (hj : j ≤ m) : ∃ k, k < 10 * SetTable.turns m ∧ way m h k = j := by
  obtain ⟨n, hn, e⟩ := hm.run h hj
  obtain ⟨k, hk, e2⟩ := run_nth m (SetTable.bits h) n
  refine ⟨k, ?_, ?_⟩
  · unfold SetTable.turns
    omega
  · show (nth m _ k).j = j
    rw [e2, ← e]
    rfl
theorem way_in (m : Nat) (h : Int) (k : Nat) : way m h k ≤ m := by
  have b := runEnd_bd (m := m) (i := SetTable.bits h % (m + 1)) (Nat.le_of_lt_succ (Nat.mod_lt _ (Nat.succ_pos _)))
  have := nth_in (m := m) k (runAt m (SetTable.bits h % (m + 1)) (SetTable.bits h)) (by
    show SetTable.bits h % (m + 1) + (SetTable.runEnd m _ - SetTable.bits h % (m + 1)) ≤ m
    omega)
  exact Nat.le_trans (Nat.le_add_right _ _) this
/-- slot j is come to by h's way, all before it taken -/
def Come (t : SetTable) (h : Int) (j : Nat) : Prop := ∃ k, way t.mask h k = j ∧ ∀ c, c < k → way t.mask h c ∈ t.place.toList
/-- a table in which every member is found again -/
structure TabB (t : SetTable) (hs : List Int) : Prop where
  mok : MaskB t.mask
  ris : Ris t.place.toList
  dm : t.dummies = #[]
  sz : t.place.size = hs.length
  bd : ∀ x ∈ t.place.toList, x ≤ t.mask
  reach : ∀ (i : Nat) (h : Int) (j : Nat), hs[i]? = some h → t.place.toList[i]? = some j → Come t h j
theorem TabB.len {t : SetTable} {hs : List Int} (T : TabB t hs) : t.place.toList.length = hs.length := by
  rw [Array.length_toList]
  exact T.sz
/-- the first free slot of a way -/
theorem TabB.first {t : SetTable} {hs : List Int} (T : TabB t hs) (hl : hs.length ≤ t.mask) (h : Int) : ∃ K, K < 10 * SetTable.turns t.mask ∧ way t.mask h K ∉ t.place.toList ∧ ∀ k, k < K → way t.mask h k ∈ t.place.toList := by
  obtain ⟨j, hj, free⟩ := st_missing t.place.toList (t.mask + 1) (by rw [T.len]; omega)
  obtain ⟨k, hk, e⟩ := T.mok.soon h (Nat.le_of_lt_succ hj)
  obtain ⟨K, h1, h2, h3⟩ := st_least (p := fun c => way t.mask h c ∉ t.place.toList) k (by rw [e]; exact free)
  exact ⟨K, Nat.lt_of_le_of_lt h1 hk, h2, fun c hc => Classical.byContradiction fun z => h3 c hc z⟩
theorem TabB.before {t : SetTable} {hs : List Int} (T : TabB t hs) {h : Int} {K i j : Nat} (hK : way t.mask h K ∉ t.place.toList) (hi : hs[i]? = some h) (hj : t.place.toList[i]? = some j) : ∃ k, k < K ∧ way t.mask h k = j := by
  obtain ⟨k, e, hb⟩ := T.reach i h j hi hj
  refine ⟨k, ?_, e⟩
  refine Decidable.byContradiction fun z => ?_
  by_cases c : K = k
  · subst c
    rw [e] at hK
    exact hK (List.mem_of_getElem? hj)
  · exact hK (hb K (by omega))
/-- a member put into the first free slot of its way -/
theorem TabB.put {t : SetTable} {hs : List Int} (T : TabB t hs) {h : Int} {K : Nat} (hK : way t.mask h K ∉ t.place.toList) (hb : ∀ k, k < K → way t.mask h k ∈ t.place.toList) :
    (t.put (way t.mask h K)).2 = SetTable.below t.place (way t.mask h K) ∧ SetTable.below t.place (way t.mask h K) ≤ hs.length ∧
    TabB (t.put (way t.mask h K)).1 (hs.take (SetTable.below t.place (way t.mask h K)) ++ h :: hs.drop (SetTable.below t.place (way t.mask h K))) ∧
    (t.put (way t.mask h K)).1.mask = t.mask ∧ (t.put (way t.mask h K)).1.led = t.led ∧ (t.put (way t.mask h K)).1.plain = t.plain ∧ (t.put (way t.mask h K)).1.fill = hs.length + 1 := by
  have jm := way_in t.mask h K
  obtain ⟨j, ej⟩ : ∃ j, way t.mask h K = j := ⟨_, rfl⟩
  rw [ej] at hK jm ⊢
  have c1 := (below_cut T.ris j).1
  have pl : SetTable.below t.place j ≤ t.place.toList.length := by rw [Array.length_toList]; exact c1
  have ph : SetTable.below t.place j ≤ hs.length := by rw [← T.len]; exact pl
  have pp := put_place t j
  have size : (t.put j).1.place.size = hs.length + 1 := by rw [← Array.length_toList, pp, len_ins _ pl, T.len]
  have keep : ∀ x, x ∈ t.place.toList → x ∈ (t.put j).1.place.toList := fun x hx => by rw [pp]; exact mem_ins.mpr (.inr hx)
  have come : ∀ (h' : Int) (j' : Nat), Come t h' j' → Come (t.put j).1 h' j' := fun h' j' ⟨k, e, z⟩ => ⟨k, e, fun c hc => keep _ (z c hc)⟩
  have nohas : t.place[SetTable.below t.place j]? ≠ some j := fun e => hK (List.mem_of_getElem? (by rw [Array.getElem?_toList]; exact e))
  refine ⟨rfl, ph, { mok := T.mok, ris := ris_insert T.ris nohas, dm := put_dm T.dm j, sz := by rw [len_ins _ ph]; exact size, bd := fun x hx => ?_, reach := fun i h' j' h1 h2 => ?_ }, rfl, rfl, rfl, ?_⟩
  · rw [pp] at hx
    exact (mem_ins.mp hx).elim (fun e => e ▸ jm) (T.bd x)
  · rw [tins_get hs ph] at h1
    rw [pp, tins_get _ pl] at h2
    by_cases a : i < SetTable.below t.place j
    · rw [if_pos a] at h1 h2
      exact come _ _ (T.reach i h' j' h1 h2)
    · rw [if_neg a] at h1 h2
      by_cases b : i = SetTable.below t.place j
      · rw [if_pos b] at h1 h2
        cases h1
        cases h2
        exact ⟨K, ej, fun c hc => keep _ (hb c hc)⟩
      · rw [if_neg b] at h1 h2
        exact come _ _ (T.reach (i - 1) h' j' h1 h2)
  · show (t.put j).1.place.size + (t.put j).1.dummies.size = hs.length + 1
    rw [size, put_dm T.dm j]
    rfl
/-! ### laid anew -/
theorem free_at {m : Nat} (hm : MaskB m) (owner : Array (Option Nat)) (h : Int) {j : Nat} (hj : j ≤ m) (hf : oAt owner j = none) :
    ∃ K, SetTable.layClean.free m owner (SetTable.turns m) (SetTable.bits h % (m + 1)) (SetTable.bits h) = some (way m h K) ∧ oAt owner (way m h K) = none ∧ ∀ k, k < K → oAt owner (way m h k) ≠ none := by
  obtain ⟨n, hn, e⟩ := hm.run h hj
  have hw : way m h (off m (SetTable.bits h % (m + 1)) (SetTable.bits h) n) = j := by
    show (nth m _ _).j = j
    rw [nth_off, itL_run, ← e]
    rfl
  obtain ⟨K, k1, k2, k3⟩ := st_least (p := fun k => oAt owner (way m h k) = none) (off m (SetTable.bits h % (m + 1)) (SetTable.bits h) n) (by rw [hw]; exact hf)
  have occ : ∀ k, k < K → (oAt owner (way m h k)).isNone = false := fun k hk => by
    rw [Option.isNone_eq_false_iff, Option.isSome_iff_ne_none]
    exact k3 k hk
  exact ⟨K, free_spec m owner (SetTable.turns m) n _ _ K (by unfold SetTable.turns; omega) k1 occ (by rw [Option.isNone_iff_eq_none]; exact k2), k2, k3⟩
theorem own_more {m : Nat} (hm : MaskB m) {done : List Int} {owner : Array (Option Nat)} (W : Own m done owner) (hl : done.length ≤ m) (h : Int) :
    ∃ j, SetTable.layClean.free m owner (SetTable.turns m) (SetTable.bits h % (m + 1)) (SetTable.bits h) = some j ∧ Own m (done ++ [h]) (owner.setIfInBounds j (some done.length)) := by
  obtain ⟨ps, hps, hin⟩ := W.ps
  obtain ⟨j0, h0, hn0⟩ := st_missing ps (m + 1) (by omega)
  have hj0 : oAt owner j0 = none := Classical.byContradiction fun z => hn0 (hin j0 (Nat.le_of_lt_succ h0) z)
  obtain ⟨K, e1, e2, e3⟩ := free_at hm owner h (Nat.le_of_lt_succ h0) hj0
  have jm := way_in m h K
  obtain ⟨j, ej⟩ : ∃ j, way m h K = j := ⟨_, rfl⟩
  rw [ej] at e1 e2 jm
  have self := oAt_set_self (some done.length) (show j < owner.size by rw [W.sz]; omega)
  have some_ : ∀ i, oAt owner i ≠ none → oAt (owner.setIfInBounds j (some done.length)) i ≠ none := fun i hi => by
    by_cases c : i = j
    · rw [c, self]; simp
    · rw [oAt_set_ne _ c]; exact hi
  refine ⟨j, e1, { sz := by rw [Array.size_setIfInBounds]; exact W.sz, at_ := fun i k hi e => ?_, all := fun k hk => ?_, ps := ⟨j :: ps, by simp [hps], fun i hi e => ?_⟩ }⟩
  · by_cases c : i = j
    · rw [c, self] at e
      cases e
      exact ⟨h, K, by simp, by rw [ej, c], fun k' hk' => some_ _ (e3 k' hk')⟩
    · rw [oAt_set_ne _ c] at e
      obtain ⟨h', K', a1, a2, a3⟩ := W.at_ i k hi e
      exact ⟨h', K', by rw [List.getElem?_append_left (List.getElem?_eq_some_iff.mp a1).1]; exact a1, a2, fun k' hk' => some_ _ (a3 k' hk')⟩
  · rw [List.length_append, List.length_singleton] at hk
    by_cases c : k < done.length
    · obtain ⟨i, hi, e⟩ := W.all k c
      exact ⟨i, hi, by rw [oAt_set_ne _ (fun z => by rw [z, e2] at e; cases e)]; exact e⟩
    · exact ⟨j, jm, by rw [self, show k = done.length from by omega]⟩
  · by_cases c : i = j
    · rw [c]; exact List.mem_cons_self
    · rw [oAt_set_ne _ c] at e
      exact List.mem_cons_of_mem _ (hin i hi e)
theorem own_all {m : Nat} (hm : MaskB m) : ∀ (rest done : List Int) (owner : Array (Option Nat)), Own m done owner → done.length + rest.length ≤ m →
    ∃ owner' n, rest.foldl (stepF m) (some (owner, done.length)) = some (owner', n) ∧ Own m (done ++ rest) owner'
  | [], done, owner, W, _ => ⟨owner, done.length, rfl, by rw [List.append_nil]; exact W⟩
  | h :: rest, done, owner, W, hl => by
    rw [List.length_cons] at hl
    obtain ⟨j, e, W'⟩ := own_more hm W (by omega) h
    have hl' : (done ++ [h]).length = done.length + 1 := by simp
    obtain ⟨owner', n, f, W2⟩ := own_all hm rest (done ++ [h]) _ W' (by omega)
    refine ⟨owner', n, ?_, by rw [show done ++ h :: rest = done ++ [h] ++ rest from by simp]; exact W2⟩
    rw [List.foldl_cons, stepF_some e, ← hl']
    exact f
theorem laid_anew (t : SetTable) {hs : Array Int} {wanted M : Nat} (hw : SetTable.sizeAbove wanted - 1 = M) (hM : MaskB M) (hn : hs.size ≤ M) :
    ∃ t' order, t.relaid hs wanted = some (t', order) ∧ order.toList.Perm (List.range hs.size) ∧ TabB t' (order.toList.map fun i => hs.getD i 0) ∧ t'.mask = M ∧ t'.led = t.led ∧ t'.plain = t.plain ∧ t'.dummies = #[] := by
  obtain ⟨owner, n, f, W⟩ := own_all hM hs.toList [] _ (Own.init M) (by rw [Array.length_toList]; show 0 + hs.size ≤ M; omega)
  rw [List.nil_append] at W
  have e : SetTable.layClean M hs = some owner := by
    rw [layClean_eq]
    have f' : hs.toList.foldl (stepF M) (some (Array.replicate (M + 1) none, 0)) = some (owner, n) := f
    rw [f']
    rfl
  have hr : t.relaid hs wanted = some (tabOf t M owner, ((liveOf M owner).map (·.2)).toArray) := by
    rw [relaid_eq, hw, e]
    rfl
  obtain ⟨r1, r2⟩ := ris_live (fun j => owner.getD j none) (List.range (M + 1)) List.pairwise_lt_range
  have r1 : Ris ((liveOf M owner).map (·.1)) := r1
  have r2 : ∀ x ∈ (liveOf M owner).map (·.1), x ∈ List.range (M + 1) := r2
  have at_ : ∀ (i : Nat) (q : Nat × Nat), (liveOf M owner)[i]? = some q → q.1 ≤ M ∧ oAt owner q.1 = some q.2 := fun i q hq => (mem_live W.sz).mp (List.mem_of_getElem? hq)
  have get : ∀ k, k < hs.size → ∃ j, (j, k) ∈ liveOf M owner := fun k hk => by
    obtain ⟨j, b1, b2⟩ := W.all k (by rw [Array.length_toList]; exact hk)
    exact ⟨j, (mem_live W.sz).mpr ⟨b1, b2⟩⟩
  have hlen : (liveOf M owner).length = hs.size := by
    refine Nat.le_antisymm ?_ ?_
    · obtain ⟨ps, p1, p2⟩ := W.ps
      have nd : ((liveOf M owner).map (·.1)).Nodup := List.Pairwise.imp (fun h => Nat.ne_of_lt h) r1
      have a := nat_nodup_len ((liveOf M owner).map (·.1)) ps nd fun x hx => by
        obtain ⟨q, hq, rfl⟩ := List.mem_map.mp hx
        obtain ⟨b1, b2⟩ := (mem_live W.sz).mp (show (q.1, q.2) ∈ liveOf M owner from hq)
        exact p2 q.1 b1 (by rw [b2]; simp)
      rw [List.length_map, p1, Array.length_toList] at a
      exact a
    · have b := nat_nodup_len (List.range hs.size) ((liveOf M owner).map (·.2)) List.nodup_range fun k hk => by
        obtain ⟨j, hj⟩ := get k (List.mem_range.mp hk)
        exact List.mem_map.mpr ⟨(j, k), hj, rfl⟩
      rw [List.length_map, List.length_range] at b
      exact b
  refine ⟨_, _, hr, perm_range hs.size _ ?_ fun k hk => ?_, { mok := hM, ris := r1, dm := rfl, sz := ?_, bd := fun x hx => Nat.le_of_lt_succ (List.mem_range.mp (r2 x hx)), reach := fun i h j h1 h2 => ?_ }, rfl, rfl, rfl, rfl⟩
  · show ((liveOf M owner).map (·.2)).length = hs.size
    rw [List.length_map, hlen]
  · obtain ⟨j, hj⟩ := get k hk
    exact List.mem_map.mpr ⟨(j, k), hj, rfl⟩
  · show ((liveOf M owner).map (·.1)).toArray.size = (((liveOf M owner).map (·.2)).map fun i => hs.getD i 0).length
    simp
  · have h1 : (((liveOf M owner).map (·.2)).map fun i => hs.getD i 0)[i]? = some h := h1
    have h2 : ((liveOf M owner).map (·.1))[i]? = some j := h2
    rw [List.getElem?_map] at h2
    obtain ⟨q, hq, rfl⟩ := Option.map_eq_some_iff.mp h2
    rw [List.getElem?_map, List.getElem?_map, hq] at h1
    obtain ⟨b1, b2⟩ := at_ i q hq
    obtain ⟨h0, K, a1, a2, a3⟩ := W.at_ q.1 q.2 b1 b2
    have e0 : hs.getD q.2 0 = h0 := by
      rw [Array.getD_eq_getD_getElem?, ← Array.getElem?_toList, a1]
      rfl
    have eh : h0 = h := by
      rw [← e0]
      exact Option.some.inj h1
    subst eh
    refine ⟨K, a2, fun c hc => ?_⟩
    show way M h0 c ∈ (liveOf M owner).map (·.1)
    obtain ⟨k2, z⟩ := Option.ne_none_iff_exists'.mp (a3 c hc)
    exact List.mem_map.mpr ⟨(way M h0 c, k2), (mem_live W.sz).mpr ⟨way_in M h0 c, z⟩, rfl⟩
theorem size_511 : SetTable.sizeAbove (SetTable.grown 77) = 512 := by decide +kernel
end NS

set_option maxHeartbeats 4000000
/-! sets whose members are keys at addresses: any kind of keys -/
namespace NS
open PySem PySem.Spec PyProof.Rows L2
section
variable {P : Program} {w : World} {κ : Type} [DecidableEq κ] (KD : HeapKind P w κ)
/-- what a set asks of a kind of keys, beyond hash and == -/
structure Fit : Prop where
  move : ∀ {h h' : Heap} {k : κ} {a : Addr}, (∀ b o vs n, h.get? b = some o → o.data = .seq vs n → h'.get? b = some o) → KD.is h k a → KD.is h' k a
  noCls : ∀ {A : Around} {E : Value → Shared → Prop} {s : Shared} {k : κ} {a : Addr} {Q : Bool → Shared → Prop}, KD.is s.heap k a → Q false s → wpAny (model P w) A (ofAClassStatement 8 (.ref a)) Q E s
  byVal : ∀ {A : Around} {E : Value → Shared → Prop} {s : Shared} {k : κ} {a : Addr} {Q : Bool → Shared → Prop}, KD.is s.heap k a → Q true s → wpAny (model P w) A (hashByValue 8 (.ref a)) Q E s

def ents (L : List (Addr × κ)) : List (Int × Value) := L.map fun e => (KD.hash e.2, Value.ref e.1)
def hashes (L : List (Addr × κ)) : List Int := L.map fun e => KD.hash e.2
structure SetOf (h : Heap) (a : Addr) (L : List (Addr × κ)) (es : Array (Int × Value)) (ep : Nat) (t : SetTable) : Prop where
  obj : ∃ o, h.get? a = some o ∧ o.ExactSet ∧ o.data = .set es ep t
  list : es.toList = ents KD L
  table : TabB t (hashes KD L)
  once : (L.map (·.2)).Nodup
  keys : ∀ e ∈ L, KD.is h e.2 e.1
  pln : t.plain = true
  ldg : w.params.followText "set-order" = true ∨ t.led = true
  space : L.length * 5 < t.mask * 3
variable {KD} {A : Around} {E : Value → Shared → Prop} {s : Shared} {a : Addr} {L : List (Addr × κ)} {es : Array (Int × Value)} {ep : Nat} {t : SetTable}
theorem ents_len (h : es.toList = ents KD L) : es.size = L.length := by
  have := congrArg List.length h
  simpa [ents] using this
theorem hashes_len (L : List (Addr × κ)) : (hashes KD L).length = L.length := by simp [hashes]
theorem SetOf.few (T : SetOf KD s.heap a L es ep t) : L.length ≤ 306 := by
  have h := T.space
  rcases T.table.mok.one with e | e | e | e <;> rw [e] at h <;> omega
theorem SetOf.place_len (T : SetOf KD s.heap a L es ep t) : t.place.toList.length = L.length := by
  have := T.table.sz
  rw [hashes_len] at this
  rw [Array.length_toList]
  exact this
theorem SetOf.fit (T : SetOf KD s.heap a L es ep t) : t.fits es.size = true := by
  have h1 := T.place_len
  rw [Array.length_toList] at h1
  have h2 := ents_len T.list
  have h3 := T.space
  simp only [SetTable.fits, SetTable.fill, T.table.dm, Bool.and_eq_true, beq_iff_eq, decide_eq_true_eq]
  refine ⟨by omega, ?_⟩
  have : (#[] : Array Nat).size = 0 := rfl
  omega
theorem SetOf.at (T : SetOf KD s.heap a L es ep t) {i : Nat} {e : Addr × κ} (h : L[i]? = some e) : es[i]? = some (KD.hash e.2, Value.ref e.1) := by
  rw [← Array.getElem?_toList, T.list, ents, List.getElem?_map, h]; rfl
/-- the state of a search behind so many steps -/
abbrev walkN (t : SetTable) (h : Int) (c : Nat) : SetTable.Probe := nth t.mask (runAt t.mask (SetTable.bits h % (t.mask + 1)) (SetTable.bits h)) c
theorem walkN_add (t : SetTable) (h : Int) (c q : Nat) : nth t.mask (walkN t h c) q = walkN t h (c + q) := (nth_add t.mask c _ q).symm
theorem adv_dummy (m : Nat) (p : SetTable.Probe) (h : p.dummy = none) : (adv m p).dummy = none := by
  unfold adv
  split <;> exact h
theorem nth_dummy (m : Nat) : ∀ (n : Nat) (p : SetTable.Probe), p.dummy = none → (nth m p n).dummy = none
  | 0, _, h => h
  | n + 1, p, h => nth_dummy m n (adv m p) (adv_dummy m p h)
/-- nothing is shown by a search among such keys -/
theorem unseen (ft : Fit KD) {x : Addr} {k : κ} (hx : KD.is s.heap k x) {ys : List Value} (hy : ∀ y ∈ ys, ∃ k' b, y = Value.ref b ∧ KD.is s.heap k' b) {Q : Bool → Shared → Prop} (q : Q false s) :
    wpAny (model P w) A (searchCouldBeSeen (.ref x) ys) Q E s := by
  unfold searchCouldBeSeen
  refine wpAny_bind (wpAny_forIn_list _ (fun left r u => (r.1 = none ∧ u = s) ∧ ∀ y ∈ left, ∃ k' b, y = Value.ref b ∧ KD.is s.heap k' b) _ ?_ ?_ _ _ ⟨⟨rfl, rfl⟩, hy⟩)
  · rintro y left r u ⟨⟨r0, rfl⟩, all⟩
    obtain ⟨k', b, rfl, hb⟩ := all y List.mem_cons_self
    have tl : ∀ z ∈ left, ∃ k' b, z = Value.ref b ∧ KD.is u.heap k' b := fun z hz => all z (List.mem_cons_of_mem _ hz)
    dsimp only
    by_cases same : (x == b || (carriedByValue (.ref x) && carriedByValue (.ref b))) = true
    · exact wp_if_pos same (wpAny_pure ⟨⟨rfl, rfl⟩, tl⟩)
    · refine wp_if_neg same (wpAny_bind (KD.quiet hx ?_))
      simp only [Bool.not_true, if_false, Bool.false_eq_true]
      refine wpAny_bind (KD.quiet hb ?_)
      simp only [Bool.not_true, if_false, Bool.false_eq_true]
      refine wpAny_bind (ft.noCls hx ?_)
      simp only [if_false, Bool.false_eq_true]
      refine wpAny_bind (ft.noCls hb ?_)
      simp only [if_false, Bool.false_eq_true]
      exact wpAny_pure ⟨⟨rfl, rfl⟩, tl⟩
  · rintro ⟨o, z⟩ u ⟨⟨r0, rfl⟩, _⟩
    have : o = none := r0
    subst this
    exact wpAny_pure q

/-- THE SEARCH, from the c-th step on: K is the first empty slot of the way -/
theorem search (ft : Fit KD) (T : SetOf KD s.heap a L es ep t) {x : Addr} {k : κ} (hx : KD.is s.heap k x) (hr : KD.room A) {K : Nat} (hK : K < 10 * SetTable.turns t.mask)
    (free : way t.mask (KD.hash k) K ∉ t.place.toList) (taken : ∀ c, c < K → way t.mask (KD.hash k) c ∈ t.place.toList) {Q : SetFound → Shared → Prop}
    (yes : k ∈ L.map (·.2) → Q (.there none) s) (no : k ∉ L.map (·.2) → Q (.free (way t.mask (KD.hash k) K) false) s) :
    ∀ (f c : Nat) (from? : Option SetTable.Probe), from?.getD (t.probeStart (KD.hash k)) = walkN t (KD.hash k) c → c ≤ K → K < f + c →
      (∀ (i : Nat) e, L[i]? = some e → e.2 = k → ∃ d, c ≤ d ∧ d < K ∧ t.place.toList[i]? = some (way t.mask (KD.hash k) d)) →
      wpAny (model P w) A (setSearchFrom a (.ref x) (KD.hash k) true f from?) Q E s := by
  intro f
  induction f with
  | zero => intro c _ _ h1 h2 _; omega
  | succ f ih =>
    intro c from? hfrom hc hf ahead
    obtain ⟨o, hob, hexact, hdata⟩ := T.obj
    have jAt : ∀ q, (nth t.mask (walkN t (KD.hash k) c) q).j = way t.mask (KD.hash k) (c + q) := fun q => congrArg SetTable.Probe.j (walkN_add t _ c q)
    have known : ∀ (i : Nat) e, L[i]? = some e → (es[i]?.map (·.1)).getD 0 = KD.hash e.2 := fun i e he => by rw [T.at he]; rfl
    have word := go_spec t T.table.ris T.table.dm (fun i => (es[i]?.map (·.1)).getD 0) (KD.hash k) (10 * SetTable.turns t.mask) (K - c) (walkN t (KD.hash k) c) (nth_dummy _ _ _ rfl) (by omega)
      (fun q hq => by rw [jAt]; exact taken _ (by omega)) (by rw [jAt, Nat.add_sub_cancel' hc]; exact free)
    have odd : ¬ t.gaveWay = true := by unfold SetTable.gaveWay; rw [T.table.mok.odd]; decide
    rw [setSearchFrom_succ]
    refine wpAny_bind (wpAny_setState_of hob hdata T.fit ?_)
    dsimp only
    refine wp_if_neg odd ?_
    rcases word with ⟨q, i, hq, hi, heq, unmet, hprobe⟩ | ⟨unmet, hprobe⟩
    · -- one of the same hash
      rw [jAt] at hi
      have hil : i < L.length := by
        have := (List.getElem?_eq_some_iff.mp hi).1
        rw [T.place_len] at this
        exact this
      obtain ⟨e, hLi⟩ : ∃ e, L[i]? = some e := ⟨_, List.getElem?_eq_getElem hil⟩
      have heL : e ∈ L := List.mem_of_getElem? hLi
      have hkey := T.keys e heL
      have live : t.slot (way t.mask (KD.hash k) (c + q)) = .live i := slot_live T.table.ris hi
      have tail : wpAny (model P w) A (searchRest a (.ref x) (KD.hash k) true f es t (way t.mask (KD.hash k) (c + q)) i (walkN t (KD.hash k) (c + (q + 1)))) Q E s := by
        unfold searchRest
        rw [T.at hLi]
        dsimp only
        refine wpAny_bind (wpAny_holding (KD.eqBool hr hkey hx (wpAny_bind (wpAny_setState_of hob hdata T.fit ?_))))
        dsimp only
        by_cases heqk : e.2 = k
        · refine wp_if_pos (by simp [heqk]) (wpAny_pure (yes ?_))
          exact heqk ▸ List.mem_map.mpr ⟨e, heL, rfl⟩
        · refine wp_if_neg (by simp [heqk]) ?_
          rw [sameMem]
          dsimp only
          simp only [if_true, live, T.at hLi]
          refine wpAny_bind (wpAny_isSame_ref_self (wpAny_bind (wpAny_pure ?_)))
          simp only [if_true]
          refine wp_if_neg (by simp [heqk]) ?_
          refine ih (c + (q + 1)) _ rfl (by omega) (by omega) fun i' e' h1 h2 => ?_
          obtain ⟨d, d1, d2, d3⟩ := ahead i' e' h1 h2
          refine ⟨d, ?_, d2, d3⟩
          refine Decidable.byContradiction fun hd => ?_
          have hd' : d < c + q ∨ d = c + q := by omega
          rcases hd' with hd' | rfl
          · refine unmet (d - c) i' (by omega) (by rw [jAt, Nat.add_sub_cancel' d1]; exact d3) ?_
            rw [← h2]; exact known i' e' h1
          · have := slot_live T.table.ris d3
            rw [live] at this
            injection this with this
            subst this
            rw [hLi] at h1
            exact heqk ((congrArg Prod.snd (Option.some.inj h1)).trans h2)
      have found : t.probe (fun i => (es[i]?.map (·.1)).getD 0) (KD.hash k) (from?.getD (t.probeStart (KD.hash k))) = some (.candidate (way t.mask (KD.hash k) (c + q)) i (walkN t (KD.hash k) (c + (q + 1)))) := by
        rw [hfrom, ← jAt, ← walkN_add]
        exact hprobe
      rw [found]
      dsimp only
      by_cases hled : t.led = true
      · exact wp_if_neg (by simp [hled]) tail
      · refine wp_if_pos (by simp [hled]) (wpAny_bind (unseen ft hx (fun y hy => ?_) (wp_if_neg (by decide) tail)))
        obtain ⟨z, hz, rfl⟩ := List.mem_map.mp hy
        have hz2 : z ∈ es.toList := by
          have := (by simpa using hz : z ∈ es ∧ z.1 = KD.hash k).1
          simpa using this
        rw [T.list] at hz2
        obtain ⟨e2, he2, rfl⟩ := List.mem_map.mp hz2
        exact ⟨e2.2, e2.1, rfl, T.keys e2 he2⟩
    · -- nothing: the empty slot
      have found : t.probe (fun i => (es[i]?.map (·.1)).getD 0) (KD.hash k) (from?.getD (t.probeStart (KD.hash k))) = some (.empty (way t.mask (KD.hash k) K) none) := by
        have hj : way t.mask (KD.hash k) K = (nth t.mask (walkN t (KD.hash k) c) (K - c)).j := by rw [jAt, Nat.add_sub_cancel' hc]
        rw [hfrom, hj]
        exact hprobe
      rw [found]
      dsimp only
      refine wpAny_pure (no fun hm => ?_)
      obtain ⟨e, he, hek⟩ := List.mem_map.mp hm
      obtain ⟨i, hi, hie⟩ := List.getElem_of_mem he
      have hLi : L[i]? = some e := by rw [List.getElem?_eq_getElem hi, hie]
      obtain ⟨d, d1, d2, d3⟩ := ahead i e hLi hek
      refine unmet (d - c) i (by omega) (by rw [jAt, Nat.add_sub_cancel' d1]; exact d3) ?_
      rw [← hek]; exact known i e hLi
/-- the search that adding asks for -/
theorem search0 (ft : Fit KD) (T : SetOf KD s.heap a L es ep t) {x : Addr} {k : κ} (hx : KD.is s.heap k x) (hr : KD.room A) {Q : SetFound → Shared → Prop}
    (yes : k ∈ L.map (·.2) → Q (.there none) s)
    (no : ∀ K, k ∉ L.map (·.2) → way t.mask (KD.hash k) K ∉ t.place.toList → (∀ c, c < K → way t.mask (KD.hash k) c ∈ t.place.toList) → Q (.free (way t.mask (KD.hash k) K) false) s) :
    wpAny (model P w) A (setSearch a (.ref x) (KD.hash k) true) Q E s := by
  have hsp := T.space
  obtain ⟨K, h1, h2, h3⟩ := T.table.first (by rw [hashes_len]; omega) (KD.hash k)
  have low : 10 * SetTable.turns t.mask < 100000 := by
    unfold SetTable.turns
    rcases T.table.mok.one with e | e | e | e <;> rw [e] <;> decide
  unfold setSearch
  refine search ft T hx hr h1 h2 h3 yes (fun hn => no K hn h2 h3) 100000 0 none rfl (Nat.zero_le _) (by omega) fun i e he hk => ?_
  have hl : i < t.place.toList.length := by
    rw [T.place_len]
    exact (List.getElem?_eq_some_iff.mp he).1
  have hj := List.getElem?_eq_getElem hl
  have hh : (hashes KD L)[i]? = some (KD.hash k) := by rw [hashes, List.getElem?_map, he, ← hk]; rfl
  obtain ⟨d, d1, d2⟩ := T.table.before h2 hh hj
  exact ⟨d, Nat.zero_le _, d1, by rw [hj, d2]⟩
end
end NS

set_option maxHeartbeats 4000000
namespace NS
open PySem PySem.Spec PyProof.Rows L2
section
variable {P : Program} {w : World} {κ : Type} [DecidableEq κ] {KD : HeapKind P w κ} {A : Around} {E : Value → Shared → Prop} {s : Shared} {a : Addr} {L : List (Addr × κ)} {es : Array (Int × Value)} {ep : Nat} {t : SetTable}
/-- a change of the set alone leaves the keys -/
theorem Fit.besides (ft : Fit KD) {h h' : Heap} {k : κ} {b : Addr} {o : Obj} (ho : h.get? a = some o) (hd : o.data = .set es ep t) (same : Heap.SameBut a h h') (hk : KD.is h k b) : KD.is h' k b :=
  ft.move (fun c u vs n h1 h2 => by
    refine (same.2 c ?_).trans h1
    rintro rfl
    rw [ho] at h1
    cases h1
    rw [hd] at h2
    cases h2) hk
theorem Fit.later (ft : Fit KD) {h h' : Heap} {k : κ} {b : Addr} (keep : ∀ c o, h.get? c = some o → h'.get? c = some o) (hk : KD.is h k b) : KD.is h' k b := ft.move (fun c o _ _ e _ => keep c o e) hk
theorem SetOf.later {h h' : Heap} (T : SetOf KD h a L es ep t) (ha : ∀ o, h.get? a = some o → h'.get? a = some o) (hk : ∀ e ∈ L, KD.is h' e.2 e.1) : SetOf KD h' a L es ep t :=
  let ⟨o, ho, r⟩ := T.obj
  { obj := ⟨o, ha o ho, r⟩, list := T.list, table := T.table, once := T.once, keys := hk, pln := T.pln, ldg := T.ldg, space := T.space }
abbrev blank (w : World) : SetTable := .fresh 0 0 (!w.params.followText "set-order")
abbrev blankO (w : World) : Obj := { cls := .type "set", dict := none, data := .set #[] 0 (blank w) }
theorem SetOf.blank {h : Heap} (ho : h.get? a = some (blankO w)) : SetOf KD h a [] #[] 0 (blank w) where
  obj := ⟨_, ho, ⟨rfl, rfl, rfl⟩, rfl⟩
  list := rfl
  table := { mok := .small (.inl rfl), ris := List.Pairwise.nil, dm := rfl, sz := rfl, bd := fun _ h => (nomatch h), reach := fun i h j e => by simp [hashes] at e }
  once := List.Pairwise.nil
  keys := fun _ h => (nomatch h)
  pln := rfl
  ldg := by
    cases h : w.params.followText "set-order"
    · right; show (!w.params.followText "set-order") = true; rw [h]; rfl
    · left; rfl
  space := by show 0 * 5 < 7 * 3; decide

theorem whole_range {α : Type} : ∀ l : List α, (List.range l.length).filterMap (fun i => l[i]?) = l
  | [] => rfl
  | x :: l => by
    rw [List.length_cons, List.range_succ_eq_map, List.filterMap_cons_some (by rfl : (x :: l)[0]? = some x), List.filterMap_map]
    congr 1
    exact whole_range l
theorem reordered {order : Array Nat} (hl : es.toList = ents KD L) (hp : order.toList.Perm (List.range L.length)) :
    ∃ L2, (order.filterMap (es[·]?)).toList = ents KD L2 ∧ L2.Perm L ∧ hashes KD L2 = order.toList.map fun i => (es.map (·.1)).getD i 0 := by
  have at? : ∀ i : Nat, es[i]? = (L[i]?).map fun e => (KD.hash e.2, Value.ref e.1) := fun i => by rw [← Array.getElem?_toList, hl, ents, List.getElem?_map]
  refine ⟨order.toList.filterMap fun i => L[i]?, ?_, ?_, ?_⟩
  · rw [Array.toList_filterMap, ents, List.map_filterMap]
    exact congrArg (fun f => order.toList.filterMap f) (funext at?)
  · have := hp.filterMap fun i => L[i]?
    rwa [whole_range] at this
  · have small : ∀ i ∈ order.toList, i < L.length := fun i hi => List.mem_range.mp (hp.mem_iff.mp hi)
    revert small
    generalize order.toList = l
    intro small
    induction l with
    | nil => rfl
    | cons i l ih =>
      have hi := small i List.mem_cons_self
      have h1 : (es.map (·.1)).getD i 0 = KD.hash (L[i]).2 := by
        have : (es.map (·.1))[i]? = some (KD.hash (L[i]).2) := by rw [Array.getElem?_map, at?, List.getElem?_eq_getElem hi]; rfl
        simp [Array.getD_eq_getD_getElem?, this]
      rw [List.filterMap_cons_some (List.getElem?_eq_getElem hi), List.map_cons, h1, hashes, List.map_cons]
      congr 1
      exact ih fun j hj => small j (List.mem_cons_of_mem _ hj)
/-- laid anew -/
theorem relay (ft : Fit KD) {o : Obj} (ho : s.heap.get? a = some o) (hx : o.ExactSet) (hd : o.data = .set es ep t) (hl : es.toList = ents KD L) (hn : t.place.size = es.size) (hdm : t.dummies = #[]) (hfit : es.size ≤ t.mask)
    (once : (L.map (·.2)).Nodup) (keys : ∀ e ∈ L, KD.is s.heap e.2 e.1) (pln : t.plain = true) (ldg : w.params.followText "set-order" = true ∨ t.led = true) {wanted M : Nat}
    (hw : SetTable.sizeAbove wanted - 1 = M) (hM : MaskB M) (h128 : SetTable.sizeAbove wanted ≤ 512) (hroom : L.length * 5 < M * 3) {Q : Unit → Shared → Prop}
    (q : ∀ h' L' es' ep' t', Heap.SameBut a s.heap h' → SetOf KD h' a L' es' ep' t' → L'.Perm L → Q () { s with heap := h' }) : wpAny (model P w) A (setRelay a wanted) Q E s := by
  have hlen := ents_len hl
  have hf : t.fits es.size = true := by
    simp only [SetTable.fits, SetTable.fill, hdm, Bool.and_eq_true, beq_iff_eq, decide_eq_true_eq]
    have : (#[] : Array Nat).size = 0 := rfl
    omega
  obtain ⟨t', order, hrel, hperm, htab, hmask, hled, hpln, hdum⟩ := laid_anew t (hs := es.map (·.1)) (wanted := wanted) hw hM (by rw [Array.size_map, hlen]; omega)
  rw [Array.size_map, hlen] at hperm
  obtain ⟨L2, g1, g2, g3⟩ := reordered hl hperm
  rw [← g3] at htab
  have hn2 : (order.filterMap (es[·]?)).size = es.size := by rw [ents_len g1, g2.length_eq, hlen]
  rw [setRelay_eq]
  refine wpAny_bind (wpAny_setState_of ho hd hf ?_)
  dsimp only
  refine wp_if_neg (by rw [sizeLine_eq]; omega) ?_
  rw [hrel]
  dsimp only
  refine wpAny_bind ?_
  refine wp_if_neg (by simp [hn2]) (wpAny_pure ?_)
  dsimp only
  refine wpAny_storeSet_of ho hd ?_ (by rw [hn2, hlen, sizeLine_eq]; rcases hM.one with e | e | e | e <;> omega)
  have same : Heap.SameBut a s.heap (s.heap.update a (Obj.putSet (order.filterMap (es[·]?)) t')) := Heap.SameBut.update ..
  refine q _ L2 _ (ep + 1) t' same { obj := ⟨_, store_at ho hd, ⟨hx.1, hx.2.1, hx.2.2⟩, rfl⟩, list := g1, table := htab, once := (g2.map (·.2)).nodup_iff.mpr once, keys := fun e he => ft.besides ho hd same (keys e (g2.mem_iff.mp he)), pln := hpln.trans pln, ldg := by rw [hled]; exact ldg, space := by rw [g2.length_eq, hmask]; exact hroom } g2
/-- ADDING: at most 306 members -/
theorem add (ft : Fit KD) (T : SetOf KD s.heap a L es ep t) {x : Addr} {k : κ} (hx : KD.is s.heap k x) (hr : KD.room A) (few : k ∉ L.map (·.2) → L.length + 1 ≤ 306) {Q : Bool → Shared → Prop}
    (q : ∀ b h' L' es' ep' t', Heap.SameBut a s.heap h' → SetOf KD h' a L' es' ep' t' → (k ∈ L.map (·.2) → L' = L) → (k ∉ L.map (·.2) → L'.Perm ((x, k) :: L)) → Q b { s with heap := h' }) :
    wpAny (model P w) A (setAddHashed a (.ref x) (KD.hash k)) Q E s := by
  obtain ⟨o, ho, hex, hd⟩ := T.obj
  have hlen := ents_len T.list
  have hsp := T.space
  unfold setAddHashed
  rw [show (100000 : Nat) = 99999 + 1 from rfl, setAddHashedIn_succ]
  refine wpAny_holding (wpAny_bind (wpAny_setState_of ho hd T.fit ?_))
  dsimp only
  refine wp_if_neg (by simp [byScan, Value.scannable]) (wpAny_bind (search0 ft T hx hr (fun hm => ?_) fun K hm free taken => ?_))
  · exact wpAny_pure (q false s.heap L es ep t (Heap.SameBut.refl a s.heap) T (fun _ => rfl) fun z => absurd hm z)
  have few := few hm
  dsimp only
  refine wpAny_bind (wpAny_setState_of ho hd T.fit ?_)
  dsimp only
  obtain ⟨u1, u2, u3, u4, u5, u6, u9⟩ := T.table.put free taken
  have up : (t.put (way t.mask (KD.hash k) K)).1.plain = true := u6.trans T.pln
  revert u1 u3 u4 u5 u6 u9 up
  generalize t.put (way t.mask (KD.hash k) K) = both
  obtain ⟨t1, p⟩ := both
  dsimp only
  intro u1 u3 u4 u5 u6 u9 up
  subst u1
  refine wp_if_pos up (wpAny_bind (ft.byVal hx ?_))
  simp only [if_true]
  generalize hp : SetTable.below t.place (way t.mask (KD.hash k) K) = p at u2 u3 ⊢
  have perm : (L.take p ++ (x, k) :: L.drop p).Perm ((x, k) :: L) := by
    have := @List.perm_middle _ (x, k) (L.take p) (L.drop p)
    rwa [List.take_append_drop] at this
  have l1 : (SetTable.insertAt es p (KD.hash k, Value.ref x)).toList = ents KD (L.take p ++ (x, k) :: L.drop p) := by
    rw [SetTable.toList_insertAt, T.list]
    simp [ents, List.map_take, List.map_drop]
  have hh : hashes KD (L.take p ++ (x, k) :: L.drop p) = (hashes KD L).take p ++ KD.hash k :: (hashes KD L).drop p := by simp [hashes, List.map_take, List.map_drop]
  rw [← hh] at u3
  have once1 : ((L.take p ++ (x, k) :: L.drop p).map (·.2)).Nodup := (perm.map (·.2)).nodup_iff.mpr (List.nodup_cons.mpr ⟨hm, T.once⟩)
  have len1 : (L.take p ++ (x, k) :: L.drop p).length = L.length + 1 := perm.length_eq
  revert l1 u3 once1 len1 perm
  generalize L.take p ++ (x, k) :: L.drop p = L1
  generalize SetTable.insertAt es p (KD.hash k, Value.ref x) = es1
  intro u3 perm l1 once1 len1
  have n1 := ents_len l1
  refine wpAny_bind (wpAny_storeSet_of ho hd ?_ (by rw [n1, len1, sizeLine_eq]; omega))
  have same : Heap.SameBut a s.heap (s.heap.update a (Obj.putSet es1 t1)) := Heap.SameBut.update ..
  have ho1 := store_at (es' := es1) (t' := t1) ho hd
  revert same ho1
  generalize s.heap.update a (Obj.putSet es1 t1) = h1
  intro same ho1
  have keys1 : ∀ e ∈ L1, KD.is h1 e.2 e.1 := fun e he => by
    rcases List.mem_cons.mp (perm.mem_iff.mp he) with rfl | he
    · exact ft.besides ho hd same hx
    · exact ft.besides ho hd same (T.keys e he)
  have ldg1 : w.params.followText "set-order" = true ∨ t1.led = true := by rw [u5]; exact T.ldg
  by_cases full : t1.tooFull = true
  · have hfull : (L.length + 1) * 5 ≥ t.mask * 3 := by
      have := full
      simp only [SetTable.tooFull, decide_eq_true_eq] at this
      rw [u9, hashes_len, u4] at this
      exact this
    have place1 : t1.place.size = es1.size := by
      have := u3.sz
      rw [hashes_len] at this
      rw [this, n1]
    have go : ∀ M, SetTable.sizeAbove (SetTable.grown (L.length + 1)) - 1 = M → MaskB M → SetTable.sizeAbove (SetTable.grown (L.length + 1)) ≤ 512 → (L.length + 1) * 5 < M * 3 → es1.size ≤ t1.mask →
        wpAny (model P w) A (setRelay a (SetTable.grown (L.length + 1))) (fun _ s' => wpAny (model P w) A (pure true) Q E s') E { s with heap := h1 } := fun M z1 z2 z3 z4 z5 =>
      relay (s := { s with heap := h1 }) ft ho1 ⟨hex.1, hex.2.1, hex.2.2⟩ rfl l1 place1 u3.dm z5 once1 keys1 up ldg1 z1 z2 z3 (by rw [len1]; exact z4) fun h2 L2 es2 ep2 t2 same2 T2 perm2 =>
        wpAny_pure (q true h2 L2 es2 ep2 t2 (same.trans same2) T2 (fun z => absurd z hm) fun _ => perm2.trans perm)
    first
      | (refine wpAny_bind ?_; refine wp_if_pos (by simp [full]) ?_)
      | (refine wp_if_pos (by simp [full]) ?_; refine wpAny_bind ?_)
    rw [hlen]
    have which : (t.mask = 7 ∧ L.length = 4) ∨ (t.mask = 31 ∧ L.length = 18) ∨ (t.mask = 127 ∧ L.length = 76) := by
      rcases T.table.mok.one with e | e | e | e <;> rw [e] at hsp hfull <;> omega
    rcases which with ⟨e1, e2⟩ | ⟨e1, e2⟩ | ⟨e1, e2⟩
    · exact go 31 (by rw [e2, size_20]) (.small (.inr (.inl rfl))) (by rw [e2, size_20]; decide) (by omega) (by rw [n1, len1, u4]; omega)
    · exact go 127 (by rw [e2, size_76]) (.small (.inr (.inr rfl))) (by rw [e2, size_76]; decide) (by omega) (by rw [n1, len1, u4]; omega)
    · exact go 511 (by rw [e2, size_511]) big511 (by rw [e2, size_511]; decide) (by omega) (by rw [n1, len1, u4]; omega)
  · have room1 : L1.length * 5 < t1.mask * 3 := by
      have := full
      simp only [SetTable.tooFull, decide_eq_true_eq] at this
      rw [u9, hashes_len] at this
      omega
    refine wp_if_neg (by simp [full]) ?_
    refine wpAny_pure (q true h1 L1 es1 (ep + 1) t1 same { obj := ⟨_, ho1, ⟨hex.1, hex.2.1, hex.2.2⟩, rfl⟩, list := l1, table := u3, once := once1, keys := keys1, pln := up, ldg := ldg1, space := room1 } (fun z => absurd z hm) fun _ => perm)
end
end NS

set_option maxHeartbeats 4000000
namespace NS
open PySem PySem.Spec PyProof.Rows L2
/-- at most 306 different keys -/
def Few {κ : Type} (ks : List κ) : Prop := ∀ l : List κ, l.Nodup → (∀ k ∈ l, k ∈ ks) → l.length ≤ 306
/-- what a set holds that was given the keys of some items -/
structure Holds {κ : Type} (its L : List (Addr × κ)) : Prop where
  sub : ∀ e ∈ L, e ∈ its
  all : ∀ e ∈ its, e.2 ∈ L.map (·.2)
theorem Holds.old {κ : Type} {its L : List (Addr × κ)} {e : Addr × κ} (g : Holds its L) (h : e.2 ∈ L.map (·.2)) : Holds (its ++ [e]) L where
  sub := fun u hu => List.mem_append_left _ (g.sub u hu)
  all := fun u hu => by
    rcases List.mem_append.mp hu with hu | hu
    · exact g.all u hu
    · rw [List.mem_singleton.mp hu]; exact h
theorem Holds.new {κ : Type} {its L L' : List (Addr × κ)} {e : Addr × κ} (g : Holds its L) (h : L'.Perm (e :: L)) : Holds (its ++ [e]) L' where
  sub := fun u hu => by
    rcases List.mem_cons.mp (h.mem_iff.mp hu) with rfl | hu
    · exact List.mem_append_right _ List.mem_cons_self
    · exact List.mem_append_left _ (g.sub u hu)
  all := fun u hu => by
    refine (h.map (·.2)).mem_iff.mpr ?_
    rcases List.mem_append.mp hu with hu | hu
    · exact List.mem_cons_of_mem _ (g.all u hu)
    · rw [List.mem_singleton.mp hu]; exact List.mem_cons_self
section
variable {P : Program} {w : World} {κ : Type} [DecidableEq κ] {KD : HeapKind P w κ} {A : Around} {E : Value → Shared → Prop} {s : Shared}
/-- the loop of set.update, the keys one by one -/
theorem fill (ft : Fit KD) {I : Addr} {fp wr : List Addr} {G : Array GenState → Array GenState → Prop} {Pv : Nat → Value → Prop} {St : Nat → Shared → Prop} {R : Result → Shared → Prop} {its : List (Addr × κ)}
    (W : WalksS P w A.in1 I fp wr G its.length Pv St) {S : Addr} (away : S ∉ fp) (few : Few (its.map (·.2))) (item : ∀ i v, Pv i v → ∃ e, its[i]? = some e ∧ v = .ref e.1)
    {h0 : Heap} (keys : ∀ e ∈ its, KD.is h0 e.2 e.1) (newS : h0.get? S = none) (newW : ∀ b ∈ wr, h0.get? b = none) (hr : KD.room A.in1) :
    ∀ (left i : Nat) (s : Shared), i + left = its.length → St i s → (∀ b o, h0.get? b = some o → s.heap.get? b = some o) → (∃ L es ep t, SetOf KD s.heap S L es ep t ∧ Holds (its.take i) L) →
      (∀ s' L es ep t, Moved (S :: wr) G s s' → SetOf KD s'.heap S L es ep t → Holds its L → (∀ b o, h0.get? b = some o → s'.heap.get? b = some o) → R (.ok (.ret .none)) s') →
      codeAny (model P w) A (.builtin "set.update.loop" ⟨[.ref S, .ref I], []⟩) R s := by
  have notW : S ∉ wr := fun h => away (W.sub _ h)
  have wider : ∀ b ∈ wr, b ∈ S :: wr := fun b hb => List.mem_cons_of_mem _ hb
  have stay : ∀ {u u' : Shared}, Moved wr G u u' → (∀ b o, h0.get? b = some o → u.heap.get? b = some o) → ∀ b o, h0.get? b = some o → u'.heap.get? b = some o := fun mv k b o e =>
    mv.heap b o (fun hb => by simp [newW b hb] at e) (k b o e)
  intro left
  induction left with
  | zero =>
    rintro i s hi st old ⟨L, es, ep, t, T, g⟩ fin
    have hi : i = its.length := hi
    subst hi
    rw [List.take_length] at g
    refine codeAny_builtin F.entry_set_update_loop ?_
    rw [Around.under_plainId F.plain_set_update_loop _]
    show wpAny _ A.in1 (pyNext (.ref I) >>= _) _ _ s
    refine wpAny_bind (W.done s _ _ st fun s' mv => ?_)
    have old' := stay mv old
    exact wpAny_pure (fin s' L es ep t (mv.mono wider) (T.later (fun o e => mv.heap S o notW e) fun e he => ft.later old' (keys e (g.sub e he))) g old')
  | succ left ih =>
    rintro i s hi st old ⟨L, es, ep, t, T, g⟩ fin
    have lt : i < its.length := by omega
    refine codeAny_builtin F.entry_set_update_loop ?_
    rw [Around.under_plainId F.plain_set_update_loop _]
    show wpAny _ A.in1 (pyNext (.ref I) >>= _) _ _ s
    refine wpAny_bind (W.item i s _ _ lt st fun v s' hv st' mv => ?_)
    obtain ⟨e, he, rfl⟩ := item i v hv
    have old' := stay mv old
    have inits : ∀ u ∈ L, u ∈ its := fun u hu => List.mem_of_mem_take (g.sub u hu)
    have T' : SetOf KD s'.heap S L es ep t := T.later (fun o q => mv.heap S o notW q) fun u hu => ft.later old' (keys u (inits u hu))
    have hx : KD.is s'.heap e.2 e.1 := ft.later old' (keys e (List.mem_of_getElem? he))
    have next : its.take (i + 1) = its.take i ++ [e] := by rw [List.take_succ, he]; rfl
    show wpAny _ A.in1 (holding [Value.ref e.1] (setAdd S (.ref e.1)) >>= _) _ _ s'
    unfold setAdd
    refine wpAny_bind (wpAny_holding (wpAny_holding (wpAny_bind (KD.pyHash hr hx ?_))))
    refine add (s := { s' with toks := s'.toks + KD.draws e.2 }) ft T' hx hr (fun hn => ?_) fun b h' L' es' ep' t' same T2 c1 c2 => ?_
    · refine few (e.2 :: L.map (·.2)) (List.nodup_cons.mpr ⟨hn, T.once⟩) (fun k hk => ?_) |> fun z => by simpa using z
      rcases List.mem_cons.mp hk with rfl | hk
      · exact List.mem_map.mpr ⟨e, List.mem_of_getElem? he, rfl⟩
      · obtain ⟨u, hu, rfl⟩ := List.mem_map.mp hk
        exact List.mem_map.mpr ⟨u, inits u hu, rfl⟩
    · have g' : Holds (its.take (i + 1)) L' := by
        rw [next]
        rcases Decidable.em (e.2 ∈ L.map (·.2)) with c | c
        · rw [c1 c]; exact g.old c
        · exact g.new (c2 c)
      have old2 : ∀ b o, h0.get? b = some o → h'.get? b = some o := fun b o q => (same.2 b (by rintro rfl; simp [newS] at q)).trans (old' b o q)
      refine wpAny_pure ⟨plainId_quiet F.plain_set_update_loop _, ih (i + 1) _ (by omega) (W.frame _ s' _ _ st' (Nat.le_add_right _ _) fun b hb o q => ?_) old2 ⟨L', es', ep', t', T2, g'⟩ fun s'' L2 es2 ep2 t2 mv2 T3 g3 old3 => ?_⟩
      · exact (same.2 b (by rintro rfl; exact away hb)).trans q
      · refine fin s'' L2 es2 ep2 t2 (Moved.trans W.gtrans ((mv.mono wider).then_heap (Nat.le_add_right _ _) fun b o hb q => ?_) mv2) T3 g3 old3
        exact (same.2 b (by rintro rfl; exact hb List.mem_cons_self)).trans q
end
end NS

set_option maxHeartbeats 4000000
namespace NS
open PySem PySem.Spec PyProof.Rows L2
section
variable {P : Program} {w : World} {κ : Type} [DecidableEq κ] {KD : HeapKind P w κ} {A : Around} {E : Value → Shared → Prop} {s : Shared}
theorem none_from {h : Heap} {b : Addr} (hb : h.objs.size ≤ b) : h.get? b = none := by
  cases e : h.get? b with
  | none => rfl
  | some o => exact absurd (Nat.lt_of_lt_of_le (Heap.lt_size e) hb) (Nat.lt_irrefl _)
/-- what set(xs) leaves -/
def Made (KD : HeapKind P w κ) (s : Shared) (its : List (Addr × κ)) (s' : Shared) : Prop :=
  ∃ (h' : Heap) (tk : Nat) (L : List (Addr × κ)) (es : Array (Int × Value)) (ep : Nat) (t : SetTable), s' = { s with heap := h', toks := tk } ∧ SetOf KD h' s.heap.objs.size L es ep t ∧ Holds its L ∧ (∀ b o, s.heap.get? b = some o → h'.get? b = some o)
set_option maxHeartbeats 8000000 in
/-- set(xs) of a list of keys -/
theorem call_set (ft : Fit KD) {l : Addr} {items : Array Value} {its : List (Addr × κ)} {Q : Value → Shared → Prop} (hh : A.handled = none) (hl : s.heap.IsList l items) (hi : items.toList = its.map fun e => Value.ref e.1)
    (keys : ∀ e ∈ its, KD.is s.heap e.2 e.1) (few : Few (its.map (·.2))) (hr : ∀ B : Around, B.units ≤ A.units + 3 → KD.room B) (q : ∀ s', Made KD s its s' → Q (.ref s.heap.objs.size) s') :
    wpAny (model P w) A (call (.type "set") [.ref l]) Q E s := by
  have count : items.size = its.length := by
    have := congrArg List.length hi
    simpa using this
  obtain ⟨c, tl, hmro⟩ := F.called_set.mro
  have hmade := F.called_set.made
  have hsub := F.called_set.sub
  have hnt := F.called_set.notType
  have hcc := F.called_set.canCreate
  have htc := F.typeCall_set_1 (.ref l)
  refine wpAny_call (codeAny_of_tree ?_)
  show wpAny _ _ (callAny (.type "set") _) _ _ _
  refine wpAny_pure ⟨Code.quiet_builtin _ (by decide +kernel), codeAny_builtin F.entry_type_call ?_⟩
  rw [Around.under_plain (weight_type_call_type "set" [.ref l] []) rfl]
  repeat (any_goals (first | assumption | wp_step))
  refine codeAny_mono (code_set_led1 (.ref l) (E := E) (Q₁ := fun x u => x = .ref s.heap.objs.size ∧ u = { s with heap := s.heap.push (blankO w) }) ⟨rfl, rfl⟩) fun r u hu => ?_
  rcases r with _ | fl
  · exact hu
  cases fl with
  | ret x =>
    obtain ⟨rfl, rfl⟩ := hu
    have getS : (s.heap.push (blankO w)).get? s.heap.objs.size = some (blankO w) := Heap.get?_push_size _ rfl
    have isSet : Shared.TypeIs { s with heap := s.heap.push (blankO w) } (.ref s.heap.objs.size) "set" := ⟨_, getS, rfl⟩
    have hlook := F.called_set.init.lookup
    have hbind := F.called_set.init.bind (.ref s.heap.objs.size)
    repeat (any_goals (first | assumption | wp_step))
    refine codeAny_mono (codeAny_call_builtin (R := wants (fun r u => r = .none ∧ Made KD s its u) E) F.called_set.init.plain F.entry_set_init (check_set_init_1 isSet ?_)) fun r2 u2 hu2 => ?_
    · obtain ⟨⟨lc, ld, ldata, lslots⟩, gol, lcls, ln, ldat⟩ := hl
      simp only at lcls ldat
      subst lcls ldat
      have gl : (s.heap.push (blankO w)).get? l = some { cls := .type "list", dict := ld, data := .seq items ln, slots := lslots } := Heap.get?_push_of_some _ gol
      have isl : (s.heap.push (blankO w)).IsList l items := ⟨_, gl, rfl, ln, rfl⟩
      have sub1 := F.sub_list_set
      have sub2 := F.sub_list_frozenset
      have nd : (Value.type "list" == Value.type "dict") = false := by decide
      unfold Builtin.«set.__init__» noKeywords Builtin.Frozenset.updateFrom
      generalize hIter : pyIter = iter
      wp_walk
      subst hIter
      refine wpAny_pyIter_list isl (wpAny_bind (wpAny_runValue ?_))
      have lS : l < s.heap.objs.size := Heap.lt_size gol
      have size1 : (s.heap.push (blankO w)).objs.size = s.heap.objs.size + 1 := Heap.size_push ..
      have lI : l ≠ (s.heap.push (blankO w)).objs.size := by rw [size1]; exact Nat.ne_of_lt (Nat.lt_succ_of_lt lS)
      have hS2 : ((s.heap.push (blankO w)).push { cls := .type "list_iterator", data := .fields #[.ref l, .int 0 0] }).get? s.heap.objs.size = some (blankO w) := Heap.get?_push_of_some _ getS
      have walk : Walks P w A.in1.in1.in1 (s.heap.push (blankO w)).objs.size [(s.heap.push (blankO w)).objs.size, l] [(s.heap.push (blankO w)).objs.size] items.size (fun i v => items[i]? = some v) (fun i h => h.IsListIter (s.heap.push (blankO w)).objs.size l i ∧ h.IsList l items) := Walks.list (by simp [hh]) _ l lI items
      rw [count] at walk
      refine fill ft walk.toS (S := s.heap.objs.size) ?_ few (fun i v hv => ?_) (h0 := s.heap) keys (none_from (Nat.le_refl _)) (fun b hb => ?_) (hr _ (by simp [Around.in1])) its.length 0 _ (Nat.zero_add _) ?_ ?_ ?_ ?_
      · rw [size1]
        simp only [List.mem_cons, List.not_mem_nil, or_false, not_or]
        exact ⟨Nat.ne_of_lt (Nat.lt_succ_self _), Nat.ne_of_gt lS⟩
      · have : items.toList[i]? = some v := by rw [Array.getElem?_toList]; exact hv
        rw [hi, List.getElem?_map] at this
        obtain ⟨e, h1, h2⟩ := Option.map_eq_some_iff.mp this
        exact ⟨e, h1, h2.symm⟩
      · rw [List.mem_singleton.mp hb, size1]
        exact none_from (Nat.le_succ _)
      · exact ⟨⟨_, Heap.get?_push_size _ rfl, rfl, rfl⟩, isl.push _⟩
      · exact fun b o e => Heap.get?_push_of_some _ (Heap.get?_push_of_some _ e)
      · exact ⟨[], #[], 0, _, SetOf.blank hS2, ⟨fun _ h => (nomatch h), fun _ h => by simp at h⟩⟩
      · intro s' L es ep t mv T g old
        have e1 : s'.gens = s.gens := mv.gens
        have e2 : s'.drawn = s.drawn := mv.drawn
        have e3 : s'.os = s.os := mv.os
        refine wpAny_pure ?_
        show wpAny _ _ (ret Value.none) _ _ _
        refine wpAny_pure ⟨rfl, s'.heap, s'.toks, L, es, ep, t, ?_, T, g, old⟩
        rw [← e1, ← e2, ← e3]
    · rcases r2 with _ | fl2
      · exact hu2
      cases fl2 with
      | ret y =>
        obtain ⟨rfl, m⟩ := hu2
        repeat (any_goals (first | assumption | wp_step))
        exact q _ m
      | _ => exact hu2.elim
  | _ => exact hu.elim
end
end NS

set_option maxHeartbeats 4000000
namespace NS
open PySem PySem.Spec PyProof.Rows L2 DL
/-! ### keys and data -/
mutual
theorem data_of_key : ∀ (d : PyData) (k : NestedKey), DL.keyOf d = some k → d = k.data
  | .none, _, h => by cases h; rfl
  | .bool _, _, h => by cases h
  | .int _, _, h => by cases h; rfl
  | .str _, _, h => by cases h; rfl
  | .list _, _, h => by cases h
  | .dict _, _, h => by cases h
  | .tuple ds, _, h => by
    obtain ⟨ks, h1, rfl⟩ := Option.map_eq_some_iff.mp h
    rw [NestedKey.data, ← datas_of_keys ds ks h1]
theorem datas_of_keys : ∀ (ds : List PyData) (ks : List NestedKey), keysOf ds = some ks → ds = NestedKey.datas ks
  | [], _, h => by cases h; rfl
  | d :: ds, ks, h => by
    unfold keysOf at h
    split at h
    · rename_i k ks' e1 e2
      cases h
      rw [NestedKey.datas, ← data_of_key d k e1, ← datas_of_keys ds ks' e2]
    · cases h
end
/-! ### what a set asks of nested keys -/
section
variable {P : Program} {w : World} {A : Around} {E : Value → Shared → Prop} {s : Shared}
abbrev Is0 (P : Program) (w : World) (f : Nat → Value → Sem Bool) (b : Bool) (n : Nat) (s : Shared) (v : Value) : Prop := ∀ (A : Around) (E : Value → Shared → Prop) (Q : Bool → Shared → Prop), Q b s → wpAny (model P w) A (f n v) Q E s
theorem cls_tup {n : Nat} {a : Addr} {o : Obj} {vs : Array Value} {m : Nat} (ho : s.heap.get? a = some o) (hc : o.cls = .type "tuple") (hd : o.data = .seq vs m) (each : ∀ v ∈ vs.toList, Is0 P w ofAClassStatement false n s v) : Is0 P w ofAClassStatement false (n + 1) s (.ref a) := fun A E Q q => by
  have isT : s.TypeIs (.ref a) "tuple" := ⟨o, ho, hc⟩
  have tt : (("tuple" : String) == "tuple") = true := by decide
  unfold ofAClassStatement
  refine wpAny_bind (wpAny_typeOf isT ?_)
  dsimp only
  simp only [tt, if_true, Bool.not_true, Bool.false_eq_true, if_false]
  refine wpAny_bind (wpAny_pure ?_)
  simp only [Bool.not_true, Bool.false_eq_true, if_false]
  show wpAny _ _ (seqItems? (.ref a) >>= _) _ _ s
  refine wpAny_bind (wpAny_seqItems ho hd (wpAny_bind ?_))
  show wpAny _ _ (forIn vs _ _) _ _ s
  rw [← Array.forIn_toList]
  refine wpAny_forIn_list _ (fun left r u => (r.1 = none ∧ u = s) ∧ ∀ v ∈ left, Is0 P w ofAClassStatement false n s v) _ ?_ ?_ _ _ ⟨⟨rfl, rfl⟩, each⟩
  · rintro v left r u ⟨⟨r0, rfl⟩, all⟩
    refine wpAny_bind (all v List.mem_cons_self _ _ _ ?_)
    simp only [Bool.false_eq_true, if_false]
    exact wpAny_pure ⟨⟨rfl, rfl⟩, fun z hz => all z (List.mem_cons_of_mem _ hz)⟩
  · rintro ⟨o1, z⟩ u ⟨⟨r0, rfl⟩, _⟩
    have : o1 = none := r0
    subst this
    exact wpAny_pure q
theorem hash_tup {n : Nat} {a : Addr} {o : Obj} {vs : Array Value} {m : Nat} (ho : s.heap.get? a = some o) (hc : o.cls = .type "tuple") (hd : o.data = .seq vs m) (each : ∀ v ∈ vs.toList, Is0 P w hashByValue true n s v) : Is0 P w hashByValue true (n + 1) s (.ref a) := fun A E Q q => by
  have isT : s.TypeIs (.ref a) "tuple" := ⟨o, ho, hc⟩
  unfold hashByValue
  refine wpAny_bind (wpAny_specialOf isT F.slot_tuple_hash.lookup ?_)
  show wpAny _ _ (seqItems? (.ref a) >>= _) _ _ s
  refine wpAny_bind (wpAny_seqItems ho hd (wpAny_bind ?_))
  show wpAny _ _ (forIn vs _ _) _ _ s
  rw [← Array.forIn_toList]
  refine wpAny_forIn_list _ (fun left r u => (r.1 = none ∧ u = s) ∧ ∀ v ∈ left, Is0 P w hashByValue true n s v) _ ?_ ?_ _ _ ⟨⟨rfl, rfl⟩, each⟩
  · rintro v left r u ⟨⟨r0, rfl⟩, all⟩
    refine wpAny_bind (all v List.mem_cons_self _ _ _ ?_)
    simp only [Bool.not_true, Bool.false_eq_true, if_false]
    exact wpAny_pure ⟨⟨rfl, rfl⟩, fun z hz => all z (List.mem_cons_of_mem _ hz)⟩
  · rintro ⟨o1, z⟩ u ⟨⟨r0, rfl⟩, _⟩
    have : o1 = none := r0
    subst this
    exact wpAny_pure q
mutual
/-- whole numbers alone: a text's hash is not by value -/
def num : NestedKey → Bool
  | .none => true
  | .num _ => true
  | .text _ => false
  | .tup ks => nums ks
def nums : List NestedKey → Bool
  | [] => true
  | k :: ks => num k && nums ks
end
mutual
theorem cls_key : ∀ (k : NestedKey) (v : Value) (n : Nat), NestedIs s.heap k v → k.depth ≤ n → num k = true → Is0 P w ofAClassStatement false n s v ∧ Is0 P w hashByValue true n s v
  | .none, _, n, x, _, _ => by cases x; refine ⟨fun A E Q q => ?_, fun A E Q q => ?_⟩ <;> (cases n <;> exact wpAny_pure q)
  | .num i, _, n, x, _, _ => by cases x <;> (refine ⟨fun A E Q q => ?_, fun A E Q q => ?_⟩ <;> (cases n <;> exact wpAny_pure q))
  | .text y, _, n, x, _, h => by cases h
  | .tup ks, _, n, x, hn, hm => by
    cases x with
    | tup hg hc hd hk =>
      simp only [NestedKey.depth] at hn
      cases n with
      | zero => omega
      | succ n =>
        have each := cls_keys ks _ n hk (by omega) hm
        exact ⟨cls_tup hg hc hd fun v hv => (each v hv).1, hash_tup hg hc hd fun v hv => (each v hv).2⟩
theorem cls_keys : ∀ (ks : List NestedKey) (vs : List Value) (n : Nat), NestedAll s.heap ks vs → NestedKey.depthAll ks ≤ n → nums ks = true → ∀ v ∈ vs, Is0 P w ofAClassStatement false n s v ∧ Is0 P w hashByValue true n s v
  | [], _, n, x, _, _, v, hv => by cases x; cases hv
  | k :: ks, _, n, x, hn, hm, v, hv => by
    cases x with
    | cons x1 x2 =>
      simp only [NestedKey.depthAll] at hn
      simp only [nums, Bool.and_eq_true] at hm
      rcases List.mem_cons.mp hv with rfl | hv
      · exact cls_key k _ n x1 (by omega) hm.1
      · exact cls_keys ks _ n x2 (by omega) hm.2 v hv
end
end
/-- the kind of the keys of whole numbers -/
abbrev NumKey : Type := { k : NestedKey // num k = true ∧ k.depth ≤ 8 }
def numKind (P : Program) (w : World) : HeapKind P w NumKey where
  is := fun h k a => (nestedKind P w).is h k.1 a
  hash := fun k => (nestedKind P w).hash k.1
  draws := fun k => (nestedKind P w).draws k.1
  room := (nestedKind P w).room
  inj := fun hx hy => Subtype.ext ((nestedKind P w).inj hx hy)
  keeps := fun x ho hd hs => (nestedKind P w).keeps x ho hd hs
  pyHash := fun hr hk q => (nestedKind P w).pyHash hr hk q
  eqBool := fun {A E s x y a b Q} hr hx hy q => (nestedKind P w).eqBool hr hx hy (by
    have : decide (x = y) = decide (x.1 = y.1) := by simp only [Subtype.ext_iff]
    rw [← this]; exact q)
  quiet := fun hk q => (nestedKind P w).quiet hk q
theorem numFit {P : Program} {w : World} : Fit (numKind P w) where
  move := fun hk x => ⟨NestedIs.at hk _ _ x.1, x.2⟩
  noCls := fun {A E s k a Q} x q => (cls_key (P := P) (w := w) k.1 _ 8 x.1 x.2 k.2.1).1 A E Q q
  byVal := fun {A E s k a Q} x q => (cls_key (P := P) (w := w) k.1 _ 8 x.1 x.2 k.2.1).2 A E Q q
end NS

set_option maxHeartbeats 4000000
namespace NS
open PySem PySem.Spec PyProof.Rows L2 DL
mutual
theorem data_depth : ∀ k : NestedKey, k.data.depth ≤ k.depth
  | .none => Nat.zero_le _
  | .num _ => Nat.zero_le _
  | .text _ => Nat.zero_le _
  | .tup ks => by
    have := datas_depth ks
    simp only [NestedKey.data, PyData.depth, NestedKey.depth] at *
    omega
theorem datas_depth : ∀ ks : List NestedKey, PyData.depthAll (NestedKey.datas ks) ≤ NestedKey.depthAll ks
  | [] => Nat.zero_le _
  | k :: ks => by
    have := data_depth k
    have := datas_depth ks
    simp only [NestedKey.datas, PyData.depthAll, NestedKey.depthAll] at *
    omega
end
section
variable {P : Program} {w : World} {A : Around} {E : Value → Shared → Prop} {s : Shared}
/-- xs.sort() of a list whose items' data stand in the heap that the sorting reads -/
theorem sort_read {a : Addr} {vs : List Value} {n : Nat} {R : Value → PyData → Prop} {bs : List PyData} {Q : Value → Shared → Prop} (ho : s.heap.get? a = some (seqObj "list" vs.toArray n)) (e : W.EachIs R vs bs)
    (er : W.EachIs (fun v b => ∃ as, Reads (W.sortingHeap s.heap a vs) v b as) vs bs) (hal : W.AllAlike bs) (hk : W.Sortable bs) (hL : bs.length ≤ sizeLine) (hu : ∀ b ∈ bs, A.units + 1 + b.depth < cLine)
    (q : ∀ out, out.length = bs.length → W.EachIs R out (sortD bs) → Q .none { s with heap := sortedHeap s.heap a vs (List.toArray out) }) : wpAny (model P w) A (call (.builtin "list.sort") [.ref a]) Q E s := by
  have hal' : W.AllAlike (bs.map id) := by rw [List.map_id]; exact hal
  refine wpAny_call_entry slot_list_sort ⟨_, ho, rfl⟩ entry_list_sort (W.list_sort_vals (κ := W.dataKind (W.sortingHeap s.heap a vs) bs) ho (W.SortsAt.data (s := { s with heap := W.sortingHeap s.heap a vs }) er hal hk hu) (by rw [e.length]; exact hL) ⟨.none, rfl, ?_⟩) (args_list_sort _)
  refine q _ (by rw [W.sortVals_length false rfl]; exact e.length) ?_
  have := W.sortVals_data (h' := W.sortingHeap s.heap a vs) (R := R) (enc := id) false e er hal'
  rw [List.map_id] at this
  exact this
/-- sorted(set) -/
theorem sorted_set {a : Addr} {L : List (Addr × NumKey)} {es : Array (Int × Value)} {ep : Nat} {t : SetTable} {Q : Value → Shared → Prop} (T : SetOf (numKind P w) s.heap a L es ep t) (hh : A.handled = none) {R : Value → PyData → Prop}
    (rd : ∀ e ∈ L, (∃ as, Reads s.heap (.ref e.1) e.2.1.data as) ∧ R (.ref e.1) e.2.1.data) (hal : W.AllAlike (L.map fun e => e.2.1.data)) (hk : W.Sortable (L.map fun e => e.2.1.data)) (hu : A.units + 64 < cLine)
    (q : ∀ s' p (out : List Value) (c : Nat) (ds : List PyData), (∀ b o, s.heap.get? b = some o → s'.heap.get? b = some o) → s'.gens = s.gens → s'.os = s.os → s.heap.objs.size ≤ p → s'.heap.get? p = some (seqObj "list" out.toArray c) →
      ds.Perm (L.map fun e => e.2.1.data) → W.EachIs R out (sortD ds) → Q (.ref p) s') : wpAny (model P w) A (call (.builtin "sorted") [.ref a]) Q E s := by
  obtain ⟨o, ho, hex, hd⟩ := T.obj
  have hsz := ents_len T.list
  have hfew := T.few
  refine Calls.call_function_entry kind_sorted plain_sorted entry_sorted (args_sorted1 _) ?_
  unfold Builtin.«sorted»
  refine wpAny_bind (m := checkCount "sorted" 1 1 _) (wpAny_pure ?_)
  refine wpAny_bind (collect_set (A := A.in1) hh ⟨o, ho, hex.1, hd⟩ T.fit (by unfold scanBound; omega) T.table.ris T.ldg fun s1 vs keep more hg hos perm => ?_)
  have each : ∀ us : List Value, (∀ u ∈ us, u ∈ L.map fun e => Value.ref e.1) → ∃ L1 : List (Addr × NumKey), us = L1.map (fun e => Value.ref e.1) ∧ ∀ e ∈ L1, e ∈ L := by
    intro us
    induction us with
    | nil => exact fun _ => ⟨[], rfl, fun _ h => (nomatch h)⟩
    | cons u us ih =>
      intro hm
      obtain ⟨e, he, rfl⟩ := List.mem_map.mp (hm _ List.mem_cons_self)
      obtain ⟨L1, e1, e2⟩ := ih fun z hz => hm z (List.mem_cons_of_mem _ hz)
      exact ⟨e :: L1, by rw [e1]; rfl, fun z hz => by
        rcases List.mem_cons.mp hz with rfl | hz
        · exact he
        · exact e2 z hz⟩
  have vals : es.toList.map (·.2) = L.map fun e => Value.ref e.1 := by rw [T.list, ents, List.map_map]; rfl
  rw [vals] at perm
  obtain ⟨L1, rfl, hsub⟩ := each vs fun u hu => perm.mem_iff.mp hu
  have one : ∀ e ∈ L, ∀ e' ∈ L, e.1 = e'.1 → e = e' := fun e he e' he' h => by
    have k1 := T.keys e he
    rw [h] at k1
    exact Prod.ext h ((numKind P w).inj k1 (T.keys e' he'))
  have nodL : L.Nodup := List.Pairwise.of_map (fun x : Addr × NumKey => x.2) (fun a b h e => h (congrArg _ e)) T.once
  have permL : L1.Perm L := by
    have nodR : (L.map fun e => Value.ref e.1).Nodup := List.pairwise_map.mpr (nodL.imp_of_mem fun {e e'} he he' ne h => ne (one e he e' he' (by injection h)))
    have nod1 : L1.Nodup := List.Pairwise.of_map (fun e : Addr × NumKey => Value.ref e.1) (fun a b h e => h (congrArg (fun e : Addr × NumKey => Value.ref e.1) e)) (perm.nodup_iff.mpr nodR)
    refine (List.perm_ext_iff_of_nodup nod1 nodL).mpr fun e => ⟨hsub e, fun he => ?_⟩
    obtain ⟨e', he', h⟩ := List.mem_map.mp (perm.mem_iff.mpr (List.mem_map.mpr ⟨e, he, rfl⟩))
    injection h with h
    exact one e' (hsub e' he') e he h ▸ he'
  have permD : (L1.map fun e => e.2.1.data).Perm (L.map fun e => e.2.1.data) := permL.map _
  have len1 : L1.length ≤ 306 := by rw [permL.length_eq]; exact hfew
  refine wpAny_bind (wpAny_newList ?_ (by rw [List.length_map, sizeLine_eq]; omega))
  have newL : (s1.heap.push (seqObj "list" (L1.map fun e => Value.ref e.1).toArray 0)).get? s1.heap.objs.size = some (seqObj "list" (L1.map fun e => Value.ref e.1).toArray 0) := Heap.get?_push_size _ rfl
  have eachOf : ∀ (G : Value → PyData → Prop) (M : List (Addr × NumKey)), (∀ e ∈ M, G (.ref e.1) e.2.1.data) → W.EachIs G (M.map fun e => Value.ref e.1) (M.map fun e => e.2.1.data) := fun G M => by
    induction M with
    | nil => exact fun _ => .nil
    | cons e M ih => exact fun h => .cons (h e List.mem_cons_self) (ih fun z hz => h z (List.mem_cons_of_mem _ hz))
  refine wpAny_bind (wpAny_holding (sort_read (s := { s1 with heap := s1.heap.push (seqObj "list" (L1.map fun e => Value.ref e.1).toArray 0) }) (R := R) (bs := L1.map fun e => e.2.1.data) newL (eachOf R L1 fun e he => (rd e (hsub e he)).2) (eachOf _ L1 fun e he => ?_) ?_ ?_ (by rw [List.length_map, sizeLine_eq]; omega) (fun b hb => ?_) fun out ho2 eo => ?_))
  · obtain ⟨⟨as, r⟩, _⟩ := rd e (hsub e he)
    refine ⟨as, PyProof.Rows.Reads.keeps (fun b u hb => ?_) r⟩
    have hb1 := keep b u hb
    exact W.sortingHeap_old (Nat.ne_of_lt (Heap.lt_size hb1)) (Heap.get?_push_of_some _ hb1)
  · exact fun d hd d' hd' => hal d (permD.mem_iff.mp hd) d' (permD.mem_iff.mp hd')
  · rcases hk with h | h
    · exact .inl fun d hd => h d (permD.mem_iff.mp hd)
    · exact .inr fun d hd => h d (permD.mem_iff.mp hd)
  · obtain ⟨e, he, rfl⟩ := List.mem_map.mp hb
    have := data_depth e.2.1
    have := e.2.2.2
    simp only [Around.in1, Around.under] at *
    omega
  · obtain ⟨c, hc⟩ := sortedHeap_at (vs := L1.map fun e => Value.ref e.1) (out := out.toArray) newL
    refine wpAny_pure ⟨_, rfl, q _ s1.heap.objs.size out c _ (fun b u hb => ?_) hg hos more hc permD eo⟩
    have hb1 := keep b u hb
    have lt := Heap.lt_size hb1
    show (sortedHeap (s1.heap.push _) s1.heap.objs.size _ out.toArray).get? b = some u
    rw [sortedHeap_old (Nat.ne_of_lt lt) (by rw [size_push']; exact Nat.lt_succ_of_lt lt)]
    exact Heap.get?_push_of_some _ hb1
end
end NS

set_option maxHeartbeats 4000000
namespace NS
open PySem PySem.Spec PyProof.Rows L2 DL
/-! ### each once -/
def dd {α : Type} [DecidableEq α] : List α → List α
  | [] => []
  | x :: xs => if x ∈ xs then dd xs else x :: dd xs
theorem mem_dd {α : Type} [DecidableEq α] {y : α} : ∀ {xs : List α}, y ∈ dd xs ↔ y ∈ xs
  | [] => Iff.rfl
  | x :: xs => by
    unfold dd
    split
    · rename_i h
      rw [mem_dd, List.mem_cons]
      exact ⟨.inr, fun e => e.elim (fun e => e ▸ h) id⟩
    · rw [List.mem_cons, List.mem_cons, mem_dd]
theorem nodup_dd {α : Type} [DecidableEq α] : ∀ xs : List α, (dd xs).Nodup
  | [] => List.Pairwise.nil
  | x :: xs => by
    unfold dd
    split
    · exact nodup_dd xs
    · rename_i h
      exact List.nodup_cons.mpr ⟨fun e => h (mem_dd.mp e), nodup_dd xs⟩
theorem dd_map {α β : Type} [DecidableEq α] [DecidableEq β] {f : α → β} (inj : ∀ a b, f a = f b → a = b) : ∀ xs : List α, dd (xs.map f) = (dd xs).map f
  | [] => rfl
  | x :: xs => by
    have : f x ∈ xs.map f ↔ x ∈ xs := ⟨fun h => by
      obtain ⟨y, hy, e⟩ := List.mem_map.mp h
      exact inj y x e ▸ hy, fun h => List.mem_map.mpr ⟨x, h, rfl⟩⟩
    rw [List.map_cons]
    unfold dd
    by_cases h : x ∈ xs
    · rw [if_pos h, if_pos (this.mpr h), dd_map inj]
    · rw [if_neg h, if_neg (fun e => h (this.mp e)), dd_map inj, List.map_cons]
/-- what has no more than another has, each once, is no longer -/
theorem short {α : Type} [DecidableEq α] : ∀ {l m : List α}, l.Nodup → (∀ x ∈ l, x ∈ m) → l.length ≤ m.length
  | [], _, _, _ => Nat.zero_le _
  | x :: l, m, hn, hs => by
    obtain ⟨h1, h2⟩ := List.nodup_cons.mp hn
    have hx := hs x List.mem_cons_self
    have := short (m := m.erase x) h2 fun y hy => (List.mem_erase_of_ne (show y ≠ x from fun e => h1 (e ▸ hy))).mpr (hs y (List.mem_cons_of_mem _ hy))
    rw [List.length_erase_of_mem hx] at this
    have := List.length_pos_of_mem hx
    rw [List.length_cons]
    omega
theorem few_of {α : Type} [DecidableEq α] {xs : List α} (h : (dd xs).length ≤ 306) : Few xs := fun l hn hs => Nat.le_trans (short hn fun x hx => mem_dd.mpr (hs x hx)) h
/-! ### a key is told by its marks -/
mutual
theorem toks_inj : ∀ (a b : NestedKey) (r r' : List (Int ⊕ List Nat)), W.alike a.data b.data = true → W.keyToks a.data ++ r = W.keyToks b.data ++ r' → a = b ∧ r = r'
  | .none, .none, r, r', _, h => ⟨rfl, h⟩
  | .num i, .num j, r, r', _, h => by
    have h : (Sum.inl i : Int ⊕ List Nat) :: r = .inl j :: r' := h
    injection h with h1 h2
    injection h1 with h1
    exact ⟨by rw [h1], h2⟩
  | .text x, .text y, r, r', _, h => by
    have h : (Sum.inr x.cps.toList : Int ⊕ List Nat) :: r = .inr y.cps.toList :: r' := h
    injection h with h1 h2
    injection h1 with h1
    exact ⟨by rw [W.str_of_cps h1], h2⟩
  | .tup xs, .tup ys, r, r', al, h => by
    obtain ⟨h1, h2⟩ := toksAll_inj xs ys r r' al h
    exact ⟨by rw [h1], h2⟩
  | .none, .num _, _, _, al, _ => by cases al
  | .none, .text _, _, _, al, _ => by cases al
  | .none, .tup _, _, _, al, _ => by cases al
  | .num _, .none, _, _, al, _ => by cases al
  | .num _, .text _, _, _, al, _ => by cases al
  | .num _, .tup _, _, _, al, _ => by cases al
  | .text _, .none, _, _, al, _ => by cases al
  | .text _, .num _, _, _, al, _ => by cases al
  | .text _, .tup _, _, _, al, _ => by cases al
  | .tup _, .none, _, _, al, _ => by cases al
  | .tup _, .num _, _, _, al, _ => by cases al
  | .tup _, .text _, _, _, al, _ => by cases al
theorem toksAll_inj : ∀ (xs ys : List NestedKey) (r r' : List (Int ⊕ List Nat)), W.alikeAll (NestedKey.datas xs) (NestedKey.datas ys) = true → W.keyToksAll (NestedKey.datas xs) ++ r = W.keyToksAll (NestedKey.datas ys) ++ r' → xs = ys ∧ r = r'
  | [], [], r, r', _, h => by
    have h : (Sum.inl 0 : Int ⊕ List Nat) :: r = .inl 0 :: r' := h
    injection h with _ h2
    exact ⟨rfl, h2⟩
  | [], y :: ys, r, r', _, h => by
    have h : (Sum.inl 0 : Int ⊕ List Nat) :: r = .inl 1 :: _ := h
    injection h with h1 _
    injection h1 with h1
    cases h1
  | x :: xs, [], r, r', _, h => by
    have h : (Sum.inl 1 : Int ⊕ List Nat) :: _ = .inl 0 :: r' := h
    injection h with h1 _
    injection h1 with h1
    cases h1
  | x :: xs, y :: ys, r, r', al, h => by
    have al : (W.alike x.data y.data && W.alikeAll (NestedKey.datas xs) (NestedKey.datas ys)) = true := al
    rw [Bool.and_eq_true] at al
    have h : (Sum.inl 1 : Int ⊕ List Nat) :: ((W.keyToks x.data ++ W.keyToksAll (NestedKey.datas xs)) ++ r) = .inl 1 :: ((W.keyToks y.data ++ W.keyToksAll (NestedKey.datas ys)) ++ r') := h
    injection h with _ h
    rw [List.append_assoc, List.append_assoc] at h
    obtain ⟨h1, h2⟩ := toks_inj x y _ _ al.1 h
    obtain ⟨h3, h4⟩ := toksAll_inj xs ys _ _ al.2 h2
    exact ⟨by rw [h1, h3], h4⟩
end
theorem key_of_data {a b : NestedKey} (al : W.alike a.data b.data = true) (h1 : W.dataLt a.data b.data = false) (h2 : W.dataLt b.data a.data = false) : a = b := by
  have := PyProof.Rows.lex_total (O := itemOrd) _ _ h1 h2
  exact (toks_inj a b [] [] al (by rw [this])).1
theorem sortD_up (xs : List PyData) : (sortD xs).Pairwise fun a b => W.dataLt b a = false := by
  have := List.pairwise_mergeSort (le := fun a b : PyData => !W.dataLt b a) (fun a b c h1 h2 => by
    simp only [Bool.not_eq_true'] at *
    cases h : W.dataLt c a with
    | false => rfl
    | true =>
      rcases (listOrd itemOrd).negTrans (W.keyToks c) (W.keyToks b) (W.keyToks a) h with z | z
      · exact absurd z (by rw [show (listOrd itemOrd).blt (W.keyToks c) (W.keyToks b) = false from h2]; decide)
      · exact absurd z (by rw [show (listOrd itemOrd).blt (W.keyToks b) (W.keyToks a) = false from h1]; decide)) (fun a b => by
    cases h : W.dataLt b a with
    | false => rfl
    | true =>
      cases h' : W.dataLt a b with
      | false => rfl
      | true => exact absurd (PyProof.Rows.lex_trans (O := itemOrd) _ _ _ h h') (by rw [PyProof.Rows.lex_irrefl]; decide)) xs
  exact this.imp fun {a b} h => by simpa using h
theorem sortD_perm {as bs : List NestedKey} (hp : as.Perm bs) (hal : W.AllAlike (as.map NestedKey.data)) : sortD (as.map NestedKey.data) = sortD (bs.map NestedKey.data) := by
  have p1 : (sortD (as.map NestedKey.data)).Perm (as.map NestedKey.data) := List.mergeSort_perm _ _
  have p2 : (sortD (bs.map NestedKey.data)).Perm (bs.map NestedKey.data) := List.mergeSort_perm _ _
  refine List.Perm.eq_of_pairwise (le := fun a b => W.dataLt b a = false) (fun a b ha hb h h' => ?_) (sortD_up _) (sortD_up _) (p1.trans ((hp.map _).trans p2.symm))
  have ha := p1.mem_iff.mp ha
  have hb := (hp.map NestedKey.data).mem_iff.mpr (p2.mem_iff.mp hb)
  have al := hal a ha b hb
  obtain ⟨x, _, rfl⟩ := List.mem_map.mp ha
  obtain ⟨y, _, rfl⟩ := List.mem_map.mp hb
  rw [key_of_data al h' h]
end NS

set_option maxHeartbeats 4000000
namespace DL
open PySem PySem.Spec PyProof.Rows L2 NS
/-! ### sorted(set(xs)) -/
def isTup : NestedKey → Bool
  | .tup _ => true
  | _ => false
def setOk (ks : List NestedKey) : Bool := ks.all (fun k => isTup k && num k && decide (k.depth ≤ 8)) && decide ((dd ks).length ≤ 306) && sortOk ((dd ks).map NestedKey.data)
def opSortSet : D → Option D
  | .dat (.list xs) => (keysOf xs).bind fun ks => if setOk ks = true then some (.dat (.list (sortD ((dd ks).map NestedKey.data)))) else none
  | _ => none
section
variable {X : Cx} {W : XK} {E : Ent} {pos p p2 : Pos}
theorem items_of {pins : List (Addr × Obj)} {s : Shared} {σ : L2.St} {H F : Hp} (I : Inv X pins σ H s) (sf : Same F H) : ∀ {ks : List NestedKey} {xs : List PyData} {ys : List V} {us : List Value}, keysOf xs = some ks → (∀ k ∈ ks, isTup k = true ∧ num k = true ∧ k.depth ≤ 8) → DpAll X.K F ys xs → Vals ys us →
    ∃ its : List (Addr × NumKey), us = its.map (fun e => Value.ref e.1) ∧ its.map (fun e => e.2.1) = ks ∧ ∀ e ∈ its, (numKind X.prog X.w).is s.heap e.2 e.1 ∧ Dp X.K F (.ref e.1) e.2.1.data
  | ks, [], _, _, h, _, .nil, .nil => by cases h; exact ⟨[], rfl, rfl, fun _ h => (nomatch h)⟩
  | ks, x :: xs, _, _, h, ok, .cons (v := y) hd hds, .cons ru rus => by
    unfold keysOf at h
    split at h
    · rename_i k ks' e1 e2
      cases h
      obtain ⟨its, h1, h2, h3⟩ := items_of I sf e2 (fun k hk => ok k (List.mem_cons_of_mem _ hk)) hds rus
      obtain ⟨t1, t2, t3⟩ := ok k List.mem_cons_self
      have hx := data_of_key x k e1
      subst hx
      cases k with
      | tup qs =>
        obtain ⟨a, zs, rfl, _, _⟩ := Dp.tup_inv hd
        have hr := Vals.ref1 (.cons ru .nil)
        cases hr
        refine ⟨(a, ⟨.tup qs, t2, t3⟩) :: its, by rw [h1]; rfl, by rw [← h2]; rfl, fun e he => ?_⟩
        rcases List.mem_cons.mp he with rfl | he
        · exact ⟨nk_is I e1 (hd.mono sf) t3, hd⟩
        · exact h3 e he
      | _ => cases t1
    · cases h
/-- what a set asks of its argument, told over data -/
def tSortSet (K : PySem.W.Frag) (ta : TE) : TE := fun σ H Q => ta σ H fun x H1 => ∃ (F : Hp) (xs : List PyData) (ks : List NestedKey), Same F H1 ∧ Dp K F x (.list xs) ∧ keysOf xs = some ks ∧ setOk ks = true ∧
  ∀ F' H' v, GrowP F H1 F' H' → Dp K F' v (.list (sortD ((dd ks).map NestedKey.data))) → Q v H'
theorem pe_sortSet {a : Expr} {ta : TE} {q : Pos} (hc : X.calm = true) (hu : X.A.units + 64 < cLine) (hg : Gl X "sorted") (hm : X.mg "sorted" = none) (hg2 : Gl X "set") (hm2 : X.mg "set" = none) (ha : PE X a ta)
    (na : starEach [a] X.env = (false, eval a X.env) :: starEach [] X.env := by rfl) : PE X (.Call (.Name "sorted" p) [.Call (.Name "set" p2) [a] [] q] [] pos) (tSortSet X.K ta) := by
  refine ⟨fun pins s σ H Q I h => ?_⟩
  refine Call_ (ld_blt I hg hm (show bootBuiltins "sorted" = some (.builtin "sorted") by decide +kernel) ?_)
  refine PyProof.Rows.callWith_builtin1 (PyProof.Rows.args_cons ?_ rfl) rfl rfl
  refine Call_ (ld_blt I hg2 hm2 PyProof.Rows.boot_set ?_)
  refine PyProof.Rows.callWith_type1 (PyProof.Rows.args_cons (thn (ha.run pins s σ H _ I h) fun v s1 ⟨x, H1, I1, r1, q1⟩ => PyProof.Rows.args_nil ?_) na) na rfl
  obtain ⟨F, xs, ks, sf, hd, hk, ok, q1⟩ := q1
  obtain ⟨l, ys, rfl, h5, h6⟩ := Dp.lst_inv hd
  cases r1
  obtain ⟨us, r, pl, hz⟩ := I1.list (sf.seq h5)
  have ok' := ok
  unfold setOk at ok'
  simp only [Bool.and_eq_true, List.all_eq_true, decide_eq_true_eq] at ok'
  obtain ⟨⟨o1, o2⟩, o3⟩ := ok'
  obtain ⟨z1, z2, z3, z4⟩ := sortOk_ok o3
  obtain ⟨its, i1, i2, i3⟩ := items_of I1 sf hk (fun k hk => ⟨(o1 k hk).1.1, (o1 k hk).1.2, (o1 k hk).2⟩) h6 r
  have once2 : ∀ L : List (Addr × NumKey), (L.map (·.2)).Nodup → (L.map fun e => e.2.1).Nodup := fun L hn => by
    have : (L.map fun e => e.2.1) = (L.map (·.2)).map Subtype.val := by rw [List.map_map]; rfl
    rw [this]
    exact List.pairwise_map.mpr (hn.imp fun {a b} ne e => ne (Subtype.ext e))
  have few : Few (its.map (·.2)) := fun l hn hs => by
    have hn' : (l.map Subtype.val).Nodup := List.pairwise_map.mpr (hn.imp fun {a b} ne e => ne (Subtype.ext e))
    have := short (m := dd ks) hn' fun k hk => by
      obtain ⟨u, hu, rfl⟩ := List.mem_map.mp hk
      obtain ⟨e, he, rfl⟩ := List.mem_map.mp (hs u hu)
      rw [mem_dd, ← i2]
      exact List.mem_map.mpr ⟨e, he, rfl⟩
    rw [List.length_map] at this
    omega
  refine call_set (KD := numKind X.prog X.w) numFit (its := its) (I1.ok.hd hc) pl.isList (by simpa using i1) (fun e he => (i3 e he).1) few (fun B hB => by show B.units + 8 < cLine; omega) fun s2 made => ?_
  obtain ⟨h', tk, L, es, ep, t, rfl, T, g, keep⟩ := made
  have I2 : Inv X pins σ H1 { s1 with heap := h', toks := tk } := I1.kept keep
  have permK : (L.map fun e => e.2.1).Perm (dd ks) := by
    refine (List.perm_ext_iff_of_nodup (once2 L T.once) (nodup_dd ks)).mpr fun k => ?_
    rw [mem_dd, ← i2]
    constructor
    · intro hk
      obtain ⟨e, he, rfl⟩ := List.mem_map.mp hk
      exact List.mem_map.mpr ⟨e, g.sub e he, rfl⟩
    · intro hk
      obtain ⟨e, he, rfl⟩ := List.mem_map.mp hk
      obtain ⟨e', he', h⟩ := List.mem_map.mp (g.all e he)
      exact List.mem_map.mpr ⟨e', he', by rw [h]⟩
  have datL : (L.map fun e => e.2.1.data) = (L.map fun e => e.2.1).map NestedKey.data := by rw [List.map_map]; rfl
  have permD : (L.map fun e => e.2.1.data).Perm ((dd ks).map NestedKey.data) := by rw [datL]; exact permK.map _
  refine PyProof.Rows.args_nil ?_
  refine sorted_set T (I2.ok.hd hc) (R := fun u b => ∃ v, RelV v u ∧ Dp X.K F v b) (fun e he => ?_) (fun d hd d' hd' => z3 d (permD.mem_iff.mp hd) d' (permD.mem_iff.mp hd')) ?_ hu fun s' p' out c ds keep2 hgens hos hp hout perm2 eo => ?_
  · have := (i3 e (g.sub e he)).2
    exact ⟨rd_reads I2 sf this (show RelV (.ref e.1) (Value.ref e.1) from rfl), ⟨.ref e.1, rfl, this⟩⟩
  · rcases z4 with h | h
    · exact .inl fun d hd => h d (permD.mem_iff.mp hd)
    · exact .inr fun d hd => h d (permD.mem_iff.mp hd)
  · have ds_eq : sortD ds = sortD ((dd ks).map NestedKey.data) := by
      have pe : ds.Perm ((dd ks).map NestedKey.data) := perm2.trans permD
      obtain ⟨as, rfl⟩ : ∃ as : List NestedKey, ds = as.map NestedKey.data := by
        have : ∀ l : List PyData, (∀ d ∈ l, ∃ k : NestedKey, d = k.data) → ∃ as : List NestedKey, l = as.map NestedKey.data := by
          intro l
          induction l with
          | nil => exact fun _ => ⟨[], rfl⟩
          | cons d l ih =>
            intro h
            obtain ⟨k, rfl⟩ := h d List.mem_cons_self
            obtain ⟨as, rfl⟩ := ih fun z hz => h z (List.mem_cons_of_mem _ hz)
            exact ⟨k :: as, rfl⟩
        refine this ds fun d hd => ?_
        obtain ⟨k, _, rfl⟩ := List.mem_map.mp (pe.mem_iff.mp hd)
        exact ⟨k, rfl⟩
      have p1 : (sortD (as.map NestedKey.data)).Perm (as.map NestedKey.data) := List.mergeSort_perm _ _
      have p2 : (sortD ((dd ks).map NestedKey.data)).Perm ((dd ks).map NestedKey.data) := List.mergeSort_perm _ _
      refine List.Perm.eq_of_pairwise (le := fun a b => W.dataLt b a = false) (fun a b ha hb h h' => ?_) (sortD_up _) (sortD_up _) (p1.trans (pe.trans p2.symm))
      have ha := pe.mem_iff.mp (p1.mem_iff.mp ha)
      have hb := p2.mem_iff.mp hb
      have al := z3 a ha b hb
      obtain ⟨x, _, rfl⟩ := List.mem_map.mp ha
      obtain ⟨y, _, rfl⟩ := List.mem_map.mp hb
      rw [key_of_data al h' h]
    rw [ds_eq] at eo
    obtain ⟨ws, w1, w2⟩ := of_each eo
    have hsame : ∀ b o, s1.heap.get? b = some o → s'.heap.get? b = some o := fun b o e => keep2 b o (keep b o e)
    have hf : H1 p' = none := I2.hok.fresh hp
    have hlen : ws.length ≤ sizeLine := by
      rw [w1.length]
      have : out.length = ((dd ks).map NestedKey.data).length := by rw [eo.length]; exact (List.mergeSort_perm _ _).length_eq
      rw [this, List.length_map, sizeLine_eq]; omega
    have J : Inv X pins σ (upd H1 p' (.lst ws)) s' := I2.call' (ch := []) hos (Un.laid keep2 hp hf) (I2.hok.laid keep2 hp ⟨hlen, out, c, w1, hout⟩) (by rw [hgens]; exact I2.bare) (fun _ h => (nomatch h))
    exact ⟨.ref p', _, J, rfl, q1 _ _ _ (.new sf hf) (Dp.newL sf hf w2)⟩
theorem pd_sortSet {a : Expr} {fa : En → M D} {q : Pos} (hc : X.calm = true) (hu : X.A.units + 64 < cLine) (hg : Gl X "sorted") (hm : X.mg "sorted" = none) (hg2 : Gl X "set") (hm2 : X.mg "set" = none) (ha : PD X W E a fa)
    (na : starEach [a] X.env = (false, eval a X.env) :: starEach [] X.env := by rfl) : PD X W E (.Call (.Name "sorted" p) [.Call (.Name "set" p2) [a] [] q] [] pos) (e1 opSortSet fa) := by
  refine PE.imp (pe_sortSet hc hu hg hm hg2 hm2 ha na) fun σ H Q hl => ?_
  obtain ⟨F, ρ, R, ok, run⟩ := hl
  refine ⟨F, ρ, R, ok, run.bind.imp fun d R1 F1 H1 g1 r1 h1 v rv => ?_⟩
  obtain ⟨z, e, h2⟩ := h1.lft
  unfold opSortSet at e
  split at e
  · rename_i xs
    obtain ⟨ks, e1, e2⟩ := Option.bind_eq_some_iff.mp e
    split at e2
    · rename_i hok
      cases e2
      exact ⟨F1, xs, ks, g1.fh, rv, e1, hok, fun F' H' v g hv => h2 F' H' g.g (g.row r1) v hv⟩
    · cases e2
  · cases e
end
end DL

set_option maxHeartbeats 4000000
namespace DL
open PySem PySem.Spec PyProof.Rows L2
/-! ### own lists and dicts in tests -/
section
variable {X : Cx} {W : XK} {E : Ent} {pos p : Pos}
/-- a op own -/
def eOwnR (r : D → D → Option D) (f : En → M D) (i : Nat) : En → M D := fun ρ => do
  let d ← f ρ
  match ρ[i]? with
  | some (.own o) => lft (r d (owD o))
  | _ => stk
/-- own op b -/
def eOwnL (r : D → D → Option D) (i : Nat) (f : En → M D) : En → M D := fun ρ => match ρ[i]? with
  | some (.own o) => do let d ← f ρ; lft (r (owD o) d)
  | _ => stk
theorem RD.bool {P : Program} {w : World} {K : PySem.W.Frag} {F : Hp} {v : V} {k : Bool} (h : RD P w K F v (dB k)) : v = .bl k := Dp.bl_inv h
theorem dB_rd {P : Program} {w : World} {K : PySem.W.Frag} (F : Hp) (k : Bool) : RD P w K F (.bl k) (dB k) := .bl k
theorem pdt_ownR {op : CmpOp} {r : D → D → Option D} {a : Expr} {x : Str} {fa : En → M D} (i : Nat) (hr : ∀ x y z, r x y = some z → ∃ k, z = dB k) (ho : DOp X (compareOp op) r) (ha : PD X W E a fa) (hv : PE X (.Name x p) (tVar i)) (hm : behindInMarks op (.Name x p) = false) :
    PDT X W E (.Compare a [op] [.Name x p] pos) (bE (eOwnR r fa i)) := by
  refine pdt_of (pt_cmpR ho ha hv hm) fun σ H Q hl => ?_
  obtain ⟨F, ρ, R, ok, run⟩ := hl
  refine ⟨F, ρ, R, ok, run.bind.imp fun d R1 F1 H1 g1 r1 h1 v rv => ?_⟩
  have ok1 := ok.grow g1 r1
  cases eq : ρ[i]? with
  | none => rw [eq] at h1; exact h1.elim
  | some sv =>
    rw [eq] at h1
    cases sv with
    | no => exact h1.elim
    | val d => exact h1.elim
    | own o =>
      obtain ⟨b, q1, q2, q3, q4, ow⟩ := ok1.sl i _ eq
      obtain ⟨z, e, h2⟩ := Run.lft h1
      obtain ⟨k, rfl⟩ := hr _ _ _ e
      obtain ⟨u, hu⟩ := ow.some
      have rd2 := own_rd q2 hu ow
      have sub1 : Same F1 (upd F1 b u) := fun c y e => by rw [upd_ne (ne_of_none e q2)]; exact e
      have sub2 : Same (upd F1 b u) H1 := fun c y e => by
        by_cases hc : c = b
        · subst hc; rw [upd_same] at e; cases e; exact hu
        · rw [upd_ne hc] at e; exact ok1.g.fh c y e
      refine ⟨.ref b, q1, upd F1 b u, d, owD o, dB k, sub2, rv.mono sub1, rd2, e, fun v' F' H' gp hv' => ?_⟩
      rw [RD.bool hv']
      have gp1 : GrowP F1 H1 F1 H' := ⟨Same.refl F1, (sub1.trans gp.ff).trans gp.fh, gp.hh, fun _ _ e => e⟩
      exact h2 F1 H' gp1.g (gp1.row r1) _ (dB_rd F1 k)
theorem pdt_ownL {op : CmpOp} {r : D → D → Option D} {b : Expr} {x : Str} {fb : En → M D} (i : Nat) (hr : ∀ x y z, r x y = some z → ∃ k, z = dB k) (ho : DOp X (compareOp op) r) (hv : PE X (.Name x p) (tVar i)) (hb : PD X W E b fb) (hm : behindInMarks op b = false) :
    PDT X W E (.Compare (.Name x p) [op] [b] pos) (bE (eOwnL r i fb)) := by
  refine pdt_of (pt_cmpR ho hv hb hm) fun σ H Q hl => ?_
  obtain ⟨F, ρ, R, ok, run⟩ := hl
  unfold eOwnL at run
  cases eq : ρ[i]? with
  | none => rw [eq] at run; exact run.elim
  | some sv =>
    rw [eq] at run
    cases sv with
    | no => exact run.elim
    | val d => exact run.elim
    | own o =>
      obtain ⟨b, q1, q2, q3, q4, ow⟩ := ok.sl i _ eq
      refine ⟨.ref b, q1, F, ρ, R, ok, run.bind.imp fun d R1 F1 H1 g1 r1 h1 v rv => ?_⟩
      have ok1 := ok.grow g1 r1
      obtain ⟨b', p1, p2, p3, p4, ow1⟩ := ok1.sl i _ eq
      rw [q1] at p1
      cases p1
      obtain ⟨z, e, h2⟩ := Run.lft h1
      obtain ⟨k, rfl⟩ := hr _ _ _ e
      obtain ⟨u, hu⟩ := ow1.some
      have rd2 := own_rd p2 hu ow1
      have sub1 : Same F1 (upd F1 b u) := fun c y e => by rw [upd_ne (ne_of_none e p2)]; exact e
      have sub2 : Same (upd F1 b u) H1 := fun c y e => by
        by_cases hc : c = b
        · subst hc; rw [upd_same] at e; cases e; exact hu
        · rw [upd_ne hc] at e; exact ok1.g.fh c y e
      refine ⟨upd F1 b u, owD o, d, dB k, sub2, rd2, rv.mono sub1, e, fun v' F' H' gp hv' => ?_⟩
      rw [RD.bool hv']
      have gp1 : GrowP F1 H1 F1 H' := ⟨Same.refl F1, (sub1.trans gp.ff).trans gp.fh, gp.hh, fun _ _ e => e⟩
      exact h2 F1 H' gp1.g (gp1.row r1) _ (dB_rd F1 k)
/-! ### own[k] = e, own a dict -/
/-- the pair put in: in its place, or last -/
def putD (kvs : List (PyData × PyData)) (k : NestedKey) (x y : PyData) : List (PyData × PyData) := if (dicAt kvs k).isSome = true then kvs.map fun p => if DL.keyOf p.1 = some k then (p.1, y) else p else kvs ++ [(x, y)]
def isTupD : PyData → Bool
  | .tuple _ => true
  | _ => false
def sDPut (i : Nat) (fk f : En → M D) : En → M Fl := fun ρ => do
  let d ← f ρ
  match d, ρ[i]? with
  | .dat y, some (.own (.dic kvs)) => do
    let k ← fk ρ
    match k with
    | .dat x => match DL.keyOf x with
      | some q => if isTupD x = true ∧ q.depth ≤ 8 ∧ kvs.length < SZ then pure (.nx (ρ.set i (.own (.dic (putD kvs q x y))))) else stk
      | none => stk
    | _ => stk
  | _, _ => stk
theorem ents_put {K : PySem.W.Frag} {F : Hp} {k : NestedKey} {x y : PyData} {a : Addr} {v : V} {u : Value} (hk : DL.keyOf x = some k) (h8 : k.depth ≤ 8) (ha : Dp K F (.ref a) x) (hv : Dp K F v y) (hu : RelV v u) {kvs : List (PyData × PyData)} {ents : List (NestedKey × Addr × Value)}
    (h : Paired (EntOk K F) kvs ents) : Paired (EntOk K F) (putD kvs k x y) (storedH ents k a u) := by
  unfold putD storedH
  rw [dicAt_isSome h]
  split
  · rename_i hc
    clear hc
    induction h with
    | nil => exact .nil
    | @cons p q ps qs h t ih =>
      refine .cons ?_ ih
      show EntOk K F (if DL.keyOf p.1 = some k then (p.1, y) else p) (if q.1 = k then (q.1, q.2.1, u) else q)
      by_cases e : q.1 = k
      · rw [if_pos (by rw [h.key, e]), if_pos e]
        exact ⟨h.key, h.dep, h.adr, ⟨v, hu, hv⟩⟩
      · rw [if_neg (fun z => e (by rw [h.key] at z; exact Option.some.inj z)), if_neg e]
        exact h
  · rename_i hc
    clear hc
    induction h with
    | nil => exact .cons ⟨hk, h8, ha, ⟨v, hu, hv⟩⟩ .nil
    | cons h t ih => exact .cons h ih
theorem keys_put {xs : List (NestedKey × Addr × Value)} {k : NestedKey} {a : Addr} {u : Value} (hn : (xs.map (·.1)).Nodup) : ((storedH xs k a u).map (·.1)).Nodup := by
  unfold storedH
  split
  · have : (xs.map (putAt k u)).map (·.1) = xs.map (·.1) := by
      rw [List.map_map]
      refine List.map_congr_left fun q _ => ?_
      show (putAt k u q).1 = q.1
      unfold putAt
      split <;> rfl
    rw [this]; exact hn
  · rename_i hc
    rw [List.map_append, List.map_cons, List.map_nil]
    refine List.nodup_append.mpr ⟨hn, List.nodup_cons.mpr ⟨by simp, List.nodup_nil⟩, fun x hx y hy e => ?_⟩
    rw [List.mem_singleton.mp hy] at e
    subst e
    obtain ⟨q, hq, hqk⟩ := List.mem_map.mp hx
    refine hc ?_
    unfold atKey
    rw [Option.isSome_map]
    exact List.find?_isSome.mpr ⟨q, hq, by simp [hqk]⟩
theorem dic_new {P : Program} {w : World} {h : Heap} {a : Addr} {ents : List (NestedKey × Addr × Value)} (d : h.DictOfH (nestedKind P w) a ents) : ∃ ep, ∀ H, ObjOk P w H h a (.ext (DicObj P w a ents ep)) := by
  obtain ⟨o, es, ep, e1, e2, e3, e4, _, _⟩ := d
  exact ⟨ep, fun H => ⟨⟨o, es, e1, e2, e3, e4⟩, ⟨o, e1⟩, fun h1 h2 ⟨o, es, e1, r⟩ k => ⟨o, es, k o e1, r⟩⟩⟩
def rDPut (P : Program) (w : World) (K : PySem.W.Frag) : TSet := fun o i v H Q => ∃ (a b : Addr) (F : Hp) (kvs : List (PyData × PyData)) (k : NestedKey) (x : PyData), o = .ref a ∧ i = .ref b ∧ Same F H ∧ DL.keyOf x = some k ∧ k.depth ≤ 8 ∧ Dp K F (.ref b) x ∧
  DicAt P w K F H a kvs ∧ ∀ ents, Paired (EntOk K F) kvs ents → (ents.map (·.1)).Nodup → ∀ u ep, RelV v u → Q (upd H a (.ext (DicObj P w a (storedH ents k b u) ep)))
theorem set_dput (hu : X.A.units + 64 < cLine) : PSet X (rDPut X.prog X.w X.K) := by
  intro pins s σ H o i v ov iv u Q I ro ri rv h
  obtain ⟨a, b, F, kvs, k, x, rfl, rfl, sf, hk, h8, hx, hd, q⟩ := h
  cases ro
  cases ri
  obtain ⟨z1, z2, ents, z3, z4⟩ := dic_raw I sf hd
  obtain ⟨o, ho⟩ : ∃ φ, H a = some (.ext φ) := let ⟨_, _, _, _, _, _, y⟩ := hd; ⟨_, y⟩
  refine wpAny_setItem_heap (hsz := by have := Paired.length z3; omega) (show (nestedKind X.prog X.w).room X.A.in1 from by show X.A.units + 1 + 8 < cLine; omega) (nk_is I hk (hx.mono sf) h8) z4 fun h' hm' same => ?_
  have there : ∃ o, h'.get? a = some o := let ⟨o, _, _, e1, _⟩ := hm'; ⟨o, e1⟩
  obtain ⟨_, _, _, _, _, _, _, _, nod⟩ := z4
  obtain ⟨ep, hnew⟩ := dic_new hm'
  exact ⟨_, I.write (x := a) (e := a) (o := .ext (DicObj X.prog X.w a (storedH ents k b u) ep)) (by rw [ho]; exact True.intro) (.inl rfl) (fun c o hc e => (same.2 c hc).trans e) there (hnew _), q ents z3 nod u ep rv⟩
theorem putD_len (kvs : List (PyData × PyData)) (k : NestedKey) (x y : PyData) : (putD kvs k x y).length ≤ kvs.length + 1 := by
  unfold putD
  split
  · rw [List.length_map]; omega
  · rw [List.length_append]; exact Nat.le_refl _
theorem pds_dput {x : Str} {pos' : Pos} {ix value : Expr} {fk f : En → M D} (hu : X.A.units + 64 < cLine) (i : Nat) (ho : PE X (.Name x p) (tVar i)) (hi : PD X W E ix fk) (hv : PD X W E value f) (hs : swapsWith value (some (.Subscript (.Name x p) ix pos')) pos.line X.env = pure false := by rfl) : PDS X W E (.Assign [.Subscript (.Name x p) ix pos'] value pos) (sDPut i fk f) := by
  refine PS.imp (ps_ixput (set_dput hu) ho hi hv hs) fun D₀ σ H hl => ?_
  obtain ⟨F, ρ, R, ok, run⟩ := hl
  refine ⟨F, ρ, R, ok, (run.bind ok).imp fun dv R1 F1 H1 g1 r1 q1 v rv => ?_⟩
  have ok1 := ok.grow g1 r1
  cases dv with
  | dat y =>
    cases eq : ρ[i]? with
    | none => rw [eq] at q1; exact q1.elim
    | some sv =>
      rw [eq] at q1
      cases sv with
      | no => exact q1.elim
      | val d => exact q1.elim
      | own o =>
        cases o with
        | lst ds => exact q1.elim
        | ids ds => exact q1.elim
        | dic kvs =>
          obtain ⟨a, h1, h2, h3, h4, h5⟩ := ok1.sl i _ eq
          refine ⟨.ref a, h1, F1, ρ, R1, ok1, (RunS.bind ok1 q1).imp fun dk R2 F2 H2 g2 r2 q2 vk rk => ?_⟩
          have ok2 := ok1.grow g2 r2
          obtain ⟨a', p1, p2, p3, p4, p5⟩ := ok2.sl i _ eq
          rw [h1] at p1
          cases p1
          cases dk with
          | dat z =>
            dsimp only at q2
            cases ek : DL.keyOf z with
            | none => rw [ek] at q2; exact q2.elim
            | some k =>
              rw [ek] at q2
              dsimp only at q2
              by_cases hz : isTupD z = true ∧ k.depth ≤ 8 ∧ kvs.length < SZ
              · rw [if_pos hz] at q2
                obtain ⟨t1, t2, t3⟩ := hz
                cases z with
                | tuple zs =>
                  obtain ⟨b, ys, rfl, _, _⟩ := Dp.tup_inv rk
                  refine ⟨a, b, F2, kvs, k, .tuple zs, rfl, rfl, ok2.g.fh, ek, t2, rk, p5, fun ents he hn u ep ru => ?_⟩
                  refine q2 σ F2 _ (Same.refl F2) (ok2.mut eq h1 ?_)
                  refine ⟨?_, p5.2.1, storedH ents k b u, ents_put ek t2 rk (rv.mono g2.ff) ru he, keys_put hn, ep, upd_same⟩
                  have := putD_len kvs k (.tuple zs) y
                  rw [← sz_eq]; omega
                | _ => cases t1
              · rw [if_neg hz] at q2; exact q2.elim
          | _ => exact q2.elim
  | _ => exact q1.elim
end
end DL

set_option maxHeartbeats 4000000
namespace DL
open PySem PySem.Spec PyProof.Rows L2
section
variable {X : Cx} {W : XK} {E : Ent} {pos p : Pos}
/-! ### displays of dicts -/
def nDic0 : En → M OW := fun _ => pure (.dic [])
theorem dic0_at {P : Program} {w : World} {K : PySem.W.Frag} {F H : Hp} {a : Addr} {ep : Nat} (hs : (a == sysModules) = false) (h : H a = some (.ext (DicObj P w a [] ep))) : DicAt P w K F H a [] := ⟨Nat.zero_le _, hs, [], .nil, List.nodup_nil, ep, h⟩
theorem big_ne {s : Shared} (h : sysModules < s.heap.objs.size) : (s.heap.objs.size == sysModules) = false := beq_eq_false_iff_ne.mpr (Ne.symm (Nat.ne_of_lt h))
theorem pdn_dic0 : PDN X W E (.Dict [] [] pos) nDic0 := ⟨fun pins s σ H Q I hl => by
  obtain ⟨F, ρ, R, ok, run⟩ := hl
  obtain ⟨ep, hnew⟩ := dic_new (P := X.prog) (w := X.w) (Heap.DictOfH.new s.heap)
  refine wpAny_Dict_empty ⟨.ref s.heap.objs.size, _, I.laid (a := s.heap.objs.size) (o := .ext (DicObj X.prog X.w s.heap.objs.size [] ep)) (t' := s.toks) (fun _ _ q => Heap.get?_push_of_some _ q) (Nat.le_refl _) (hnew _), rfl, ?_⟩
  exact Run.pure run ok.g.fh ok.row s.heap.objs.size _ (I.hok.fresh (Nat.le_refl _)) (dic0_at (big_ne I.big) upd_same)⟩
/-- a display, its keys' addresses kept -/
theorem disp_at {P : Program} {w : World} {A : Around} {EX : Value → Shared → Prop} {s : Shared} {env : Env} {keys : List (Option Expr)} {values : List Expr} {pos : Pos} {pairs : List (Sem Value × Sem Value)} {Q : Value → Shared → Prop} (hr : (nestedKind P w).room A)
    (shape : (evalEachOpt keys env).zip ((evalEach values env).map fun v => do let x ← v; standAt pos; pure x) = pairs.map fun p => (some p.1, p.2)) (some1 : pairs ≠ []) (few : pairs.length ≤ 15)
    (h : wpAny (model P w) A (evalPairs pairs) (fun vs s1 => ∃ ps, CarriesH (nestedKind P w) s1.heap vs ps ∧ s1.heap.DictOfH (nestedKind P w) s.heap.objs.size [] ∧
      ∀ h' tk, h'.DictOfH (nestedKind P w) s.heap.objs.size (storedAllH [] ps) → Heap.SameBut s.heap.objs.size s1.heap h' → Q (.ref s.heap.objs.size) { s1 with heap := h', toks := tk }) EX
      { s with heap := s.heap.push { cls := .type "dict", data := .dict #[] } }) : wpAny (model P w) A (eval (.Dict keys values pos) env) Q EX s := by
  rw [arm_eval_Dict, shape, dictDisplay_pairs pairs some1 (by omega)]
  refine wpAny_bind (wpAny_standAt (wpAny_bind (wpAny_subDictH (knd := nestedKind P w) (Q := fun d u => wpAny (model P w) A (pure (Value.ref d)) Q EX u) hr few (wpAny_mono h (fun vs s1 ⟨ps, c1, c2, c3⟩ => ⟨ps, c1, c2, fun h' tk d e => wpAny_pure (c3 h' tk d e)⟩) fun _ _ e => e))))
def dlt (H : Hp) (p : Addr) : Hp := fun b => if b = p then none else H b
theorem dlt_ne {H : Hp} {p b : Addr} (h : b ≠ p) : dlt H p b = H b := by unfold dlt; rw [if_neg h]
theorem dlt_same {H : Hp} {p : Addr} : dlt H p p = none := by unfold dlt; rw [if_pos rfl]
theorem Grow.drop {R R' : RS} {F F' G H H' : Hp} {p : Addr} {u : HO} (g : Grow R R' F H F' H') (eq : ∀ b, b ≠ p → H b = G b) (hu : H p = some u) (hG : G p = none) (hF : F p = none) : Grow R R' F G F' (dlt H' p) where
  rk := g.rk
  ff := g.ff
  fh := fun b x e => by
    have : b ≠ p := fun z => by
      rw [z, (g.hn p (by rw [hu]; simp) hF).2] at e; cases e
    rw [dlt_ne this]; exact g.fh b x e
  hn := fun b h1 h2 => by
    have : b ≠ p := fun z => h1 (by rw [z]; exact hG)
    rw [dlt_ne this]
    exact g.hn b (by rw [eq b this]; exact h1) h2
  hs := fun b o h1 h2 h3 h4 => by
    have : b ≠ p := fun z => by rw [z, hG] at h1; cases h1
    rw [dlt_ne this]
    exact g.hs b o (by rw [eq b this]; exact h1) h2 h3 h4
theorem RowOk.drop {K : PySem.W.Frag} {F H : Hp} {R : RS} {p : Addr} (r : RowOk K F H R) (h : RS.ad R ≠ some p) (n : NoT K p) : RowOk K F (dlt H p) R := by
  refine ⟨?_, r.tb.at n fun b e => dlt_ne e⟩
  cases R with
  | none => trivial
  | some x =>
    obtain ⟨h1, h2, h3, h4⟩ := r.rw
    exact ⟨by rw [dlt_ne (fun z => h (by rw [← z]; rfl))]; exact h1, h2, h3, h4⟩
/-- a run beside an object that it does not see -/
theorem Run.lay {α : Type} {K : PySem.W.Frag} {m : M α} {R : RS} {F G H : Hp} {p : Addr} {u : HO} {k : α → RS → Hp → Hp → Prop} (h : Run K W (DL.noX m) R F G k) (eq : ∀ b, b ≠ p → H b = G b) (hu : H p = some u) (hG : G p = none) (hF : F p = none) (had : RS.ad R ≠ some p) (hn : NoT K p) (nt : NT u) :
    Run K W m R F H fun a R' F' H' => k a R' F' (dlt H' p) ∧ Grow R R' F H F' H' ∧ Same F' (dlt H' p) ∧ RowOk K F' H' R' ∧ RowOk K F' (dlt H' p) R' ∧ F' p = none ∧ H' p = some u ∧ RS.ad R' ≠ some p := by
  unfold Run DL.noX at h
  unfold Run
  cases e : m R with
  | none => rw [e] at h; exact h
  | some q =>
    rw [e] at h
    obtain ⟨o, R'⟩ := q
    cases o with
    | exn x => exact h.elim
    | val a =>
      intro F' H' g r
      have ad : RS.ad R' ≠ some p := by rw [RS.ad_key g.rk]; exact had
      have gd := g.drop eq hu hG hF
      exact ⟨h F' (dlt H' p) gd (r.drop ad hn), g, gd.fh, r, r.drop ad hn, (g.hn p (by rw [hu]; simp) hF).2, g.hs p u hu hF had nt, ad⟩
def nDic1 (fk fv : En → M D) : En → M OW := fun ρ => do
  let k ← noX (fk ρ)
  let v ← noX (fv ρ)
  match k, v with
  | .dat x, .dat y => match DL.keyOf x with
    | some q => if isTupD x = true ∧ q.depth ≤ 8 then pure (.dic [(x, y)]) else stk
    | none => stk
  | _, _ => stk
theorem pdn_dic1 {ek ev : Expr} {fk fv : En → M D} (hu : X.A.units + 64 < cLine) (hk : PD X W E ek fk) (hv : PD X W E ev fv) : PDN X W E (.Dict [some ek] [ev] pos) (nDic1 fk fv) := ⟨fun pins s σ H Q I hl => by
  obtain ⟨F, ρ, R, ok, run⟩ := hl
  have hp : H s.heap.objs.size = none := I.hok.fresh (Nat.le_refl _)
  obtain ⟨ep, hnew⟩ := dic_new (P := X.prog) (w := X.w) (Heap.DictOfH.new s.heap)
  have I1 := I.laid (a := s.heap.objs.size) (o := .ext (DicObj X.prog X.w s.heap.objs.size [] ep)) (h' := s.heap.push { cls := .type "dict", data := .dict #[] }) (t' := s.toks) (fun _ _ q => Heap.get?_push_of_some _ q) (Nat.le_refl _) (hnew _)
  obtain ⟨f1, f2, f3⟩ := ok.fresh hp
  have ok1 := ok.grow (Grow.lay (o := .ext (DicObj X.prog X.w s.heap.objs.size [] ep)) ok.g.fh hp) (ok.row.lay hp)
  have hnt : NoT X.K s.heap.objs.size := ok.row.tb.free hp
  refine disp_at (P := X.prog) (w := X.w) (pairs := pairTrees [some ek] [ev] X.env pos) (show X.A.units + 8 < cLine by omega) (zip_pairTrees _ _ _ _ rfl rfl) (by simp [pairTrees]) (by simp [pairTrees]) ?_
  have neq : ∀ b, b ≠ s.heap.objs.size → upd H s.heap.objs.size (.ext (DicObj X.prog X.w s.heap.objs.size [] ep)) b = H b := fun b hb => upd_ne hb
  refine PySem.pairTrees_cons_walk (thn (hk.run pins _ σ _ (fun v H1 => ∃ dk R1 F1, RD X.prog X.w X.K F1 v dk ∧ _) I1 ⟨F, ρ, R, ok1, (run.bind.lay neq upd_same hp f2 f3 hnt (fun ps e => nomatch e)).imp fun dk R1 F1 H1 g1 r1 h1 vk rk => ⟨dk, R1, F1, rk, h1⟩⟩) fun u s1 ⟨x, H1, I2, rx, dk, R1, F1, rk, h1, g1, s1', r1, r1', z1, z2, z3⟩ => ?_)
  refine thn (hv.run pins s1 σ H1 (fun v H2 => ∃ dv R2 F2, RD X.prog X.w X.K F2 v dv ∧ Grow R1 R2 F1 H1 F2 H2 ∧ _) I2 ⟨F1, ρ, R1, ok1.grow g1 r1, (h1.bind.lay (fun b hb => (dlt_ne hb).symm) z2 dlt_same z1 z3 hnt (by intro ps e; cases e)).imp fun dv R2 F2 H2 g2 r2 h2 vv rv => ⟨dv, R2, F2, rv, g2, h2⟩⟩) fun u2 s2 ⟨y, H2, I3, ry, dv, R2, F2, rv, g2, h2, _, s2', r2, r2', y1, y2, y3⟩ => ?_
  refine PySem.pairTrees_nil_walk ?_
  cases dk with
  | dat xd =>
    cases dv with
    | dat yd =>
      dsimp only at h2
      cases ek2 : DL.keyOf xd with
      | none => rw [ek2] at h2; exact h2.elim
      | some k =>
        rw [ek2] at h2
        dsimp only at h2
        by_cases hz : isTupD xd = true ∧ k.depth ≤ 8
        · rw [if_pos hz] at h2
          cases xd with
          | tuple zs =>
            have rk2 := rk.mono g2.ff
            obtain ⟨b, ys, rfl, _, _⟩ := Dp.tup_inv rk2
            cases rx
            obtain ⟨q1, q2, ents, q3, q4⟩ := dic_raw I3 g2.fh (dic0_at (F := F2) (big_ne I.big) y2)
            cases q3
            refine ⟨[(k, b, u2)], ⟨rfl, rfl, nk_is I3 ek2 (Dp.mono g2.fh rk2) hz.2, trivial⟩, q4, fun h' tk hd same => ?_⟩
            have hd' : h'.DictOfH (nestedKind X.prog X.w) s.heap.objs.size [(k, b, u2)] := hd
            have there : ∃ o, h'.get? s.heap.objs.size = some o := let ⟨o, _, _, e1, _⟩ := hd'; ⟨o, e1⟩
            obtain ⟨ep2, hnew2⟩ := dic_new hd'
            have J := I3.write (t' := tk) (x := s.heap.objs.size) (e := s.heap.objs.size) (o := .ext (DicObj X.prog X.w s.heap.objs.size [(k, b, u2)] ep2)) (by rw [y2]; exact True.intro) (.inl rfl) (fun c o hc e => (same.2 c hc).trans e) there (hnew2 _)
            have he : upd (dlt H2 s.heap.objs.size) s.heap.objs.size (.ext (DicObj X.prog X.w s.heap.objs.size [(k, b, u2)] ep2)) = upd H2 s.heap.objs.size (.ext (DicObj X.prog X.w s.heap.objs.size [(k, b, u2)] ep2)) := funext fun c => by
              by_cases hc : c = s.heap.objs.size
              · rw [hc, upd_same, upd_same]
              · rw [upd_ne hc, upd_ne hc, dlt_ne hc]
            refine ⟨.ref s.heap.objs.size, _, J, rfl, ?_⟩
            rw [← he]
            refine Run.pure h2 s2' r2' s.heap.objs.size _ dlt_same ⟨by show 1 ≤ sizeLine; rw [sizeLine_eq]; omega, big_ne I.big, [(k, b, u2)], .cons ⟨ek2, hz.2, rk2, ⟨y, ry, rv⟩⟩ .nil, by simp, ep2, upd_same⟩
          | _ => cases hz.1
        · rw [if_neg hz] at h2; exact h2.elim
    | _ => exact h2.elim
  | _ =>
    cases dv <;> exact h2.elim⟩
end
end DL

set_option maxHeartbeats 4000000
namespace DL
open PySem PySem.Spec PyProof.Rows L2
theorem in_boolA : ∀ x y z, opIn x y = some z → ∃ k, z = dB k := fun _ _ _ h => in_bool h
theorem notIn_boolA : ∀ x y z, opNotIn x y = some z → ∃ k, z = dB k := fun x y z h => by
  unfold opNotIn at h
  obtain ⟨d, _, h2⟩ := Option.bind_eq_some_iff.mp h
  obtain ⟨b, _, h3⟩ := Option.map_eq_some_iff.mp h2
  exact ⟨!b, h3.symm⟩
section
variable {X : Cx} {W : XK} {E : Ent} {pos : Pos}
theorem pds_parEEEc {x y z : Str} {a b c : Expr} {px py pz pt : Pos} {kt k2 pt2} {f g h : En → M D} (i j l : Nat) (hc : X.calm = true) (n1 : PG X (.Name x px) (gName i)) (n2 : PG X (.Name y py) (gName j)) (n3 : PG X (.Name z pz) (gName l)) (ha : PD X W E a f) (hb : PD X W E b g) (hcc : PD X W E c h)
    (hw : swappedStores [.Tuple [.Name x px, .Name y py, .Name z pz] kt pt] (.Tuple [a, b, c] k2 pt2) X.env = pure none := by rfl)
    (hs : swapsWithSole [.Tuple [.Name x px, .Name y py, .Name z pz] kt pt] (.Tuple [a, b, c] k2 pt2) pos.line X.env = pure false := by rfl) (h1 : starEach [a, b, c] X.env = (false, eval a X.env) :: starEach [b, c] X.env := by rfl) (h2 : starEach [b, c] X.env = (false, eval b X.env) :: starEach [c] X.env := by rfl) (h3 : starEach [c] X.env = (false, eval c X.env) :: starEach [] X.env := by rfl)
    (hs1 : (assignEach [Expr.Name x px, Expr.Name y py, Expr.Name z pz] X.env).map (·.2) = assign (.Name x px) X.env :: (assignEach [Expr.Name y py, Expr.Name z pz] X.env).map (·.2) := by rfl) (hs2 : (assignEach [Expr.Name y py, Expr.Name z pz] X.env).map (·.2) = assign (.Name y py) X.env :: (assignEach [Expr.Name z pz] X.env).map (·.2) := by rfl)
    (hs3 : (assignEach [Expr.Name z pz] X.env).map (·.2) = assign (.Name z pz) X.env :: (assignEach [] X.env).map (·.2) := by rfl)
    (hn : (assignEach [Expr.Name x px, Expr.Name y py, Expr.Name z pz] X.env).length = 3 := by rfl) (hst : (assignEach [Expr.Name x px, Expr.Name y py, Expr.Name z pz] X.env).findIdx? (·.1) = none := by rfl)
    (h0 : (assignEach [Expr.Tuple [.Name x px, .Name y py, .Name z pz] kt pt] X.env).map (·.2) = [assign (.Tuple [.Name x px, .Name y py, .Name z pz] kt pt) X.env] := by rfl) :
    PDS X W E (.Assign [.Tuple [.Name x px, .Name y py, .Name z pz] kt pt] (.Tuple [a, b, c] k2 pt2) pos) (sParEEE i j l f g h) := by
  refine PS.imp (ps_asg (pe_tup (pos := pt2) (pa_cons ha (pa_cons hb (pa_cons hcc pa_nil h3) h2) h1)) (pg_tup hc (pgs_cons n1 (pgs_cons n2 (pgs_cons n3 pgs_nil hs3) hs2) hs1) hn hst) hs hw h0) fun D₀ σ H hl => ?_
  obtain ⟨F, ρ, R, ok, run⟩ := hl
  refine ⟨F, ρ, R, ok, (run.bind ok).imp fun dx R1 F1 H1 g1 r1 q1 vx rx => ?_⟩
  have ok1 := ok.grow g1 r1
  refine ⟨F1, ρ, R1, ok1, (q1.bind ok1).imp fun dy R2 F2 H2 g2 r2 q2 vy ry => ?_⟩
  have ok2 := ok1.grow g2 r2
  refine ⟨F2, ρ, R2, ok2, (q2.bind ok2).imp fun dz R3 F3 H3 g3 r3 q3 vz rz => ?_⟩
  have ok3 := ok2.grow g3 r3
  refine ⟨by show 3 ≤ sizeLine; decide, fun t ht => ?_⟩
  have ok4 := ok3.grow (Grow.lay (o := .tup [vx, vy, vz]) g3.fh ht) (r3.lay ht)
  exact ⟨t, _, rfl, SqT.of upd_same, rfl, _, _, rfl, _, _, rfl, _, _, rfl, rfl, q3 _ F3 _ (Same.refl F3) (((ok4.set i ((rx.mono g2.ff).mono g3.ff)).set j (ry.mono g3.ff)).set l rz)⟩
end
/-! ### len(set(xs)), xs a list of whole numbers -/
theorem fm_mem (val : Nat → Int) (k : Int) : ∀ i, k ∈ firstMet val i ↔ ∃ j, j < i ∧ val j = k
  | 0 => by simp [firstMet_zero]
  | i + 1 => by
    rw [firstMet_succ]
    have ih := fm_mem val k i
    unfold step_dedup
    split
    · rename_i h
      rw [ih]
      refine ⟨fun ⟨j, a, b⟩ => ⟨j, by omega, b⟩, fun ⟨j, a, b⟩ => ?_⟩
      by_cases e : j = i
      · subst e
        have hm : val j ∈ firstMet val j := by simpa using h
        rw [b] at hm
        exact ih.mp hm
      · exact ⟨j, by omega, b⟩
    · rw [List.mem_append, ih, List.mem_singleton]
      refine ⟨fun h => ?_, fun ⟨j, a, b⟩ => ?_⟩
      · rcases h with ⟨j, a, b⟩ | h
        · exact ⟨j, by omega, b⟩
        · exact ⟨i, by omega, h.symm⟩
      · by_cases e : j = i
        · subst e; exact .inr b.symm
        · exact .inl ⟨j, by omega, b⟩
theorem fm_nodup (val : Nat → Int) : ∀ i, (firstMet val i).Nodup
  | 0 => by rw [firstMet_zero]; exact List.nodup_nil
  | i + 1 => by
    rw [firstMet_succ]
    unfold step_dedup
    split
    · exact fm_nodup val i
    · rename_i h
      refine List.nodup_append.mpr ⟨fm_nodup val i, List.nodup_cons.mpr ⟨by simp, List.nodup_nil⟩, fun x hx y hy e => ?_⟩
      rw [List.mem_singleton.mp hy] at e
      subst e
      exact h (by simpa using hx)
theorem fm_len (ns : List Int) : (firstMet (fun i => ns.getD i 0) ns.length).length = (distinct ns).length := by
  refine len_of_same (fm_nodup _ _) (nodup_distinct ns) fun k => ?_
  rw [fm_mem, mem_distinct]
  constructor
  · rintro ⟨j, h, e⟩
    rw [← e, List.getD_eq_getElem?_getD, List.getElem?_eq_getElem h]
    exact List.getElem_mem h
  · intro h
    obtain ⟨j, hj, e⟩ := List.getElem_of_mem h
    exact ⟨j, hj, by rw [List.getD_eq_getElem?_getD, List.getElem?_eq_getElem hj]; exact e⟩
def opLenSetL : D → Option D
  | .dat (.list xs) => (intsD xs).bind fun ns => if ns.length ≤ 60 then some (.dat (.int (distinct ns).length)) else none
  | _ => none
def tLenSetL (K : PySem.W.Frag) (ta : TE) : TE := fun σ H Q => ta σ H fun x H1 => ∃ (l : Addr) (ns : List Int), x = V.ref l ∧ SqL K H1 l (ns.map V.int) ∧ ns.length ≤ 60 ∧ Q (.int (distinct ns).length) H1
section
variable {X : Cx} {W : XK} {E : Ent} {pos p p2 : Pos}
theorem pe_lenSetL {a : Expr} {ta : TE} {q : Pos} (hc : X.calm = true) (hg : Gl X "len") (hm : X.mg "len" = none) (hg2 : Gl X "set") (hm2 : X.mg "set" = none) (ha : PE X a ta)
    (na : starEach [a] X.env = (false, eval a X.env) :: starEach [] X.env := by rfl) : PE X (.Call (.Name "len" p) [.Call (.Name "set" p2) [a] [] q] [] pos) (tLenSetL X.K ta) := by
  refine ⟨fun pins s σ H Q I h => Call_ (ld_blt I hg hm PySem.boot_len ?_)⟩
  refine PyProof.Rows.callWith_builtin1 (PyProof.Rows.args_cons (Call_ (ld_blt I hg2 hm2 PyProof.Rows.boot_set ?_)) rfl) rfl rfl
  refine PyProof.Rows.callWith_type1 (PyProof.Rows.args_cons (thn (ha.run pins s σ H _ I h) fun v s1 ⟨x, H1, I1, r1, q1⟩ => PyProof.Rows.args_nil ?_) na) na rfl
  obtain ⟨l, ns, rfl, hq, h60, q1⟩ := q1
  cases r1
  obtain ⟨us, ru, pl, hz⟩ := I1.list hq
  have hl : us.toArray.size = ns.length := by rw [List.size_toArray, ← ru.length, List.length_map]
  refine PySem.call_set_list (I1.ok.hd hc) pl.isList (ns := ns) (by simpa using ru.ints) (by unfold scanBound; omega) fun h' tk hS hk => PyProof.Rows.args_nil ?_
  rw [hl, fm_len] at hS
  obtain ⟨o, es, ep, t, ho, hex, hd, _, _, _, hf, hn⟩ := hS
  have hsm : (distinct ns).length ≤ 60 := by
    rw [← fm_len]
    exact Nat.le_trans (firstMet_length_le _ _) h60
  have I2 : Inv X pins σ H1 { s1 with heap := h', toks := tk } := I1.kept fun b o e => hk b o (Heap.lt_size e) e
  exact call_len_set ho hex hd hf (by rw [hn]; omega) ⟨.int (distinct ns).length, H1, I2.tok _, ⟨_, by rw [hn]⟩, q1⟩
theorem pd_lenSetL {a : Expr} {fa : En → M D} {q : Pos} (hc : X.calm = true) (hg : Gl X "len") (hm : X.mg "len" = none) (hg2 : Gl X "set") (hm2 : X.mg "set" = none) (ha : PD X W E a fa)
    (na : starEach [a] X.env = (false, eval a X.env) :: starEach [] X.env := by rfl) : PD X W E (.Call (.Name "len" p) [.Call (.Name "set" p2) [a] [] q] [] pos) (e1 opLenSetL fa) := by
  refine PE.imp (pe_lenSetL hc hg hm hg2 hm2 ha na) fun σ H Q hl => ?_
  obtain ⟨F, ρ, R, ok, run⟩ := hl
  refine ⟨F, ρ, R, ok, run.bind.imp fun d R1 F1 H1 g1 r1 h1 v rv => ?_⟩
  obtain ⟨z, e, h2⟩ := h1.lft
  unfold opLenSetL at e
  split at e
  · obtain ⟨ns, e3, e4⟩ := Option.bind_eq_some_iff.mp e
    split at e4
    · rename_i hz
      cases e4
      have e5 := intsD_inv e3
      subst e5
      obtain ⟨l, ys, rfl, h5, h6⟩ := Dp.lst_inv rv
      have := h6.ints
      subst this
      exact ⟨l, ns, rfl, g1.fh.seq h5, hz, h2 F1 H1 (Grow.refl g1.fh) r1 _ (.int _)⟩
    · cases e4
  · cases e
end
end DL

set_option maxHeartbeats 4000000
namespace DL
open PySem PySem.Spec PyProof.Rows L2
/-! ### lambdas -/
section
variable {X : Cx} {W : XK} {E : Ent} {pos p : Pos}
/-- H1: H, or H with a code object made -/
inductive Made (H : Hp) (P : Addr) (q : Str) (ps : Array Value) (c' : Addr) : Hp → Prop
  | hit : H c' = some (LamX.CodeO c' q) → (∃ pos, codeAmong pos ps.toList = some (.ref c')) → Made H P q ps c' H
  | new (more : Array Value) : H c' = none → TriplesOk (ps ++ more).toList → (∀ pos cv, codeAmong pos (ps ++ more).toList = some cv → codeAmong pos ps.toList = some cv ∨ cv = .ref c') → Made H P q ps c' (upd (upd H P (.tbl (ps ++ more))) c' (LamX.CodeO c' q))
theorem lam_make3 {pins : List (Addr × Obj)} {σ : L2.St} {H : Hp} {s : Shared} {c P : Addr} {params : Arguments} {body : Expr} {scope : Scope} {Q EX : Value → Shared → Prop} {ps : Array Value}
    (I : Inv X pins σ H s) (TB : LamX.TabB X.base X.mg c P) (hcode : X.env.code = .ref c) (hP : H P = some (.tbl ps)) (ht : TriplesOk ps.toList) (ha : ∀ pos cv, codeAmong pos ps.toList = some cv → ∃ c, cv = .ref c ∧ H c = some (LamX.CodeO c (X.env.qual ++ ("<lambda>" : Str))))
    (hdef : defaultsOf params X.env = ([], [])) (hfree : ∀ y ∈ scope.names, y.2 = .free → ∃ c, X.env.cells.lookup y.1 = some c)
    (h : ∀ (f c' : Addr) (pm ctv : Value) (H1 : Hp) (s' : Shared), Inv X pins σ H1 s' → Made H P (X.env.qual ++ ("<lambda>" : Str)) ps c' H1 →
      s'.heap.get? f = some (PySem.W.kla_obj ("<lambda>" : Str) (X.env.qual ++ ("<lambda>" : Str)) params body scope (cloFrom X.env.cells scope.names []) pm c' ctv) → H1 f = none → f ∉ frs X.stack → H1 c' = some (LamX.CodeO c' (X.env.qual ++ ("<lambda>" : Str))) → Q (.ref f) s') :
    wpAny (model X.prog X.w) X.A (eval (.Lambda params body scope pos) X.env) Q EX s := by
  refine PySem.W.kla_eval hdef ?_
  have bP := Heap.BuiltinsAt.keeps TB.bm (Inv.bk I)
  have hP' := I.hok P (HO.tbl ps) hP
  have nofr : ∀ f, s.heap.objs.size ≤ f → f ∉ frs X.stack := fun f hf z => by
    rcases List.mem_cons.mp (Inv.stkSub I f z) with e | e
    · have h1 := Inv.lt I
      rw [← e] at h1
      exact Nat.lt_irrefl f (Nat.lt_of_lt_of_le h1 hf)
    · exact Inv.nofs I hf e
  cases hc : codeAmong pos ps.toList with
  | none =>
    refine PySem.W.kla_makeFunction (closure_ok hfree) I.ok.glob (Heap.Ns.keeps (Inv.mod I).glob (Inv.bk I)) hcode (PySem.W.CodeHd.keeps TB.code (Inv.bk I)) hP' ht hc TB.gP bP fun c' ctv h' tk hx hge hlt hrec htb => ?_
    obtain ⟨c2, oc, vs, t, e2, hoc, hd, hv⟩ := hrec
    cases e2
    have hsz := Nat.le_trans hge (Nat.le_of_lt hlt)
    have nC := HOk.fresh I.hok hge
    have I1 := LamX.inv_table (h' := h'.push (PySem.W.kla_obj ("<lambda>" : Str) (X.env.qual ++ ("<lambda>" : Str)) params body scope (cloFrom X.env.cells scope.names []) ((X.mg ("__name__" : Str)).getD Value.none) c' ctv)) (t' := tk) (q := X.env.qual ++ ("<lambda>" : Str)) I hP (fun b o hb e => Heap.get?_push_of_some _ (hx b o hb e)) (Heap.get?_push_of_some _ htb) hge ⟨oc, vs, t, Heap.get?_push_of_some _ hoc, hd, hv⟩
    have eL : (ps ++ #[rawInt ↑pos.line, rawInt ↑pos.col, Value.ref c']).toList = ps.toList ++ [rawInt ↑pos.line, rawInt ↑pos.col, Value.ref c'] := by simp
    refine h h'.objs.size c' _ ctv _ _ I1 (.new _ nC (by rw [eL]; exact TriplesOk_snoc _ _ _ _ ht) fun p' cv hcv => ?_) (Heap.get?_push_size h' rfl) ?_ (nofr _ hsz) upd_same
    · rw [eL] at hcv
      exact LamX.among_app _ ht hcv
    · rw [upd_ne (Nat.ne_of_gt hlt), upd_ne (Nat.ne_of_gt (Nat.lt_of_lt_of_le (Heap.lt_size hP') hsz))]
      exact HOk.fresh I.hok hsz
  | some cv =>
    obtain ⟨c', rfl, hco⟩ := ha pos cv hc
    refine PySem.W.kla_makeFunctionHit (closure_ok hfree) I.ok.glob (Heap.Ns.keeps (Inv.mod I).glob (Inv.bk I)) hcode (PySem.W.CodeHd.keeps TB.code (Inv.bk I)) hP' ht hc bP fun ctv h' tk hx hsz => ?_
    have I1 : Inv X pins σ H { s with heap := h'.push (PySem.W.kla_obj ("<lambda>" : Str) (X.env.qual ++ ("<lambda>" : Str)) params body scope (cloFrom X.env.cells scope.names []) ((X.mg ("__name__" : Str)).getD Value.none) c' ctv), toks := tk } := Inv.kept I fun b o e => Heap.get?_push_of_some _ (hx b o e)
    exact h h'.objs.size c' _ ctv _ _ I1 (.hit hco ⟨pos, hc⟩) (Heap.get?_push_size h' rfl) (HOk.fresh I.hok hsz) (nofr _ hsz) hco
/-- the data's state when a lambda is made -/
theorem made_grow {F H H1 : Hp} {R : RS} {P c' : Addr} {q : Str} {ps : Array Value} (sf : Same F H) (r : RowOk X.K F H R) (t : IsTab X.K P q) (hP : H P = some (.tbl ps)) (ha : ∀ pos cv, codeAmong pos ps.toList = some cv → ∃ c, cv = .ref c ∧ F c = some (LamX.CodeO c q)) (m : Made H P q ps c' H1) :
    ∃ F1, Grow R R F H F1 H1 ∧ RowOk X.K F1 H1 R := by
  cases m with
  | hit => exact ⟨F, Grow.refl sf, r⟩
  | new more hc ht hm =>
    have hPc : P ≠ c' := fun z => by rw [z, hc] at hP; cases hP
    have fc : F c' = none := by
      cases e : F c' with
      | none => rfl
      | some o => rw [sf _ _ e] at hc; cases hc
    have fP := (r.tb.2 P q t).out
    have ff : Same F (upd F c' (LamX.CodeO c' q)) := fun b o e => by rw [upd_ne (ne_of_none e fc)]; exact e
    have hh : ∀ b o, H b = some o → b ≠ P → (upd (upd H P (.tbl (ps ++ more))) c' (LamX.CodeO c' q)) b = some o := fun b o e hb => by
      rw [upd_ne (ne_of_none e hc), upd_ne hb]; exact e
    have g : Grow R R F H (upd F c' (LamX.CodeO c' q)) (upd (upd H P (.tbl (ps ++ more))) c' (LamX.CodeO c' q)) := by
      refine ⟨rfl, ff, fun b o e => ?_, fun a h1 h2 => ?_, fun a o h1 h2 h3 h4 => ?_⟩
      · by_cases hb : b = c'
        · subst hb; rw [upd_same] at e ⊢; exact e
        · rw [upd_ne hb] at e
          exact hh b o (sf b o e) fun z => by rw [z, fP] at e; cases e
      · by_cases hb : a = P
        · subst hb
          rw [upd_ne hPc, upd_same, upd_ne hPc]
          exact ⟨by simp, fP⟩
        · cases e : H a with
          | none => exact absurd e h1
          | some o =>
            rw [hh a o e hb, upd_ne (ne_of_none e hc)]
            exact ⟨by simp, h2⟩
      · exact hh a o h1 fun z => by rw [z, hP] at h1; cases h1; exact h4 ps rfl
    refine ⟨_, g, ?_, r.tb.1, fun P' q' i => ?_⟩
    · cases R with
      | none => trivial
      | some x =>
        obtain ⟨h1, h2, h3, h4⟩ := r.rw
        refine ⟨hh _ _ h1 (fun z => by rw [z, hP] at h1; cases h1), ?_, ff.seq h3, h4⟩
        rw [upd_ne (ne_of_none h1 hc)]; exact h2
    · obtain ⟨o', ps', e1, e2, e3⟩ := r.tb.2 P' q' i
      have ne : P' ≠ c' := fun z => by rw [z, hc] at e1; cases e1
      refine ⟨by rw [upd_ne ne]; exact o', ?_⟩
      by_cases hb : P' = P
      · subst hb
        have eq : q' = q := r.tb.1 _ _ _ i t
        subst eq
        refine ⟨ps ++ more, by rw [upd_ne ne, upd_same], ht, fun pos cv hcv => ?_⟩
        rcases hm pos cv hcv with h | h
        · obtain ⟨c, a, b⟩ := ha pos cv h
          exact ⟨c, a, ff _ _ b⟩
        · exact ⟨c', h, upd_same⟩
      · refine ⟨ps', hh _ _ e1 hb, e2, fun pos cv hcv => ?_⟩
        obtain ⟨c, a, b⟩ := e3 pos cv hcv
        exact ⟨c, a, ff _ _ b⟩
end
end DL

set_option maxHeartbeats 4000000
namespace DL
open PySem PySem.Spec PyProof.Rows L2
/-! ### sorted(rows, key=lambda row: (len(row), row)) -/
def rowsD : List PyData → Option (List (List Int))
  | [] => some []
  | .tuple xs :: r => match intsD xs, rowsD r with
    | some q, some qs => some (q :: qs)
    | _, _ => none
  | _ => none
theorem rowsD_inv : ∀ {xs : List PyData} {qs : List (List Int)}, rowsD xs = some qs → xs = qs.map fun q => .tuple (q.map .int)
  | [], _, e => by cases e; rfl
  | x :: r, qs, e => by
    cases x with
    | tuple ys =>
      unfold rowsD at e
      cases e1 : intsD ys with
      | none => rw [e1] at e; cases e
      | some q =>
        cases e2 : rowsD r with
        | none => rw [e1, e2] at e; cases e
        | some qs' =>
          rw [e1, e2] at e
          cases e
          rw [List.map_cons, ← intsD_inv e1, ← rowsD_inv e2]
    | _ => cases e
abbrev keyLen (q : List Int) : PyData := .tuple [.int (q.length : Int), .tuple (q.map .int)]
def sortLen (qs : List (List Int)) : List (List Int) := qs.mergeSort (W.dataLe false keyLen)
def opSortLen : D → Option D
  | .dat (.list xs) => (rowsD xs).bind fun qs => if qs.length ≤ 1000000 then some (.dat (.list ((sortLen qs).map fun q => .tuple (q.map .int)))) else none
  | _ => none
section
variable {X : Cx} {W : XK} {E : Ent} {pos p : Pos}
theorem reads_ints {h : Heap} : ∀ {q : List Int} {us : List Value}, Vals (q.map V.int) us → ReadsAll h us (q.map .int) []
  | [], _, .nil => .nil
  | i :: q, _, .cons r t => by
    obtain ⟨tk, rfl⟩ := r
    exact ReadsAll.cons (as := []) (bs := []) (.int i _) (reads_ints t)
/-- the lambda row: (len(row), row), called -/
theorem lam_key {pins : List (Addr × Obj)} {σ : L2.St} {H : Hp} {s : Shared} {f c' : Addr} {pm ctv : Value} {params : Arguments} {scope : Scope} {qual : Str} {p1 p2 p3 p4 p5 : Pos} {kk : Nat} {A : Around}
    (I : Inv X pins σ H s) (S : FnScope ["row"] ["row"] scope) (hA : A.handled = none) (hd : A.depth < recursionLimit) (hfr : A.frames = some X.stack)
    (hb : ∀ (q : Str) (cl : List (Str × Addr)) (pm cv ctv v : Value), bindArgs (PySem.W.kla_fn ("<lambda>" : Str) q params (.Tuple [.Call (.Name "len" p1) [.Name "row" p2] [] p3, .Name "row" p4] kk p5) scope cl pm cv ctv) ⟨[v], []⟩ = pure [(("row" : Str), v)])
    (hlen : scope.names.lookup ("len" : Str) = some NameKind.globalImplicit) (hrow : scope.names.lookup ("row" : Str) = some NameKind.local) (hm : X.mg "len" = none)
    (hf : s.heap.get? f = some (PySem.W.kla_obj ("<lambda>" : Str) qual params (.Tuple [.Call (.Name "len" p1) [.Name "row" p2] [] p3, .Name "row" p4] kk p5) scope [] pm c' ctv)) (hcode : s.heap.CodeRec (.ref c') qual)
    {t : Addr} {us : List Value} {q : List Int} (ht : IsTup s.heap t us.toArray) (hv : Vals (q.map V.int) us) (hz : q.length ≤ sizeLine) :
    wpAny (model X.prog X.w) A (call (.ref f) [.ref t]) (PySem.W.KeyPure (keyLen q) s) (fun _ _ => False) s := by
  have env0 : Env0 X.prog X.w X.K X.mg X.base A X.stack s H := by
    have e := I.env0
    exact ⟨hfr, e.mod, e.bs, e.bsz, e.funs, e.frf, e.hok, e.bare⟩
  refine wpAny_call (PySem.W.kla_callFunE hd hf rfl S.co S.gen rfl hcode ?_)
  rw [hb]
  refine wpAny_pure (wpAny_newFunctionEnv_cells S.kind (fun x hx => ?_) fun env he s1 ic => ?_)
  · rw [List.mem_singleton.mp hx]; exact .inl hrow
  subst he
  obtain ⟨h1, tk1, es, keep⟩ := ic.done
  have I1 := inv_start (CX := L2.CX X.prog X.w) (qual := qual) (f := f) (cd := .ref c') (E := fun _ _ _ => False) (us := [.ref t]) (vs := [.ref t]) S hA env0 rfl (.cons rfl .nil) ic
  have ns1 : s1.heap.Ns s.heap.objs.size (bindL (envOfC qual scope s.heap.objs.size f (.ref c')).kindOf [(("row" : Str), .ref t)] fun _ => none) := ic.toInCall.ns
  have hr1 : ∀ (p : Pos) (Q EX : Value → Shared → Prop) (s' : Shared), (∀ b o, s1.heap.get? b = some o → s'.heap.get? b = some o) → Q (.ref t) s' → wpAny (model X.prog X.w) (A.deeper (envOfC qual scope s.heap.objs.size f (.ref c'))) (eval (.Name "row" p) (envOfC qual scope s.heap.objs.size f (.ref c'))) Q EX s' := fun p Q EX s' hk h => by
    refine wpAny_Name (wpAny_loadName_local S.kind hrow (Heap.Ns.keeps ns1 hk) ?_ h)
    have : (envOfC qual scope s.heap.objs.size f (.ref c')).kindOf ("row" : Str) = some .local := hrow
    simp only [bindL, this]
    simp
  have hl1 : ∀ (p : Pos) (Q EX : Value → Shared → Prop), Q (.builtin "len") s1 → wpAny (model X.prog X.w) (A.deeper (envOfC qual scope s.heap.objs.size f (.ref c'))) (eval (.Name "len" p) (envOfC qual scope s.heap.objs.size f (.ref c'))) Q EX s1 := fun p Q EX h =>
    ld_blt I1 hlen hm PySem.boot_len h
  refine ⟨I1.nolimit, PySem.W.kla_codeExpr ?_⟩
  have hul : us.length = q.length := by rw [← hv.length, List.length_map]
  have ht1 : IsTup s1.heap t us.toArray := by
    obtain ⟨o, o1, o2, o3⟩ := ht
    exact ⟨o, ic.toInCall.keep _ _ o1, o2, o3⟩
  refine wpAny_Tuple (PyProof.Rows.args_cons (Call_ (hl1 p1 _ _ ?_)) rfl)
  refine PyProof.Rows.callWith_builtin1 (PyProof.Rows.args_cons (hr1 p2 _ _ s1 (fun _ _ e => e) ?_) rfl) rfl rfl
  refine PyProof.Rows.args_nil (PyProof.Rows.len_tuple ht1 (by rw [List.size_toArray, hul]; unfold sizeLine at hz; omega) ?_)
  refine PyProof.Rows.args_cons (hr1 p4 _ _ _ (fun _ _ e => e) ?_) rfl
  refine PyProof.Rows.args_nil ⟨by show 2 ≤ sizeLine; decide, ?_⟩
  subst es
  refine ⟨_, _, rfl, fun b o e => Heap.get?_push_of_some _ (keep b o e), ?_⟩
  have hn : ((us.toArray.size : Nat) : Int) = (q.length : Int) := by rw [List.size_toArray, hul]
  obtain ⟨o, o1, o2, n, o3⟩ := ht1
  have hr : Reads (h1.push { cls := Value.type "tuple", data := Data.seq [Value.int (us.toArray.size : Int) (tk1 + 1), Value.ref t].toArray }) (.ref t) (.tuple (q.map .int)) [] := .tuple (Heap.get?_push_of_some _ o1) o2 o3 (reads_ints hv)
  have hi : Reads (h1.push { cls := Value.type "tuple", data := Data.seq [Value.int (us.toArray.size : Int) (tk1 + 1), Value.ref t].toArray }) (.int (us.toArray.size : Int) (tk1 + 1)) (.int (q.length : Int)) [] := by rw [hn]; exact .int _ _
  exact .tuple (n := 0) (Heap.get?_push_size h1 rfl) rfl rfl (ReadsAll.cons (as := []) (bs := []) hi (ReadsAll.cons (as := []) (bs := []) hr .nil))
theorem each_rows {K : PySem.W.Frag} {F : Hp} : ∀ {qs : List (List Int)} {ys : List V} {us : List Value}, DpAll K F ys (qs.map fun q => .tuple (q.map .int)) → Vals ys us → PySem.W.EachIs (fun (u : Value) (q : List Int) => ∃ v, RelV v u ∧ Dp K F v (.tuple (q.map .int))) us qs
  | [], _, _, .nil, .nil => .nil
  | _ :: _, _, _, .cons a b, .cons r1 r2 => .cons ⟨_, r1, a⟩ (each_rows b r2)
theorem pd_sortKey {a : Expr} {fa : En → M D} {params : Arguments} {scope : Scope} {lpos kpos p1 p2 p3 p4 p5 : Pos} {kk k : Nat} {c P : Addr} (hc : X.calm = true) (hroom : Room (k + 4) X.A) (hg : Gl X "sorted") (hm : X.mg "sorted" = none) (hml : X.mg "len" = none)
    (TB : LamX.TabB X.base X.mg c P) (hcode : X.env.code = .ref c) (it : IsTab X.K P (X.env.qual ++ ("<lambda>" : Str))) (S : FnScope ["row"] ["row"] scope) (hlen : scope.names.lookup ("len" : Str) = some NameKind.globalImplicit) (hrow : scope.names.lookup ("row" : Str) = some NameKind.local)
    (ha : PD X W E a fa) (hdef : defaultsOf params X.env = ([], []))
    (hb : ∀ (q : Str) (cl : List (Str × Addr)) (pm cv ctv v : Value), bindArgs (PySem.W.kla_fn ("<lambda>" : Str) q params (.Tuple [.Call (.Name "len" p1) [.Name "row" p2] [] p3, .Name "row" p4] kk p5) scope cl pm cv ctv) ⟨[v], []⟩ = pure [(("row" : Str), v)])
    (hclo : ∀ cells, cloFrom cells scope.names [] = []) (na : starEach [a] X.env = (false, eval a X.env) :: starEach [] X.env := by rfl) (nb : backTo pos (starEach [a] X.env) = (false, eval a X.env) :: backTo pos (starEach [] X.env) := by rfl) (nb2 : ((backTo pos (starEach [a] X.env)).any fun x => x.fst) = false := by rfl) : PD X W E (.Call (.Name "sorted" p) [a] [⟨some "key", .Lambda params (.Tuple [.Call (.Name "len" p1) [.Name "row" p2] [] p3, .Name "row" p4] kk p5) scope lpos, kpos⟩] pos) (e1 opSortLen fa) := by
  refine ⟨fun pins s σ H Q I hl => ?_⟩
  obtain ⟨F, ρ, R, ok, run⟩ := hl
  refine wpAny_Call_Name_kw (ld_blt I hg hm (show bootBuiltins "sorted" = some (.builtin "sorted") by decide +kernel) ?_)
  refine PyProof.Rows.callWith_kw (PyProof.Rows.args_cons (thn (ha.run pins s σ H (fun v H1 => ∃ d R1 F1, Same F1 H1 ∧ RowOk X.K F1 H1 R1 ∧ RD X.prog X.w X.K F1 v d ∧ Run X.K W (DL.lft (opSortLen d)) R1 F1 H1 (fun d R' F' H' => ∀ v, RD X.prog X.w X.K F' v d → Q v H')) I ⟨F, ρ, R, ok, run.bind.imp fun d R1 F1 H1 g1 r1 h1 v rv => ⟨d, R1, F1, g1.fh, r1, rv, h1⟩⟩) fun v s1 ⟨x, H1, I1, r1, d, R1, F1, sf, ro, rd, q1⟩ => PyProof.Rows.args_nil ?_) na) ?_ ?_ ?_ ?_
  · obtain ⟨z, e, q2⟩ := q1.lft
    unfold opSortLen at e
    split at e
    · rename_i xs
      obtain ⟨qs, e1, e2⟩ := Option.bind_eq_some_iff.mp e
      split at e2
      · rename_i hz
        cases e2
        have exs := rowsD_inv e1
        subst exs
        obtain ⟨l, ys, rfl, h5, h6⟩ := Dp.lst_inv rd
        cases r1
        obtain ⟨o1, ps, hP, ht, ha0⟩ := ro.tb.2 P _ it
        have ha1 : ∀ pos cv, codeAmong pos ps.toList = some cv → ∃ c, cv = .ref c ∧ H1 c = some (LamX.CodeO c (X.env.qual ++ ("<lambda>" : Str))) := fun pos cv h => let ⟨c, a, b⟩ := ha0 pos cv h; ⟨c, a, sf _ _ b⟩
        show wpAny _ _ (evalAll [_]) _ _ _
        refine wpAny_evalAll_cons (wpAny_bind (lam_make3 I1 TB hcode hP ht ha1 hdef (fun y hy hf => absurd hf (S.nofree y hy)) fun f c' pm ctv H2 s2 I2 md hf hf0 hfs hco => wpAny_bind (wpAny_standAt (wpAny_pure ?_))))
        obtain ⟨F2, g2, r2⟩ := made_grow (X := X) sf ro it hP ha0 md
        show wpAny _ _ (evalAll []) _ _ _
        refine wpAny_evalAll_nil ?_
        rw [hclo] at hf
        have f2 : Same F2 H2 := g2.fh
        obtain ⟨us, ru, pl, hz2⟩ := I2.list (f2.seq (g2.ff.seq h5))
        have hR : PySem.W.EachIs (fun (u : Value) (q : List Int) => ∃ v, RelV v u ∧ Dp X.K F2 v (.tuple (q.map .int))) us qs := by
          exact each_rows (DpAll.mono g2.ff h6) ru
        have hdep : ∀ q : List Int, (keyLen q).depth = 2 := fun q => by
          have : PyData.depthAll (q.map .int) = 0 := PySem.W.depth_ints q
          show max 0 (max (PyData.depthAll (q.map .int) + 1) 0) + 1 = 2
          rw [this]; rfl
        have hu := Room.units hroom
        have hco2 : ∀ h : Heap, (∀ b o, s2.heap.get? b = some o → h.get? b = some o) → h.CodeRec (.ref c') (X.env.qual ++ ("<lambda>" : Str)) := fun h hk => by
          have := I2.hok c' _ hco
          obtain ⟨⟨oc, vs, t, a1, a2, a3⟩, _⟩ := this
          exact ⟨c', oc, vs, t, rfl, hk _ _ a1, a2, a3⟩
        refine PySem.W.sorted_key_data (bs := qs) (R := fun (u : Value) (q : List Int) => ∃ v, RelV v u ∧ Dp X.K F2 v (.tuple (q.map .int))) (f := .ref f) (b := false) keyLen pl.isList hR (fun d hd d' hd' => ?_) (.inl fun d hd => ?_) (by rw [sizeLine_eq]; omega) (fun q _ => by rw [hdep]; omega) (PyProof.Rows.ksk_s1 _ _) (fun x => PyProof.Rows.ksk_l1 _ _) (fun x => PyProof.Rows.ksk_t1 f x) (fun u q hq _ h tk hk => ?_) fun out c0 h' tk hk hno hout hlen hord => ?_
        · obtain ⟨x, _, rfl⟩ := List.mem_map.mp hd
          obtain ⟨y, _, rfl⟩ := List.mem_map.mp hd'
          show (true && (PySem.W.alikeAll (x.map .int) (y.map .int) && true)) = true
          rw [PySem.W.alike_ints]; rfl
        · obtain ⟨x, _, rfl⟩ := List.mem_map.mp hd
          exact ⟨_, _, rfl⟩
        · obtain ⟨v, rv, dv⟩ := hq
          obtain ⟨a, xs, rfl, t1, t2⟩ := Dp.tup_inv dv
          cases rv
          have I3 : Inv X pins σ H2 { s2 with heap := h, toks := tk } := I2.kept hk
          obtain ⟨its, w1, w2, w3⟩ := I3.tuple (Same.tup f2 t1)
          have := t2.ints
          subst this
          exact lam_key (pm := pm) (ctv := ctv) (params := params) I3 S (Room.hd (Room.in1 (Room.in1 hroom))) (Room.depth (Room.in1 (Room.in1 hroom))) (by show X.A.frames = _; exact I2.ok.frames) hb hlen hrow hml (hk _ _ hf) (hco2 h hk) w2 w1 (by rw [List.length_map] at w3; exact w3)
        · have hf3 : H2 (s2.heap.objs.size + 1) = none := I2.hok.fresh (Nat.le_succ _)
          obtain ⟨ws, w1, w2⟩ := of_each (K := X.K) (F := F2) (us := out) (ds := (sortLen qs).map fun q => .tuple (q.map .int)) (by
            have : ∀ {us : List Value} {l : List (List Int)}, PySem.W.EachIs (fun (u : Value) (q : List Int) => ∃ v, RelV v u ∧ Dp X.K F2 v (.tuple (q.map .int))) us l → PySem.W.EachIs (fun u d => ∃ v, RelV v u ∧ Dp X.K F2 v d) us (l.map fun q => .tuple (q.map .int)) := fun h => by
              induction h with
              | nil => exact .nil
              | cons a b ih => exact .cons a ih
            exact this hord)
          have hl2 : ws.length ≤ sizeLine := by
            rw [w1.length, hlen, sizeLine_eq]; omega
          have J : Inv X pins σ (upd H2 (s2.heap.objs.size + 1) (.lst ws)) { s2 with heap := h', toks := tk } := I2.call' (ch := []) rfl (Un.laid hk (Nat.le_succ _) hf3) (I2.hok.laid hk (Nat.le_succ _) ⟨hl2, out, c0, w1, hout⟩) I2.bare (fun _ h => (nomatch h))
          have gp := GrowP.new (o := .lst ws) f2 hf3
          exact ⟨.ref (s2.heap.objs.size + 1), _, J, rfl, q2 _ _ (g2.trans gp.g) (gp.row r2) _ (Dp.newL f2 hf3 w2)⟩
      · cases e2
    · cases e
  · exact nb
  · exact nb2
  · rfl
  · rfl
end
end DL

set_option maxHeartbeats 4000000
namespace DL
open PySem PySem.Spec PyProof.Rows L2
theorem fn_okL {P : Program} {w : World} {K : PySem.W.Frag} {mg : Str → Option Value} {base : Heap} {x qual : Str} {st : Stmt} {f : Addr} {fd : FuncData} {N ps : List Str} {k : Nat} {fb : En → M Fl} (F : Fun K x qual st f fd) (S : FnScope N ps (defScope st))
    (hbody : ∀ (A : Around) (outer : List Env) (s : Shared) (H : Hp) (EX : XK) (E : Ent), Room k (A.deeper (envOfC qual (defScope st) s.heap.objs.size f fd.code)) →
      PDSs (cxOf (L2.CX P w) P w K mg base N qual (defScope st) f fd.code A outer s H EX) EX E (defBody st) fb) :
    FnOk P w K mg base (L2.CX P w) (k + 1) f fd ps (spD P w K (runFn ps.length N.length fb)) := by
  have len : ∀ (vs : List V) (H : Hp) (Q : VK) (EX : XK), spD P w K (runFn ps.length N.length fb) vs H Q EX → vs.length = ps.length := fun vs H Q EX h => by
    obtain ⟨F0, ds, R, sf, ro, pr, run⟩ := h
    unfold runFn at run
    by_cases hl : ds.length = ps.length
    · rw [paired_len pr, hl]
    · rw [if_neg hl] at run
      exact run.elim
  have main : ∀ (A : Around) (outer : List Env) (s : Shared) (H : Hp) (vs : List V) (Q : VK) (EX : XK), Room k (A.deeper (envOfC qual (defScope st) s.heap.objs.size f fd.code)) → spD P w K (runFn ps.length N.length fb) vs H Q EX → ∃ t, PSs (cxOf (L2.CX P w) P w K mg base N qual (defScope st) f fd.code A outer s H EX) (defBody st) t ∧ t { nx := fun _ H' => Q .non H', rt := Q } (L2.start N vs) H := fun A outer s H vs Q EX hr h => by
    obtain ⟨F0, ds, R, sf, ro, pr, run⟩ := h
    refine ⟨_, hbody A outer s H EX ⟨F0, H, R⟩ hr, ?_⟩
    have hl : ds.length = ps.length := by
      unfold runFn at run
      by_cases hl : ds.length = ps.length
      · exact hl
      · rw [if_neg hl] at run
        exact run.elim
    have hvl := paired_len pr
    have hpl : ps.length ≤ N.length := by have := congrArg List.length S.pre; rw [List.length_take] at this; omega
    unfold runFn at run
    rw [if_pos hl] at run
    have oks : Ok P w K ⟨F0, H, R⟩ F0 (L2.start N vs) H (ds.map .val ++ List.replicate (N.length - ps.length) .no) R := by
      refine ⟨Grow.refl sf, ro, fun i sv e => ?_, fun i j oi oj a e1 _ _ _ => ?_, ?_⟩
      · by_cases hi : i < ds.length
        · rw [List.getElem?_append_left (by simpa using hi), List.getElem?_map] at e
          obtain ⟨d, e1, e2⟩ := Option.map_eq_some_iff.mp e
          subst e2
          obtain ⟨v, e3, e4⟩ := paired_getD pr e1
          refine ⟨v, ?_, e4⟩
          unfold L2.start
          rw [List.getElem?_append_left (by simp; omega), List.getElem?_map, e3]
          rfl
        · rw [List.getElem?_append_right (by simpa using hi), List.getElem?_replicate] at e
          split at e
          · cases e; trivial
          · cases e
      · by_cases hi : i < ds.length
        · rw [List.getElem?_append_left (by simpa using hi), List.getElem?_map] at e1
          obtain ⟨d, _, e2⟩ := Option.map_eq_some_iff.mp e1
          cases e2
        · rw [List.getElem?_append_right (by simpa using hi), List.getElem?_replicate] at e1
          split at e1 <;> cases e1
      · unfold L2.start
        simp
        omega
    refine ⟨F0, _, R, oks, ?_⟩
    unfold Run at run
    unfold RunS
    rw [M.bind_def] at run
    unfold M.bnd at run
    show (match fb (ds.map .val ++ List.replicate (N.length - ps.length) .no) R with
      | some (.val (.nx ρ), R') => _ | some (.val (.bk ρ), R') => _ | some (.val (.ct ρ), R') => _ | some (.val (.rt d), R') => _ | some (.exn x, R') => _ | none => False)
    cases e : fb (ds.map .val ++ List.replicate (N.length - ps.length) .no) R with
    | none => rw [e] at run; exact run
    | some q =>
      obtain ⟨o, R'⟩ := q
      rw [e] at run
      cases o with
      | exn x => exact fun c dd F' H' g r rx => run c dd F' H' g r rx
      | val y =>
        cases y with
        | nx ρ' => exact fun σ F' H' _ ok => run F' H' ok.g ok.row .non .non
        | rt d => exact fun v F' H' g r rd => run F' H' g r v rd
        | bk ρ' => exact run.elim
        | ct ρ' => exact run.elim
  refine ⟨len, fun A outer s H args us vs Q EX hr env0 hb hv h => ?_⟩
  obtain ⟨oc, od, kV, doc, pm, an, cdv, ct, osl, e, lk, hc⟩ := F.ex
  subst e
  exact LamX.run_ofS lk hc S hr env0 hb hv (len _ _ _ _ h) fun hr' => main A outer s H vs Q EX hr' h
/-- .. as the module's name: a def that makes lambdas -/
theorem fn_mkL {P : Program} {w : World} {K : PySem.W.Frag} {mg : Str → Option Value} {base : Heap} {x : Str} {st : Stmt} {f : Addr} {fd : FuncData} {N ps : List Str} {k : Nat} {fb : En → M Fl} {fn : List D → M D} (hm : mg x = some (.ref f)) (F : Fun K x x st f fd) (hb : Binds K fd ps []) (S : FnScope N ps (defScope st))
    (hbody : ∀ (A : Around) (outer : List Env) (s : Shared) (H : Hp) (EX : XK) (E : Ent), Room k (A.deeper (envOfC x (defScope st) s.heap.objs.size f fd.code)) →
      PDSs (cxOf (L2.CX P w) P w K mg base N x (defScope st) f fd.code A outer s H EX) EX E (defBody st) fb) (hfn : runFn ps.length N.length fb = fn) : Fn P w K mg base (k + 1) x fn :=
  ⟨f, fd, ps, hm, F.kp, hb, by rw [← hfn]; exact fn_okL F S hbody⟩
/-- a def's table of code objects -/
def TabAt (K : PySem.W.Frag) (mg : Str → Option Value) (base : Heap) (x : Str) (fd : FuncData) : Prop := ∃ c P, fd.code = .ref c ∧ LamX.TabB base mg c P ∧ IsTab K P (x ++ (".<locals>." : Str) ++ ("<lambda>" : Str))
section
variable {X : Cx} {W : XK} {E : Ent} {pos p : Pos}
/-! ### list(d) -/
def g_listD : List D → Option D
  | [.dic kvs] => some (.dat (.list (kvs.map (·.1))))
  | _ => none
theorem ents_keys {K : PySem.W.Frag} {F : Hp} : ∀ {kvs : List (PyData × PyData)} {ents : List (NestedKey × Addr × Value)}, Paired (EntOk K F) kvs ents → DpAll K F (ents.map fun e => V.ref e.2.1) (kvs.map (·.1))
  | _, _, .nil => .nil
  | _, _, .cons h t => .cons h.adr (ents_keys t)
theorem dt_listD (hc : X.calm = true) : DCall X (.type "list") g_listD := by
  intro pins s σ H vs us Q I r h
  obtain ⟨F, ds, d, sf, pr, e, q⟩ := h
  unfold g_listD at e
  split at e
  · rename_i kvs
    cases e
    obtain ⟨v, rfl, rv⟩ := paired1 pr
    obtain ⟨a, rfl, hd⟩ := rv
    obtain ⟨o, ho⟩ := hd.some
    have hd' : DicAt X.prog X.w X.K F H a kvs := hd.mono (Same.refl F) (by rw [sf _ _ ho, ho])
    obtain ⟨hs, hz, ents, pe, dh⟩ := dic_raw I sf hd'
    obtain ⟨es, ep, raw, hsz, hat⟩ := dh.raw
    have hel : kvs.length = ents.length := paired_len pe
    obtain ⟨u, rfl, ru⟩ : ∃ u, us = [u] ∧ RelV (.ref a) u := by
      cases r with
      | cons r t => cases t; exact ⟨_, rfl, r⟩
    cases ru
    refine W.kdl_call (PySem.KdlSrc.rawDict (d := a) (es := es) (ep := ep) hs) (I.ok.hd hc) raw (by rw [hsz, ← hel]; exact hz) fun h' tk acc' c' hk hl hi => ?_
    obtain ⟨i1, i2⟩ := hi
    have hp : H s.heap.objs.size = none := I.hok.fresh (Nat.le_refl _)
    have vals : Vals (ents.map fun e => V.ref e.2.1) acc'.toList := by
      have : acc'.toList = ents.map fun e => Value.ref e.2.1 := by
        refine List.ext_getElem? fun j => ?_
        rw [List.getElem?_map]
        by_cases hj : j < acc'.size
        · have hje : j < es.size := by omega
          obtain ⟨y, y1, y2, _⟩ := hat j hje
          have e1 : acc'[j]? = some acc'[j] := Array.getElem?_eq_getElem hj
          obtain ⟨_, e2⟩ := i2 j _ e1
          rw [Array.getElem?_toList, e1, y1, e2, y2]
          rfl
        · have e1 : acc'[j]? = none := Array.getElem?_eq_none (by omega)
          have e2 : ents[j]? = none := List.getElem?_eq_none (by omega)
          rw [Array.getElem?_toList, e1, e2]
          rfl
      rw [this]
      clear this i1 i2 hat hsz raw dh pe hel hd' hd
      induction ents with
      | nil => exact .nil
      | cons e ents ih => exact .cons rfl ih
    have hlen : (ents.map fun e => V.ref e.2.1).length ≤ sizeLine := by rw [List.length_map, ← hel]; exact hz
    have J : Inv X pins σ (upd H s.heap.objs.size (.lst (ents.map fun e => V.ref e.2.1))) { s with heap := h', toks := tk } := I.call' (ch := []) rfl (Un.laid hk (Nat.le_refl _) hp) (I.hok.laid hk (Nat.le_refl _) ⟨hlen, acc'.toList, c', vals, by rw [Array.toArray_toList]; exact hl⟩) I.bare (fun _ h => (nomatch h))
    exact ⟨.ref s.heap.objs.size, _, J, rfl, q _ _ _ (.new sf hp) (Dp.newL sf hp (ents_keys pe))⟩
  · cases e
end
end DL

set_option maxHeartbeats 4000000
namespace DL
open PySem PySem.Spec PyProof.Rows L2
/-! ### tables at the head -/
def tabsU (tf : List He.Defn) (K : PySem.W.Frag) : Bool :=
  (tfs.all fun p => decide (p ∈ tf) || !PySem.W.codeHdIn K (He.cT K p).1 (He.cT K p).2) && (tf.all fun p => tf.all fun p' => decide (p = p') || decide ((He.cT K p).2 ≠ (He.cT K p').2))
theorem isTab_in {tf : List He.Defn} {K : PySem.W.Frag} (u : tabsU tf K = true) {P : Addr} {q : Str} (i : IsTab K P q) : ∃ p, p ∈ tf ∧ P = (He.cT K p).2 ∧ q = p.1 ++ (".<locals>." : Str) ++ ("<lambda>" : Str) := by
  obtain ⟨p, h1, h2, h3, h4⟩ := i
  unfold tabsU at u
  rw [Bool.and_eq_true] at u
  have := List.all_eq_true.mp u.1 p h1
  rw [h2] at this
  simp at this
  exact ⟨p, this, h3, h4⟩
theorem tabs_un {tf : List He.Defn} {K : PySem.W.Frag} (u : tabsU tf K = true) : TabsUn K := fun P q q' i i' => by
  obtain ⟨p, a1, a2, a3⟩ := isTab_in u i
  obtain ⟨p', b1, b2, b3⟩ := isTab_in u i'
  unfold tabsU at u
  rw [Bool.and_eq_true] at u
  have := List.all_eq_true.mp (List.all_eq_true.mp u.2 p a1) p' b1
  rw [Bool.or_eq_true] at this
  rcases this with h | h
  · have := of_decide_eq_true h
    subst this
    rw [a3, b3]
  · exact absurd (a2.symm.trans b2) (of_decide_eq_true h)
theorem seq_ne {K : PySem.W.Frag} {H : Hp} {a P : Addr} {xs : List V} {ps : Array Value} (h : SqL K H a xs) (hP : H P = some (.tbl ps)) (hK : K.lookup P = none) : P ≠ a := fun z => by
  subst z
  rcases h with (h | ⟨o, h⟩) | ⟨o, its, n, h, _⟩
  · rw [hP] at h; cases h
  · rw [hP] at h; cases h
  · rw [hK] at h; cases h
theorem tab_at {K : PySem.W.Frag} {mg : Str → Option Value} {base : Heap} {x : Str} {st : Stmt} {fd : FuncData} (F : Fun K x x st (He.fAd K (x, none)) fd) (hd : PySem.W.codeHdIn K (He.cT K (x, none)).1 (He.cT K (x, none)).2 = true) (TB : LamX.TabB base mg (He.cT K (x, none)).1 (He.cT K (x, none)).2) (mem : (x, none) ∈ tfs) : TabAt K mg base x fd := by
  obtain ⟨oc, od, kV, doc, pm, an, cdv, ct, osl, e, lk, hc⟩ := F.ex
  unfold PySem.W.codeIn at hc
  cases cdv with
  | ref c =>
    have hfc : fd.code = .ref c := by rw [e]
    have hco := He.codeOf_eq (p := (x, none)) lk hfc
    have h1 : (He.cT K (x, none)).1 = c := hco
    rw [h1] at TB
    exact ⟨c, _, hfc, TB, (x, none), mem, hd, rfl, rfl⟩
  | _ => cases hc
theorem spLaw_of {K : PySem.W.Frag} {tf : List He.Defn} (u : tabsU tf K = true) (out : ∀ p ∈ tf, K.lookup (He.cT K p).2 = none) {H : Hp} {a : Addr} {ns : List Int} (hl : ns.length ≤ 63) (hS : SqL K H a (ns.map V.int)) (hT : ∀ p ∈ tf.map (He.cT K), H p.2 = some (.tbl #[])) {Q : VK} {E : XK} (hQ : ∀ H', Q (.bl true) H') : spLaw K (fun _ => True) [.ref a] H Q E :=
  ⟨a, ns, rfl, hS, hl, trivial, tabs_un u, fun P q i => by
    obtain ⟨p, h1, h2, _⟩ := isTab_in u i
    have e := hT _ (List.mem_map.mpr ⟨p, h1, rfl⟩)
    rw [h2]
    exact ⟨e, seq_ne hS e (out p h1)⟩, hQ⟩
end DL

set_option maxHeartbeats 4000000
namespace DL
open PySem PySem.Spec PyProof.Rows L2
/-! ### for k in d -/
def ItD (P : Program) (w : World) (a : Addr) (ents : List (NestedKey × Addr × Value)) (ep : Nat) : It :=
  ⟨fun i H => H a = some (.ext (DicObj P w a ents ep)) ∧ i < ents.length, fun i H v H' => H' = H ∧ ∃ e, ents[i]? = some e ∧ v = .ref e.2.1, fun i H => H a = some (.ext (DicObj P w a ents ep)) ∧ ents.length ≤ i⟩
theorem dic_es {P : Program} {w : World} {a : Addr} {ents : List (NestedKey × Addr × Value)} {ep : Nat} {h : Heap} (x : DicObj P w a ents ep h) : ∃ o es, h.get? a = some o ∧ o.data = .dict es ep ∧ es.size = ents.length ∧ ∀ (i : Nat) e, ents[i]? = some e → es[i]? = some (entryOfKey (nestedKind P w) e) := by
  obtain ⟨o, es, e1, e2, e3, e4⟩ := x
  refine ⟨o, es, e1, e3, ?_, fun i e he => ?_⟩
  · rw [← Array.length_toList, e4, List.length_map]
  · rw [← Array.getElem?_toList, e4, List.getElem?_map, he]
    rfl
theorem turnD {P : Program} {w : World} {K : PySem.W.Frag} {tg : Expr} (a it : Addr) (ents : List (NestedKey × Addr × Value)) (ep : Nat) :
    Turn P w K tg (ItD P w a ents ep) [it] it (fun i h => h.IsKeyIter it a i ents.length ep) where
  mem := by simp
  obj := fun i h st c hc => by
    have e : c = it := by simpa using hc
    subst e
    obtain ⟨o, ho, hcl, hd⟩ := st
    exact ⟨o, ho, fun v q => by rw [hd] at q; cases q⟩
  keep := fun i h h' st k => Heap.IsKeyIter.at st fun o e => k it (by simp) o e
  item := by
    intro X hP hw hK hc i pins s σ H E I hf st hg
    subst hP hw hK
    obtain ⟨hd, hi⟩ := hg
    obtain ⟨f0, f1, f2, f3, f4, f5⟩ := hf it (by simp)
    obtain ⟨o, es, o1, o2, o3, o4⟩ := dic_es (show ObjOk X.prog X.w H s.heap a (.ext (DicObj X.prog X.w a ents ep)) from I.hok a _ hd).1
    have he : ents[i]? = some ents[i] := List.getElem?_eq_getElem hi
    exact next_key_item st o1 o2 o3 (o4 i _ he) fun h' st' sb => ⟨_, rfl, letGo_keyiter st' ⟨.ref (ents[i]).2.1, H, Inv.turned I (fun b ob hb e => (sb.2 b hb).trans e) f0 f1 f3 f4 f5, rfl, ⟨rfl, _, he, rfl⟩, st', fun b hb => (hf b hb).1⟩⟩
  done := by
    intro X hP hw hK hc i pins s σ H E I hf st hg
    subst hP hw hK
    obtain ⟨hd, hi⟩ := hg
    obtain ⟨f0, f1, f2, f3, f4, f5⟩ := hf it (by simp)
    obtain ⟨o, es, o1, o2, o3, o4⟩ := dic_es (show ObjOk X.prog X.w H s.heap a (.ext (DicObj X.prog X.w a ents ep)) from I.hok a _ hd).1
    exact next_key_end (I.ok.hd hc) st o1 o2 o3 hi fun h' eb => ⟨rfl, Inv.turned I (fun b ob hb e => eb b ob hb e) f0 f1 f3 f4 f5⟩
  self := fun A i s Q E st h => wpAny_pyIter_keyiter st h
section
variable {X : Cx} {W : XK} {E : Ent} {pos p : Pos}
def tiD (P : Program) (w : World) (tl : TE) : TI := fun σ H R => tl σ H fun x H1 => ∃ a ents ep, x = .ref a ∧ (a == sysModules) = false ∧ H1 a = some (.ext (DicObj P w a ents ep)) ∧ R (ItD P w a ents ep) H1
theorem pi_dic {tg l : Expr} {tl : TE} (hl : PE X l tl) : PI X tg l (tiD X.prog X.w tl) := by
  refine ⟨fun pins s σ H R I h => ?_⟩
  refine thn (hl.run pins s σ H _ I h) fun v s1 ⟨x, H1, I1, r1, q1⟩ => ?_
  obtain ⟨a, ents, ep, e, hs, hd, q⟩ := q1
  subst e
  cases r1
  have fresh : ∀ b ∈ [s1.heap.objs.size], FpOk X pins H1 b := fun b hb => by
    have e : b = s1.heap.objs.size := by simpa using hb
    subst e
    exact I1.fpOk (Nat.le_refl _) (I1.hok.fresh (Nat.le_refl _))
  obtain ⟨o, es, e1, e2, e3, e4⟩ := (show ObjOk X.prog X.w H1 s1.heap a (.ext (DicObj X.prog X.w a ents ep)) from I1.hok a _ hd).1
  have hz : es.size = ents.length := by rw [← Array.length_toList, e4, List.length_map]
  refine wpAny_pyIter_dict_raw hs (⟨o, e1, e2, e3⟩ : s1.heap.DictRaw a es ep) ?_
  exact ⟨s1.heap.objs.size, [s1.heap.objs.size], _, _, H1, rfl, I1.kept (t' := s1.toks) fun b o e => Heap.get?_push_of_some _ e, turnD a _ ents ep, ⟨_, Heap.get?_push_size _ rfl, rfl, by rw [hz]; rfl⟩, fresh, q⟩
def iDic (f : En → M D) : En → M (List D) := fun ρ => do
  let x ← f ρ
  match x with
  | .dic kvs => pure (kvs.map fun p => .dat p.1)
  | _ => stk
theorem ents_get {K : PySem.W.Frag} {F : Hp} : ∀ {kvs : List (PyData × PyData)} {ents : List (NestedKey × Addr × Value)} {i : Nat} {p : PyData × PyData}, Paired (EntOk K F) kvs ents → kvs[i]? = some p → ∃ e, ents[i]? = some e ∧ EntOk K F p e
  | _, _, _, _, .nil, e => by simp at e
  | _, _, 0, _, .cons h _, e => by simp at e; subst e; exact ⟨_, rfl, h⟩
  | _, _, i + 1, _, .cons _ t, e => by simpa using ents_get (i := i) t (by simpa using e)
theorem yieldsD {P : Program} {w : World} {K : PySem.W.Frag} {F : Hp} {a : Addr} {kvs : List (PyData × PyData)} {ents : List (NestedKey × Addr × Value)} {ep : Nat} (h1 : F a = some (.ext (DicObj P w a ents ep))) (h2 : Paired (EntOk K F) kvs ents) : Yields P w K F (ItD P w a ents ep) (kvs.map fun p => .dat p.1) := by
  intro i F' H s1 s2
  have q := s2 _ _ (s1 _ _ h1)
  have hl := paired_len h2
  refine ⟨fun d e => ?_, fun e => ⟨q, by rw [← hl]; simpa using e⟩⟩
  rw [List.getElem?_map] at e
  obtain ⟨p, e1, e2⟩ := Option.map_eq_some_iff.mp e
  subst e2
  obtain ⟨en, n1, n2⟩ := ents_get h2 e1
  refine ⟨⟨q, (List.getElem?_eq_some_iff.mp n1).1⟩, fun z H' hz => ?_⟩
  obtain ⟨e3, en', e4, e5⟩ := hz
  subst e3 e5
  rw [n1] at e4
  cases e4
  exact ⟨F', .refl s2, Dp.mono s1 n2.adr⟩
theorem pdi_dic {tg l : Expr} {f : En → M D} (h : PD X W E l f) : PDI X W E tg l (iDic f) := by
  refine PI.imp (pi_dic h) fun σ H Q hl => ?_
  obtain ⟨F, ρ, R, ok, run⟩ := hl
  refine ⟨F, ρ, R, ok, run.bind.imp fun d R1 F1 H1 g1 r1 q v rv => ?_⟩
  cases d with
  | dic kvs =>
    obtain ⟨a, rfl, h1, h2, ents, h3, h4, ep, h5⟩ := rv
    exact ⟨a, ents, ep, rfl, h2, g1.fh _ _ h5, Run.pure q g1.fh r1 _ (yieldsD h5 h3)⟩
  | _ => exact q.elim
end
end DL

set_option maxHeartbeats 4000000
namespace DL
open PySem PySem.Spec PyProof.Rows L2
/-! ### for k, v in d.items() -/
def ItI (P : Program) (w : World) (a : Addr) (ents : List (NestedKey × Addr × Value)) (xs : List V) (ep : Nat) : It :=
  ⟨fun i H => H a = some (.ext (DicObj P w a ents ep)) ∧ i < ents.length,
   fun i H v H' => ∃ T e x, v = .ref T ∧ H T = none ∧ ents[i]? = some e ∧ xs[i]? = some x ∧ H' = upd H T (.tup [.ref e.2.1, x]),
   fun i H => H a = some (.ext (DicObj P w a ents ep)) ∧ ents.length ≤ i⟩
theorem dic_rawE {P : Program} {w : World} {a : Addr} {ents : List (NestedKey × Addr × Value)} {ep : Nat} {h : Heap} (x : DicObj P w a ents ep h) : ∃ es, h.DictRaw a es ep ∧ es.size = ents.length ∧ ∀ (i : Nat) e, ents[i]? = some e → es[i]? = some (entryOfKey (nestedKind P w) e) := by
  obtain ⟨o, es, e1, e2, e3, e4⟩ := x
  refine ⟨es, ⟨o, e1, e2, e3⟩, ?_, fun i e he => ?_⟩
  · rw [← Array.length_toList, e4, List.length_map]
  · rw [← Array.getElem?_toList, e4, List.getElem?_map, he]
    rfl
theorem turnI {P : Program} {w : World} {K : PySem.W.Frag} {elts : List Expr} {kk : Nat} {tpos : Pos} (a it : Addr) (ents : List (NestedKey × Addr × Value)) (xs : List V) (ep : Nat) (hx : Vals xs (ents.map fun e => e.2.2)) :
    Turn P w K (.Tuple elts kk tpos) (ItI P w a ents xs ep) [it] it (fun i h => ∃ ok ov, IsItemIter h it a i ents.length ep ok ov) where
  mem := by simp
  obj := fun i h st c hc => by
    have e : c = it := by simpa using hc
    subst e
    obtain ⟨ok, ov, e⟩ := st
    exact ⟨_, e, fun v z => nomatch z⟩
  keep := fun i h h' st k => let ⟨ok, ov, e⟩ := st; ⟨ok, ov, k it (by simp) _ e⟩
  item := by
    intro X hP hw hK hc i pins s σ H E I hf st hg
    subst hP hw hK
    obtain ⟨hd, hi⟩ := hg
    obtain ⟨es, raw, hsz, hat⟩ := dic_rawE (show ObjOk X.prog X.w H s.heap a (.ext (DicObj X.prog X.w a ents ep)) from I.hok a _ hd).1
    have he : ents[i]? = some ents[i] := List.getElem?_eq_getElem hi
    have hes := hat i _ he
    have hie : i < es.size := by omega
    have hes2 : es[i] = entryOfKey (nestedKind X.prog X.w) ents[i] := by
      rw [Array.getElem?_eq_getElem hie] at hes
      exact Option.some.inj hes
    obtain ⟨x, hxi, rx⟩ := vals_at (i := i) (u := ents[i].2.2) hx (by rw [List.getElem?_map, he]; rfl)
    obtain ⟨ok, ov, hit⟩ := st
    rw [← hsz] at hit
    have hlt : it < s.heap.objs.size := Heap.lt_size hit
    refine wpAny_pyNext_items_item_raw hit raw hie fun h' ho hT hz hk => ⟨_, rfl, wpAny_letOwnedTupleGo_items (s := { s with heap := h' }) ho fun h'' he' sb => ?_⟩
    rw [hes2] at hT he'
    have hT2 : h''.get? s.heap.objs.size = some { cls := .type "tuple", data := .seq #[.ref ents[i].2.1, ents[i].2.2] } := (sb.2 _ (Nat.ne_of_gt hlt)).trans hT
    have new : ObjOk X.prog X.w (upd H s.heap.objs.size (.tup [.ref ents[i].2.1, x])) h'' s.heap.objs.size (.tup [.ref ents[i].2.1, x]) :=
      ⟨by show 2 ≤ sizeLine; decide, [.ref ents[i].2.1, ents[i].2.2], .cons rfl (.cons rx .nil), ⟨_, hT2, rfl, _, rfl⟩⟩
    have I1 : Inv X pins σ (upd H s.heap.objs.size (.tup [.ref ents[i].2.1, x])) { s with heap := h'' } :=
      I.turnedNew (t' := s.toks) (ch := [it]) (fun b ob hb e => (sb.2 b (by simpa using hb)).trans (hk b ob (by simpa using hb) e)) hf (Nat.le_refl _) new
    refine ⟨.ref s.heap.objs.size, _, I1, rfl, ⟨_, _, x, rfl, I.hok.fresh (Nat.le_refl _), he, hxi, rfl⟩, ⟨_, _, by rw [← hsz]; exact he'⟩, fun b hb => ?_⟩
    have e : b = it := by simpa using hb
    rw [e, upd_ne (Nat.ne_of_lt hlt)]
    exact (hf it (by simp)).1
  done := by
    intro X hP hw hK hc i pins s σ H E I hf st hg
    subst hP hw hK
    obtain ⟨hd, hi⟩ := hg
    obtain ⟨f0, f1, f2, f3, f4, f5⟩ := hf it (by simp)
    obtain ⟨es, raw, hsz, hat⟩ := dic_rawE (show ObjOk X.prog X.w H s.heap a (.ext (DicObj X.prog X.w a ents ep)) from I.hok a _ hd).1
    obtain ⟨ok, ov, hit⟩ := st
    rw [← hsz] at hit
    exact wpAny_pyNext_items_end_raw (I.ok.hd hc) hit raw (by omega) fun h' eb => ⟨rfl, I.turned (t' := s.toks) (fun b ob hb e => eb b ob hb e) f0 f1 f3 f4 f5⟩
  self := fun A i s Q E st h => let ⟨_, _, e⟩ := st; wpAny_pyIter_itemiter e h
section
variable {X : Cx} {W : XK} {E : Ent} {pos p apos cpos : Pos}
def tiI (P : Program) (w : World) (tl : TE) : TI := fun σ H R => tl σ H fun x H1 => ∃ a ents ep, x = .ref a ∧ (a == sysModules) = false ∧ H1 a = some (.ext (DicObj P w a ents ep)) ∧ ∃ xs, Vals xs (ents.map fun e => e.2.2) ∧ R (ItI P w a ents xs ep) H1
theorem pi_itemsD {elts : List Expr} {kk : Nat} {tpos : Pos} {e : Expr} {te : TE} (he : PE X e te) (hbase : attributeBase e "items" X.env (eval e X.env) = eval e X.env := by rfl) (hline : (apos.endLine == cpos.line) = true := by rfl) :
    PI X (.Tuple elts kk tpos) (.Call (.Attribute e "items" apos) [] [] cpos) (tiI X.prog X.w te) := by
  refine ⟨fun pins s σ H R I h => ?_⟩
  refine wpAny_Call_method (T := "dict") (id := "dict.items") hbase rfl hline F.plainAttrs_dict F.slot_dict_items F.type_dict_items (thn (he.run pins s σ H _ I h) fun u s1 ⟨x, H1, I1, rx, a, ents, ep, ex, hs, hd, xs, hx, q⟩ => ?_)
  subst ex
  cases rx
  obtain ⟨es, raw, hsz, hat⟩ := dic_rawE (show ObjOk X.prog X.w H1 s1.heap a (.ext (DicObj X.prog X.w a ents ep)) from I1.hok a _ hd).1
  refine ⟨raw.typeIs, fun b e => ?_, ?_⟩
  · cases e
    obtain ⟨o, o1, o2, o3⟩ := raw
    exact ⟨o, o1, o2.2.1⟩
  have I2 : Inv X pins σ H1 { s1 with heap := s1.heap.push { cls := .type "dict_items", data := .fields #[.ref a] } } := I1.kept (t' := s1.toks) fun b ob q => Heap.get?_push_of_some _ q
  have fin : wpAny (model X.prog X.w) X.A (pyIter (.ref s1.heap.objs.size)) (PIE X pins σ (.Tuple elts kk tpos) R) X.xe { s1 with heap := s1.heap.push { cls := .type "dict_items", data := .fields #[.ref a] } } := by
    refine wpAny_pyIter_items_raw (d := a) (es := es) (ep := ep) ⟨_, Heap.get?_push_size _ rfl, rfl, rfl⟩ (raw.at fun o e => Heap.get?_push_of_some _ e) (pi_one (tk := s1.toks) I2 _ (turnI a _ ents xs ep hx) ⟨.none, .none, ?_⟩ q)
    rw [hsz]
    exact Heap.get?_push_size _ rfl
  show wpAny _ _ (callWith cpos (.builtin "dict.items") [.ref a] [] []) _ X.xe s1
  exact method_meetsIn F.slot_dict_items F.entry_dict_items rfl (PySem.evalArgs_none ⟨rfl, raw.typeIs, F.args_dict_items_1 _, _, meets_dict_items_raw a hs, ⟨es, ep, raw⟩, fin⟩)
def iItems (f : En → M D) : En → M (List D) := fun ρ => do
  let x ← f ρ
  match x with
  | .dic kvs => pure (kvs.map fun p => .dat (.tuple [p.1, p.2]))
  | _ => stk
theorem ents_vals {K : PySem.W.Frag} {F : Hp} : ∀ {kvs : List (PyData × PyData)} {ents : List (NestedKey × Addr × Value)}, Paired (EntOk K F) kvs ents → ∃ xs, Vals xs (ents.map fun e => e.2.2) ∧ DpAll K F xs (kvs.map (·.2))
  | _, _, .nil => ⟨[], .nil, .nil⟩
  | _, _, .cons h t => let ⟨v, r, d⟩ := h.val; let ⟨xs, a, b⟩ := ents_vals t; ⟨v :: xs, .cons r a, .cons d b⟩
theorem yieldsI {P : Program} {w : World} {K : PySem.W.Frag} {F : Hp} {a : Addr} {kvs : List (PyData × PyData)} {ents : List (NestedKey × Addr × Value)} {xs : List V} {ep : Nat} (h1 : F a = some (.ext (DicObj P w a ents ep))) (h2 : Paired (EntOk K F) kvs ents) (h3 : DpAll K F xs (kvs.map (·.2))) : Yields P w K F (ItI P w a ents xs ep) (kvs.map fun p => .dat (.tuple [p.1, p.2])) := by
  intro i F' H s1 s2
  have q := s2 _ _ (s1 _ _ h1)
  have hl := paired_len h2
  refine ⟨fun d e => ?_, fun e => ⟨q, by rw [← hl]; simpa using e⟩⟩
  rw [List.getElem?_map] at e
  obtain ⟨p, e1, e2⟩ := Option.map_eq_some_iff.mp e
  subst e2
  obtain ⟨en, n1, n2⟩ := ents_get h2 e1
  obtain ⟨x, x1, x2⟩ := h3.get (i := i) (by rw [List.getElem?_map, e1]; rfl)
  refine ⟨⟨q, (List.getElem?_eq_some_iff.mp n1).1⟩, fun z H' hz => ?_⟩
  obtain ⟨T, en', x', rfl, hT, e4, e5, rfl⟩ := hz
  rw [n1] at e4
  cases e4
  rw [x1] at e5
  cases e5
  have := upd_pair (K := K) s2 hT (Dp.mono s1 n2.adr) (Dp.mono s1 x2)
  exact ⟨_, this.1, this.2⟩
theorem pdi_items {elts : List Expr} {kk : Nat} {tpos : Pos} {e : Expr} {f : En → M D} (h : PD X W E e f) (hbase : attributeBase e "items" X.env (eval e X.env) = eval e X.env := by rfl) (hline : (apos.endLine == cpos.line) = true := by rfl) : PDI X W E (.Tuple elts kk tpos) (.Call (.Attribute e "items" apos) [] [] cpos) (iItems f) := by
  refine PI.imp (pi_itemsD h hbase hline) fun σ H Q hl => ?_
  obtain ⟨F, ρ, R, ok, run⟩ := hl
  refine ⟨F, ρ, R, ok, run.bind.imp fun d R1 F1 H1 g1 r1 q v rv => ?_⟩
  cases d with
  | dic kvs =>
    obtain ⟨a, rfl, h1, h2, ents, h3, h4, ep, h5⟩ := rv
    obtain ⟨xs, x1, x2⟩ := ents_vals h3
    exact ⟨a, ents, ep, rfl, h2, g1.fh _ _ h5, xs, x1, Run.pure q g1.fh r1 _ (yieldsI h5 h3 x2)⟩
  | _ => exact q.elim
/-! ### d.get(k, y) -/
def opGet (d x y : D) : Option D := match d, x, y with
  | .dic kvs, .dat k, .dat z => match DL.keyOf k with
    | some q => if isTupD k = true ∧ q.depth ≤ 8 then some (.dat ((dicAt kvs q).getD z)) else none
    | none => none
  | _, _, _ => none
def tGet (P : Program) (w : World) (K : PySem.W.Frag) (te : TE) (ta : TA) : TE := fun σ H Q => te σ H fun x H1 => ∃ (a : Addr) (F1 : Hp) (kvs1 : List (PyData × PyData)), x = .ref a ∧ Same F1 H1 ∧ DicAt P w K F1 H1 a kvs1 ∧
  ta σ H1 fun vs H2 => ∃ (F2 : Hp) (kvs : List (PyData × PyData)) (k : PyData) (v1 v2 : V) (z r : PyData), vs = [v1, v2] ∧ Same F2 H2 ∧ DicAt P w K F2 H2 a kvs ∧ Dp K F2 v1 k ∧ Dp K F2 v2 z ∧ opGet (.dic kvs) (.dat k) (.dat z) = some (.dat r) ∧
    ∀ v, Dp K F2 v r → Q v H2
theorem pe_getD {e : Expr} {es : List Expr} {a : Expr} {te : TE} {ta : TA} (hu : X.A.units + 64 < cLine) (he : PE X e te) (ha : PA X (a :: es) ta)
    (hbase : attributeBase e "get" X.env (eval e X.env) = eval e X.env := by rfl) (hline : (apos.endLine == cpos.line) = true := by rfl)
    (hfew : ((backTo cpos (starEach (a :: es) X.env)).all (fun x => !x.1) && (backToKw cpos (keywordEach [] X.env)).all (fun x => x.1.isSome)
      && decide ((a :: es).length + ([] : List Keyword).length + (if ([] : List Keyword).isEmpty then 0 else 1) < 30)) = true := by rfl)
    (hs : starEach (a :: es) X.env = (false, eval a X.env) :: starEach es X.env := by rfl) (hplain : (backTo cpos (starEach es X.env)).any (·.1) = false := by rfl) :
    PE X (.Call (.Attribute e "get" apos) (a :: es) [] cpos) (tGet X.prog X.w X.K te ta) := by
  refine ⟨fun pins s σ H Q I h => ?_⟩
  refine wpAny_Call_method (T := "dict") (id := "dict.get") hbase hfew hline F.plainAttrs_dict F.slot_dict_get F.type_dict_get (thn (he.run pins s σ H _ I h) fun u s1 ⟨x, H1, I1, rx, b, F1, kvs1, ex, sf1, hd1, q⟩ => ?_)
  subst ex
  cases rx
  obtain ⟨hm1, hz1, ents1, hp1, hdd1⟩ := dic_raw I1 sf1 hd1
  obtain ⟨es1, ep1, raw1, _⟩ := hdd1.raw
  refine ⟨raw1.typeIs, fun c e => ?_, ?_⟩
  · cases e
    obtain ⟨o, o1, o2, o3⟩ := raw1
    exact ⟨o, o1, o2.2.1⟩
  have hpl : (backTo cpos (starEach (a :: es) X.env)).any (·.1) = false := by
    rw [hs]
    exact hplain
  refine method_meetsIn F.slot_dict_get F.entry_dict_get hpl ?_
  have hcons : backTo cpos (starEach (a :: es) X.env) = (false, (backTo cpos [(false, eval a X.env)]).head!.2) :: backTo cpos (starEach es X.env) := by rw [hs]; rfl
  rw [hcons]
  refine Calls.evalArgs_plain ?_
  rw [← hcons]
  refine thn (ha.run cpos pins s1 σ H1 _ I1 q) fun us s2 ⟨vs, H2, I2, r2, F2, kvs, k, v1, v2, z, r, ev, sf, hd, hk, hz, eg, q2⟩ => ?_
  subst ev
  obtain ⟨w1, w2, rfl, rw1, rw2⟩ : ∃ w1 w2, us = [w1, w2] ∧ RelV v1 w1 ∧ RelV v2 w2 := by
    cases r2 with
    | cons x y => cases y with
      | cons y z => cases z; exact ⟨_, _, rfl, x, y⟩
  unfold opGet at eg
  dsimp only at eg
  cases ek : DL.keyOf k with
  | none => rw [ek] at eg; cases eg
  | some kq =>
    rw [ek] at eg
    dsimp only at eg
    by_cases h8 : isTupD k = true ∧ kq.depth ≤ 8
    · rw [if_pos h8] at eg
      cases eg
      cases k with
      | tuple zs =>
        obtain ⟨t, ys, rfl, _, _⟩ := Dp.tup_inv hk
        cases rw1
        obtain ⟨hm, hzz, ents, hp, hdd⟩ := dic_raw I2 sf hd
        obtain ⟨es2, ep2, raw2, _⟩ := hdd.raw
        refine ⟨rfl, raw2.typeIs, F.args_dict_get_3 _ _ _, _, meetsH_dict_get_default (nestedKind X.prog X.w) b t hm w2, (show X.A.units + 1 + 8 < cLine by omega), kq, ents, nk_is I2 ek (Dp.mono sf hk) h8.2, hdd, ?_⟩
        have hda := dicAt_raw (k := kq) hp
        have fin : ∀ (v : V) (u : Value) (dd : PyData), RelV v u → Dp X.K F2 v dd → (∀ v, Dp X.K F2 v dd → Q v H2) → EP X pins σ Q u { s2 with toks := s2.toks + (nestedKind X.prog X.w).draws kq } := fun v u dd h1 h2 h3 => ⟨v, H2, I2.tok _, h1, h3 v h2⟩
        cases e1 : atKey ents kq with
        | none =>
          cases e2 : dicAt kvs kq with
          | none => rw [e2] at q2; exact fin v2 w2 z rw2 hz q2
          | some d => rw [e1, e2] at hda; exact hda.elim
        | some en =>
          cases e2 : dicAt kvs kq with
          | none => rw [e1, e2] at hda; exact hda.elim
          | some d =>
            rw [e1, e2] at hda
            obtain ⟨v, h1, h2⟩ := hda
            rw [e2] at q2
            exact fin v en.2 d h1 h2 q2
      | _ => cases h8.1
    · rw [if_neg h8] at eg; cases eg
def eGet (fe : En → M D) (fa : En → M (List D)) : En → M D := fun ρ => do
  let d ← fe ρ
  match d with
  | .dic kvs => do
    let ds ← fa ρ
    match ds with
    | [k, z] => lft (opGet (.dic kvs) k z)
    | _ => stk
  | _ => stk
def eGetO (i : Nat) (fa : En → M (List D)) : En → M D := fun ρ => match ρ[i]? with
  | some (.own (.dic kvs)) => do
    let ds ← fa ρ
    match ds with
    | [k, z] => lft (opGet (.dic kvs) k z)
    | _ => stk
  | _ => stk
theorem opGet_dat {d x y r : D} (h : opGet d x y = some r) : ∃ kvs k z q, d = .dic kvs ∧ x = .dat k ∧ y = .dat z ∧ r = .dat q := by
  unfold opGet at h
  split at h
  · split at h
    · split at h
      · cases h; exact ⟨_, _, _, _, rfl, rfl, rfl, rfl⟩
      · cases h
    · cases h
  · cases h
theorem pd_getV {e : Expr} {es : List Expr} {a : Expr} {fe : En → M D} {fa : En → M (List D)} (hu : X.A.units + 64 < cLine) (he : PD X W E e fe) (ha : PDA X W E (a :: es) fa)
    (hbase : attributeBase e "get" X.env (eval e X.env) = eval e X.env := by rfl) (hline : (apos.endLine == cpos.line) = true := by rfl)
    (hfew : ((backTo cpos (starEach (a :: es) X.env)).all (fun x => !x.1) && (backToKw cpos (keywordEach [] X.env)).all (fun x => x.1.isSome)
      && decide ((a :: es).length + ([] : List Keyword).length + (if ([] : List Keyword).isEmpty then 0 else 1) < 30)) = true := by rfl)
    (hs : starEach (a :: es) X.env = (false, eval a X.env) :: starEach es X.env := by rfl) (hplain : (backTo cpos (starEach es X.env)).any (·.1) = false := by rfl) :
    PD X W E (.Call (.Attribute e "get" apos) (a :: es) [] cpos) (eGet fe fa) := by
  refine PE.imp (pe_getD hu he ha hbase hline hfew hs hplain) fun σ H Q hl => ?_
  obtain ⟨F, ρ, R, ok, run⟩ := hl
  refine ⟨F, ρ, R, ok, run.bind.imp fun d R1 F1 H1 g1 r1 h1 v rv => ?_⟩
  cases d with
  | dic kvs =>
    obtain ⟨b, rfl, hd⟩ := rv
    obtain ⟨o, ho⟩ := hd.some
    have hd1 : DicAt X.prog X.w X.K F1 H1 b kvs := hd.mono (Same.refl F1) (by rw [g1.fh _ _ ho, ho])
    have ok1 := ok.grow g1 r1
    refine ⟨b, F1, kvs, rfl, g1.fh, hd1, F1, ρ, R1, ok1, (show Run _ _ (fa ρ >>= _) _ _ _ _ from h1).bind.imp fun ds R2 F2 H2 g2 r2 h2 vs rs => ?_⟩
    split at h2
    · rename_i k z
      obtain ⟨r, e, h3⟩ := h2.lft
      obtain ⟨kvs', k', z', q, e1, e2, e3, e4⟩ := opGet_dat e
      subst e2 e3 e4
      cases rs with
      | cons p1 rs => cases rs with
        | cons p2 rs =>
          cases rs
          refine ⟨F2, kvs, k', _, _, z', q, rfl, g2.fh, hd.mono (F' := F2) g2.ff (by rw [g2.fh _ _ (g2.ff _ _ ho), ho]), p1, p2, e, fun v hv => h3 F2 H2 (Grow.refl g2.fh) r2 v hv⟩
    · exact h2.elim
  | _ => exact h1.elim
theorem pd_getO {x : Str} {es : List Expr} {a : Expr} {fa : En → M (List D)} (hu : X.A.units + 64 < cLine) (i : Nat) (he : PE X (.Name x p) (tVar i)) (ha : PDA X W E (a :: es) fa)
    (hbase : attributeBase (.Name x p) "get" X.env (eval (.Name x p) X.env) = eval (.Name x p) X.env := by rfl) (hline : (apos.endLine == cpos.line) = true := by rfl)
    (hfew : ((backTo cpos (starEach (a :: es) X.env)).all (fun x => !x.1) && (backToKw cpos (keywordEach [] X.env)).all (fun x => x.1.isSome)
      && decide ((a :: es).length + ([] : List Keyword).length + (if ([] : List Keyword).isEmpty then 0 else 1) < 30)) = true := by rfl)
    (hs : starEach (a :: es) X.env = (false, eval a X.env) :: starEach es X.env := by rfl) (hplain : (backTo cpos (starEach es X.env)).any (·.1) = false := by rfl) :
    PD X W E (.Call (.Attribute (.Name x p) "get" apos) (a :: es) [] cpos) (eGetO i fa) := by
  refine PE.imp (pe_getD hu he ha hbase hline hfew hs hplain) fun σ H Q hl => ?_
  obtain ⟨F, ρ, R, ok, run⟩ := hl
  unfold eGetO at run
  cases eq : ρ[i]? with
  | none => rw [eq] at run; exact run.elim
  | some sv =>
    rw [eq] at run
    cases sv with
    | no => exact run.elim
    | val d => exact run.elim
    | own o =>
      cases o with
      | lst ds => exact run.elim
      | ids ds => exact run.elim
      | dic kvs =>
        obtain ⟨b, q1, q2, q3, q4, q5⟩ := ok.sl i _ eq
        refine ⟨.ref b, q1, b, F, kvs, rfl, ok.g.fh, q5, F, ρ, R, ok, (show Run _ _ (fa ρ >>= _) _ _ _ _ from run).bind.imp fun ds R2 F2 H2 g2 r2 h2 vs rs => ?_⟩
        have ok2 := ok.grow g2 r2
        obtain ⟨b', p1, p2, p3, p4, p5⟩ := ok2.sl i _ eq
        rw [q1] at p1
        cases p1
        split at h2
        · rename_i k z
          obtain ⟨r, e, h3⟩ := h2.lft
          obtain ⟨kvs', k', z', q, e1, e2, e3, e4⟩ := opGet_dat e
          subst e2 e3 e4
          cases rs with
          | cons t1 rs => cases rs with
            | cons t2 rs =>
              cases rs
              exact ⟨F2, kvs, k', _, _, z', q, rfl, g2.fh, p5, t1, t2, e, fun v hv => h3 F2 H2 (Grow.refl g2.fh) r2 v hv⟩
        · exact h2.elim
end
end DL

set_option maxHeartbeats 4000000
namespace DL
open PySem PySem.Spec PyProof.Rows L2
/-! ### dict([(k, v), ..]) -/
def isPair : PyData → Bool
  | .tuple [k, _] => isTupD k && (match DL.keyOf k with | some q => decide (q.depth ≤ 8) | none => false)
  | _ => false
def putP (acc : List (PyData × PyData)) : PyData → List (PyData × PyData)
  | .tuple [k, v] => match DL.keyOf k with
    | some q => putD acc q k v
    | none => acc
  | _ => acc
def g_dictP : List D → Option D
  | [.dat (.list xs)] => if xs.all isPair = true ∧ xs.length ≤ SZ then some (.dic (xs.foldl putP [])) else none
  | _ => none
theorem putP_len (acc : List (PyData × PyData)) (x : PyData) : (putP acc x).length ≤ acc.length + 1 := by
  unfold putP
  split
  · split
    · exact putD_len _ _ _ _
    · omega
  · omega
theorem putsP_len : ∀ (xs : List PyData) (acc : List (PyData × PyData)), (xs.foldl putP acc).length ≤ acc.length + xs.length
  | [], acc => Nat.le_refl _
  | x :: xs, acc => by
    have := putP_len acc x
    have := putsP_len xs (putP acc x)
    rw [List.foldl_cons, List.length_cons]
    omega
/-- a pair of a list, as it stands in the heap -/
structure PairI (K : PySem.W.Frag) (F : Hp) (h : Heap) (x : PyData) (u : Value) (p : NestedKey × Addr × Value) : Prop where
  get : ∃ T, u = .ref T ∧ h.IsTuple T #[.ref p.2.1, p.2.2]
  dat : ∃ kd vd, x = .tuple [kd, vd] ∧ DL.keyOf kd = some p.1 ∧ p.1.depth ≤ 8 ∧ Dp K F (.ref p.2.1) kd ∧ ∃ v, RelV v p.2.2 ∧ Dp K F v vd
inductive PairsI (K : PySem.W.Frag) (F : Hp) (h : Heap) : List PyData → List Value → List (NestedKey × Addr × Value) → Prop
  | nil : PairsI K F h [] [] []
  | cons {x u p xs us ps} : PairI K F h x u p → PairsI K F h xs us ps → PairsI K F h (x :: xs) (u :: us) (p :: ps)
theorem PairsI.len {K : PySem.W.Frag} {F : Hp} {h : Heap} {xs : List PyData} {us : List Value} {ps : List (NestedKey × Addr × Value)} (p : PairsI K F h xs us ps) : us.length = ps.length ∧ xs.length = ps.length := by
  induction p with
  | nil => exact ⟨rfl, rfl⟩
  | cons _ _ ih => exact ⟨by simp [ih.1], by simp [ih.2]⟩
theorem PairsI.at {K : PySem.W.Frag} {F : Hp} {h : Heap} {xs : List PyData} {us : List Value} {ps : List (NestedKey × Addr × Value)} (q : PairsI K F h xs us ps) : ∀ {j : Nat} {p : NestedKey × Addr × Value}, ps[j]? = some p → ∃ x u, xs[j]? = some x ∧ us[j]? = some u ∧ PairI K F h x u p := by
  induction q with
  | nil => intro j p e; simp at e
  | @cons x u p xs us ps h1 _ ih =>
    intro j p' e
    cases j with
    | zero => simp at e; subst e; exact ⟨x, u, rfl, rfl, h1⟩
    | succ j => simpa using ih (j := j) (p := p') (by simpa using e)
theorem PairsI.put {K : PySem.W.Frag} {F : Hp} {h : Heap} {xs : List PyData} {us : List Value} {ps : List (NestedKey × Addr × Value)} (q : PairsI K F h xs us ps) : ∀ {acc : List (PyData × PyData)} {ents : List (NestedKey × Addr × Value)}, Paired (EntOk K F) acc ents → (ents.map (·.1)).Nodup →
    Paired (EntOk K F) (xs.foldl putP acc) (storedAllH ents ps) ∧ ((storedAllH ents ps).map (·.1)).Nodup := by
  induction q with
  | nil => exact fun a b => ⟨a, b⟩
  | @cons x u p xs us ps h1 _ ih =>
    intro acc ents hp hn
    obtain ⟨kd, vd, rfl, e1, e2, e3, v, e4, e5⟩ := h1.dat
    have hq : putP acc (.tuple [kd, vd]) = putD acc p.1 kd vd := by
      show (match DL.keyOf kd with | some q => putD acc q kd vd | none => acc) = _
      rw [e1]
    rw [List.foldl_cons, hq]
    exact ih (ents_put e1 e2 e3 e5 e4 hp) (keys_put hn)
section
variable {X : Cx} {W : XK} {E : Ent} {pos p : Pos}
theorem pairs_of {pins : List (Addr × Obj)} {s : Shared} {σ : L2.St} {F H : Hp} (I : Inv X pins σ H s) (sf : Same F H) : ∀ {ys : List V} {xs : List PyData} {us : List Value}, DpAll X.K F ys xs → Vals ys us → xs.all isPair = true → ∃ ps, PairsI X.K F s.heap xs us ps
  | _, _, _, .nil, .nil, _ => ⟨[], .nil⟩
  | _, _, _, @DpAll.cons _ _ y _ x _ h t, .cons r rt, ha => by
    rw [List.all_cons, Bool.and_eq_true] at ha
    obtain ⟨ps, hps⟩ := pairs_of I sf t rt ha.2
    have h1 := ha.1
    unfold isPair at h1
    split at h1
    · rename_i kd vd
      rw [Bool.and_eq_true] at h1
      obtain ⟨hk, h1⟩ := h1
      cases ek : DL.keyOf kd with
      | none => rw [ek] at h1; cases h1
      | some k =>
        rw [ek] at h1
        have h8 : k.depth ≤ 8 := of_decide_eq_true h1
        obtain ⟨T, zs, rfl, hF, hall⟩ := Dp.tup_inv h
        cases r
        obtain ⟨its, r2, pl, hz⟩ := I.tuple (sf.tup hF)
        cases hall with
        | @cons z1 _ _ _ d1 t1 => cases t1 with
          | @cons z2 _ _ _ d2 t2 =>
            cases t2
            cases r2 with
            | @cons _ u1 _ _ r1 r2 => cases r2 with
              | @cons _ u2 _ _ r2 r3 =>
                cases r3
                cases kd with
                | tuple kx =>
                  obtain ⟨b, kz, rfl, _, _⟩ := Dp.tup_inv d1
                  cases r1
                  exact ⟨(k, b, u2) :: ps, .cons ⟨⟨T, rfl, pl⟩, ⟨_, _, rfl, ek, h8, d1, _, r2, d2⟩⟩ hps⟩
                | _ => cases hk
    · cases h1
theorem dt_dictP (hc : X.calm = true) (hu : X.A.units + 64 < cLine) : DCall X (.type "dict") g_dictP := by
  intro pins s σ H vs us Q I r h
  obtain ⟨F, ds, d, sf, pr, e, q⟩ := h
  unfold g_dictP at e
  split at e
  · rename_i xs
    split at e
    · rename_i hz
      cases e
      obtain ⟨v, rfl, rv⟩ := paired1 pr
      obtain ⟨a, ys, rfl, h2, h3⟩ := Dp.lst_inv rv
      obtain ⟨its, r2, pl, hz2⟩ := I.list (sf.seq h2)
      obtain ⟨ps, hps⟩ := pairs_of I sf h3 r2 hz.1
      obtain ⟨u, rfl, ru⟩ : ∃ u, us = [u] ∧ RelV (.ref a) u := by
        cases r with
        | cons r t => cases t; exact ⟨_, rfl, r⟩
      cases ru
      obtain ⟨l1, l2⟩ := hps.len
      have hp : H s.heap.objs.size = none := I.hok.fresh (Nat.le_refl _)
      have PA := PairArg.list (prog := X.prog) (w := X.w) a its.toArray (fun j => match its[j]? with | some (.ref T) => T | _ => 0) (ps.map fun p => (Value.ref p.2.1, p.2.2))
      have hlen : xs.length ≤ sizeLine := by have := hz.2; rw [← sz_eq]; exact this
      refine call_dict_pairsH (knd := nestedKind X.prog X.w) (ps := ps) PA (I.ok.hd hc) (show X.A.units + 1 + 1 + 8 < cLine by omega) ⟨?_, ?_, ?_⟩ ⟨by simp, ?_⟩ ?_ (by rw [List.length_map, ← l2]; exact hlen) fun h' tk hd hk => ?_
      · exact pl
      · rw [List.length_map]; simpa using l1
      · intro j k v e
        rw [List.getElem?_map] at e
        obtain ⟨p, e1, e2⟩ := Option.map_eq_some_iff.mp e
        cases e2
        obtain ⟨x, u, _, e3, hpi⟩ := hps.at e1
        obtain ⟨T, rfl, hT⟩ := hpi.get
        refine ⟨?_, .inl ?_⟩
        · simp [e3]
        · simpa [e3] using hT
      · intro i key v e
        have e : (ps.map fun p => (Value.ref p.2.1, p.2.2))[i]? = some (key, v) := e
        rw [List.getElem?_map] at e
        obtain ⟨p, e1, e2⟩ := Option.map_eq_some_iff.mp e
        cases e2
        exact ⟨p.1, p.2.1, e1, rfl⟩
      · intro h' hk x hx
        obtain ⟨j, hj⟩ := List.getElem?_of_mem hx
        obtain ⟨_, _, _, _, hpi⟩ := hps.at hj
        obtain ⟨kd, vd, _, e1, e2, e3, _⟩ := hpi.dat
        have n := nk_is I e1 (e3.mono sf) e2
        exact ⟨NestedIs.at (fun b o _ _ e _ => hk b o (Nat.ne_of_lt (Heap.lt_size e)) (by simp) e) _ _ n.1, n.2⟩
      · obtain ⟨ep, hnew⟩ := dic_new hd
        obtain ⟨p1, p2⟩ := hps.put (.nil : Paired (EntOk X.K F) [] []) List.nodup_nil
        have J := I.laid (a := s.heap.objs.size) (o := .ext (DicObj X.prog X.w s.heap.objs.size (storedAllH [] ps) ep)) (h' := h') (t' := tk) (fun b o e => hk b o (by simp) e) (Nat.le_refl _) (hnew _)
        have g : GrowP F H (upd F s.heap.objs.size (.ext (DicObj X.prog X.w s.heap.objs.size (storedAllH [] ps) ep))) (upd H s.heap.objs.size (.ext (DicObj X.prog X.w s.heap.objs.size (storedAllH [] ps) ep))) := .new sf hp
        refine ⟨.ref s.heap.objs.size, _, J, rfl, q _ _ _ g ⟨s.heap.objs.size, rfl, ?_, big_ne I.big, storedAllH [] ps, Paired.mapP p1 fun _ _ => EntOk.mono g.ff, p2, ep, upd_same⟩⟩
        have := putsP_len xs []
        have := hz.2
        rw [← sz_eq]
        simp at *
        omega
    · cases e
  · cases e
/-- sorted of a list: of at most one thing, or of what sortOk takes -/
def g_sortedX : List D → Option D
  | [.dat (.list xs)] => if xs.length ≤ 1 then some (.dat (.list xs)) else g_sorted [.dat (.list xs)]
  | _ => none
theorem dc_sortedX (hc : X.calm = true) (hu : X.A.units + 64 < cLine) : DCall X (.builtin "sorted") g_sortedX := by
  intro pins s σ H vs us Q I r h
  obtain ⟨F, ds, d, sf, pr, e, q⟩ := h
  unfold g_sortedX at e
  split at e
  · rename_i xs
    by_cases h1 : xs.length ≤ 1
    · rw [if_pos h1] at e
      cases e
      obtain ⟨v, rfl, rv⟩ := paired1 pr
      obtain ⟨a, ys, rfl, h5, h6⟩ := Dp.lst_inv rv
      obtain ⟨its, r2, pl, hz2⟩ := I.list (sf.seq h5)
      rw [Vals.ref1 r]
      have em := each_of r2 h6
      have l1 : its.length = xs.length := by
        have : ∀ {vs : List V} {us : List Value} {ds : List PyData}, Vals vs us → DpAll X.K F vs ds → us.length = ds.length := by
          intro vs us ds r
          induction r generalizing ds with
          | nil => intro h; cases h; rfl
          | cons _ _ ih => intro h; cases h with
            | cons _ t => simp [ih t]
        exact this r2 h6
      refine _root_.Srt.sorted_any pl.isList (by rw [l1, sizeLine_eq]; omega) (fun h2 => absurd h2 (by omega)) fun out ho => ?_
      have eo : out = its := by
        cases its with
        | nil => exact ho.eq_nil
        | cons x t =>
          cases t with
          | nil => exact List.perm_singleton.mp ho
          | cons y t => simp at l1; omega
      subst eo
      obtain ⟨ep, he'⟩ := PyProof.Rows.sortedAll_at s.heap out out.toArray
      have hlen : ys.length ≤ sizeLine := hz2
      have hf : H (s.heap.objs.size + 1) = none := I.hok.fresh (Nat.le_succ _)
      exact ⟨.ref _, upd H (s.heap.objs.size + 1) (.lst ys), I.laid (t' := s.toks) (fun _ _ => PyProof.Rows.sortedAll_old) (Nat.le_succ _) ⟨hlen, out, ep, r2, he'⟩, rfl, q _ _ _ (.new sf hf) (Dp.newL sf hf h6)⟩
    · rw [if_neg h1] at e
      exact dc_sorted hu pins s σ H vs us Q I r ⟨F, _, d, sf, pr, e, q⟩
  · cases e
end
end DL

set_option maxHeartbeats 4000000
namespace DL
open PySem PySem.Spec PyProof.Rows L2
section
variable {X : Cx} {W : XK} {E : Ent} {pos : Pos}
/-! ### a, b = a new list or dict, a value -/
def sParNE (i j : Nat) (f : En → M OW) (g : En → M D) : En → M Fl := fun ρ => do let x ← f ρ; let y ← g ρ; pure (.nx ((ρ.set i (.own x)).set j (.val y)))
theorem pds_parNEc {x y : Str} {a b : Expr} {px py pt : Pos} {kt k2 pt2} {f : En → M OW} {g : En → M D} (i j : Nat) (hc : X.calm = true) (n1 : PG X (.Name x px) (gName i)) (n2 : PG X (.Name y py) (gName j)) (ha : PDN X W E a f) (hb : PD X W E b g)
    (hw : swappedStores [.Tuple [.Name x px, .Name y py] kt pt] (.Tuple [a, b] k2 pt2) X.env = pure none := by rfl)
    (hs : swapsWithSole [.Tuple [.Name x px, .Name y py] kt pt] (.Tuple [a, b] k2 pt2) pos.line X.env = pure false := by rfl) (h1 : starEach [a, b] X.env = (false, eval a X.env) :: starEach [b] X.env := by rfl) (h2 : starEach [b] X.env = (false, eval b X.env) :: starEach [] X.env := by rfl)
    (hs1 : (assignEach [Expr.Name x px, Expr.Name y py] X.env).map (·.2) = assign (.Name x px) X.env :: (assignEach [Expr.Name y py] X.env).map (·.2) := by rfl) (hs2 : (assignEach [Expr.Name y py] X.env).map (·.2) = assign (.Name y py) X.env :: (assignEach [] X.env).map (·.2) := by rfl)
    (hn : (assignEach [Expr.Name x px, Expr.Name y py] X.env).length = 2 := by rfl) (hst : (assignEach [Expr.Name x px, Expr.Name y py] X.env).findIdx? (·.1) = none := by rfl)
    (h0 : (assignEach [Expr.Tuple [.Name x px, .Name y py] kt pt] X.env).map (·.2) = [assign (.Tuple [.Name x px, .Name y py] kt pt) X.env] := by rfl) :
    PDS X W E (.Assign [.Tuple [.Name x px, .Name y py] kt pt] (.Tuple [a, b] k2 pt2) pos) (sParNE i j f g) := by
  refine PS.imp (ps_asg (pe_tup (pos := pt2) (pa_cons ha (pa_cons hb pa_nil h2) h1)) (pg_tup hc (pgs_cons n1 (pgs_cons n2 pgs_nil hs2) hs1) hn hst) hs hw h0) fun D₀ σ H hl => ?_
  obtain ⟨F, ρ, R, ok, run⟩ := hl
  refine ⟨F, ρ, R, ok, (run.bind ok).imp fun ox R1 F1 H1 g1 r1 q1 p u hp ow => ?_⟩
  have ok1 := ok.grow g1 r1
  obtain ⟨f1, f2, f3⟩ := ok1.fresh hp
  have nor := ok1.noref hp
  have ok1' := ok1.grow (Grow.lay (o := u) g1.fh hp) (r1.lay hp)
  refine ⟨F1, ρ, R1, ok1', (q1.bind ok1').imp fun dy R2 F2 H2 g2 r2 q2 vy ry => ?_⟩
  have ok2 := ok1'.grow g2 r2
  have e2 : H2 p = some u := g2.hs p u upd_same f2 f3 (ow.nt upd_same)
  have ok3 := ok2.own i (o := ox) (p := p) f1 (g2.hn p (by rw [upd_same]; simp) f2).2 (by rw [RS.ad_key g2.rk]; exact f3) (ow.mono g2.ff (by rw [e2, upd_same])) (fun j oj _ e => nor j oj e)
  refine ⟨by show 2 ≤ sizeLine; decide, fun t ht => ?_⟩
  have ok4 := ok3.set j ry
  have ok5 := ok4.grow (Grow.lay (o := .tup [.ref p, vy]) ok4.g.fh ht) (ok4.row.lay ht)
  exact ⟨t, _, rfl, SqT.of upd_same, rfl, _, _, rfl, _, _, rfl, rfl, q2 _ F2 _ (Same.refl F2) ok5⟩
end
end DL

set_option maxHeartbeats 4000000
namespace DL
open PySem PySem.Spec PyProof.Rows L2
/-! ### o.m() of a board -/
structure FnMt (P : Program) (w : World) (K : PySem.W.Frag) (mg : Str → Option Value) (base : Heap) (k : Nat) (m : Str) (fn : List D → M D) : Prop where
  ex : ∃ f fd ps, Meth K (He.ga K "Board") m f ∧ Binds K fd ps [] ∧ FnOk P w K mg base (L2.CX P w) k f fd ps (spD P w K fn)
theorem FnMt.mono {P : Program} {w : World} {K : PySem.W.Frag} {mg : Str → Option Value} {base : Heap} {k k' : Nat} {m : Str} {fn : List D → M D} (h : FnMt P w K mg base k m fn) (l : k ≤ k') : FnMt P w K mg base k' m fn :=
  let ⟨f, fd, ps, a, b, c⟩ := h.ex; ⟨f, fd, ps, a, b, c.mono l⟩
theorem fnMt_mk {P : Program} {w : World} {K : PySem.W.Frag} {mg : Str → Option Value} {base : Heap} {x qual m : Str} {st : Stmt} {f : Addr} {fd : FuncData} {N ps : List Str} {k : Nat} {fb : En → M Fl} {fn : List D → M D} (hm : Meth K (He.ga K "Board") m f) (F : Fun K x qual st f fd) (hb : Binds K fd ps []) (S : FnScope N ps (defScope st))
    (hbody : ∀ (cdv : Value) (A : Around) (outer : List Env) (s : Shared) (H : Hp) (EX : XK) (E : Ent), Room k (A.deeper (envOfC qual (defScope st) s.heap.objs.size f cdv)) →
      PDSs (cxOf (L2.CX P w) P w K mg base N qual (defScope st) f cdv A outer s H EX) EX E (defBody st) fb) (hfn : runFn ps.length N.length fb = fn) : FnMt P w K mg base (k + 1) m fn :=
  ⟨f, fd, ps, hm, hb, by rw [← hfn]; exact fn_ok F S hbody⟩
/-- a method of no arguments, asked of a board -/
def eMt (fn : List D → M D) (f : En → M D) : En → M D := fun ρ => do
  let d ← f ρ
  match d with
  | .brd m l => fn [.brd m l]
  | _ => stk
section
variable {X : Cx} {W : XK} {E : Ent} {pos p : Pos}
theorem pd_meth0 {o : Expr} {m : Str} {apos : Pos} {k : Nat} {fn : List D → M D} {fo : En → M D} {pl : Sem Bool} (h : FnMt X.prog X.w X.K X.mg X.base k m fn) (hC : Cls X.K (He.ga X.K "Board")) (hr : Room k X.A) (tk : Takes X (fun c d _ H => W c d H)) (ho : PD X W E o fo)
    (hlk : ∀ a b : V, List.lookup m [(("many" : Str), a), (("leaps" : Str), b)] = none)
    (ht : eval (.Call (.Attribute o m apos) [] [] pos) X.env = (do
      let ov ← eval o X.env
      standAt apos.atName
      let (f, first) ← holding [ov] (getMethod ov m pl)
      callWith pos f first (backTo pos (starEach [] X.env)) (backToKw pos (keywordEach [] X.env))) := by rfl) :
    PD X W E (.Call (.Attribute o m apos) [] [] pos) (eMt fn fo) := by
  obtain ⟨f, fd, ps, hm, hb, F⟩ := h.ex
  refine PE.imp (pe_meth0 (pl := pl) ho hC hm F hr hb .nil (passes_call (E := W) tk fun _ _ _ _ h => h) ht) fun σ H Q hl => ?_
  obtain ⟨F0, ρ, R, ok, run⟩ := hl
  refine ⟨F0, ρ, R, ok, run.bind.imp fun d R1 F1 H1 g1 r1 h1 v rv => ?_⟩
  cases d with
  | brd mm l =>
    obtain ⟨a, dx, vl, rfl, hF, hl⟩ := rv
    refine ⟨a, dx, _, rfl, g1.fh _ _ hF, hlk _ _, ?_⟩
    show spD X.prog X.w X.K fn [.ref a] H1 Q W
    exact ⟨F1, [.brd mm l], R1, g1.fh, r1, .cons ⟨a, dx, vl, rfl, hF, hl⟩ .nil, h1⟩
  | _ => exact h1.elim
/-! ### sorted(d) -/
theorem objok_some {P : Program} {w : World} {H : Hp} {h : Heap} {a : Addr} {o : HO} (x : ObjOk P w H h a o) : ∃ u, h.get? a = some u := by
  cases o with
  | lst xs => obtain ⟨_, _, _, _, e⟩ := x; exact ⟨_, e⟩
  | tup xs => obtain ⟨_, _, _, p⟩ := x; obtain ⟨_, e, _⟩ := p; exact ⟨_, e⟩
  | dK kvs => obtain ⟨_, _, _, _, o, _, _, e, _⟩ := x; exact ⟨_, e⟩
  | dT kvs => obtain ⟨_, _, _, _, o, _, _, e, _⟩ := x; exact ⟨_, e⟩
  | set S n => obtain ⟨o, _, _, _, e, _⟩ := x; exact ⟨_, e⟩
  | ins C dx fs => obtain ⟨_, _, _, e, _⟩ := x; exact ⟨_, e⟩
  | own y => obtain ⟨_, e⟩ := x; exact ⟨_, e⟩
  | xd fs => obtain ⟨_, ⟨_, _, _, e, _⟩, _⟩ := x; exact ⟨_, e⟩
  | rng lo hi => obtain ⟨_, _, _, e⟩ := x; exact ⟨_, e⟩
  | frz ob u => obtain ⟨e, _⟩ := x; exact ⟨_, e⟩
  | met f y => exact ⟨_, (show h.get? a = some _ from x)⟩
  | tbl ps => exact ⟨_, (show h.get? a = some _ from x)⟩
  | ext φ => obtain ⟨_, ⟨o, e⟩, _⟩ := x; exact ⟨_, e⟩
def g_sortedD : List D → Option D
  | [.dic kvs] => if sortOk (kvs.map (·.1)) = true then some (.dat (.list (sortD (kvs.map (·.1))))) else none
  | _ => none
theorem dc_sortedD (hc : X.calm = true) (hu : X.A.units + 64 < cLine) : DCall X (.builtin "sorted") g_sortedD := by
  intro pins s σ H vs us Q I r h
  obtain ⟨F, ds, d, sf, pr, e, q⟩ := h
  unfold g_sortedD at e
  split at e
  · rename_i kvs
    by_cases hz0 : sortOk (kvs.map (·.1)) = true
    · rw [if_pos hz0] at e
      cases e
      obtain ⟨h1, h2, h3, h4⟩ := sortOk_ok hz0
      obtain ⟨v, rfl, rv⟩ := paired1 pr
      obtain ⟨a, rfl, hd⟩ := rv
      obtain ⟨o, ho⟩ := hd.some
      have hd' : DicAt X.prog X.w X.K F H a kvs := hd.mono (Same.refl F) (by rw [sf _ _ ho, ho])
      obtain ⟨hs, hz, ents, pe, dh⟩ := dic_raw I sf hd'
      obtain ⟨es, ep, raw, hsz, hat⟩ := dh.raw
      have hel : kvs.length = ents.length := paired_len pe
      rw [Vals.ref1 r]
      refine Calls.call_function_entry kind_sorted plain_sorted entry_sorted (args_sorted1 _) ?_
      unfold Builtin.«sorted»
      refine wpAny_bind (m := checkCount "sorted" 1 1 _) (wpAny_pure ?_)
      refine wpAny_bind (W.kdu_collect (A := X.A.in1) (PySem.KdlSrc.rawDict (d := a) (es := es) (ep := ep) hs) (I.ok.hd hc) raw (by rw [hsz, ← hel]; exact hz) fun h' tk acc' hk hi => ?_)
      obtain ⟨i1, i2⟩ := hi
      have hlist : acc'.toList = ents.map fun e => Value.ref e.2.1 := by
        refine List.ext_getElem? fun j => ?_
        rw [List.getElem?_map]
        by_cases hj : j < acc'.size
        · have hje : j < es.size := by omega
          obtain ⟨y, y1, y2, _⟩ := hat j hje
          have e1 : acc'[j]? = some acc'[j] := Array.getElem?_eq_getElem hj
          obtain ⟨_, e2⟩ := i2 j _ e1
          rw [Array.getElem?_toList, e1, y1, e2, y2]
          rfl
        · have e1 : acc'[j]? = none := Array.getElem?_eq_none (by omega)
          have e2 : ents[j]? = none := List.getElem?_eq_none (by omega)
          rw [Array.getElem?_toList, e1, e2]
          rfl
      have vals : Vals (ents.map fun e => V.ref e.2.1) acc'.toList := by
        rw [hlist]
        clear hlist i1 i2 hat hsz raw dh pe hel hd' hd
        induction ents with
        | nil => exact .nil
        | cons e ents ih => exact .cons rfl ih
      have keys := ents_keys pe
      have em := each_of vals keys
      have hl : acc'.toList.length = (kvs.map (·.1)).length := em.length
      have er : W.EachIs (fun v b => ∃ as, Reads s.heap v b as) acc'.toList (kvs.map (·.1)) := em.mono fun u d ⟨v, ru, hd⟩ => rd_reads I sf hd ru
      refine wpAny_bind (wpAny_newList ?_ (by rw [hl, ← sz_eq]; exact h1))
      have newL : (h'.push (seqObj "list" acc'.toList.toArray 0)).get? h'.objs.size = some (seqObj "list" acc'.toList.toArray 0) := Heap.get?_push_size _ rfl
      have er2 : W.EachIs (fun v b => ∃ as, Reads (W.sortingHeap (h'.push (seqObj "list" acc'.toList.toArray 0)) h'.objs.size acc'.toList) v b as) acc'.toList (kvs.map (·.1)) := er.mono fun u b ⟨as, rd⟩ => ⟨as, PyProof.Rows.Reads.keeps (fun c o hb => by
        have hb1 := hk c o hb
        exact W.sortingHeap_old (Nat.ne_of_lt (Heap.lt_size hb1)) (Heap.get?_push_of_some _ hb1)) rd⟩
      refine wpAny_bind (wpAny_holding (NS.sort_read (s := { s with heap := h'.push (seqObj "list" acc'.toList.toArray 0), toks := tk }) (R := fun u d => ∃ v, RelV v u ∧ Dp X.K F v d) (bs := kvs.map (·.1)) newL em er2 h3 h4 (by rw [← sz_eq]; exact h1) (fun b hb => ?_) fun out ho2 eo => ?_))
      · have := depth_mem hb
        show X.A.units + 1 + 1 + b.depth < cLine
        omega
      · obtain ⟨c, hcx⟩ := sortedHeap_at (vs := acc'.toList) (out := out.toArray) newL
        obtain ⟨ws, w1, w2⟩ := of_each eo
        have nos : s.heap.get? h'.objs.size = none := by
          cases e : s.heap.get? h'.objs.size with
          | none => rfl
          | some o => exact absurd (Heap.lt_size (hk _ _ e)) (Nat.lt_irrefl _)
        have noH : H h'.objs.size = none := by
          cases e : H h'.objs.size with
          | none => rfl
          | some o =>
            obtain ⟨u, hu⟩ := objok_some (I.hok _ _ e)
            rw [nos] at hu; cases hu
        have hlen : ws.length ≤ sizeLine := by rw [w1.length, ho2, ← sz_eq]; exact h1
        refine wpAny_pure ⟨_, rfl, .ref h'.objs.size, upd H h'.objs.size (.lst ws), I.laidN (t' := tk) (fun b u hb => ?_) nos noH ⟨hlen, out, c, w1, hcx⟩, rfl, q _ _ _ (.new sf noH) (Dp.newL sf noH w2)⟩
        have hb1 := hk b u hb
        have lt := Heap.lt_size hb1
        show (sortedHeap (h'.push _) h'.objs.size _ out.toArray).get? b = some u
        rw [sortedHeap_old (Nat.ne_of_lt lt) (by rw [size_push']; exact Nat.lt_succ_of_lt lt)]
        exact Heap.get?_push_of_some _ hb1
    · rw [if_neg hz0] at e; cases e
  · cases e
end
end DL

set_option maxHeartbeats 4000000
namespace DL
open PySem PySem.Spec PyProof.Rows L2
section
variable {X : Cx} {W : XK} {E : Ent} {pos p : Pos}
/-! ### range(a, b, -1) -/
def downD (i : Int) (n : Nat) : List D := (List.range n).map fun (k : Nat) => .dat (.int (i + (k : Nat) * (-1)))
def iRangeDn (a : En → M (List D)) : En → M (List D) := fun ρ => do
  let xs ← a ρ
  match xs with
  | [.dat (.int i), .dat (.int j), .dat (.int c)] => if (inLine i && inLine j && decide (c = -1)) = true then pure (downD i (i - j).toNat) else stk
  | _ => stk
theorem yields_down {P : Program} {w : World} {K : PySem.W.Frag} {F : Hp} {lo : Int} {n : Nat} : Yields P w K F (L2.Itc lo (-1) n) (downD lo n) := by
  intro i F' H s1 s2
  unfold downD
  refine ⟨fun d e => ?_, fun e => show n ≤ i by simpa using e⟩
  rw [List.getElem?_map] at e
  obtain ⟨y, e1, e2⟩ := Option.map_eq_some_iff.mp e
  have hi : i < n := by
    have := (List.getElem?_eq_some_iff.mp e1).1
    simpa using this
  have ey : y = i := by
    rw [List.getElem?_range hi] at e1
    exact (Option.some.inj e1).symm
  subst ey e2
  refine ⟨hi, fun z H' hz => ?_⟩
  obtain ⟨e3, e4⟩ := hz
  subst e3 e4
  exact ⟨F', .refl s2, .int _⟩
theorem pdi_rangeDn {tg a b c : Expr} {f : En → M (List D)} (hg : Gl X "range") (hm : X.mg "range" = none) (ha : PDA X W E [a, b, c] f) (hs : starEach [a, b, c] X.env = (false, eval a X.env) :: starEach [b, c] X.env := by rfl) (hpl : (backTo pos (starEach [b, c] X.env)).any (·.1) = false := by rfl) :
    PDI X W E tg (.Call (.Name "range" p) [a, b, c] [] pos) (iRangeDn f) := by
  refine PI.imp (pi_range3 hg hm ha hs hpl) fun σ H Q hl => ?_
  obtain ⟨F, ρ, R, ok, run⟩ := hl
  refine ⟨F, ρ, R, ok, run.bind.imp fun ds R1 F1 H1 g1 r1 q vs rs => ?_⟩
  split at q
  · rename_i i j c
    cases rs with
    | cons h t => cases t with
      | cons h' t' => cases t' with
        | cons h'' t'' =>
          cases t''
          by_cases hl : (inLine i && inLine j && decide (c = -1)) = true
          · rw [if_pos hl] at q
            rw [Bool.and_eq_true, Bool.and_eq_true] at hl
            have h1 := of_decide_eq_true hl.1.1
            have h2 := of_decide_eq_true hl.1.2
            have h3 : c = -1 := of_decide_eq_true hl.2
            subst h3
            exact ⟨i, j, -1, (i - j).toNat, by rw [Dp.int_inv h, Dp.int_inv h', Dp.int_inv h''], L2.RgC.neg h1.1 h1.2 h2.1 h2.2, Run.pure q g1.fh r1 _ yields_down⟩
          · rw [if_neg hl] at q
            exact q.elim
  · exact q.elim
/-! ### xs.count(y), whole numbers -/
def opCount (d : D) (ds : List D) : Option D := match d, ds with
  | .dat (.list xs), [.dat (.int k)] => (intsD xs).map fun ns => .dat (.int (ns.count k : Nat))
  | _, _ => none
def eCount (fo : En → M D) (fa : En → M (List D)) : En → M D := fun ρ => do
  let d ← fo ρ
  match d with
  | .dat (.list xs) => do
    let ds ← fa ρ
    lft (opCount (.dat (.list xs)) ds)
  | _ => stk
theorem pd_count {o e : Expr} {es : List Expr} {fo : En → M D} {fa : En → M (List D)} {apos cpos : Pos} (ho : PD X W E o fo) (ha : PDA X W E (e :: es) fa)
    (hbase : attributeBase o "count" X.env (eval o X.env) = eval o X.env := by rfl)
    (hfew : ((backTo cpos (starEach (e :: es) X.env)).all (fun x => !x.1) && (backToKw cpos (keywordEach [] X.env)).all (fun x => x.1.isSome)
      && decide ((e :: es).length + ([] : List Keyword).length + (if ([] : List Keyword).isEmpty then 0 else 1) < 30)) = true := by rfl)
    (hline : (apos.endLine == cpos.line) = true := by rfl) (hs : starEach (e :: es) X.env = (false, eval e X.env) :: starEach es X.env := by rfl) (hplain : (backTo cpos (starEach es X.env)).any (·.1) = false := by rfl) :
    PD X W E (.Call (.Attribute o "count" apos) (e :: es) [] cpos) (eCount fo fa) := by
  refine PE.imp (pe_bm PySem.F.plainAttrs_list PySem.F.slot_list_count PySem.F.type_list_count mt_lcount ho ha hbase hfew hline hs hplain) fun σ H Q hl => ?_
  obtain ⟨F, ρ, R, ok, run⟩ := hl
  refine ⟨F, ρ, R, ok, run.bind.imp fun d R1 F1 H1 g1 r1 h1 v rv => ?_⟩
  cases d with
  | dat x =>
    cases x with
    | list xs =>
      obtain ⟨a, ys, rfl, h2, h3⟩ := Dp.lst_inv rv
      refine ⟨.inl ⟨rfl, ys, g1.fh.seq h2⟩, F1, ρ, R1, ok.grow g1 r1, (show Run _ _ (fa ρ >>= _) _ _ _ _ from h1).bind.imp fun ds R2 F2 H2 g2 r2 h4 vs rs => ?_⟩
      obtain ⟨r, e, h5⟩ := h4.lft
      unfold opCount at e
      split at e
      · rename_i e1
        cases e1
        obtain ⟨ns, e2, rfl⟩ := Option.map_eq_some_iff.mp e
        cases rs with
        | cons p1 rs =>
          cases rs
          have hx := intsD_inv e2
          subst hx
          have hy := h3.ints
          subst hy
          exact ⟨a, ns, _, rfl, by rw [Dp.int_inv p1], (g2.ff.trans g2.fh).seq h2, h5 F2 H2 (Grow.refl g2.fh) r2 _ (.int _)⟩
      · cases e
    | _ => exact h1.elim
  | _ => exact h1.elim
end
end DL

set_option maxHeartbeats 4000000
/-! ### sorted of a tuple -/
namespace DLS
open PySem PySem.Calls PyProof.Rows PySem.W
section
variable {prog : Program} {w : World} {A : Around} {E : Value → Shared → Prop} {s : Shared}
theorem collect_tuple {l : Addr} {vs : List Value} {Q : List Value → Shared → Prop} (hl : s.heap.IsTuple l vs.toArray)
    (h : Q vs { s with heap := (s.heap.push (seqObj "list" #[] 0)).update s.heap.objs.size (Obj.mapSeq (· ++ vs.toArray)) }) (hsz : vs.length ≤ sizeLine) :
    wpAny (model prog w) A (collect (.ref l)) Q E s := by
  obtain ⟨o, ho, hc, n, hd⟩ := id hl
  unfold collect
  refine wpAny_bind (wpAny_runValue (codeAny_builtin entry_proto_collect' ?_))
  show wpAny _ _ (do again (.builtin "list.__iadd__" ⟨[← newList [], .ref l], []⟩)) _ _ s
  refine wpAny_bind (wpAny_newList (wpAny_pure ⟨Code.quiet_builtin _ (by decide +kernel), codeAny_builtin entry_list_iadd' ?_⟩))
  show wpAny _ _ (Builtin.List.listExtendWith (.ref s.heap.objs.size) (.ref l) (.ref s.heap.objs.size)) _ _ { s with heap := s.heap.push (seqObj "list" #[] 0) }
  unfold Builtin.List.listExtendWith
  have ho' : (s.heap.push (seqObj "list" #[] 0)).get? l = some o := Heap.get?_push_of_some _ ho
  refine wpAny_bind (wpAny_typeOf (T := "tuple") ⟨o, ho', hc⟩ ?_)
  have ht : (Value.type "tuple" == Value.type "tuple") = true := by rfl
  rw [if_pos (by rw [ht]; simp)]
  refine wpAny_bind (listItems_at ho' hd ?_)
  refine wpAny_bind (listItems_at (xs := #[]) (n := 0) (Heap.get?_push_size _ rfl) rfl ?_)
  rw [if_neg (by simp)]
  refine wpAny_bind (listUpdate_at (xs := #[]) (n := 0) (Heap.get?_push_size _ rfl) rfl ?_ (Nat.zero_le _) (by show (#[] ++ vs.toArray).size ≤ sizeLine + 1; simp only [Array.size_append, List.size_toArray, List.length_nil]; omega))
  refine wpAny_pure ?_
  show wpAny (model prog w) A (do
      let o ← load s.heap.objs.size
      match o.data with
      | .seq xs _ => pure xs.toList
      | _ => unsupported "internal:collect") Q E { s with heap := (s.heap.push (seqObj "list" #[] 0)).update s.heap.objs.size (Obj.mapSeq (· ++ vs.toArray)) }
  refine wpAny_bind (wpAny_load (get?_update_seq (Heap.get?_push_size _ rfl) _) ?_)
  show wpAny _ _ (pure ((#[] : Array Value) ++ vs.toArray).toList) Q E _
  rw [show ((#[] : Array Value) ++ vs.toArray).toList = vs by simp]
  exact wpAny_pure h
theorem sorted_of_sortT {l : Addr} {vs : List Value} {kw : List (Str × Value)} {Q : Value → Shared → Prop} (hl : s.heap.IsTuple l vs.toArray) (hL : vs.length ≤ sizeLine) (ha1 : argsOk "sorted" ⟨[.ref l], kw⟩) (ha2 : ∀ x, argsOk "list.sort" ⟨[.ref x], kw⟩)
    (body : ∀ E' : Value → Shared → Prop, wpAny (model prog w) A.in1.in1 (Builtin.«list.sort» ⟨[.ref (s.heap.objs.size + 1)], kw⟩) (fun f s' => f = .done (.ret .none) ∧ Q (.ref (s.heap.objs.size + 1)) s') E' { s with heap := copyHeap s.heap vs }) :
    wpAny (model prog w) A (call (.builtin "sorted") [.ref l] kw) Q E s := by
  refine call_function_entry_kw kind_sorted plain_sorted entry_sorted ha1 ?_
  unfold Builtin.«sorted»
  refine wpAny_bind (m := checkCount "sorted" 1 1 _) (wpAny_pure ?_)
  refine wpAny_bind (collect_tuple hl ?_ hL)
  refine wpAny_bind (wpAny_newList ?_ hL)
  have hsz : ((s.heap.push (seqObj "list" #[] 0)).update s.heap.objs.size (Obj.mapSeq (· ++ vs.toArray))).objs.size = s.heap.objs.size + 1 := by
    rw [Heap.size_update, size_push']
  show wpAny _ _ _ _ _ { s with heap := copyHeap s.heap vs }
  rw [hsz]
  refine wpAny_bind (wpAny_holding (wpAny_call_entry_kw slot_list_sort ⟨_, copyHeap_at s.heap vs, rfl⟩ entry_list_sort ?body (ha2 _)))
  case body =>
    show wpAny (model prog w) A.in1.in1 (Builtin.«list.sort» ⟨[.ref (s.heap.objs.size + 1)], kw⟩) _ _ _
    refine wpAny_mono (body _) (fun f s' hf => ?_) fun _ _ e => e
    obtain ⟨rfl, hq⟩ := hf
    exact ⟨_, rfl, wpAny_pure ⟨_, rfl, hq⟩⟩
theorem sorted_dataT {β : Type} {vs : List Value} {bs : List β} {enc : β → PyData} {R : Value → β → Prop} {l : Addr} {Q : Value → Shared → Prop} (hl : s.heap.IsTuple l vs.toArray) (e : EachIs R vs bs) (er : EachIs (fun v b => ∃ as, Reads s.heap v (enc b) as) vs bs) (hal : AllAlike (bs.map enc)) (hk : Sortable (bs.map enc)) (hL : bs.length ≤ sizeLine)
    (hu : ∀ b, b ∈ bs → A.units + 2 + (enc b).depth < cLine) (h : ∀ out, out.length = bs.length → EachIs R out (bs.mergeSort (dataLe false enc)) → Q (.ref (s.heap.objs.size + 1)) { s with heap := sortedAll s.heap vs (List.toArray out) }) :
    wpAny (model prog w) A (call (.builtin "sorted") [.ref l]) Q E s := by
  have er' : EachIs (fun v b => ∃ as, Reads (sortingHeap (copyHeap s.heap vs) (s.heap.objs.size + 1) vs) v (enc b) as) vs bs := er.mono fun _ _ ⟨as, r⟩ => ⟨as, PyProof.Rows.Reads.keeps (fun _ _ => sorting_copy_old) r⟩
  have S : SortsAt prog w A.in1.in1 { s with heap := sortingHeap (copyHeap s.heap vs) (s.heap.objs.size + 1) vs } (dataKind (sortingHeap (copyHeap s.heap vs) (s.heap.objs.size + 1) vs) (bs.map enc)) vs :=
    SortsAt.data (s := { s with heap := sortingHeap (copyHeap s.heap vs) (s.heap.objs.size + 1) vs }) (each_map (R := fun v d => ∃ as, Reads (sortingHeap (copyHeap s.heap vs) (s.heap.objs.size + 1) vs) v d as) enc er') hal hk (bound_map hu)
  have hL' : vs.length ≤ sizeLine := by rw [e.length]; exact hL
  exact sorted_of_sortT hl hL' (args_sorted1 _) (fun _ => args_list_sort _) fun _ => list_sort_vals (s := { s with heap := copyHeap s.heap vs }) (copyHeap_at s.heap vs) S hL' ⟨rfl, h _ (by rw [sortVals_length false rfl]; exact e.length) (sortVals_data false e er' hal)⟩
end
end DLS
namespace DL
open PySem PySem.Spec PyProof.Rows L2
section
variable {X : Cx}
def g_sortedT : List D → Option D
  | [.dat (.tuple xs)] => if sortOk xs = true then some (.dat (.list (sortD xs))) else none
  | [.dat (.list xs)] => if sortOk xs = true then some (.dat (.list (sortD xs))) else none
  | _ => none
theorem dc_sortedT (hu : X.A.units + 64 < cLine) : DCall X (.builtin "sorted") g_sortedT := by
  intro pins s σ H vs us Q I r h
  obtain ⟨F, ds, d, sf, pr, e, q⟩ := h
  unfold g_sortedT at e
  split at e
  · split at e
    · rename_i xs hz
      cases e
      obtain ⟨h1, h2, h3, h4⟩ := sortOk_ok hz
      obtain ⟨v, rfl, rv⟩ := paired1 pr
      obtain ⟨a, ys, rfl, h5, h6⟩ := Dp.tup_inv rv
      obtain ⟨its, r2, pl, hz2⟩ := I.tuple (Same.tup sf h5)
      rw [Vals.ref1 r]
      have em := each_of r2 h6
      have er : W.EachIs (fun v b => ∃ as, Reads s.heap v (id b) as) its xs := em.mono fun u d ⟨v, ru, hd⟩ => rd_reads I sf hd ru
      refine DLS.sorted_dataT (β := PyData) (enc := id) pl em er (by rw [List.map_id]; exact h3) (by rw [List.map_id]; exact h4) (by rw [← sz_eq]; exact h1) (fun b hb => by have := depth_mem hb; show X.A.units + 2 + b.depth < cLine; omega) fun out ho eo => ?_
      obtain ⟨ws, w1, w2⟩ := of_each eo
      obtain ⟨ep, he'⟩ := PyProof.Rows.sortedAll_at s.heap its out.toArray
      have hlen : ws.length ≤ sizeLine := by rw [w1.length, ho, ← sz_eq]; exact h1
      have hf : H (s.heap.objs.size + 1) = none := I.hok.fresh (Nat.le_succ _)
      exact ⟨.ref _, upd H (s.heap.objs.size + 1) (.lst ws), I.laid (t' := s.toks) (fun _ _ => PyProof.Rows.sortedAll_old) (Nat.le_succ _) ⟨hlen, out, ep, w1, he'⟩, rfl, q _ _ _ (.new sf hf) (Dp.newL sf hf w2)⟩
    · cases e
  · split at e
    · rename_i xs hz
      exact dc_sorted hu pins s σ H vs us Q I r ⟨F, _, d, sf, pr, by show (if sortOk xs = true then _ else _) = _; rw [if_pos hz]; exact e, q⟩
    · cases e
  · cases e
end
end DL

set_option maxHeartbeats 4000000
namespace DL
open PySem PySem.Spec PyProof.Rows L2
section
variable {X : Cx} {W : XK} {E : Ent} {pos : Pos}
/-! ### a module's tuple of words -/
theorem dp_words {K : PySem.W.Frag} {F : Hp} : ∀ zs : List Str, DpAll K F ((zs.map He.Dv.str).map (He.Dv.v K)) (zs.map .str)
  | [] => .nil
  | z :: zs => .cons (.str z) (dp_words zs)
theorem pd_gtup {x : Str} {zs : List Str} (hg : Gl X x) (hm : X.mg x = some (.ref (He.ga X.K x)) ∧ He.tupB X.K x (zs.map .str) = true) (hd : (x == ("__debug__" : Str)) = false := by decide) : PD X W E (.Name x pos) (eC (.dat (.tuple (zs.map .str)))) :=
  pd_glob (v := .ref (He.ga X.K x)) (u := .ref (He.ga X.K x)) hg hm.1 rfl (fun F => .tup (He.tupB_ok hm.2 F) (dp_words zs)) hd
/-! ### try: body / except ..: .., where the body raises nothing -/
def sNoX (f : En → M Fl) : En → M Fl := fun ρ => noX (f ρ)
theorem RunS.noX {P : Program} {w : World} {K : PySem.W.Frag} {m : M Fl} {R : RS} {F : Hp} {D₀ : Ends} (h : RunS P w K W E (DL.noX m) R F D₀) : RunS P w K NoX E m R F D₀ := by
  unfold RunS DL.noX at h
  unfold RunS
  cases e : m R with
  | none => rw [e] at h; exact h
  | some p =>
    obtain ⟨o, R'⟩ := p
    rw [e] at h
    cases o with
    | val a => cases a <;> exact h
    | exn x => exact h.elim
theorem pds_try0 {body : List Stmt} {h₀ : ExceptHandler} {hs : List ExceptHandler} {f : En → M Fl} (hb : PDSs X.nox NoX E body f) : PDS X W E (.Try body (h₀ :: hs) [] [] pos) (sNoX f) :=
  PS.imp (ps_try_thru0 hb) fun D₀ σ H hl => by
    obtain ⟨F, ρ, R, ok, run⟩ := hl
    exact ⟨F, ρ, R, ok, RunS.noX run⟩
end
end DL

set_option maxHeartbeats 4000000
namespace NS
open PySem PySem.Spec PyProof.Rows L2 DL
section
variable {P : Program} {w : World} {A : Around} {s : Shared} {E : Value → Shared → Prop}
/-- sorted(set) of at most one member -/
theorem sorted_set1 {a : Addr} {L : List (Addr × NumKey)} {es : Array (Int × Value)} {ep : Nat} {t : SetTable} {Q : Value → Shared → Prop} (T : SetOf (numKind P w) s.heap a L es ep t) (hh : A.handled = none) (h1 : L.length ≤ 1)
    (q : ∀ s' p (c : Nat), (∀ b o, s.heap.get? b = some o → s'.heap.get? b = some o) → s'.gens = s.gens → s'.os = s.os → s.heap.objs.size ≤ p → s'.heap.get? p = some (seqObj "list" (L.map fun e => Value.ref e.1).toArray c) → Q (.ref p) s') : wpAny (model P w) A (call (.builtin "sorted") [.ref a]) Q E s := by
  obtain ⟨o, ho, hex, hd⟩ := T.obj
  have hsz := ents_len T.list
  have hfew := T.few
  refine Calls.call_function_entry kind_sorted plain_sorted entry_sorted (args_sorted1 _) ?_
  unfold Builtin.«sorted»
  refine wpAny_bind (m := checkCount "sorted" 1 1 _) (wpAny_pure ?_)
  refine wpAny_bind (collect_set (A := A.in1) hh ⟨o, ho, hex.1, hd⟩ T.fit (by unfold scanBound; omega) T.table.ris T.ldg fun s1 vs keep more hg hos perm => ?_)
  have vals : es.toList.map (·.2) = L.map fun e => Value.ref e.1 := by rw [T.list, ents, List.map_map]; rfl
  rw [vals] at perm
  have small : ∀ {us vs : List Value}, us.Perm vs → vs.length ≤ 1 → us = vs := fun {us vs} p h => by
    cases vs with
    | nil => exact p.eq_nil
    | cons x t =>
      cases t with
      | nil => exact List.perm_singleton.mp p
      | cons y t => simp at h
  have ev : vs = L.map fun e => Value.ref e.1 := small perm (by rw [List.length_map]; exact h1)
  subst ev
  have lz : (L.map fun e => Value.ref e.1).length ≤ sizeLine := by rw [List.length_map, sizeLine_eq]; omega
  refine wpAny_bind (wpAny_newList ?_ lz)
  have newL : (s1.heap.push (seqObj "list" (L.map fun e => Value.ref e.1).toArray 0)).get? s1.heap.objs.size = some (seqObj "list" (L.map fun e => Value.ref e.1).toArray 0) := Heap.get?_push_size _ rfl
  refine wpAny_bind (wpAny_holding (wpAny_call_entry slot_list_sort ⟨_, newL, rfl⟩ entry_list_sort (_root_.Srt.list_sort_any (s := { s1 with heap := s1.heap.push (seqObj "list" (L.map fun e => Value.ref e.1).toArray 0) }) newL lz (fun h2 => absurd h2 (by rw [List.length_map]; omega)) fun out hp => ⟨.none, rfl, ?_⟩) (args_list_sort _)))
  have eo : out = L.map fun e => Value.ref e.1 := small hp (by rw [List.length_map]; exact h1)
  subst eo
  obtain ⟨c, hc⟩ := sortedHeap_at (vs := L.map fun e => Value.ref e.1) (out := (L.map fun e => Value.ref e.1).toArray) newL
  refine wpAny_pure ⟨_, rfl, q _ s1.heap.objs.size c (fun b u hb => ?_) hg hos more hc⟩
  have hb1 := keep b u hb
  have lt := Heap.lt_size hb1
  show (sortedHeap (s1.heap.push _) s1.heap.objs.size _ _).get? b = some u
  rw [sortedHeap_old (Nat.ne_of_lt lt) (by rw [size_push']; exact Nat.lt_succ_of_lt lt)]
  exact Heap.get?_push_of_some _ hb1
end
end NS
namespace DL
open PySem PySem.Spec PyProof.Rows L2 NS
/-! ### sorted(set(xs)), of at most one member too -/
def setOk1 (ks : List NestedKey) : Bool := ks.all (fun k => isTup k && num k && decide (k.depth ≤ 8)) && decide ((dd ks).length ≤ 1)
def opSortSetX : D → Option D
  | .dat (.list xs) => (keysOf xs).bind fun ks => if setOk1 ks = true then some (.dat (.list ((dd ks).map NestedKey.data))) else opSortSet (.dat (.list xs))
  | _ => none
section
variable {X : Cx} {W : XK} {E : Ent} {pos p p2 : Pos}
def tSortSet1 (K : PySem.W.Frag) (ta : TE) : TE := fun σ H Q => ta σ H fun x H1 => ∃ (F : Hp) (xs : List PyData) (ks : List NestedKey), Same F H1 ∧ Dp K F x (.list xs) ∧ keysOf xs = some ks ∧
  (setOk1 ks = true ∧ (∀ F' H' v, GrowP F H1 F' H' → Dp K F' v (.list ((dd ks).map NestedKey.data)) → Q v H') ∨
   setOk ks = true ∧ ∀ F' H' v, GrowP F H1 F' H' → Dp K F' v (.list (sortD ((dd ks).map NestedKey.data))) → Q v H')
theorem pe_sortSet1 {a : Expr} {ta : TE} {q : Pos} (hc : X.calm = true) (hu : X.A.units + 64 < cLine) (hg : Gl X "sorted") (hm : X.mg "sorted" = none) (hg2 : Gl X "set") (hm2 : X.mg "set" = none) (ha : PE X a ta)
    (na : starEach [a] X.env = (false, eval a X.env) :: starEach [] X.env := by rfl) : PE X (.Call (.Name "sorted" p) [.Call (.Name "set" p2) [a] [] q] [] pos) (tSortSet1 X.K ta) := by
  refine ⟨fun pins s σ H Q I h => ?_⟩
  refine Call_ (ld_blt I hg hm (show bootBuiltins "sorted" = some (.builtin "sorted") by decide +kernel) ?_)
  refine PyProof.Rows.callWith_builtin1 (PyProof.Rows.args_cons ?_ rfl) rfl rfl
  refine Call_ (ld_blt I hg2 hm2 PyProof.Rows.boot_set ?_)
  refine PyProof.Rows.callWith_type1 (PyProof.Rows.args_cons (thn (ha.run pins s σ H _ I h) fun v s1 ⟨x, H1, I1, r1, q1⟩ => PyProof.Rows.args_nil ?_) na) na rfl
  obtain ⟨F, xs, ks, sf, hd, hk, q1⟩ := q1
  obtain ⟨l, ys, rfl, h5, h6⟩ := Dp.lst_inv hd
  cases r1
  obtain ⟨us, r, pl, hz⟩ := I1.list (sf.seq h5)
  have o12 : (∀ k ∈ ks, (isTup k = true ∧ num k = true) ∧ k.depth ≤ 8) ∧ (dd ks).length ≤ 306 := by
    rcases q1 with ⟨ok, _⟩ | ⟨ok, _⟩
    · unfold setOk1 at ok
      simp only [Bool.and_eq_true, List.all_eq_true, decide_eq_true_eq] at ok
      exact ⟨ok.1, by have := ok.2; omega⟩
    · unfold setOk at ok
      simp only [Bool.and_eq_true, List.all_eq_true, decide_eq_true_eq] at ok
      exact ⟨ok.1.1, ok.1.2⟩
  obtain ⟨o1, o2⟩ := o12
  obtain ⟨its, i1, i2, i3⟩ := items_of I1 sf hk (fun k hk => ⟨(o1 k hk).1.1, (o1 k hk).1.2, (o1 k hk).2⟩) h6 r
  have once2 : ∀ L : List (Addr × NumKey), (L.map (·.2)).Nodup → (L.map fun e => e.2.1).Nodup := fun L hn => by
    have : (L.map fun e => e.2.1) = (L.map (·.2)).map Subtype.val := by rw [List.map_map]; rfl
    rw [this]
    exact List.pairwise_map.mpr (hn.imp fun {a b} ne e => ne (Subtype.ext e))
  have few : Few (its.map (·.2)) := fun l hn hs => by
    have hn' : (l.map Subtype.val).Nodup := List.pairwise_map.mpr (hn.imp fun {a b} ne e => ne (Subtype.ext e))
    have := short (m := dd ks) hn' fun k hk => by
      obtain ⟨u, hu, rfl⟩ := List.mem_map.mp hk
      obtain ⟨e, he, rfl⟩ := List.mem_map.mp (hs u hu)
      rw [mem_dd, ← i2]
      exact List.mem_map.mpr ⟨e, he, rfl⟩
    rw [List.length_map] at this
    omega
  refine call_set (KD := numKind X.prog X.w) numFit (its := its) (I1.ok.hd hc) pl.isList (by simpa using i1) (fun e he => (i3 e he).1) few (fun B hB => by show B.units + 8 < cLine; omega) fun s2 made => ?_
  obtain ⟨h', tk, L, es, ep, t, rfl, T, g, keep⟩ := made
  have I2 : Inv X pins σ H1 { s1 with heap := h', toks := tk } := I1.kept keep
  have permK : (L.map fun e => e.2.1).Perm (dd ks) := by
    refine (List.perm_ext_iff_of_nodup (once2 L T.once) (nodup_dd ks)).mpr fun k => ?_
    rw [mem_dd, ← i2]
    constructor
    · intro hk
      obtain ⟨e, he, rfl⟩ := List.mem_map.mp hk
      exact List.mem_map.mpr ⟨e, g.sub e he, rfl⟩
    · intro hk
      obtain ⟨e, he, rfl⟩ := List.mem_map.mp hk
      obtain ⟨e', he', h⟩ := List.mem_map.mp (g.all e he)
      exact List.mem_map.mpr ⟨e', he', by rw [h]⟩
  have datL : (L.map fun e => e.2.1.data) = (L.map fun e => e.2.1).map NestedKey.data := by rw [List.map_map]; rfl
  have permD : (L.map fun e => e.2.1.data).Perm ((dd ks).map NestedKey.data) := by rw [datL]; exact permK.map _
  refine PyProof.Rows.args_nil ?_
  have fin : ∀ (s' : Shared) (p' : Addr) (out : List Value) (c : Nat) (ds : List PyData), (∀ b o, h'.get? b = some o → s'.heap.get? b = some o) → s'.gens = s1.gens → s'.os = s1.os → h'.objs.size ≤ p' → s'.heap.get? p' = some (seqObj "list" out.toArray c) → out.length ≤ 306 →
      W.EachIs (fun u b => ∃ v, RelV v u ∧ Dp X.K F v b) out ds → (∀ F' H' v, GrowP F H1 F' H' → Dp X.K F' v (.list ds) → Q v H') → EP X pins σ Q (.ref p') s' := fun s' p' out c ds keep2 hgens hos hp hout hl eo q1 => by
    obtain ⟨ws, w1, w2⟩ := of_each eo
    have hsame : ∀ b o, s1.heap.get? b = some o → s'.heap.get? b = some o := fun b o e => keep2 b o (keep b o e)
    have hf : H1 p' = none := I2.hok.fresh hp
    have hlen : ws.length ≤ sizeLine := by rw [w1.length, sizeLine_eq]; omega
    have J : Inv X pins σ (upd H1 p' (.lst ws)) s' := I2.call' (ch := []) hos (Un.laid keep2 hp hf) (I2.hok.laid keep2 hp ⟨hlen, out, c, w1, hout⟩) (by rw [hgens]; exact I2.bare) (fun _ h => (nomatch h))
    exact ⟨.ref p', _, J, rfl, q1 _ _ _ (.new sf hf) (Dp.newL sf hf w2)⟩
  rcases q1 with ⟨ok, q1⟩ | ⟨ok, q1⟩
  · have ok2 := ok
    unfold setOk1 at ok2
    simp only [Bool.and_eq_true, decide_eq_true_eq] at ok2
    have hl1 : L.length ≤ 1 := by
      have := permK.length_eq
      rw [List.length_map] at this
      omega
    have hkk : L.map (fun e => e.2.1) = dd ks := by
      have : ∀ {us vs : List NestedKey}, us.Perm vs → vs.length ≤ 1 → us = vs := fun {us vs} p h => by
        cases vs with
        | nil => exact p.eq_nil
        | cons x t =>
          cases t with
          | nil => exact List.perm_singleton.mp p
          | cons y t => simp at h
      exact this permK ok2.2
    refine sorted_set1 T (I2.ok.hd hc) hl1 fun s' p' c keep2 hgens hos hp hout => fin s' p' _ c _ keep2 hgens hos hp hout (by rw [List.length_map]; omega) ?_ q1
    rw [← hkk, List.map_map]
    have : ∀ M : List (Addr × NumKey), (∀ e ∈ M, e ∈ L) → W.EachIs (fun u b => ∃ v, RelV v u ∧ Dp X.K F v b) (M.map fun e => Value.ref e.1) (M.map (NestedKey.data ∘ fun e => e.2.1)) := by
      intro M
      induction M with
      | nil => exact fun _ => .nil
      | cons e M ih => exact fun h => .cons ⟨.ref e.1, rfl, (i3 e (g.sub e (h e List.mem_cons_self))).2⟩ (ih fun z hz => h z (List.mem_cons_of_mem _ hz))
    exact this L fun _ h => h
  · unfold setOk at ok
    simp only [Bool.and_eq_true] at ok
    obtain ⟨z1, z2, z3, z4⟩ := sortOk_ok ok.2
    refine sorted_set T (I2.ok.hd hc) (R := fun u b => ∃ v, RelV v u ∧ Dp X.K F v b) (fun e he => ?_) (fun d hd d' hd' => z3 d (permD.mem_iff.mp hd) d' (permD.mem_iff.mp hd')) ?_ hu fun s' p' out c ds keep2 hgens hos hp hout perm2 eo => ?_
    · have := (i3 e (g.sub e he)).2
      exact ⟨rd_reads I2 sf this (show RelV (.ref e.1) (Value.ref e.1) from rfl), ⟨.ref e.1, rfl, this⟩⟩
    · rcases z4 with h | h
      · exact .inl fun d hd => h d (permD.mem_iff.mp hd)
      · exact .inr fun d hd => h d (permD.mem_iff.mp hd)
    · have ds_eq : sortD ds = sortD ((dd ks).map NestedKey.data) := by
        have pe : ds.Perm ((dd ks).map NestedKey.data) := perm2.trans permD
        obtain ⟨as, rfl⟩ : ∃ as : List NestedKey, ds = as.map NestedKey.data := by
          have : ∀ l : List PyData, (∀ d ∈ l, ∃ k : NestedKey, d = k.data) → ∃ as : List NestedKey, l = as.map NestedKey.data := by
            intro l
            induction l with
            | nil => exact fun _ => ⟨[], rfl⟩
            | cons d l ih =>
              intro h
              obtain ⟨k, rfl⟩ := h d List.mem_cons_self
              obtain ⟨as, rfl⟩ := ih fun z hz => h z (List.mem_cons_of_mem _ hz)
              exact ⟨k :: as, rfl⟩
          refine this ds fun d hd => ?_
          obtain ⟨k, _, rfl⟩ := List.mem_map.mp (pe.mem_iff.mp hd)
          exact ⟨k, rfl⟩
        have p1 : (sortD (as.map NestedKey.data)).Perm (as.map NestedKey.data) := List.mergeSort_perm _ _
        have p2 : (sortD ((dd ks).map NestedKey.data)).Perm ((dd ks).map NestedKey.data) := List.mergeSort_perm _ _
        refine List.Perm.eq_of_pairwise (le := fun a b => W.dataLt b a = false) (fun a b ha hb h h' => ?_) (sortD_up _) (sortD_up _) (p1.trans (pe.trans p2.symm))
        have ha := pe.mem_iff.mp (p1.mem_iff.mp ha)
        have hb := p2.mem_iff.mp hb
        have al := z3 a ha b hb
        obtain ⟨x, _, rfl⟩ := List.mem_map.mp ha
        obtain ⟨y, _, rfl⟩ := List.mem_map.mp hb
        rw [key_of_data al h' h]
      rw [ds_eq] at eo
      refine fin s' p' out c _ keep2 hgens hos hp hout ?_ eo q1
      have : out.length = ((dd ks).map NestedKey.data).length := by rw [eo.length]; exact (List.mergeSort_perm _ _).length_eq
      rw [this, List.length_map]; omega
theorem pd_sortSetX {a : Expr} {fa : En → M D} {q : Pos} (hc : X.calm = true) (hu : X.A.units + 64 < cLine) (hg : Gl X "sorted") (hm : X.mg "sorted" = none) (hg2 : Gl X "set") (hm2 : X.mg "set" = none) (ha : PD X W E a fa)
    (na : starEach [a] X.env = (false, eval a X.env) :: starEach [] X.env := by rfl) : PD X W E (.Call (.Name "sorted" p) [.Call (.Name "set" p2) [a] [] q] [] pos) (e1 opSortSetX fa) := by
  refine PE.imp (pe_sortSet1 hc hu hg hm hg2 hm2 ha na) fun σ H Q hl => ?_
  obtain ⟨F, ρ, R, ok, run⟩ := hl
  refine ⟨F, ρ, R, ok, run.bind.imp fun d R1 F1 H1 g1 r1 h1 v rv => ?_⟩
  obtain ⟨z, e, h2⟩ := h1.lft
  unfold opSortSetX at e
  split at e
  · rename_i xs
    obtain ⟨ks, e1, e2⟩ := Option.bind_eq_some_iff.mp e
    split at e2
    · rename_i hok
      cases e2
      exact ⟨F1, xs, ks, g1.fh, rv, e1, .inl ⟨hok, fun F' H' v g hv => h2 F' H' g.g (g.row r1) v hv⟩⟩
    · unfold opSortSet at e2
      dsimp only at e2
      rw [e1] at e2
      have e3 : (if setOk ks = true then some (D.dat (.list (sortD ((dd ks).map NestedKey.data)))) else none) = some z := e2
      split at e3
      · rename_i hok
        cases e3
        exact ⟨F1, xs, ks, g1.fh, rv, e1, .inr ⟨hok, fun F' H' v g hv => h2 F' H' g.g (g.row r1) v hv⟩⟩
      · cases e3
  · cases e
/-! ### a, b = a value, a new list or dict -/
def sParEN (i j : Nat) (f : En → M D) (g : En → M OW) : En → M Fl := fun ρ => do let x ← f ρ; let y ← g ρ; pure (.nx ((ρ.set i (.val x)).set j (.own y)))
theorem pds_parENc {x y : Str} {a b : Expr} {px py pt : Pos} {kt k2 pt2} {f : En → M D} {g : En → M OW} (i j : Nat) (hc : X.calm = true) (n1 : PG X (.Name x px) (gName i)) (n2 : PG X (.Name y py) (gName j)) (ha : PD X W E a f) (hb : PDN X W E b g)
    (hw : swappedStores [.Tuple [.Name x px, .Name y py] kt pt] (.Tuple [a, b] k2 pt2) X.env = pure none := by rfl)
    (hs : swapsWithSole [.Tuple [.Name x px, .Name y py] kt pt] (.Tuple [a, b] k2 pt2) pos.line X.env = pure false := by rfl) (h1 : starEach [a, b] X.env = (false, eval a X.env) :: starEach [b] X.env := by rfl) (h2 : starEach [b] X.env = (false, eval b X.env) :: starEach [] X.env := by rfl)
    (hs1 : (assignEach [Expr.Name x px, Expr.Name y py] X.env).map (·.2) = assign (.Name x px) X.env :: (assignEach [Expr.Name y py] X.env).map (·.2) := by rfl) (hs2 : (assignEach [Expr.Name y py] X.env).map (·.2) = assign (.Name y py) X.env :: (assignEach [] X.env).map (·.2) := by rfl)
    (hn : (assignEach [Expr.Name x px, Expr.Name y py] X.env).length = 2 := by rfl) (hst : (assignEach [Expr.Name x px, Expr.Name y py] X.env).findIdx? (·.1) = none := by rfl)
    (h0 : (assignEach [Expr.Tuple [.Name x px, .Name y py] kt pt] X.env).map (·.2) = [assign (.Tuple [.Name x px, .Name y py] kt pt) X.env] := by rfl) :
    PDS X W E (.Assign [.Tuple [.Name x px, .Name y py] kt pt] (.Tuple [a, b] k2 pt2) pos) (sParEN i j f g) := by
  refine PS.imp (ps_asg (pe_tup (pos := pt2) (pa_cons ha (pa_cons hb pa_nil h2) h1)) (pg_tup hc (pgs_cons n1 (pgs_cons n2 pgs_nil hs2) hs1) hn hst) hs hw h0) fun D₀ σ H hl => ?_
  obtain ⟨F, ρ, R, ok, run⟩ := hl
  refine ⟨F, ρ, R, ok, (run.bind ok).imp fun dx R1 F1 H1 g1 r1 q1 vx rx => ?_⟩
  have ok1 := ok.grow g1 r1
  refine ⟨F1, ρ, R1, ok1, (q1.bind ok1).imp fun oy R2 F2 H2 g2 r2 q2 p u hp ow => ?_⟩
  have ok2 := ok1.grow g2 r2
  obtain ⟨f1, f2, f3⟩ := ok2.fresh hp
  have nor := ok2.noref hp
  have ok2' := ok2.grow (Grow.lay (o := u) g2.fh hp) (r2.lay hp)
  refine ⟨by show 2 ≤ sizeLine; decide, fun t ht => ?_⟩
  have ok3 := ok2'.set i (rx.mono g2.ff)
  have nor3 : ∀ (k : Nat) (ok' : OW), (ρ.set i (SV.val dx))[k]? = some (SV.own ok') → (σ.set i (some vx))[k]? ≠ some (some (V.ref p)) := fun k ok' e => by
    by_cases hk : i = k
    · subst hk
      by_cases hl : i < ρ.length
      · rw [List.getElem?_set_self hl] at e; cases e
      · rw [List.getElem?_eq_none (by simpa using hl)] at e; cases e
    · rw [List.getElem?_set_ne hk] at e ⊢
      exact nor k ok' e
  have ok4 := ok3.own j (o := oy) (p := p) f1 f2 f3 ow (fun k ok' _ e => nor3 k ok' e)
  have ok5 := ok4.grow (Grow.lay (o := .tup [vx, .ref p]) ok4.g.fh ht) (ok4.row.lay ht)
  exact ⟨t, _, rfl, SqT.of upd_same, rfl, _, _, rfl, _, _, rfl, rfl, q2 _ F2 _ (Same.refl F2) ok5⟩
end
end DL

set_option maxHeartbeats 4000000
namespace DL
open PySem PySem.Spec PyProof.Rows L2
/-! ### dicts of ints, each at True -/
def addI (ns : List Int) (i : Int) : List Int := if i ∈ ns then ns else ns ++ [i]
def addsI (ns ms : List Int) : List Int := ms.foldl addI ns
def idKV (ns : List Int) : List (Key × V) := ns.map fun i => (.inl i, V.bl true)
theorem addI_len (ns : List Int) (i : Int) : (addI ns i).length ≤ ns.length + 1 := by
  unfold addI
  split
  · omega
  · simp
theorem addsI_len : ∀ (ms ns : List Int), (addsI ns ms).length ≤ ns.length + ms.length
  | [], ns => Nat.le_refl _
  | m :: ms, ns => by
    have := addI_len ns m
    have := addsI_len ms (addI ns m)
    show (addsI (addI ns m) ms).length ≤ _
    rw [List.length_cons]
    omega
theorem idK_put (ns : List Int) (i : Int) : putK (idKV ns) (.inl i) (.bl true) = idKV (addI ns i) := by
  have ha : (idKV ns).any (fun kv => decide (kv.1 = (.inl i : Key))) = decide (i ∈ ns) := by
    unfold idKV
    induction ns with
    | nil => rfl
    | cons n ns ih =>
      rw [List.map_cons, List.any_cons, ih]
      by_cases h : n = i
      · subst h; simp
      · have : ¬ ((Sum.inl n : Key) = .inl i) := fun e => h (by cases e; rfl)
        have h2 : ¬ (i = n) := fun e => h e.symm
        simp [this, h2]
  unfold putK addI
  rw [ha]
  by_cases h : i ∈ ns
  · rw [decide_eq_true h, if_pos rfl, if_pos h]
    unfold idKV
    rw [List.map_map]
    refine List.map_congr_left fun n hn => ?_
    show (if (Sum.inl n : Key) = .inl i then ((Sum.inl n : Key), V.bl true) else ((Sum.inl n : Key), V.bl true)) = _
    split <;> rfl
  · rw [decide_eq_false h, if_neg (by decide), if_neg h]
    unfold idKV
    rw [List.map_append]
    rfl
theorem kv_merged : ∀ (ms ns : List Int) {vs us : List (Key × Value)}, KV (idKV ns) vs → KV (idKV ms) us → KV (idKV (addsI ns ms)) (merged vs us)
  | [], ns, vs, us, h1, h2 => by cases h2; exact h1
  | m :: ms, ns, vs, us, h1, h2 => by
    cases h2 with
    | @cons _ q _ us h t =>
      obtain ⟨k, u⟩ := q
      obtain ⟨e, r⟩ := h
      cases e
      have := kv_merged ms (addI ns m) (idK_put ns m ▸ KV.put h1 (.inl m) r) t
      exact this
section
variable {X : Cx} {W : XK} {E : Ent} {pos p : Pos}
/-! ### d.update(e), both such dicts -/
def rUpd : V → List V → Hp → VK → Prop := fun x vs H Q => ∃ (d o : Addr) (ns ms : List Int), x = .ref d ∧ vs = [.ref o] ∧ d ≠ o ∧ H d = some (idK ns) ∧ H o = some (idK ms) ∧ ns.length + ms.length ≤ sizeLine ∧ Q .non (upd H d (idK (addsI ns ms)))
theorem mt_upd : MtR X "dict.update" rUpd := by
  intro pins s σ H x vs v us Q I rx rv h
  obtain ⟨d, o, ns, ms, rfl, rfl, hne, hd, ho, hz, q⟩ := h
  cases rx
  rw [Vals.ref1 rv]
  obtain ⟨z1, s1, kvs, rel1, dd1⟩ := dk_of I.hok (show H d = some (.dK (idKV ns)) from hd)
  obtain ⟨z2, s2, more, rel2, dd2⟩ := dk_of I.hok (show H o = some (.dK (idKV ms)) from ho)
  have l1 : kvs.length = ns.length := by rw [← rel1.length]; simp [idKV]
  have l2 : more.length = ms.length := by rw [← rel2.length]; simp [idKV]
  refine call_meetsIn PySem.F.slot_dict_update dd1.typeIs PySem.F.entry_dict_update (PySem.F.args_dict_update_2 _ _) (meets_dict_update (mixKind X.prog X.w) d o hne s2) ⟨kvs, more, dd1, dd2, by omega, fun h' dd' _ hs => ?_⟩
  have he : ∃ q, h'.get? d = some q := let ⟨q, _, _, hq, _⟩ := dd'; ⟨q, hq⟩
  refine ⟨.non, _, d_write (t' := s.toks) I (by rw [hd]; exact True.intro) hs he (dk_new ?_ s1 (kv_merged ms ns rel1 rel2) dd'), rfl, q⟩
  have := addsI_len ms ns
  unfold idKV
  rw [List.length_map]
  omega
def sUpdI (i : Nat) (f : En → M D) : En → M Fl := fun ρ => match ρ[i]? with
  | some (.own (.ids ns)) => do
    let d ← f ρ
    match d with
    | .ids ms => if ns.length + ms.length ≤ SZ then pure (.nx (ρ.set i (.own (.ids (addsI ns ms))))) else stk
    | _ => stk
  | _ => stk
theorem pds_updI {x : Str} {p apos cpos : Pos} {e : Expr} {f : En → M D} (i : Nat) (hv : PE X (.Name x p) (tVar i)) (h : PD X W E e f) 
    (hbase : attributeBase (.Name x p) "update" X.env (eval (.Name x p) X.env) = eval (.Name x p) X.env := by rfl)
    (hfew : ((backTo cpos (starEach (e :: []) X.env)).all (fun x => !x.1) && (backToKw cpos (keywordEach [] X.env)).all (fun x => x.1.isSome)
      && decide ((e :: []).length + ([] : List Keyword).length + (if ([] : List Keyword).isEmpty then 0 else 1) < 30)) = true := by rfl)
    (hline : (apos.endLine == cpos.line) = true := by rfl) (hst : starEach (e :: []) X.env = (false, eval e X.env) :: starEach [] X.env := by rfl) (hplain : (backTo cpos (starEach [] X.env)).any (·.1) = false := by rfl)
    (hs : swapsWith (.Call (.Attribute (.Name x p) "update" apos) [e] [] cpos) none pos.line X.env = pure false := by rfl) :
    PDS X W E (.Expr (.Call (.Attribute (.Name x p) "update" apos) [e] [] cpos) pos) (sUpdI i f) := by
  refine PS.imp (ps_expr (pe_bm PySem.F.plainAttrs_dict PySem.F.slot_dict_update PySem.F.type_dict_update mt_upd hv (pa_cons h pa_nil hst) hbase hfew hline hst hplain) hs) fun D₀ σ H hl => ?_
  obtain ⟨F, ρ, R, ok, run⟩ := hl
  unfold sUpdI at run
  cases eq : ρ[i]? with
  | none => rw [eq] at run; exact run.elim
  | some sv =>
    rw [eq] at run
    cases sv with
    | no => exact run.elim
    | val d => exact run.elim
    | own o =>
      cases o with
      | lst k => exact run.elim
      | dic k => exact run.elim
      | ids ns =>
        obtain ⟨a, h1, h2, h3, h4, h5⟩ := ok.sl i _ eq
        have h5 : H a = some (idK ns) := h5
        refine ⟨.ref a, h1, .inr (.inr (.inl ⟨rfl, .inl ⟨_, h5⟩⟩)), F, ρ, R, ok, (run.bind ok).imp fun d R1 F1 H1 g1 r1 q v rv => ?_⟩
        cases d with
        | ids ms =>
          obtain ⟨b, rfl, hb⟩ := rv
          have ok1 := ok.grow g1 r1
          by_cases hz : ns.length + ms.length ≤ SZ
          · dsimp only at q
            rw [if_pos hz] at q
            have e5 := g1.hs a _ h5 h2 h4 fun ps e => nomatch e
            have hF : F1 a = none := (g1.hn a (by rw [h5]; simp) h2).2
            have hne : a ≠ b := fun e => by rw [e, hb] at hF; cases hF
            exact ⟨a, b, ns, ms, rfl, rfl, hne, e5, g1.fh _ _ hb, by rw [← sz_eq]; exact hz, q σ F1 _ (Same.refl F1) (ok1.mut (o' := .ids (addsI ns ms)) eq h1 upd_same)⟩
          · dsimp only at q
            rw [if_neg hz] at q
            exact q.elim
        | _ => exact q.elim
/-! ### {} -/
def nIds0 : En → M OW := fun _ => pure (.ids [])
theorem pdn_ids0 : PDN X W E (.Dict [] [] pos) nIds0 := ⟨fun pins s σ H Q I hl => by
  obtain ⟨F, ρ, R, ok, run⟩ := hl
  refine wpAny_Dict_empty ⟨.ref s.heap.objs.size, _, I.laid (a := s.heap.objs.size) (o := .dK []) (t' := s.toks) (fun _ _ q => Heap.get?_push_of_some _ q) (Nat.le_refl _) (dk_new (Nat.zero_le _) (big_ne I.big) .nil (Heap.DictOf.new s.heap)), rfl, ?_⟩
  exact Run.pure run ok.g.fh ok.row s.heap.objs.size _ (I.hok.fresh (Nat.le_refl _)) upd_same⟩
/-! ### dict([(i, True), ..]) -/
def pairsI : List PyData → Option (List Int)
  | [] => some []
  | .tuple [.int i, .bool true] :: t => (pairsI t).map (i :: ·)
  | _ => none
def g_dictI : List D → Option D
  | [.dat (.list xs)] => match pairsI xs with
    | some ns => if xs.length ≤ SZ then some (.ids (addsI [] ns)) else none
    | none => none
  | _ => none
structure PairJ (h : Heap) (u : Value) (p : Int × Value × Value) : Prop where
  get : ∃ T, u = .ref T ∧ h.IsTuple T #[p.2.1, p.2.2]
  key : ∃ t, p.2.1 = .int p.1 t
  val : RelV (.bl true) p.2.2
inductive PairsJ (h : Heap) : List Value → List (Int × Value × Value) → Prop
  | nil : PairsJ h [] []
  | cons {u p us ps} : PairJ h u p → PairsJ h us ps → PairsJ h (u :: us) (p :: ps)
theorem PairsJ.len {h : Heap} {us : List Value} {ps : List (Int × Value × Value)} (p : PairsJ h us ps) : us.length = ps.length := by
  induction p with
  | nil => rfl
  | cons _ _ ih => simp [ih]
theorem PairsJ.at {h : Heap} {us : List Value} {ps : List (Int × Value × Value)} (q : PairsJ h us ps) : ∀ {j : Nat} {p : Int × Value × Value}, ps[j]? = some p → ∃ u, us[j]? = some u ∧ PairJ h u p := by
  induction q with
  | nil => intro j p e; simp at e
  | @cons u p us ps h1 _ ih =>
    intro j p' e
    cases j with
    | zero => simp at e; subst e; exact ⟨u, rfl, h1⟩
    | succ j => simpa using ih (j := j) (p := p') (by simpa using e)
theorem pairsJ_of {pins : List (Addr × Obj)} {s : Shared} {σ : L2.St} {F H : Hp} (I : Inv X pins σ H s) (sf : Same F H) : ∀ {xs : List PyData} {ys : List V} {us : List Value} {ns : List Int}, DpAll X.K F ys xs → Vals ys us → pairsI xs = some ns → ∃ ps, PairsJ s.heap us ps ∧ ps.map (·.1) = ns ∧ xs.length = ns.length
  | [], _, _, _, h, r, e => by
    cases h
    cases r
    cases e
    exact ⟨[], .nil, rfl, rfl⟩
  | x :: xs, ys, us, ns, h, r, e => by
    unfold pairsI at e
    split at e
    · rename_i he; cases he
    · rename_i i t he
      cases he
      cases h with
      | @cons y _ _ _ hd tl =>
        cases r with
        | @cons _ u _ us r1 rt =>
          obtain ⟨ms, e1, e2⟩ := Option.map_eq_some_iff.mp e
          subst e2
          obtain ⟨ps, p1, p2, p3⟩ := pairsJ_of I sf tl rt e1
          obtain ⟨T, zs, rfl, hF, hall⟩ := Dp.tup_inv hd
          cases r1
          obtain ⟨its, r2, pl, hz⟩ := I.tuple (sf.tup hF)
          cases hall with
          | @cons z1 _ _ _ d1 t1 => cases t1 with
            | @cons z2 _ _ _ d2 t2 =>
              cases t2
              rw [Dp.int_inv d1, Dp.bl_inv d2] at r2
              cases r2 with
              | @cons _ u1 _ _ r1 r2 => cases r2 with
                | @cons _ u2 _ _ r2 r3 =>
                  cases r3
                  obtain ⟨t, ht⟩ := (show ∃ t, u1 = Value.int i t from r1)
                  exact ⟨(i, u1, u2) :: ps, .cons ⟨⟨T, rfl, pl⟩, ⟨t, ht⟩, r2⟩ p1, by rw [List.map_cons, p2], by rw [List.length_cons, List.length_cons, p3]⟩
    · cases e
theorem kv_of_pairs : ∀ (ps : List (Int × Value × Value)), (∀ p ∈ ps, RelV (.bl true) p.2.2) → KV (idKV (ps.map (·.1))) (ps.map fun p => ((.inl p.1 : Key), p.2.2))
  | [], _ => .nil
  | p :: ps, h => .cons ⟨rfl, h p List.mem_cons_self⟩ (kv_of_pairs ps fun q hq => h q (List.mem_cons_of_mem _ hq))
theorem PairsJ.mem {h : Heap} {us : List Value} {ps : List (Int × Value × Value)} (q : PairsJ h us ps) : ∀ p ∈ ps, RelV (.bl true) p.2.2 := by
  induction q with
  | nil => intro p hp; cases hp
  | cons h1 _ ih =>
    intro p hp
    rcases List.mem_cons.mp hp with rfl | hp
    · exact h1.val
    · exact ih p hp
theorem dt_dictI (hc : X.calm = true) (hu : X.A.units + 64 < cLine) : DCall X (.type "dict") g_dictI := by
  intro pins s σ H vs us Q I r h
  obtain ⟨F, ds, d, sf, pr, e, q⟩ := h
  unfold g_dictI at e
  split at e
  · rename_i xs
    cases en : pairsI xs with
    | none => rw [en] at e; cases e
    | some ns =>
      rw [en] at e
      dsimp only at e
      by_cases hz : xs.length ≤ SZ
      · rw [if_pos hz] at e
        cases e
        obtain ⟨v, rfl, rv⟩ := paired1 pr
        obtain ⟨a, ys, rfl, h2, h3⟩ := Dp.lst_inv rv
        obtain ⟨its, r2, pl, hz2⟩ := I.list (sf.seq h2)
        obtain ⟨ps, hps, pn, pl3⟩ := pairsJ_of I sf h3 r2 en
        rw [Vals.ref1 r]
        have l1 := hps.len
        have hp : H s.heap.objs.size = none := I.hok.fresh (Nat.le_refl _)
        have PA := PairArg.list (prog := X.prog) (w := X.w) a its.toArray (fun j => match its[j]? with | some (.ref T) => T | _ => 0) (ps.map fun p => (p.2.1, p.2.2))
        have hlen : xs.length ≤ sizeLine := by rw [← sz_eq]; exact hz
        have hpl : ps.length = xs.length := by rw [pl3, ← pn, List.length_map]
        refine call_dict_pairs (knd := mixKind X.prog X.w) (kvs := ps.map fun p => ((.inl p.1 : Key), p.2.2)) PA (I.ok.hd hc) ⟨?_, ?_, ?_⟩ ⟨by simp, ?_⟩ (by rw [List.length_map, hpl]; exact hlen) fun h' tk hd hk => ?_
        · exact pl
        · rw [List.length_map]; simpa using l1
        · intro j k v e
          rw [List.getElem?_map] at e
          obtain ⟨p, e1, e2⟩ := Option.map_eq_some_iff.mp e
          cases e2
          obtain ⟨u, e3, hpi⟩ := hps.at e1
          obtain ⟨T, rfl, hT⟩ := hpi.get
          refine ⟨?_, .inl ?_⟩
          · simp [e3]
          · simpa [e3] using hT
        · intro i key v e
          have e : (ps.map fun p => (p.2.1, p.2.2))[i]? = some (key, v) := e
          rw [List.getElem?_map] at e
          obtain ⟨p, e1, e2⟩ := Option.map_eq_some_iff.mp e
          cases e2
          obtain ⟨u, e3, hpi⟩ := hps.at e1
          obtain ⟨t, ht⟩ := hpi.key
          exact ⟨.inl p.1, by rw [List.getElem?_map, e1]; rfl, kV_is (k := .inl p.1) (show ∃ t, p.2.1 = Value.int p.1 t from ⟨t, ht⟩)⟩
        · have rel := kv_merged ns [] (vs := []) .nil (pn ▸ kv_of_pairs ps hps.mem)
          have hlen2 : (idKV (addsI [] ns)).length ≤ sizeLine := by
            have := addsI_len ns []
            unfold idKV
            rw [List.length_map]
            simp at this
            omega
          have J := I.laid (a := s.heap.objs.size) (o := .dK (idKV (addsI [] ns))) (h' := h') (t' := tk) (fun b o e => hk b o (by simp) e) (Nat.le_refl _) (dk_new hlen2 (big_ne I.big) rel hd)
          exact ⟨.ref s.heap.objs.size, _, J, rfl, q _ _ _ (.new sf hp) ⟨s.heap.objs.size, rfl, upd_same⟩⟩
      · rw [if_neg hz] at e; cases e
  · cases e
/-! ### sorted(d) -/
def g_sortedI : List D → Option D
  | [.ids ns] => if sortOk (ns.map .int) = true then some (.dat (.list (sortD (ns.map .int)))) else none
  | _ => none
theorem vals_intA : ∀ (ns : List Int) (us : List Value), us.length = ns.length → (∀ (j : Nat) (n : Int), ns[j]? = some n → ∃ t, us[j]? = some (Value.int n t)) → Vals (ns.map V.int) us
  | [], us, h, _ => by rw [List.length_eq_zero_iff.mp h]; exact .nil
  | n :: ns, [], h, _ => by cases h
  | n :: ns, u :: us, h, h2 => by
    obtain ⟨t, ht⟩ := h2 0 n rfl
    refine .cons ⟨t, ?_⟩ (vals_intA ns us (by simpa using h) fun j m e => by simpa using h2 (j + 1) m (by simpa using e))
    simpa using ht
theorem dp_ints {K : PySem.W.Frag} {F : Hp} : ∀ ns : List Int, DpAll K F (ns.map V.int) (ns.map .int)
  | [] => .nil
  | n :: ns => .cons (.int n) (dp_ints ns)
theorem dc_sortedI (hc : X.calm = true) (hu : X.A.units + 64 < cLine) : DCall X (.builtin "sorted") g_sortedI := by
  intro pins s σ H vs us Q I r h
  obtain ⟨F, ds, d, sf, pr, e, q⟩ := h
  unfold g_sortedI at e
  split at e
  · rename_i ns
    by_cases hz0 : sortOk (ns.map .int) = true
    · rw [if_pos hz0] at e
      cases e
      obtain ⟨h1, h2, h3, h4⟩ := sortOk_ok hz0
      obtain ⟨v, rfl, rv⟩ := paired1 pr
      obtain ⟨a, rfl, hd⟩ := rv
      obtain ⟨zz, hs, kvs, rel, dd⟩ := dk_of I.hok (show H a = some (.dK (idKV ns)) from sf _ _ hd)
      obtain ⟨o, es, ep, ho, hx, hdat, hks, hpr, hno⟩ := dd
      have hkl : kvs.length = ns.length := by rw [← rel.length]; simp [idKV]
      have raw : s.heap.DictRaw a es ep := ⟨o, ho, hx, hdat⟩
      have hsz : es.size = ns.length := by have := hpr.length; rw [← hkl, ← this]; simp
      have hkey : ∀ (j : Nat) (n : Int), ns[j]? = some n → ∃ (hj : j < es.size), ∃ t, (es[j]'hj).key = Value.int n t := fun j n e => by
        have hjn : j < ns.length := (List.getElem?_eq_some_iff.mp e).1
        have hj : j < es.size := by omega
        have hkv : kvs[j]? = some kvs[j] := List.getElem?_eq_getElem (by omega)
        have h0 : (kvs.map (·.1))[j]? = ((idKV ns).map (·.1))[j]? := by rw [KV.keys rel]
        rw [List.getElem?_map, hkv] at h0
        have h00 : ((idKV ns).map (·.1))[j]? = some (.inl n) := by
          unfold idKV
          rw [List.getElem?_map, List.getElem?_map, e]
          rfl
        rw [h00] at h0
        have hk1 : kvs[j].1 = .inl n := Option.some.inj h0
        have h3 := hpr.get? (i := j) (e := es[j]) (k := kvs[j].1) (v := kvs[j].2) (by rw [Array.getElem?_toList, Array.getElem?_eq_getElem hj]) hkv
        rw [hk1] at h3
        rcases keyIs_shape (show keyIs (.inl n) es[j].key = true from h3.1) with ⟨i, t, e1, e2⟩ | ⟨x, t, e1, e2⟩
        · cases e1; exact ⟨hj, t, e2⟩
        · cases e1
      rw [Vals.ref1 r]
      refine Calls.call_function_entry kind_sorted plain_sorted entry_sorted (args_sorted1 _) ?_
      unfold Builtin.«sorted»
      refine wpAny_bind (m := checkCount "sorted" 1 1 _) (wpAny_pure ?_)
      have hzz : es.size ≤ sizeLine := by
        rw [hsz]
        unfold idKV at zz
        rw [List.length_map] at zz
        exact zz
      refine wpAny_bind (W.kdu_collect (A := X.A.in1) (PySem.KdlSrc.rawDict (d := a) (es := es) (ep := ep) hs) (I.ok.hd hc) raw hzz fun h' tk acc' hk hi => ?_)
      obtain ⟨i1, i2⟩ := hi
      have vals : Vals (ns.map V.int) acc'.toList := by
        refine vals_intA ns _ (by simp; omega) fun j n e => ?_
        obtain ⟨hj, t, ht⟩ := hkey j n e
        have hja : j < acc'.size := by omega
        have e1 : acc'[j]? = some acc'[j] := Array.getElem?_eq_getElem hja
        obtain ⟨_, e2⟩ := i2 j _ e1
        exact ⟨t, by rw [Array.getElem?_toList, e1, e2, ht]⟩
      have keys : DpAll X.K F (ns.map V.int) (ns.map .int) := dp_ints ns
      have em := each_of vals keys
      have hl : acc'.toList.length = (ns.map PyData.int).length := em.length
      have er : W.EachIs (fun v b => ∃ as, Reads s.heap v b as) acc'.toList (ns.map .int) := em.mono fun u d ⟨v, ru, hd⟩ => rd_reads I sf hd ru
      refine wpAny_bind (wpAny_newList ?_ (by rw [hl, ← sz_eq]; exact h1))
      have newL : (h'.push (seqObj "list" acc'.toList.toArray 0)).get? h'.objs.size = some (seqObj "list" acc'.toList.toArray 0) := Heap.get?_push_size _ rfl
      have er2 : W.EachIs (fun v b => ∃ as, Reads (W.sortingHeap (h'.push (seqObj "list" acc'.toList.toArray 0)) h'.objs.size acc'.toList) v b as) acc'.toList (ns.map .int) := er.mono fun u b ⟨as, rd⟩ => ⟨as, PyProof.Rows.Reads.keeps (fun c o hb => by
        have hb1 := hk c o hb
        exact W.sortingHeap_old (Nat.ne_of_lt (Heap.lt_size hb1)) (Heap.get?_push_of_some _ hb1)) rd⟩
      refine wpAny_bind (wpAny_holding (NS.sort_read (s := { s with heap := h'.push (seqObj "list" acc'.toList.toArray 0), toks := tk }) (R := fun u d => ∃ v, RelV v u ∧ Dp X.K F v d) (bs := ns.map .int) newL em er2 h3 h4 (by rw [← sz_eq]; exact h1) (fun b hb => ?_) fun out ho2 eo => ?_))
      · have := depth_mem hb
        show X.A.units + 1 + 1 + b.depth < cLine
        omega
      · obtain ⟨c, hcx⟩ := sortedHeap_at (vs := acc'.toList) (out := out.toArray) newL
        obtain ⟨ws, w1, w2⟩ := of_each eo
        have nos : s.heap.get? h'.objs.size = none := by
          cases e : s.heap.get? h'.objs.size with
          | none => rfl
          | some o => exact absurd (Heap.lt_size (hk _ _ e)) (Nat.lt_irrefl _)
        have noH : H h'.objs.size = none := by
          cases e : H h'.objs.size with
          | none => rfl
          | some o =>
            obtain ⟨u, hu⟩ := objok_some (I.hok _ _ e)
            rw [nos] at hu; cases hu
        have hlen : ws.length ≤ sizeLine := by rw [w1.length, ho2, ← sz_eq]; exact h1
        refine wpAny_pure ⟨_, rfl, .ref h'.objs.size, upd H h'.objs.size (.lst ws), I.laidN (t' := tk) (fun b u hb => ?_) nos noH ⟨hlen, out, c, w1, hcx⟩, rfl, q _ _ _ (.new sf noH) (Dp.newL sf noH w2)⟩
        have hb1 := hk b u hb
        have lt := Heap.lt_size hb1
        show (sortedHeap (h'.push _) h'.objs.size _ out.toArray).get? b = some u
        rw [sortedHeap_old (Nat.ne_of_lt lt) (by rw [size_push']; exact Nat.lt_succ_of_lt lt)]
        exact Heap.get?_push_of_some _ hb1
    · rw [if_neg hz0] at e; cases e
  · cases e
end
end DL

set_option maxHeartbeats 8000000
namespace NS
open PySem PySem.Spec PyProof.Rows L2
section
variable {P : Program} {w : World} {A : Around} {E : Value → Shared → Prop} {s : Shared}
/-- what set(xs) leaves, ints -/
def MadeI (w : World) (s : Shared) (ns : List Int) (s' : Shared) : Prop :=
  ∃ (h' : Heap) (tk c : Nat), s' = { s with heap := h', toks := tk } ∧ SetR w h' s.heap.objs.size (fun j => decide (j ∈ ns)) c ∧ c ≤ ns.length ∧ (∀ b o, s.heap.get? b = some o → h'.get? b = some o)
/-- set(xs) of a list of ints -/
theorem call_setI {l : Addr} {items : Array Value} {ns : List Int} {Q : Value → Shared → Prop} (hh : A.handled = none) (hl : s.heap.IsList l items) (hi : IntsAre items.toList ns) (hb : ns.length + 1 < scanBound)
    (q : ∀ s', MadeI w s ns s' → Q (.ref s.heap.objs.size) s') :
    wpAny (model P w) A (call (.type "set") [.ref l]) Q E s := by
  have count : items.size = ns.length := by
    have q := IntsAre.length hi
    rw [Array.length_toList] at q
    exact q
  obtain ⟨c, tl, hmro⟩ := F.called_set.mro
  have hmade := F.called_set.made
  have hsub := F.called_set.sub
  have hnt := F.called_set.notType
  have hcc := F.called_set.canCreate
  have htc := F.typeCall_set_1 (.ref l)
  refine wpAny_call (codeAny_of_tree ?_)
  show wpAny _ _ (callAny (.type "set") _) _ _ _
  refine wpAny_pure ⟨Code.quiet_builtin _ (by decide +kernel), codeAny_builtin F.entry_type_call ?_⟩
  rw [Around.under_plain (weight_type_call_type "set" [.ref l] []) rfl]
  repeat (any_goals (first | assumption | wp_step))
  refine codeAny_mono (code_set_led1 (.ref l) (E := E) (Q₁ := fun x u => x = .ref s.heap.objs.size ∧ u = { s with heap := s.heap.push (blankO w) }) ⟨rfl, rfl⟩) fun r u hu => ?_
  rcases r with _ | fl
  · exact hu
  cases fl with
  | ret x =>
    obtain ⟨rfl, rfl⟩ := hu
    have getS : (s.heap.push (blankO w)).get? s.heap.objs.size = some (blankO w) := Heap.get?_push_size _ rfl
    have isSet : Shared.TypeIs { s with heap := s.heap.push (blankO w) } (.ref s.heap.objs.size) "set" := ⟨_, getS, rfl⟩
    have hlook := F.called_set.init.lookup
    have hbind := F.called_set.init.bind (.ref s.heap.objs.size)
    repeat (any_goals (first | assumption | wp_step))
    refine codeAny_mono (codeAny_call_builtin (R := wants (fun r u => r = .none ∧ MadeI w s ns u) E) F.called_set.init.plain F.entry_set_init (check_set_init_1 isSet ?_)) fun r2 u2 hu2 => ?_
    · obtain ⟨⟨lc, ld, ldata, lslots⟩, gol, lcls, ln, ldat⟩ := hl
      simp only at lcls ldat
      subst lcls ldat
      have gl : (s.heap.push (blankO w)).get? l = some { cls := .type "list", dict := ld, data := .seq items ln, slots := lslots } := Heap.get?_push_of_some _ gol
      have isl : (s.heap.push (blankO w)).IsList l items := ⟨_, gl, rfl, ln, rfl⟩
      have sub1 := F.sub_list_set
      have sub2 := F.sub_list_frozenset
      have nd : (Value.type "list" == Value.type "dict") = false := by decide
      unfold Builtin.«set.__init__» noKeywords Builtin.Frozenset.updateFrom
      generalize hIter : pyIter = iter
      wp_walk
      subst hIter
      refine wpAny_pyIter_list isl (wpAny_bind (wpAny_runValue ?_))
      have lS : l < s.heap.objs.size := Heap.lt_size gol
      have size1 : (s.heap.push (blankO w)).objs.size = s.heap.objs.size + 1 := Heap.size_push ..
      have lI : l ≠ (s.heap.push (blankO w)).objs.size := by rw [size1]; exact Nat.ne_of_lt (Nat.lt_succ_of_lt lS)
      have hS2 : ((s.heap.push (blankO w)).push { cls := .type "list_iterator", data := .fields #[.ref l, .int 0 0] }).get? s.heap.objs.size = some (blankO w) := Heap.get?_push_of_some _ getS
      have walk : Walks P w A.in1.in1.in1 (s.heap.push (blankO w)).objs.size [(s.heap.push (blankO w)).objs.size, l] [(s.heap.push (blankO w)).objs.size] items.size (fun i v => items[i]? = some v) (fun i h => h.IsListIter (s.heap.push (blankO w)).objs.size l i ∧ h.IsList l items) := Walks.list (by simp [hh]) _ l lI items
      rw [count] at walk
      refine set_update_ints walk.toS s.heap.objs.size ?_ ns rfl hb (fun i v hv => ?_) ns.length 0 _ (by omega) (Nat.zero_le _) ?_ ?_ ?_
      · rw [size1]
        simp only [List.mem_cons, List.not_mem_nil, or_false, not_or]
        exact ⟨Nat.ne_of_lt (Nat.lt_succ_self _), Nat.ne_of_gt lS⟩
      · have hlt : i < ns.length := by rw [← count]; exact (Array.getElem?_eq_some_iff.mp hv).1
        obtain ⟨t, e⟩ := PyProof.Rows.IntsAre.int_at hi i v (by rw [Array.getElem?_toList]; exact hv)
        refine ⟨ns[i], t, List.getElem?_eq_getElem hlt, ?_⟩
        rw [e, List.getD_eq_getElem?_getD, List.getElem?_eq_getElem hlt] <;> rfl
      · exact ⟨⟨_, Heap.get?_push_size _ rfl, rfl, rfl⟩, isl.push _⟩
      · exact ⟨0, Nat.le_refl 0, setR_new_at hS2⟩
      · intro s' c' mv hc' T
        have e1 : s'.gens = s.gens := mv.gens
        have e2 : s'.drawn = s.drawn := mv.drawn
        have e3 : s'.os = s.os := mv.os
        refine wpAny_pure ?_
        show wpAny _ _ (ret Value.none) _ _ _
        refine wpAny_pure ⟨rfl, s'.heap, s'.toks, c', ?_, T, hc', fun b o e => ?_⟩
        · rw [← e1, ← e2, ← e3]
        · have hb0 : b < s.heap.objs.size := Heap.lt_size e
          refine mv.heap b o ?_ (Heap.get?_push_of_some _ (Heap.get?_push_of_some _ e))
          rw [size1]
          simp only [List.mem_cons, List.not_mem_nil, or_false, not_or]
          exact ⟨Nat.ne_of_lt hb0, Nat.ne_of_lt (Nat.lt_succ_of_lt hb0)⟩
    · rcases r2 with _ | fl2
      · exact hu2
      cases fl2 with
      | ret y =>
        obtain ⟨rfl, m⟩ := hu2
        repeat (any_goals (first | assumption | wp_step))
        exact q _ m
      | _ => exact hu2.elim
  | _ => exact hu.elim
end
end NS
namespace DL
open PySem PySem.Spec PyProof.Rows L2 NS
/-! ### sorted(set(xs)), ints that rise -/
def upB (ns : List Int) : Bool := decide (ns.Pairwise (· < ·))
def opSortSetU : D → Option D
  | .dat (.list xs) => (intsD xs).bind fun ns => if upB ns = true ∧ ns.length ≤ 60 then some (.dat (.list (ns.map .int))) else none
  | _ => none
theorem up_eq {as bs : List Int} (ha : as.Pairwise (· < ·)) (hb : bs.Pairwise (· < ·)) (h : ∀ x, x ∈ as ↔ x ∈ bs) : as = bs := by
  have na : as.Nodup := ha.imp fun h => by omega
  have nb : bs.Nodup := hb.imp fun h => by omega
  exact List.Perm.eq_of_pairwise (le := (· < ·)) (fun a b _ _ h h' => absurd h (by omega)) ha hb ((List.perm_ext_iff_of_nodup na nb).mpr h)
def tSortSetU (K : PySem.W.Frag) (ta : TE) : TE := fun σ H Q => ta σ H fun x H1 => ∃ (l : Addr) (ns : List Int), x = V.ref l ∧ SqL K H1 l (ns.map V.int) ∧ ns.length ≤ 60 ∧ ns.Pairwise (· < ·) ∧ ∀ p, H1 p = none → Q (.ref p) (upd H1 p (.lst (ns.map V.int)))
section
variable {X : Cx} {W : XK} {E : Ent} {pos p p2 : Pos}
theorem pe_sortSetU {a : Expr} {ta : TE} {q : Pos} (hc : X.calm = true) (hg : Gl X "sorted") (hm : X.mg "sorted" = none) (hg2 : Gl X "set") (hm2 : X.mg "set" = none) (ha : PE X a ta)
    (na : starEach [a] X.env = (false, eval a X.env) :: starEach [] X.env := by rfl) : PE X (.Call (.Name "sorted" p) [.Call (.Name "set" p2) [a] [] q] [] pos) (tSortSetU X.K ta) := by
  refine ⟨fun pins s σ H Q I h => ?_⟩
  refine Call_ (ld_blt I hg hm (show bootBuiltins "sorted" = some (.builtin "sorted") by decide +kernel) ?_)
  refine PyProof.Rows.callWith_builtin1 (PyProof.Rows.args_cons ?_ rfl) rfl rfl
  refine Call_ (ld_blt I hg2 hm2 PyProof.Rows.boot_set ?_)
  refine PyProof.Rows.callWith_type1 (PyProof.Rows.args_cons (thn (ha.run pins s σ H _ I h) fun v s1 ⟨x, H1, I1, r1, q1⟩ => PyProof.Rows.args_nil ?_) na) na rfl
  obtain ⟨l, ns, rfl, hq, h60, hup, q1⟩ := q1
  cases r1
  obtain ⟨us, ru, pl, hz⟩ := I1.list hq
  refine call_setI (I1.ok.hd hc) pl.isList (ns := ns) (by simpa using ru.ints) (by unfold scanBound; omega) fun s2 ⟨h', tk, c, e, T, hcl, keep⟩ => PyProof.Rows.args_nil ?_
  subst e
  have I2 : Inv X pins σ H1 { s1 with heap := h', toks := tk } := I1.kept keep
  refine sorted_set T (I2.ok.hd hc) (by omega) fun s' p' out c2 ms k g o hp hget hi hs hmm hl => ?_
  have e : ms = ns := up_eq hs hup fun x => by rw [hmm x, decide_eq_true_eq]
  subst e
  have hlen : (ms.map V.int).length ≤ sizeLine := by rw [List.length_map, sizeLine_eq]; omega
  have hn : H1 p' = none := I2.hok.fresh hp
  have J : Inv X pins σ (upd H1 p' (.lst (ms.map V.int))) s' := I2.call' (ch := []) o (Un.laid k hp hn) (I2.hok.laid k hp ⟨hlen, out.toList, c2, vals_of_ints hi, hget⟩) (by rw [g]; exact I2.bare) (fun _ z => nomatch z)
  exact ⟨.ref p', _, J, rfl, q1 p' hn⟩
theorem pd_sortSetU {a : Expr} {fa : En → M D} {q : Pos} (hc : X.calm = true) (hg : Gl X "sorted") (hm : X.mg "sorted" = none) (hg2 : Gl X "set") (hm2 : X.mg "set" = none) (ha : PD X W E a fa)
    (na : starEach [a] X.env = (false, eval a X.env) :: starEach [] X.env := by rfl) : PD X W E (.Call (.Name "sorted" p) [.Call (.Name "set" p2) [a] [] q] [] pos) (e1 opSortSetU fa) := by
  refine PE.imp (pe_sortSetU hc hg hm hg2 hm2 ha na) fun σ H Q hl => ?_
  obtain ⟨F, ρ, R, ok, run⟩ := hl
  refine ⟨F, ρ, R, ok, run.bind.imp fun d R1 F1 H1 g1 r1 h1 v rv => ?_⟩
  obtain ⟨z, e, h2⟩ := h1.lft
  unfold opSortSetU at e
  split at e
  · obtain ⟨ns, e3, e4⟩ := Option.bind_eq_some_iff.mp e
    split at e4
    · rename_i hz
      cases e4
      have e5 := intsD_inv e3
      subst e5
      obtain ⟨l, ys, rfl, h5, h6⟩ := Dp.lst_inv rv
      have := h6.ints
      subst this
      exact ⟨l, ns, rfl, g1.fh.seq h5, hz.2, of_decide_eq_true hz.1, fun p hp => h2 _ _ (GrowP.new g1.fh hp).g ((GrowP.new g1.fh hp).row r1) _ (Dp.newL g1.fh hp h6)⟩
    · cases e4
  · cases e
end
end DL

set_option maxHeartbeats 4000000
namespace DX
open PySem PySem.Spec PyProof.Rows L2 PySem.W
/-! ### ValueError.__init__ bound to an exception, called -/
section
variable {prog : Program} {w : World} {A : Around} {E : Value → Shared → Prop} {h : Heap} {g : Array GenState} {d : Drawn} {t : Nat} {os : OsState}
variable {nm q : Str} {C N : Addr} {bs bm : List Value} {hdct : Bool} {sn : List Str} {sub : List Value} {ab : Bool} {col : Option Bool} {dd : Option Addr} {k0 k1 k2 k3 k5 : Option Value}
theorem call_bwV {u e t0 : Addr} {rest : List Value} {Q : Value → Shared → Prop}
    (hC : h.get? C = some (excClassObj nm q C N bs bm hdct sn sub ab col dd k0 k1 k2 k3 k5 "ValueError.__new__")) (he : h.get? e = some (HandSPX.excO C t0)) (hu : h.get? u = some (kxs_mw "ValueError.__init__" e)) (hrest : rest.length ≤ sizeLine)
    (hq : ∀ h' t1, (∀ b o, b ≠ e → h.get? b = some o → h'.get? b = some o) → h'.get? e = some (HandSPX.excO C t1) → Q .none ⟨h', g, d, t, os⟩) :
    wpAny (model prog w) A (call (.ref u) rest) Q E ⟨h, g, d, t, os⟩ := by
  refine wpAny_call (codeAny_of_tree ?_)
  show wpAny _ A.in1 (callAny (.ref u) ⟨rest, []⟩) _ _ _
  simp only [callAny]
  refine wpAny_bind (wpAny_load hu ?_)
  simp only [kxs_mw, show (Value.type "method-wrapper" == Value.type "method" || Value.type "method-wrapper" == Value.type "builtin_function_or_method" || Value.type "method-wrapper" == Value.type "method-wrapper") = true by decide, if_true]
  refine W.KFB.if_so (by decide) ?_
  refine wpAny_bind (ESX.check_bound F.excBase_ValueError hC he rfl ?_)
  refine wpAny_bind (wpAny_pure (wpAny_pure ?_))
  refine ⟨Code.quiet_builtin _ (by decide +kernel), codeAny_builtin F.excBase_ValueError.initEntry ?_⟩
  rw [Around.under_plainId F.excBase_ValueError.init.plain _]
  wp_walk
  refine hq _ h.objs.size (fun b o hb ho => ?_) ?_
  · rw [Heap.get?_update_other _ _ (Ne.symm hb)]
    exact Heap.get?_push_of_some _ ho
  · rw [Heap.get?_update_self _ (Heap.get?_push_of_some _ he) rfl]
    rfl
end
/-! ### super().__init__(..) in an exception's own __init__ -/
/-- what the written part says of the class at C, its __init__ at f, its cell at cc, its code at cda -/
structure SuK (P : Program) (K : Frag) (C f cc cda : Addr) (ar : Str) : Prop where
  T : OexC K C
  fn : ∃ oc od osl fd, K.lookup f = some ⟨oc, od, .func fd, osl⟩ ∧ ∃ a, (fd.params.posonlyargs ++ fd.params.args).head? = some a ∧ a.arg = ar
  cell : ∃ cl cld csl, K.lookup cc = some ⟨cl, cld, .cell (some (.ref C)), csl⟩
  code : ∃ ccl cdd vs ccs file tf, K.lookup cda = some ⟨ccl, cdd, .fields vs, ccs⟩ ∧ vs[2]? = some (.str file tf) ∧ ((P.main.file : Str) == file) = true
  op : nsIn K cStatics "thirdparty.any" = some none
  sup : ks_superIn K C C "__init__" = some (some (.builtin "ValueError.__init__"))
  ve : subIn K (.ref C) (.type "ValueError") = some true
  self : mroIn K C (.ref C) = some true
  top : (P.main.scope.names.lookup ("super" : Str)).isSome = false
section
variable {X : Cx} {pins : List (Addr × Obj)} {σ : L2.St} {H : Hp} {s : Shared} {C f cc cda a : Addr} {ar : Str}
theorem su_init {body : List Stmt} {p0 p1 p2 p3 p4 : Pos} {e : Expr} {es : List Expr} {ta : TA} {Q : Flow → Shared → Prop} {i : Nat} {EX : Value → Shared → Prop} (S : SuK X.prog X.K C f cc cda ar) (I : Inv X pins σ H s) (hex : EX = X.xe)
    (hks : X.env.kindOf "super" = some .globalImplicit) (hms : X.mg "super" = none) (hkc : X.env.kindOf "__class__" = some .free) (hfu : X.env.func = some f) (hco : X.env.code = .ref cda) (hcc : X.env.cells.lookup ("__class__" : Str) = some cc)
    (hN : X.N[i]? = some ar) (hσ : σ[i]? = some (some (.ref a))) (hka : X.env.kindOf ar = some .local) (ea : H a = some (exo a C none))
    (ha : PA X (e :: es) ta) (hta : ta σ H fun vs H1 => H1 = H ∧ vs.length ≤ 1000)
    (hi : interactive X.env = false) (hs : swapsWith (.Call (.Attribute (.Call (.Name "super" p0) [] [] p1) "__init__" p2) (e :: es) [] p3) none p4.line X.env = pure false)
    {pl : Sem Bool} (he : eval (.Call (.Attribute (.Call (.Name "super" p0) [] [] p1) "__init__" p2) (e :: es) [] p3) X.env = (do
      let ov ← attributeBase (.Call (.Name "super" p0) [] [] p1) "__init__" X.env (eval (.Call (.Name "super" p0) [] [] p1) X.env)
      standAt p2.atName
      let (f, first) ← holding [ov] (getMethod ov "__init__" pl)
      callWith p3 f first (backTo p3 (starEach (e :: es) X.env)) []))
    (hse : starEach (e :: es) X.env = (false, eval e X.env) :: starEach es X.env) (hpl : (backTo p3 (starEach es X.env)).any (·.1) = false)
    (h : ∀ s', Inv X pins σ H s' → Q .next s') :
    _root_.PySem.wpAt (model X.prog X.w) X.A (.func body X.env) (exec (.Expr (.Call (.Attribute (.Call (.Name "super" p0) [] [] p1) "__init__" p2) (e :: es) [] p3) p4) X.env) Q EX s := by
  subst hex
  obtain ⟨hp0, g, d, t, os⟩ := s
  obtain ⟨oc, od, osl, fd, lk, a0, hp, hae⟩ := S.fn
  obtain ⟨cl, cld, csl, hcell⟩ := S.cell
  obtain ⟨ccl, cdd, vs, ccs, file, tf, hcode, hvs, hfile⟩ := S.code
  obtain ⟨nm, q, N, bs, bm, sn, sub, ab, col, dd, k0, k1, k2, k3, k5, hC, hbm⟩ := S.T.cls
  have hcl : PySem.W.clsIn X.K C = some { name := nm, bases := bs, mro := .ref C :: bm, ns := N, qualname := q, hasDict := true, slotNames := sn, subclasses := sub, abstract := ab, collection := col, hasDel := false } := by unfold PySem.W.clsIn; rw [hC] <;> rfl
  refine ks_wpAt_Expr_any ?_ hi hs
  refine ks_wpAt_MethodCall ?_ he
  have KX := I.kIn
  refine ks_wpAt_super_base hks hkc (by decide) hfu (KX _ _ lk) rfl hp hco (KX _ _ hcode) rfl hvs hfile S.top ?_
  obtain ⟨mb, b1, b2⟩ := I.mod.blt
  refine ks_loadName_global I.ok.kind hks (Calls.loadGlobal_builtin (by rw [I.ok.glob]; exact I.mod.glob.keeps I.bk) hms (by rw [I.ok.blt]; exact b1.keeps I.bk) ((b2 "super" (by decide)).trans (show bootBuiltins "super" = some (.type "super") by decide +kernel)) ⟨rfl, ?_⟩)
  refine wpAny_loadName_free I.ok.kind hkc hcc ⟨_, KX _ _ hcell, rfl⟩ ?_
  obtain ⟨m, hn, hl⟩ := I.loc
  obtain ⟨u, ru, hlk⟩ := hl i ar _ hN hσ (.inl hka)
  obtain rfl : u = Value.ref a := ru
  have hm : m ar = some (.ref a) := by
    rcases hlk with ⟨_, z⟩ | ⟨k, _⟩
    · exact z
    · rw [hka] at k; rcases k with k | k <;> cases k
  rw [hae]
  refine wpAny_loadName_local I.ok.kind hka hn hm ?_
  have hCh := KX _ _ hC
  refine ks_wpAny_isType_cls hCh rfl ⟨rfl, ?_⟩
  obtain ⟨t1, ho⟩ := exo_at I.hok ea
  refine ks_wpAny_call_super hCh rfl ho rfl (fun c z => nomatch z) (looks_mroIn KX S.self) fun h' eso k => ?_
  have I1 : Inv X pins σ H ⟨h', g, d, t, os⟩ := I.kept (t' := t) k
  have ho1 := k _ _ ho
  have hxC : a ≠ C := fun z => by
    rw [z, hCh] at ho
    have := Option.some.inj ho
    cases this
  have hsup := S.sup
  unfold ks_superIn at hsup
  rw [hcl] at hsup
  have IA : W.InstAt h' a { cls := .ref C, dict := none, data := .fields #[.ref t1, .none, .none, .none, .bool false, .none] } C none := ⟨ho1, rfl, rfl, trivial⟩
  refine kxs_getMethod kxs_ValueError eso (looks_opaque I1.kIn S.op) (l₀ := .ref C :: bm) (fun A Q E s k q => wpAny_bind ((looks_clsIn I1.kIn hcl) A _ E s k (wpAny_pure q))) rfl I1.kIn hsup (IA.type.andThen (looks_subIn I1.kIn S.ve)) hxC (by decide) ?_
  have I2 : Inv X pins σ H ⟨h'.push (kxs_mw "ValueError.__init__" a), g, d, t + 1, os⟩ := I1.kept (t' := t + 1) fun b o e => Heap.get?_push_of_some _ e
  have gu : (h'.push (kxs_mw "ValueError.__init__" a)).get? h'.objs.size = some (kxs_mw "ValueError.__init__" a) := Heap.get?_push_size _ rfl
  have I3 : Inv X (pins ++ [(h'.objs.size, kxs_mw "ValueError.__init__" a)]) σ H ⟨h'.push (kxs_mw "ValueError.__init__" a), g, d, t + 1, os⟩ := I2.pins_of fun p hp => by
    rcases List.mem_append.mp hp with hp | hp
    · exact I2.pin p (List.mem_append_right _ hp)
    · rw [List.mem_singleton.mp hp]
      exact ⟨gu, I1.hok.fresh (Nat.le_refl _), Ne.symm (Nat.ne_of_lt I1.lt), I1.nofs (Nat.le_refl _), fun v z => nomatch z⟩
  have hsp : wpAny (model X.prog X.w) X.A (spliced (backTo p3 (starEach (e :: es) X.env))) (fun vs s₁ => KxsAt "ValueError.__init__" h'.objs.size a s₁.heap ∧ wpAny (model X.prog X.w) X.A (call (.ref h'.objs.size) vs) (fun _ => Q .next) X.xe s₁) X.xe ⟨h'.push (kxs_mw "ValueError.__init__" a), g, d, t + 1, os⟩ := by
    refine thn (ha.run p3 _ _ σ H _ I3 hta) fun us s1 ⟨vs', H1, I4, r1, eH, hz⟩ => ?_
    rw [eH] at I4
    have hu4 := (I4.pin (h'.objs.size, kxs_mw "ValueError.__init__" a) (by simp)).1
    refine ⟨hu4, ?_⟩
    obtain ⟨hp4, g4, d4, t4, os4⟩ := s1
    obtain ⟨t5, ho4⟩ := exo_at I4.hok ea
    refine call_bwV (I4.kIn _ _ hC) ho4 hu4 (by rw [← Paired.length r1, sizeLine_eq]; omega) fun h5 t6 k5 he5 => ?_
    have J := I4.write (t' := t4) (x := a) (e := a) (o := exo a C none) (by rw [ea]; exact True.intro) (.inl rfl) k5 ⟨_, he5⟩ (exo_ok he5)
    have eu : upd H a (exo a C none) = H := by
      funext b
      by_cases hb : b = a
      · rw [hb, upd_same, ea]
      · rw [upd_ne hb]
    rw [eu] at J
    exact h _ J.unpinned
  rw [hse] at hsp ⊢
  refine kxs_callWith (i := "ValueError.__init__") (x := a) (by show (false || (backTo p3 (starEach es X.env)).any (·.1)) = false; rw [hpl]; rfl) ?_
  exact Calls.evalArgs_plain hsp
end
end DX

set_option maxHeartbeats 4000000
namespace DX
open PySem PySem.Spec PyProof.Rows L2 PySem.W
/-! ### a def with the cell __class__ -/
def cxK (CX : CXT) (P : Program) (w : World) (K : PySem.W.Frag) (mg : Str → Option Value) (base : Heap) (N : List Str) (qual : Str) (scope : Scope) (f : Addr) (cd : Value) (cc : Addr) (A : Around) (outer : List Env) (s : Shared) (H : Hp) (E : XK) : Cx where
  prog := P
  w := w
  K := K
  mg := mg
  base := base
  A := A.deeper (ksEnv qual scope s.heap.objs.size f cd cc)
  N := N
  s_0 := s
  H_0 := H
  env := ksEnv qual scope s.heap.objs.size f cd cc
  outer := outer
  stack := ksEnv qual scope s.heap.objs.size f cd cc :: outer
  ex := []
  calm := true
  fn := fun _ => false
  pn := []
  xe := fun e s' => wpAny (model P w) (A.deeper (ksEnv qual scope s.heap.objs.size f cd cc)) (leaving (ksEnv qual scope s.heap.objs.size f cd cc) e) (fun _ s'' => CX outer H s E e s'') (fun e' s'' => CX outer H s E e' s'') s'
/-- the def's names: its parameters, and __class__ -/
structure KScope (ps : List Str) (scope : Scope) : Prop where
  kind : scope.kind = .function
  co : scope.isCoroutine = false
  gen : scope.isGenerator = false
  nd : ps.Nodup
  par : ∀ y ∈ ps, scope.names.lookup y = some .local
  nocell : ∀ x ∈ scope.names, x.2 ≠ .cell
  free : ∀ y, scope.names.lookup y = some .free → y = "__class__"
theorem zip_sub : ∀ (ps : List Str) (us : List Value), ((ps.zip us).map (·.1)).Sublist ps
  | [], _ => List.nil_sublist _
  | p :: ps, [] => List.nil_sublist _
  | p :: ps, u :: us => by
    rw [List.zip_cons_cons, List.map_cons]
    exact List.Sublist.cons₂ _ (zip_sub ps us)
theorem zip_look {ps : List Str} {us : List Value} (nd : ps.Nodup) {i : Nat} {y : Str} {u : Value} (h1 : ps[i]? = some y) (h2 : us[i]? = some u) : (ps.zip us).reverse.lookup y = some u := by
  have key : ∀ (l : List (Str × Value)), (l.map (·.1)).Nodup → (y, u) ∈ l → l.lookup y = some u := by
    intro l
    induction l with
    | nil => intro _ h; cases h
    | cons p l ih =>
      intro hn hm
      obtain ⟨a, b⟩ := p
      obtain ⟨n1, n2⟩ := List.nodup_cons.mp hn
      rw [List.lookup_cons]
      rcases List.mem_cons.mp hm with e | hm
      · cases e; simp
      · have hne : (y == a) = false := beq_eq_false_iff_ne.mpr fun e => n1 (List.mem_map.mpr ⟨(y, u), hm, e⟩)
        rw [hne]
        exact ih n2 hm
  refine key _ ?_ ?_
  · rw [List.map_reverse]
    refine (List.reverse_perm _).nodup_iff.mpr ?_
    exact nd.sublist (zip_sub ps us)
  · refine List.mem_reverse.mpr (List.mem_of_getElem? (i := i) ?_)
    rw [List.getElem?_zip_eq_some]
    exact ⟨h1, h2⟩
theorem inv_startK {CX : CXT} {P : Program} {w : World} {K : PySem.W.Frag} {mg : Str → Option Value} {base : Heap} {ps : List Str} {qual : Str} {scope : Scope} {f cc : Addr} {cd : Value} {A : Around} {outer : List Env} {s : Shared} {h₁ : Heap} {tk : Nat} {H : Hp} {E : XK} {us : List Value} {vs : List V}
    {oc : Obj} {cv : Option Value} (S : KScope ps scope) (hd : A.handled = none) (e0 : Env0 P w K mg base A outer s H) (hl : vs.length = ps.length) (r : Vals vs us) (hcc : K.lookup cc = some oc) (hcv : oc.data = .cell cv)
    (hns : h₁.Ns s.heap.objs.size fun y => (ps.zip us).reverse.lookup y) (kp : ∀ b o, s.heap.get? b = some o → h₁.get? b = some o) :
    Inv (cxK CX P w K mg base ps qual scope f cd cc A outer s H E) [] (L2.start ps vs) H { s with heap := h₁, toks := tk } := by
  have hb : base.get? cc = some oc := e0.mod.kin _ _ hcc
  obtain ⟨hs, hHc⟩ := e0.bs _ _ hb
  have noA : ∀ b : Addr, b ∉ (cxK CX P w K mg base ps qual scope f cd cc A outer s H E).ex := fun b z => absurd (show b ∈ ([] : List Addr) from z) (by simp)
  have lk : ∀ y c, (cxK CX P w K mg base ps qual scope f cd cc A outer s H E).env.cells.lookup y = some c → y = "__class__" ∧ c = cc := fun y c e => by
    have e : ([(("__class__" : Str), cc)] : List (Str × Addr)).lookup y = some c := e
    rw [List.lookup_cons] at e
    split at e
    · rename_i q
      cases e
      exact ⟨by simpa using q, rfl⟩
    · cases e
  have st : L2.start ps vs = vs.map some := by
    unfold L2.start
    rw [hl, Nat.sub_self]
    simp
  refine ⟨⟨e0.mod, S.kind, rfl, rfl, Nat.le_refl _, fun y z c h1 h2 => (lk y c h1).1.trans (lk z c h2).1.symm, fun y hy => ?_, fun y c h => (nomatch h), fun _ => hd, Around.frames_deeper e0.frames, .inr ⟨rfl, rfl⟩, fun b z => absurd z (noA b), e0.bs, e0.bsz, fun b _ _ => noA b, fun b z => absurd z (noA b), e0.funs, e0.frf⟩,
    rfl, e0.bare, Un.kept kp, ⟨_, hns, fun i y v h1 h2 h3 => ?_⟩, fun y c h => ⟨cv, oc, by rw [(lk y c h).2]; exact kp _ _ hs, hcv⟩, e0.hok.fresh (Nat.le_refl _), fun y c h => by rw [(lk y c h).2]; exact hHc, fun p hp => absurd (show p ∈ ([] : List (Addr × Obj)) from hp) (by simp), e0.hok.kept kp, ?_⟩
  · have hy : scope.names.lookup y = some .cell ∨ scope.names.lookup y = some .free := hy
    rcases hy with hy | hy
    · exact absurd rfl (S.nocell _ (PySem.mem_of_lookup hy))
    · rw [S.free y hy]
      exact ⟨cc, rfl⟩
  · rw [st, List.getElem?_map] at h2
    obtain ⟨a, ha, e⟩ := Option.map_eq_some_iff.mp h2
    cases e
    obtain ⟨u, hu, rv⟩ := r.get ha
    have h1 : ps[i]? = some y := h1
    exact ⟨u, rv, .inl ⟨S.par y (List.mem_of_getElem? h1), zip_look S.nd h1 hu⟩⟩
  · rw [st]
    show _ = ps.length
    rw [List.length_map, hl]
/-- an exception's own __init__: super().__init__(..), then what follows -/
theorem fn_su {CX : CXT} {P : Program} {w : World} {K : PySem.W.Frag} {mg : Str → Option Value} {base : Heap} {k : Nat} {C f cc cda : Addr} {ar : Str} {name qual : Str} {params : Arguments} {scope : Scope} {dV kV doc pm ct oc : Value} {an od : Option Addr} {osl : Array (Option Value)}
    {ps : List Str} {sp : Sp} {p0 p1 p2 p3 p4 : Pos} {e : Expr} {es : List Expr} {rest : List Stmt}
    (S : SuK P K C f cc cda ar) (lk : K.lookup f = some ⟨oc, od, .func (ksFn name qual params (.Expr (.Call (.Attribute (.Call (.Name "super" p0) [] [] p1) "__init__" p2) (e :: es) [] p3) p4 :: rest) scope dV kV doc pm an (.ref cda) ct cc), osl⟩) (hcd : codeIn K (.ref cda) qual = true) (KS : KScope ps scope)
    (len : ∀ vs H Q E, sp vs H Q E → vs.length = ps.length)
    (hks : scope.names.lookup ("super" : Str) = some .globalImplicit) (hms : mg "super" = none) (hkc : scope.names.lookup ("__class__" : Str) = some .free) (har : ps[0]? = some ar)
    (hi : ∀ L, interactive (ksEnv qual scope L f (.ref cda) cc) = false)
    (hs : ∀ L, swapsWith (.Call (.Attribute (.Call (.Name "super" p0) [] [] p1) "__init__" p2) (e :: es) [] p3) none p4.line (ksEnv qual scope L f (.ref cda) cc) = pure false)
    {pl : Env → Sem Bool} (he : ∀ L, eval (.Call (.Attribute (.Call (.Name "super" p0) [] [] p1) "__init__" p2) (e :: es) [] p3) (ksEnv qual scope L f (.ref cda) cc) = (do
      let ov ← attributeBase (.Call (.Name "super" p0) [] [] p1) "__init__" (ksEnv qual scope L f (.ref cda) cc) (eval (.Call (.Name "super" p0) [] [] p1) (ksEnv qual scope L f (.ref cda) cc))
      standAt p2.atName
      let (fx, first) ← holding [ov] (getMethod ov "__init__" (pl (ksEnv qual scope L f (.ref cda) cc)))
      callWith p3 fx first (backTo p3 (starEach (e :: es) (ksEnv qual scope L f (.ref cda) cc))) []))
    (hse : ∀ L, starEach (e :: es) (ksEnv qual scope L f (.ref cda) cc) = (false, eval e (ksEnv qual scope L f (.ref cda) cc)) :: starEach es (ksEnv qual scope L f (.ref cda) cc)) (hpl : ∀ L, (backTo p3 (starEach es (ksEnv qual scope L f (.ref cda) cc))).any (·.1) = false)
    (hbody : ∀ (A : Around) (outer : List Env) (s : Shared) (H : Hp) (vs : List V) (Q : VK) (E : XK), Room k (A.deeper (ksEnv qual scope s.heap.objs.size f (.ref cda) cc)) → sp vs H Q E →
      (∃ a, vs[0]? = some (.ref a) ∧ H a = some (exo a C none)) ∧ (∃ ta, PA (cxK CX P w K mg base ps qual scope f (.ref cda) cc A outer s H E) (e :: es) ta ∧ ta (L2.start ps vs) H fun vs H1 => H1 = H ∧ vs.length ≤ 1000) ∧
      ∃ t, PSs (cxK CX P w K mg base ps qual scope f (.ref cda) cc A outer s H E) rest t ∧ t { nx := fun _ H' => Q .non H', rt := Q } (L2.start ps vs) H) :
    FnOk P w K mg base CX (k + 1) f (ksFn name qual params (.Expr (.Call (.Attribute (.Call (.Name "super" p0) [] [] p1) "__init__" p2) (e :: es) [] p3) p4 :: rest) scope dV kV doc pm an (.ref cda) ct cc) ps sp := by
  refine ⟨len, fun A outer s H args us vs Q E hr e0 hb r hsp => ?_⟩
  have hl := len _ _ _ _ hsp
  have KX : K.In s.heap := e0.mod.kin.keeps fun b o e => (e0.bs b o e).1
  have lim : s.heap.NoLimit := e0.mod.nolimit.keeps fun b o e => (e0.bs b o e).1
  obtain ⟨cl, cld, csl, hcell⟩ := S.cell
  refine ks_codeAny_call_defAt (binds := ps.zip us) hr.depth (KX _ _ lk) rfl lim (PySem.W.codeRec_of KX hcd) rfl hb KS.nocell (fun y hy => KS.par y.1 (List.of_mem_zip hy).1) (fun h₁ hns kp => ?_) KS.co KS.gen KS.kind
  have I : Inv (cxK CX P w K mg base ps qual scope f (.ref cda) cc A outer s H E) [] (L2.start ps vs) H { s with heap := h₁, toks := s.toks + (ps.zip us).length } := inv_startK KS hr.hd e0 hl r hcell rfl hns kp
  obtain ⟨⟨a, ha, ea⟩, ⟨ta, hta, hrd⟩, t, ht, hq⟩ := hbody A outer s H vs Q E (hr.deeper _) hsp
  have st : L2.start ps vs = vs.map some := by
    unfold L2.start
    rw [hl, Nat.sub_self]
    simp
  refine ks_wpAt_execs_cons (su_init (X := cxK CX P w K mg base ps qual scope f (.ref cda) cc A outer s H E) (i := 0) (a := a) S I rfl hks hms hkc rfl rfl rfl har (by rw [st, List.getElem?_map, ha]; rfl) (KS.par ar (List.mem_of_getElem? har)) ea hta hrd (hi _) (hs _) (he _) (hse _) (hpl _) fun s' I' => ?_)
  refine wpAt_of_wpAny (wpAny_mono (ht.run [] s' (L2.start ps vs) H _ I' hq) (fun fl s2 hs => ?_) fun e s2 hs => hs)
  have fin : ∀ {σ' : L2.St} {H' : Hp} {v : V} {u : Value}, Inv (cxK CX P w K mg base ps qual scope f (.ref cda) cc A outer s H E) [] σ' H' s2 → L2.RelV v u → Q v H' → CE outer P w H s Q u s2 :=
    fun {σ' H' v u} J rv q => ⟨v, H', J.os, J.bare, J.base, J.hok, rv, q⟩
  cases fl with
  | ret u =>
    obtain ⟨v, σ', H', J, rv, q⟩ := hs
    exact fin J rv q
  | next =>
    obtain ⟨σ', H', J, q⟩ := hs
    exact fin (v := V.non) (u := Value.none) J rfl q
  | brk =>
    obtain ⟨_, _, _, q⟩ := hs
    exact False.elim q
  | cont =>
    obtain ⟨_, _, _, q⟩ := hs
    exact False.elim q
end DX

set_option maxHeartbeats 4000000
namespace DX
open PySem PySem.Spec PyProof.Rows L2 PySem.W
open He (ga ma eqO ba eqO_ok)
/-! ### what is told of the exception classes -/
/-- an exception class of the program with a written __init__: its name, its fields, its __init__ -/
structure ExD where
  x : Str
  fs : List Str
  st : Stmt
def fnQ (K : Frag) (x : Str) : He.FnW := match K.lookup (ma K (ga K x) "__init__") with
  | some ⟨_, _, .func fd, _⟩ => some (fd.name, fd.qualname, fd.params, fd.body, fd.scope, fd.globals, [], fd.builtins)
  | _ => none
def ExD.val (d : ExD) : He.FnW := some ("__init__", d.x ++ ".__init__", defArgs d.st, .stmts (defBody d.st), defScope d.st, mainGlobals, [], builtinsNs)
def clsB (K : Frag) (C : Addr) : Bool := match K.lookup C with
  | some ⟨.type t, _, .cls cd, sl⟩ => decide (t = "type") && (match cd.mro, sl.toList with
    | .ref C' :: bm, [_, _, _, _, some (.builtin n), _] => decide (C' = C) && (PySem.HandSPX.refsVE bm && (cd.hasDict && (!cd.hasDel && decide (n = "ValueError.__new__"))))
    | _, _ => false)
  | _ => false
theorem clsB_ok {K : Frag} {C : Addr} (h : clsB K C = true) : ∃ nm q N bs bm sn sub ab col dd k0 k1 k2 k3 k5, K.lookup C = some (excClassObj nm q C N bs bm true sn sub ab col dd k0 k1 k2 k3 k5 "ValueError.__new__") ∧ PySem.HandSPX.refsVE bm = true := by
  unfold clsB at h
  split at h
  · rename_i t dd cd sl ho
    obtain ⟨h1, h2⟩ := ba h
    have ht : t = "type" := of_decide_eq_true h1
    subst ht
    obtain ⟨nm, bs, mro, ns, qn, hd, sn, sub, ab, col, del⟩ := cd
    split at h2
    · rename_i C' bm k0 k1 k2 k3 n k5 hm hs
      obtain ⟨e1, h3⟩ := ba h2
      obtain ⟨e2, h4⟩ := ba h3
      obtain ⟨e3, h5⟩ := ba h4
      obtain ⟨e4, e5⟩ := ba h5
      dsimp only at hm e3 e4
      subst hm e3
      have e4 : del = false := by simpa using e4
      subst e4
      have e1 : C' = C := of_decide_eq_true e1
      subst e1
      have e5 : n = "ValueError.__new__" := of_decide_eq_true e5
      subst e5
      have hsl : sl = #[k0, k1, k2, k3, some (.builtin "ValueError.__new__"), k5] := by
        obtain ⟨l⟩ := sl
        simp only at hs
        rw [hs]
      subst hsl
      exact ⟨nm, qn, ns, bs, bm, sn, sub, ab, col, dd, k0, k1, k2, k3, k5, ho, e2⟩
    · cases h2
  · cases h
def closB (P : Program) (K : Frag) (C f : Addr) (ar : Str) : Bool := match K.lookup f with
  | some ⟨_, _, .func fd, _⟩ => (match fd.closure, fd.code with
    | [(n, cc)], .ref cda => decide (n = ("__class__" : Str)) && ((match K.lookup cc with
        | some ⟨_, _, .cell (some (.ref C')), _⟩ => decide (C' = C)
        | _ => false) && ((match K.lookup cda with
        | some ⟨_, _, Data.fields vs, _⟩ => (match (vs[2]? : Option Value) with
          | some (Value.str file _) => decide (P.main.file = file)
          | _ => false)
        | _ => false) && (codeIn K (.ref cda) fd.qualname && decide (fd.defaults = .none))))
    | _, _ => false)
  | _ => false
def exB (P : Program) (K : Frag) (d : ExD) : Bool :=
  clsB K (ga K d.x) && (closB P K (ga K d.x) (ma K (ga K d.x) "__init__") "self" && (eqO (findIn K (.ref (ga K d.x)) "__setattr__") (some (some (.builtin "object.__setattr__"))) &&
  (decide (subIn K (.ref (ga K d.x)) (.type "BaseException") = some true) && (decide (typeIn K (.ref (ga K d.x)) = some (.type "type")) && (keepIn K (.ref (ga K d.x)) &&
  (eqO (findIn K (.ref (ga K d.x)) "__init__") (some (some (.ref (ma K (ga K d.x) "__init__")))) && (decide (typeIn K (.ref (ma K (ga K d.x) "__init__")) = some (.type "function")) &&
  (eqO (nsIn K cStatics "thirdparty.any") (some none) && (eqO (ks_superIn K (ga K d.x) (ga K d.x) "__init__") (some (some (.builtin "ValueError.__init__"))) &&
  (decide (subIn K (.ref (ga K d.x)) (.type "ValueError") = some true) && (decide (mroIn K (ga K d.x) (.ref (ga K d.x)) = some true) &&
  (eqO (nsIn K mainGlobals d.x) (some (some (.ref (ga K d.x)))) && d.fs.all fun f => eqO (findIn K (.ref (ga K d.x)) f) (some none)))))))))))))
/-- the class's facts -/
structure ExH (P : Program) (K : Frag) (mg : Str → Option Value) (d : ExD) : Prop where
  glo : mg d.x = some (.ref (ga K d.x))
  T : OexC K (ga K d.x)
  iC : findIn K (.ref (ga K d.x)) "__init__" = some (some (.ref (ma K (ga K d.x) "__init__")))
  tI : typeIn K (.ref (ma K (ga K d.x) "__init__")) = some (.type "function")
  nof : ∀ f ∈ d.fs, findIn K (.ref (ga K d.x)) f = some none
  fn : ∃ oc od kV doc pm an cda ct osl cc, K.lookup (ma K (ga K d.x) "__init__") = some ⟨oc, od, .func (ksFn "__init__" (d.x ++ ".__init__") (defArgs d.st) (defBody d.st) (defScope d.st) .none kV doc pm an (.ref cda) ct cc), osl⟩ ∧
    codeIn K (.ref cda) (d.x ++ ".__init__") = true ∧ (∃ cl cld csl, K.lookup cc = some ⟨cl, cld, .cell (some (.ref (ga K d.x))), csl⟩) ∧
    ∃ ccl cdd vs ccs file tf, K.lookup cda = some ⟨ccl, cdd, .fields vs, ccs⟩ ∧ vs[2]? = some (.str file tf) ∧ ((P.main.file : Str) == file) = true
  op : nsIn K cStatics "thirdparty.any" = some none
  sup : ks_superIn K (ga K d.x) (ga K d.x) "__init__" = some (some (.builtin "ValueError.__init__"))
  ve : subIn K (.ref (ga K d.x)) (.type "ValueError") = some true
  self : mroIn K (ga K d.x) (.ref (ga K d.x)) = some true
theorem closB_ok {P : Program} {K : Frag} {d : ExD} (h : closB P K (ga K d.x) (ma K (ga K d.x) "__init__") "self" = true) (e : fnQ K d.x = d.val) :
    ∃ oc od kV doc pm an cda ct osl cc, K.lookup (ma K (ga K d.x) "__init__") = some ⟨oc, od, .func (ksFn "__init__" (d.x ++ ".__init__") (defArgs d.st) (defBody d.st) (defScope d.st) .none kV doc pm an (.ref cda) ct cc), osl⟩ ∧
    codeIn K (.ref cda) (d.x ++ ".__init__") = true ∧ (∃ cl cld csl, K.lookup cc = some ⟨cl, cld, .cell (some (.ref (ga K d.x))), csl⟩) ∧
    ∃ ccl cdd vs ccs file tf, K.lookup cda = some ⟨ccl, cdd, .fields vs, ccs⟩ ∧ vs[2]? = some (.str file tf) ∧ ((P.main.file : Str) == file) = true := by
  unfold closB at h
  unfold fnQ at e
  split at h
  · rename_i oc od fd osl ho
    rw [ho] at e
    obtain ⟨n1, n2, n3, n4, n5, n6, n7, n8, n9, n10, n11, n12, n13, n14, n15⟩ := fd
    have e2 : (some (n1, n2, n3, n4, n5, n6, [], n15) : He.FnW) = some (("__init__" : Str), d.x ++ ".__init__", defArgs d.st, .stmts (defBody d.st), defScope d.st, mainGlobals, [], builtinsNs) := e
    simp only [Option.some.injEq, Prod.mk.injEq] at e2
    obtain ⟨h1, h2, h3, h4, h5, h6, _, h8⟩ := e2
    subst h1 h2 h3 h4 h5 h6 h8
    dsimp only at h
    split at h
    · rename_i n cc cda
      obtain ⟨a1, a2⟩ := ba h
      obtain ⟨a3, a4⟩ := ba a2
      obtain ⟨a5, a6⟩ := ba a4
      obtain ⟨a7, a8⟩ := ba a6
      have a1 : n = ("__class__" : Str) := of_decide_eq_true a1
      subst a1
      have a8 : n8 = .none := of_decide_eq_true a8
      subst a8
      refine ⟨oc, od, n9, n10, n11, n12, cda, n14, osl, cc, ho, a7, ?_, ?_⟩
      · split at a3
        · rename_i cl cld C' csl hc
          have a3 : C' = ga K d.x := of_decide_eq_true a3
          subst a3
          exact ⟨cl, cld, csl, hc⟩
        · cases a3
      · split at a5
        · rename_i ccl cdd vs ccs hc
          split at a5
          · rename_i file tf hv
            have a5 : P.main.file = file := of_decide_eq_true a5
            exact ⟨ccl, cdd, vs, ccs, file, tf, hc, hv, by rw [a5]; exact beq_self_eq_true file⟩
          · cases a5
        · cases a5
    · cases h
  · cases h
theorem exB_ok {P : Program} {K : Frag} {h : Heap} {mg : Str → Option Value} {d : ExD} (X : K.In h) (G : h.Ns mainGlobals mg) (b : exB P K d = true) (e : fnQ K d.x = d.val) : ExH P K mg d := by
  unfold exB at b
  obtain ⟨b1, b⟩ := ba b
  obtain ⟨b2, b⟩ := ba b
  obtain ⟨b3, b⟩ := ba b
  obtain ⟨b4, b⟩ := ba b
  obtain ⟨b5, b⟩ := ba b
  obtain ⟨b6, b⟩ := ba b
  obtain ⟨b7, b⟩ := ba b
  obtain ⟨b8, b⟩ := ba b
  obtain ⟨b9, b⟩ := ba b
  obtain ⟨b10, b⟩ := ba b
  obtain ⟨b11, b⟩ := ba b
  obtain ⟨b12, b⟩ := ba b
  obtain ⟨b13, b14⟩ := ba b
  exact ⟨PySem.W.mg_of X G (eqO_ok b13), ⟨clsB_ok b1, eqO_ok b3, of_decide_eq_true b4, of_decide_eq_true b5, b6⟩, eqO_ok b7, of_decide_eq_true b8, fun f hf => eqO_ok (List.all_eq_true.mp b14 f hf), closB_ok b2 e, eqO_ok b9, eqO_ok b10, of_decide_eq_true b11, of_decide_eq_true b12⟩
end DX

set_option maxHeartbeats 4000000
namespace DX
open PySem PySem.Spec PySem.Calls PyProof.Rows PySem.W
/-! ### isinstance of an exception that has a dict -/
section
variable {prog : Program} {w : World} {A : Around} {E : Value → Shared → Prop} {s : Shared} {K : Frag} {x D : Addr} {ox : Obj} {od : Option Obj}
theorem findObj_dataD {C : Addr} {name : Str} {a g : Value} (hc : (clsIn K C).isSome = true) (ha : findIn K (.ref C) name = some (some a)) (hg : specialIn K a "__get__" = some (some g)) (ht : takesIn K a = some true) : findObj K C od name = some (.bind g a) := by
  obtain ⟨cd, hc⟩ := Option.isSome_iff_exists.mp hc
  unfold findObj
  rw [hc, Option.bind_some, ha, Option.bind_some]
  simp [hg, ht]
theorem kin_classD {Q : Option Value → Shared → Prop} (hga : findIn K (.ref D) "__getattribute__" = some (some (.builtin "BaseException.__getattribute__"))) (hgt : findIn K (.ref D) "__getattr__" = some none) (hsub : subIn K (.ref D) (.type "BaseException") = some true)
    (hdct : hasDictIn K D = true) (ha : findIn K (.ref D) "__class__" = some (some (.builtin "object.__class__")))
    (hn : specialIn K (.builtin "object.__class__") "__get__" = some (some (.builtin "getset_descriptor.__get__"))) (htk : takesIn K (.builtin "object.__class__") = some true) (hm : mroIn K D (.type "object") = some true)
    (X : K.In s.heap) (I : InstAt s.heap x ox D od) (h : Q (some (.ref D)) { s with toks := s.toks + 1 }) : wpAny (model prog w) A (getAttr? (.ref x) "__class__") Q E s := by
  have hf : findObj K D od "__class__" = some (.bind (.builtin "getset_descriptor.__get__") (.builtin "object.__class__")) := findObj_dataD (by obtain ⟨cd, hc, _⟩ := any_some hdct; rw [hc]; rfl) ha hn htk
  obtain ⟨hp, g, d, t, os⟩ := s
  have L0 := I.type (M := model prog w)
  have L1 := looks_findIn (M := model prog w) X hga
  have L2 := looks_findIn (M := model prog w) X hgt
  have L3 := looks_find (M := model prog w) X I hf
  have sub : Looks (model prog w) hp (isInstance (.ref x) (.type "BaseException")) true := L0.andThen (looks_subIn X hsub)
  have hx0 : (false && onTheHeap (Value.builtin "BaseException.__getattribute__")) = false := rfl
  have hx2 : (Value.builtin "BaseException.__getattribute__" == Value.builtin "object.__getattribute__") = false := by decide +kernel
  have hx1 : (onTheHeap (Value.ref D) && Value.builtin "BaseException.__getattribute__" == Value.builtin "object.__getattribute__") = false := by rw [hx2]; rfl
  unfold getAttr? getAttrBy? getAttrBy
  refine wpAny_bind (wpAny_mkText (wpAny_bind (wpAny_attempt (wpAny_holding (wpAny_bind (L0.at (wpAny_bind (L1.at ?_))))))))
  show wpAny _ _ (if (onTheHeap (Value.ref D) && Value.builtin "BaseException.__getattribute__" == Value.builtin "object.__getattribute__") = true then _ else _) _ _ _
  rw [hx1, if_neg Bool.false_ne_true]
  unfold getAttrByItsOwn hookBefore
  refine wpAny_bind ?_
  rw [if_pos (show onTheHeap (Value.ref D) = true from rfl)]
  refine L2.at ?_
  refine wpAny_bind (wpAny_attempt (wpAny_holding ?_))
  unfold callGetattribute
  rw [hx0, if_neg Bool.false_ne_true]
  unfold boundAndCalled
  rw [PySem.F.excAttr_ValueError.ga.bind (.ref x)]
  refine wpAny_bind (wpAny_pure ?_)
  show wpAny _ _ (call (.builtin "BaseException.__getattribute__") [.ref x, .str "__class__" t]) _ _ _
  refine wpAny_call (codeAny_call_builtin PySem.F.excAttr_ValueError.ga.plain PySem.F.entry_bexc_ga ?_)
  refine @check_slot (model prog w) _ _ ⟨hp, g, d, t + 1, os⟩ "BaseException.__getattribute__" "BaseException" "__getattribute__" (.ref x) [.str "__class__" t] [] _ (by decide +kernel) (by decide +kernel) sub (PySem.F.args_bexc_ga (.ref x) (.str "__class__" t)) ?_
  unfold Builtin.«object.__getattribute__»
  refine wpAny_bind (wpAny_of_eq (a := ((Value.ref x : Value), [Value.str "__class__" t])) (by first | rfl | (simp only [slotArgs]; rfl)) ?_)
  refine wpAny_bind (wpAny_pure (wpAny_bind (L0.at (wpAny_bind (L3.at ?_)))))
  show wpAny _ _ (holding [Value.builtin "object.__class__"] (call (.builtin "getset_descriptor.__get__") [.builtin "object.__class__", .ref x, .ref D]) >>= ret) _ _ _
  refine wpAny_bind (wpAny_holding (wpAny_call (class_get (s := ⟨hp, g, d, t + 1, os⟩) (ox := ox) (od := od) X I hm ?_)))
  refine wpAny_pure ?_
  show wpAny _ _ (handedOut (.ref D)) _ _ _
  rw [handedOut_of (v := .ref D) rfl]
  first
    | exact wpAny_pure (wpAny_pure h)
    | exact wpAny_pure h
    | exact wpAny_pure (wpAny_bind (wpAny_pure (wpAny_pure h)))
theorem kitx_excD (C : L2.ExcC K D) : KitX K (.ref x) (.ref D) (fun h => ∃ od, InstAt h x ox D od) where
  ty := fun _ _ _ ⟨_, I⟩ => I.type
  it := fun _ _ X _ => by
    obtain ⟨cdD, hcD, _⟩ := any_some C.hd
    unfold clsIn at hcD
    split at hcD
    · rename_i c' d' cd' sl' ho
      intro A' Q' E' s' k q
      unfold isType loadHead
      exact wpAny_bind (wpAny_loadPart (k _ _ (X _ _ ho)) (wpAny_pure q))
    · cases hcD
  ne := fun h tp dd its n sl X htp => by
    obtain ⟨cdD, hcD, _⟩ := any_some C.hd
    refine Bool.eq_false_iff.mpr fun q => ?_
    have e : D = tp := Value.ref.inj (beq_iff_eq.mp q)
    subst e
    unfold clsIn at hcD
    split at hcD
    · rename_i c' d' cd' sl' ho
      have z := (X _ _ ho).symm.trans htp
      cases z
    · cases hcD
  ca := fun X ⟨_, I⟩ k => kin_classD C.hg C.hk C.hs C.hd C.ha C.hn C.ht C.hm X I k
end
end DX
namespace DX
open PySem PySem.Spec PyProof.Rows L2
/-! ### an exception that is pinned -/
section
variable {X : Cx} {a D dd : Addr} {oe : Obj} {fs : List (Str × V)}
/-- the object at a is the exception oe, its class D, its dict at dd -/
structure PinE (X : Cx) (a : Addr) (oe : Obj) (D dd : Addr) : Prop where
  pin : (a, oe) ∈ X.pn
  z : Zc (.ref D) (some dd) oe
  f : ∃ vs, oe.data = .fields vs
theorem PinE.inst {pins : List (Addr × Obj)} {σ : L2.St} {H : Hp} {s : Shared} (P : PinE X a oe D dd) (I : Inv X pins σ H s) (hd : H dd = some (.xd fs)) : ∃ od, PySem.W.InstAt s.heap a oe D od := by
  obtain ⟨ha, _⟩ := I.pin (a, oe) (List.mem_append_left _ P.pin)
  obtain ⟨mA, hns, hr⟩ := (show ObjOk X.prog X.w H s.heap dd (.xd fs) from I.hok dd _ hd)
  obtain ⟨od, ho, hl⟩ := lookIn_ns hns
  obtain ⟨vs, hv⟩ := P.f
  exact ⟨some od, ha, P.z.1, by unfold PySem.W.notCls; rw [hv] <;> rfl, by rw [P.z.2]; exact ho⟩
/-- isinstance(e, c) -/
def rIsP (K : PySem.W.Frag) (D a dd : Addr) : List V → Hp → VK → Prop := fun xs H Q => ∃ (c : V) (cv : Value) (b : Bool) (fs : List (Str × V)), xs = [.ref a, c] ∧ H dd = some (.xd fs) ∧ (∀ u, RelV c u → u = cv) ∧ PySem.W.kitOne K (.ref D) cv = some b ∧ Q (.bl b) H
theorem call_isP (C : ExcC X.K D) (P : PinE X a oe D dd) : CallR X (.builtin "isinstance") (rIsP X.K D a dd) := by
  intro pins s σ H xs us Q I r h
  obtain ⟨c, cv, b, fs, rfl, hd, hcv, e, q⟩ := h
  cases r with
  | cons rx rr =>
    cases rr with
    | cons rt rr =>
      cases rr
      cases rx
      have ec := hcv _ rt
      subst ec
      exact PySem.W.kia_one (kitx_excD C) I.kIn (P.inst I hd) e (fun z => nomatch z) fun tk => ⟨.bl b, H, I.kept (t' := tk) fun _ _ z => z, rfl, q⟩
/-- e.f -/
def tXp (K : PySem.W.Frag) (a D dd : Addr) (f : Str) (te : TE) : TE := fun σ H Q => te σ H fun x H1 => x = .ref a ∧ ∃ (fs : List (Str × V)) (v : V), H1 dd = some (.xd fs) ∧ fs.lookup f = some v ∧ Q v H1
theorem pe_xp {e : Expr} {te : TE} {pos : Pos} {n : Str} (T : XfC X.K D) (P : PinE X a oe D dd) (hno : PySem.W.findIn X.K (.ref D) n = some none) (he : PE X e te) (hb : attributeBase e n X.env (eval e X.env) = eval e X.env := by rfl) :
    PE X (.Attribute e n pos) (tXp X.K a D dd n te) := by
  refine ⟨fun pins s σ H Q I h => ?_⟩
  refine attr_of hb (thn (he.run pins s σ H _ I h) fun u s1 hh => ?_)
  obtain ⟨x, H1, I1, rx, ex, fs, v, ea, l, q⟩ := hh
  subst ex
  obtain rfl : u = Value.ref a := rx
  obtain ⟨ha, _⟩ := I1.pin (a, oe) (List.mem_append_left _ P.pin)
  obtain ⟨vs, hd⟩ := P.f
  have hx : ObjOk X.prog X.w H1 s1.heap dd (.xd fs) := I1.hok dd _ ea
  obtain ⟨mA, hns, hr⟩ := hx
  obtain ⟨od, ho, hl⟩ := lookIn_ns hns
  obtain ⟨u, hu, ru⟩ := RelO.some_of (v := v) (o := mA n) (by rw [← l]; exact hr n)
  have J : PySem.W.InstAt s1.heap a oe D (some od) := ⟨ha, P.z.1, by unfold PySem.W.notCls; rw [hd] <;> rfl, by rw [P.z.2]; exact ho⟩
  exact HandSPX.exc_get I1.kIn J T.ga T.gg T.exC (PySem.W.findObj_own T.hdC hno rfl (by rw [hl, hu])) (handed_of ru) ⟨v, H1, I1.tok _, ru, q⟩
end
end DX

set_option maxHeartbeats 4000000
namespace DX
open PySem PySem.Spec PyProof.Rows L2
open L2H (RoomH PinOk cxH inv_startH)
/-! ### a def that is called within an except suite, the handled exception p its own -/
structure FnP (P : Program) (w : World) (K : PySem.W.Frag) (mg : Str → Option Value) (base : Heap) (CX : CXT) (k : Nat) (f : Addr) (fd : FuncData) (ps : List Str) (sp : Addr × Obj → Sp) : Prop where
  len : ∀ p vs H Q E, sp p vs H Q E → vs.length = ps.length
  run : ∀ (A : Around) (outer : List Env) (s : Shared) (H : Hp) (args : Args) (us : List Value) (vs : List V) (Q : VK) (E : XK) (p : Addr × Obj), RoomH k A → PinOk outer H s p → Env0 P w K mg base A outer s H → BindsTo s fd args (ps.zip us) → Vals vs us → sp p vs H Q E →
    codeAny (model P w) A (.call (.ref f) args) (CR CX outer P w H s Q E) s
theorem fn_ofP {CX : CXT} {P : Program} {w : World} {K : PySem.W.Frag} {mg : Str → Option Value} {base : Heap} {k : Nat} {f : Addr} {name qual : Str} {params : Arguments} {body : List Stmt} {scope : Scope} {dV kV doc pm cdv ct oc : Value} {an od : Option Addr}
    {osl : Array (Option Value)} {N ps : List Str} {sp : Addr × Obj → Sp} (lk : K.lookup f = some ⟨oc, od, .func (PySem.W.fnOf name qual params body scope dV kV doc pm an cdv ct), osl⟩) (hcd : PySem.W.codeIn K cdv qual = true) (S : FnScope N ps scope)
    (len : ∀ p vs H Q E, sp p vs H Q E → vs.length = ps.length)
    (hbody : ∀ (A : Around) (outer : List Env) (s : Shared) (H : Hp) (vs : List V) (Q : VK) (E : XK) (p : Addr × Obj), RoomH k (A.deeper (envOfC qual scope s.heap.objs.size f cdv)) → sp p vs H Q E →
      ∃ t, PSs (cxH CX P w K mg base N qual scope f cdv A outer s H E p) body t ∧ t { nx := fun _ H' => Q .non H', rt := Q } (L2.start N vs) H) :
    FnP P w K mg base CX (k + 1) f (PySem.W.fnOf name qual params body scope dV kV doc pm an cdv ct) ps sp := by
  refine ⟨len, fun A outer s H args us vs Q E p hr hpin e0 hb r hsp => ?_⟩
  have hl := len _ _ _ _ _ hsp
  have KX : K.In s.heap := e0.mod.kin.keeps fun b o e => (e0.bs b o e).1
  have lim : s.heap.NoLimit := e0.mod.nolimit.keeps fun b o e => (e0.bs b o e).1
  have hkind : ∀ y ∈ ps.zip us, scope.names.lookup y.1 = some .local ∨ (scope.names.lookup y.1 = some .cell ∧ ((cellsFrom (s.heap.objs.size + 1) scope.names []).lookup y.1).isSome = true) := fun ⟨n, v⟩ hy => by
    rcases S.par n (List.of_mem_zip hy).1 with q | q
    · exact .inl q
    · exact .inr ⟨q, PySem.W.cellsFrom_some _ _ _ (.inl q)⟩
  refine codeAny_call_function hr.depth (KX _ _ lk) rfl S.co S.gen rfl (PySem.W.codeRec_of KX hcd) (hb _ _ _ _ ?_)
  refine wpAny_newFunctionEnv_cells S.kind hkind fun env he s1 x => ?_
  subst he
  refine ⟨lim.keeps x.toInCall.keep, codeAny_func ?_⟩
  obtain ⟨t, ht, hq⟩ := hbody A outer s H vs Q E p (hr.deeper _) hsp
  have I : Inv (cxH CX P w K mg base N qual scope f cdv A outer s H E p) [] (L2.start N vs) H s1 := inv_startH S hpin e0 hl r x
  refine wpAny_mono (ht.run [] s1 (L2.start N vs) H _ I hq) (fun fl s' hs => ?_) fun e s' hs => hs
  have fin : ∀ {σ' : L2.St} {H' : Hp} {v : V} {u : Value}, Inv (cxH CX P w K mg base N qual scope f cdv A outer s H E p) [] σ' H' s' → RelV v u → Q v H' → CE outer P w H s Q u s' :=
    fun {σ' H' v u} J rv q => ⟨v, H', J.os, J.bare, J.base, J.hok, rv, q⟩
  cases fl with
  | ret u =>
    obtain ⟨v, σ', H', J, rv, q⟩ := hs
    exact fin J rv q
  | next =>
    obtain ⟨σ', H', J, q⟩ := hs
    exact fin (v := V.non) (u := Value.none) J rfl q
  | brk =>
    obtain ⟨_, _, _, q⟩ := hs
    exact False.elim q
  | cont =>
    obtain ⟨_, _, _, q⟩ := hs
    exact False.elim q
section
variable {X : Cx} {CX : CXT} {k : Nat} {f : Addr} {fd : FuncData} {ps : List Str} {sp : Addr × Obj → Sp} {E : L2.St → XK} {x : Str} {q pos : Pos} {e : Expr} {es : List Expr} {t : TA} {p : Addr × Obj}
theorem pe_callP (F : FnP X.prog X.w X.K X.mg X.base CX k f fd ps sp) (hr : RoomH k X.A) (hp : p ∈ X.pn) (hg : Gl X x) (hm : X.mg x = some (.ref f)) (hk : PySem.W.keepIn X.K (.ref f) = true) (hb : Binds X.K fd ps []) (hx : ∀ σ, PassesAt CX X σ (E σ))
    (ha : PA X (e :: es) t) (hdb : (x == ("__debug__" : Str)) = false := by decide) (he : starEach (e :: es) X.env = (false, eval e X.env) :: starEach es X.env := by rfl) (hpl : (backTo pos (starEach es X.env)).any (·.1) = false := by rfl) :
    PE X (.Call (.Name x q) (e :: es) [] pos) (tCallS (sp p) E t) := by
  refine ⟨fun pins s σ H Q I h => ?_⟩
  refine wpAny_Call_Name_kw (ld_glob I hg hm ?_ hdb)
  refine PySem.W.callWith_K (h₀ := X.base) I.ok.mod.kin hk (thn (ha.run pos pins s σ H _ I h) fun us s1 ⟨vs, H1, I1, r, q⟩ => ⟨I1.kIn, ?_⟩) he hpl
  have hl : us.length = ps.length := by rw [← r.length]; exact F.len _ _ _ _ _ q
  have b := hb s1 us I1.kIn (by rw [List.append_nil]; exact hl)
  rw [List.append_nil] at b
  have P1 := I1.pin p (List.mem_append_left _ hp)
  have hpin : PinOk X.stack H1 s1 p := ⟨P1.1, P1.2.1, fun hm => (List.mem_cons.mp (I1.stkSub p.1 hm)).elim P1.2.2.1 P1.2.2.2.1, P1.2.2.2.2⟩
  refine wpAny_call (codeAny_mono (F.run X.A X.stack s1 H1 ⟨us, []⟩ us vs Q (E σ) p hr hpin I1.env0 b r q) fun r s' hq => ?_)
  cases r with
  | error e => exact hx σ pins H1 s1 e s' I1 hq
  | ok fl =>
    cases fl with
    | ret u => exact I1.after hq
    | next => exact False.elim hq
    | brk => exact False.elim hq
    | cont => exact False.elim hq
end
end DX

set_option maxHeartbeats 4000000
namespace DX
open PySem PySem.Spec PyProof.Rows L2 DL
/-! ### raise C(..), C an exception class with a written __init__ -/
/-- what C's __init__ does: the fields, the last one first -/
def spX (C : Addr) (fls : List Str) : Sp := fun vs H Q _ => ∃ (a : Addr) (ys : List V), vs = .ref a :: ys ∧ ys.length = fls.length ∧ H a = some (exo a C none) ∧
  ∀ dx, H dx = none → dx ≠ a → Q .non (upd (upd H dx (exd dx (fls.zip ys).reverse)) a (exo a C (some dx)))
structure MkX (P : Program) (w : World) (K : PySem.W.Frag) (mg : Str → Option Value) (base : Heap) (k : Nat) (x : Str) (fls : List Str) : Prop where
  T : OexC K (He.ga K x)
  glo : mg x = some (.ref (He.ga K x))
  nd : fls.Nodup
  len : fls.length ≤ 900
  ex : ∃ fI fd ps, PySem.W.findIn K (.ref (He.ga K x)) "__init__" = some (some (.ref fI)) ∧ PySem.W.typeIn K (.ref fI) = some (.type "function") ∧ Binds K fd ps [] ∧ FnOk P w K mg base (L2.CX P w) k fI fd ps (spX (He.ga K x) fls)
def sRaise (x : Str) (fls : List Str) (fa : En → M (List D)) : En → M Fl := fun ρ => do
  let ds ← fa ρ
  let ys ← lft (dats ds)
  if ys.length = fls.length then thr ⟨x, fls.zip ys⟩ else stk
theorem zip_rev_look {fls : List Str} {ys : List V} (nd : fls.Nodup) {i : Nat} {n : Str} {v : V} (h1 : fls[i]? = some n) (h2 : ys[i]? = some v) : (fls.zip ys).reverse.lookup n = some v := by
  have key : ∀ (l : List (Str × V)), (l.map (·.1)).Nodup → (n, v) ∈ l → l.lookup n = some v := by
    intro l
    induction l with
    | nil => intro _ h; cases h
    | cons p l ih =>
      intro hn hm
      obtain ⟨a, b⟩ := p
      obtain ⟨n1, n2⟩ := List.nodup_cons.mp hn
      rw [List.lookup_cons]
      rcases List.mem_cons.mp hm with e | hm
      · cases e; simp
      · have hne : (n == a) = false := beq_eq_false_iff_ne.mpr fun e => n1 (List.mem_map.mpr ⟨(n, v), hm, e⟩)
        rw [hne]
        exact ih n2 hm
  have zsub : ∀ (fls : List Str) (ys : List V), ((fls.zip ys).map (·.1)).Sublist fls := by
    intro fls
    induction fls with
    | nil => intro ys; exact List.nil_sublist _
    | cons f fls ih =>
      intro ys
      cases ys with
      | nil => exact List.nil_sublist _
      | cons y ys =>
        rw [List.zip_cons_cons, List.map_cons]
        exact List.Sublist.cons₂ _ (ih ys)
  refine key _ ?_ ?_
  · rw [List.map_reverse]
    exact (List.reverse_perm _).nodup_iff.mpr (nd.sublist (zsub fls ys))
  · refine List.mem_reverse.mpr (List.mem_of_getElem? (i := i) ?_)
    rw [List.getElem?_zip_eq_some]
    exact ⟨h1, h2⟩
theorem look_idx : ∀ {fls : List Str} {ys : List PyData} {n : Str} {y : PyData}, (fls.zip ys).lookup n = some y → ∃ i : Nat, fls[i]? = some n ∧ ys[i]? = some y
  | [], ys, n, y, h => by simp at h
  | f :: fls, [], n, y, h => by simp at h
  | f :: fls, y0 :: ys, n, y, h => by
    rw [List.zip_cons_cons, List.lookup_cons] at h
    split at h
    · rename_i q
      cases h
      exact ⟨0, by rw [eq_of_beq q]; rfl, rfl⟩
    · obtain ⟨i, h1, h2⟩ := look_idx h
      exact ⟨i + 1, by simpa using h1, by simpa using h2⟩
section
variable {X : Cx} {W : XK} {E : Ent} {pos p p2 : Pos}
theorem dats_inv {P : Program} {w : World} {K : PySem.W.Frag} {F : Hp} {ds : List D} {vs : List V} (r : Paired (RD P w K F) vs ds) : ∀ {ys : List PyData}, dats ds = some ys → DpAll K F vs ys := by
  induction r with
  | nil => intro ys h; cases h; exact .nil
  | @cons v d vs ds r rs ih =>
    intro ys h
    cases d with
    | dat y =>
      unfold dats at h
      obtain ⟨zs, h1, h2⟩ := Option.map_eq_some_iff.mp h
      subst h2
      exact .cons r (ih h1)
    | _ => cases h
theorem pds_raise {k : Nat} {x : Str} {fls : List Str} {e : Expr} {es : List Expr} {fa : En → M (List D)} (h : MkX X.prog X.w X.K X.mg X.base k x fls) (hr : Room (k + 1) X.A) (hc : X.calm = true) (hg : Gl X x) (tk : Takes X (fun c d _ H => W c d H)) (ha : PDA X W E (e :: es) fa)
    (hdb : (x == ("__debug__" : Str)) = false := by decide) (he : starEach (e :: es) X.env = (false, eval e X.env) :: starEach es X.env := by rfl) (hpl : (backTo p2 (starEach es X.env)).any (·.1) = false := by rfl) :
    PDS X W E (.Raise (some (.Call (.Name x p) (e :: es) [] p2)) none pos) (sRaise x fls fa) := by
  obtain ⟨fI, fd, ps, iC, tI, hb, F⟩ := h.ex
  refine PS.imp (ps_raise hc tk (pmk_oex h.T iC tI F hr hb .nil (passes_call (LamX.takes0 (X := X)) fun _ _ _ _ z => z) hg h.glo ha hdb he hpl)) fun D₀ σ H hl => ?_
  obtain ⟨F0, ρ, R, ok, run⟩ := hl
  refine ⟨F0, ρ, R, ok, (RunS.bind ok run).imp fun ds R1 F1 H1 g1 r1 h1 vs rs => ?_⟩
  have ok1 := ok.grow g1 r1
  obtain ⟨ys, ey, h2⟩ := (RunS.bind ok1 h1).lft
  have h2 := h2 F1 H1 (Grow.refl g1.fh) r1
  have dp := dats_inv rs ey
  have hlen : vs.length = ys.length := dp.len
  by_cases hz : ys.length = fls.length
  · rw [if_pos hz] at h2
    have hzl := h.len
    refine ⟨by omega, fun a hn => ⟨a, vs, by rw [List.append_nil], by omega, upd_same, fun dx hdx hne => ⟨rfl, dx, (fls.zip vs).reverse, upd_same, by rw [upd_ne hne, upd_same], ?_, ?_⟩⟩⟩
    · rw [upd_ne hne] at hdx; exact hdx
    · rw [upd_ne hne] at hdx
      have eH : upd (L2.del (upd (upd (upd H1 a (exo a (He.ga X.K x) none)) dx (exd dx (fls.zip vs).reverse)) a (exo a (He.ga X.K x) (some dx))) a) dx (.xd (fls.zip vs).reverse) = upd H1 dx (.xd (fls.zip vs).reverse) := by
        funext b
        by_cases hb1 : b = dx
        · rw [hb1, upd_same, upd_same]
        · rw [upd_ne hb1, upd_ne hb1]
          by_cases hb2 : b = a
          · rw [hb2, L2.del_same, hn]
          · rw [L2.del_ne hb2, upd_ne hb2, upd_ne hb1, upd_ne hb2]
      rw [eH]
      have gp := GrowP.new (o := .xd (fls.zip vs).reverse) g1.fh hdx
      have h3 : RunS X.prog X.w X.K W E (thr ⟨x, fls.zip ys⟩) R1 F1 D₀ := h2
      refine h3 _ _ _ _ (ok1.g.trans gp.g) (gp.row r1) ⟨rfl, dx, _, rfl, upd_same, fun n y hny => ?_⟩
      obtain ⟨i, e1, e2⟩ := look_idx hny
      obtain ⟨v, e3, e4⟩ := dp.get e2
      exact ⟨v, zip_rev_look h.nd e1 e3, e4.mono gp.ff⟩
  · rw [if_neg hz] at h2
    exact h2.elim
end
end DX

set_option maxHeartbeats 4000000
namespace DX
open PySem PySem.Spec PyProof.Rows L2 DL
/-! ### xs.count(b), xs.index(b), truth values -/
section
variable {X : Cx} {W : XK} {E : Ent} {pos p p2 : Pos}
theorem flat_bls (bs : List Bool) : (bs.map V.bl).all flatV = true := by
  rw [List.all_eq_true]
  intro x hx
  obtain ⟨b, _, rfl⟩ := List.mem_map.mp hx
  rfl
def rCntB (K : PySem.W.Frag) : V → List V → Hp → VK → Prop := fun x xs H Q => ∃ (p : Addr) (bs : List Bool) (b : Bool), x = .ref p ∧ xs = [.bl b] ∧ SqL K H p (bs.map V.bl) ∧ Q (.int (bs.count b : Nat)) H
theorem countP_eqU (b : Bool) : ∀ {bs : List Bool} {us : List Value}, Vals (bs.map V.bl) us → us.countP (eqU (.bl b)) = bs.count b
  | [], us, r => by cases r; rfl
  | c :: bs, us, r => by
    cases r with
    | @cons _ u _ us r1 rt =>
      rw [List.countP_cons, List.count_cons, countP_eqU b rt, eqU_of r1 rfl]
      rfl
theorem mt_cntB : MtR X "list.count" (rCntB X.K) := by
  intro pins s σ H x xs v us Q I rx rxs h
  obtain ⟨p, bs, b, rfl, rfl, hs, q⟩ := h
  cases rx
  obtain ⟨u, rfl, ru⟩ := rxs.one
  obtain ⟨its, rv, ⟨⟨cls, dd, data, sl⟩, n, ho, hc, hdn, hd⟩, hlen⟩ := I.list hs
  simp only at hc hd
  subst hc hd
  refine call_meets PySem.F.slot_list_count ⟨_, ho, rfl⟩ PySem.F.entry_list_count (PySem.F.args_list_count_2 _ _)
    (SeqAt.list_countAt p its.toArray n dd sl u (eqU (.bl b))) ⟨ho, fun y hy => mem_eqAt ru rfl rv (flat_bls bs) y (by simpa using hy), ?_⟩
  have ec : its.toArray.toList.countP (eqU (.bl b)) = bs.count b := countP_eqU b rv
  refine ⟨.int (bs.count b : Nat), H, I.tok _, ⟨s.toks, ?_⟩, q⟩
  show Value.int ((its.toArray.toList.countP (eqU (.bl b)) : Nat) : Int) s.toks = Value.int ((bs.count b : Nat) : Int) s.toks
  rw [ec]
def opCountB (d : D) (ds : List D) : Option D := match d, ds with
  | .dat (.list xs), [.dat (.bool k)] => (boolsD xs).map fun bs => .dat (.int (bs.count k : Nat))
  | _, _ => none
def opIndexB (d : D) (ds : List D) : Option D := match d, ds with
  | .dat (.list xs), [.dat (.bool k)] => (boolsD xs).bind fun bs => if k ∈ bs then some (.dat (.int (bs.idxOf k : Nat))) else none
  | _, _ => none
def eMeth1 (op : D → List D → Option D) (fo : En → M D) (fa : En → M (List D)) : En → M D := fun ρ => do
  let d ← fo ρ
  match d with
  | .dat (.list xs) => do
    let ds ← fa ρ
    lft (op (.dat (.list xs)) ds)
  | _ => stk
theorem pd_countB {o e : Expr} {es : List Expr} {fo : En → M D} {fa : En → M (List D)} {apos cpos : Pos} (ho : PD X W E o fo) (ha : PDA X W E (e :: es) fa)
    (hbase : attributeBase o "count" X.env (eval o X.env) = eval o X.env := by rfl)
    (hfew : ((backTo cpos (starEach (e :: es) X.env)).all (fun x => !x.1) && (backToKw cpos (keywordEach [] X.env)).all (fun x => x.1.isSome)
      && decide ((e :: es).length + ([] : List Keyword).length + (if ([] : List Keyword).isEmpty then 0 else 1) < 30)) = true := by rfl)
    (hline : (apos.endLine == cpos.line) = true := by rfl) (hs : starEach (e :: es) X.env = (false, eval e X.env) :: starEach es X.env := by rfl) (hplain : (backTo cpos (starEach es X.env)).any (·.1) = false := by rfl) :
    PD X W E (.Call (.Attribute o "count" apos) (e :: es) [] cpos) (eMeth1 opCountB fo fa) := by
  refine PE.imp (pe_bm PySem.F.plainAttrs_list PySem.F.slot_list_count PySem.F.type_list_count mt_cntB ho ha hbase hfew hline hs hplain) fun σ H Q hl => ?_
  obtain ⟨F, ρ, R, ok, run⟩ := hl
  refine ⟨F, ρ, R, ok, run.bind.imp fun d R1 F1 H1 g1 r1 h1 v rv => ?_⟩
  cases d with
  | dat x =>
    cases x with
    | list xs =>
      obtain ⟨a, ys, rfl, h2, h3⟩ := Dp.lst_inv rv
      refine ⟨.inl ⟨rfl, ys, g1.fh.seq h2⟩, F1, ρ, R1, ok.grow g1 r1, (show Run _ _ (fa ρ >>= _) _ _ _ _ from h1).bind.imp fun ds R2 F2 H2 g2 r2 h4 vs rs => ?_⟩
      obtain ⟨r, e, h5⟩ := h4.lft
      unfold opCountB at e
      split at e
      · rename_i e1
        cases e1
        obtain ⟨ns, e2, rfl⟩ := Option.map_eq_some_iff.mp e
        cases rs with
        | cons p1 rs =>
          cases rs
          have hx := boolsD_inv e2
          subst hx
          have hy := h3.bools
          subst hy
          exact ⟨a, ns, _, rfl, by rw [Dp.bl_inv p1], (g2.ff.trans g2.fh).seq h2, h5 F2 H2 (Grow.refl g2.fh) r2 _ (.int _)⟩
      · cases e
    | _ => exact h1.elim
  | _ => exact h1.elim
theorem idx_le {c : Bool} : ∀ {bs : List Bool} {m : Nat}, bs[m]? = some c → bs.idxOf c ≤ m
  | [], m, h => by simp at h
  | b :: bs, 0, h => by
    simp at h
    subst h
    rw [List.idxOf_cons]
    simp
  | b :: bs, m + 1, h => by
    have := idx_le (bs := bs) (m := m) (by simpa using h)
    rw [List.idxOf_cons]
    cases (b == c) with
    | true => exact Nat.zero_le _
    | false => exact Nat.succ_le_succ this
theorem pd_indexB {o e : Expr} {es : List Expr} {fo : En → M D} {fa : En → M (List D)} {apos cpos : Pos} (ho : PD X W E o fo) (ha : PDA X W E (e :: es) fa)
    (hbase : attributeBase o "index" X.env (eval o X.env) = eval o X.env := by rfl)
    (hfew : ((backTo cpos (starEach (e :: es) X.env)).all (fun x => !x.1) && (backToKw cpos (keywordEach [] X.env)).all (fun x => x.1.isSome)
      && decide ((e :: es).length + ([] : List Keyword).length + (if ([] : List Keyword).isEmpty then 0 else 1) < 30)) = true := by rfl)
    (hline : (apos.endLine == cpos.line) = true := by rfl) (hs : starEach (e :: es) X.env = (false, eval e X.env) :: starEach es X.env := by rfl) (hplain : (backTo cpos (starEach es X.env)).any (·.1) = false := by rfl) :
    PD X W E (.Call (.Attribute o "index" apos) (e :: es) [] cpos) (eMeth1 opIndexB fo fa) := by
  refine PE.imp (pe_bm PySem.F.plainAttrs_list PySem.F.slot_list_index PySem.F.type_list_index mt_index ho ha hbase hfew hline hs hplain) fun σ H Q hl => ?_
  obtain ⟨F, ρ, R, ok, run⟩ := hl
  refine ⟨F, ρ, R, ok, run.bind.imp fun d R1 F1 H1 g1 r1 h1 v rv => ?_⟩
  cases d with
  | dat x =>
    cases x with
    | list xs =>
      obtain ⟨a, ys, rfl, h2, h3⟩ := Dp.lst_inv rv
      refine ⟨.inl ⟨rfl, ys, g1.fh.seq h2⟩, F1, ρ, R1, ok.grow g1 r1, (show Run _ _ (fa ρ >>= _) _ _ _ _ from h1).bind.imp fun ds R2 F2 H2 g2 r2 h4 vs rs => ?_⟩
      obtain ⟨r, e, h5⟩ := h4.lft
      unfold opIndexB at e
      split at e
      · rename_i k e1
        cases e1
        obtain ⟨bs, e2, e3⟩ := Option.bind_eq_some_iff.mp e
        split at e3
        · rename_i hk
          cases e3
          cases rs with
          | cons p1 rs =>
            cases rs
            have hx := boolsD_inv e2
            subst hx
            have hy := h3.bools
            subst hy
            have hlt : bs.idxOf k < bs.length := List.idxOf_lt_length_of_mem hk
            have hget : bs[bs.idxOf k]? = some k := by rw [List.getElem?_eq_getElem hlt, List.getElem_idxOf]
            refine ⟨a, bs.map V.bl, .bl k, bs.idxOf k, .bl k, rfl, by rw [Dp.bl_inv p1], (g2.ff.trans g2.fh).seq h2, rfl, flat_bls bs, by rw [List.getElem?_map, hget]; rfl, by cases k <;> rfl, fun m z' hm hz => ?_, h5 F2 H2 (Grow.refl g2.fh) r2 _ (.int _)⟩
            rw [List.getElem?_map] at hz
            obtain ⟨c, hc, rfl⟩ := Option.map_eq_some_iff.mp hz
            have hne : c ≠ k := fun e => by
              subst e
              have := idx_le hc
              omega
            cases c <;> cases k <;> first | rfl | exact absurd rfl hne
        · cases e3
      · cases e
    | _ => exact h1.elim
  | _ => exact h1.elim
end
end DX

set_option maxHeartbeats 4000000
namespace DX
open PySem PySem.Spec PyProof.Rows L2 DL
/-! ### the exception's name in a def that is called in the suite -/
section
variable {X : Cx} {W : XK} {E : Ent} {pos p p1 p2 : Pos} {a D dd : Addr} {oe : Obj} {fs : List (Str × V)}
def eIsX (i : Nat) (a : Addr) (b : Bool) : En → M DL.D := fun ρ => match ρ[i]? with
  | some (.val (.row c)) => if c = a then pure (dB b) else stk
  | _ => stk
def eXp (i : Nat) (a : Addr) (y : PyData) : En → M DL.D := fun ρ => match ρ[i]? with
  | some (.val (.row c)) => if c = a then pure (.dat y) else stk
  | _ => stk
theorem pd_isP (C : ExcC X.K D) (P : PinE X a oe D dd) (hE : E.F dd = some (.xd fs)) (i : Nat) {x c : Str} (hx : PE X (.Name x p1) (tVar i)) {vc : V} {cv : Value} {b : Bool} (hcls : PE X (.Name c p2) (tC vc)) (hrel : ∀ u, RelV vc u → u = cv) (kit : PySem.W.kitOne X.K (.ref D) cv = some b)
    (hg : Gl X "isinstance") (hm : X.mg "isinstance" = none)
    (hs : starEach [.Name x p1, .Name c p2] X.env = (false, eval (.Name x p1) X.env) :: starEach [.Name c p2] X.env := by rfl) (hs2 : starEach [.Name c p2] X.env = (false, eval (.Name c p2) X.env) :: starEach [] X.env := by rfl) (hpl : (backTo pos (starEach [.Name c p2] X.env)).any (·.1) = false := by rfl) :
    PD X W E (.Call (.Name "isinstance" p) [.Name x p1, .Name c p2] [] pos) (eIsX i a b) := by
  refine PE.imp (pe_callB (call_isP C P) hg hm PyProof.Rows.boot_isinstance (pa_cons hx (pa_cons hcls pa_nil hs2) hs) (he := hs) (hpl := hpl)) fun σ H Q hl => ?_
  obtain ⟨F, ρ, R, ok, run⟩ := hl
  unfold eIsX at run
  cases eq : ρ[i]? with
  | none => rw [eq] at run; exact run.elim
  | some sv =>
    rw [eq] at run
    cases sv with
    | no => exact run.elim
    | own o => exact run.elim
    | val d =>
      cases d with
      | row c' =>
        by_cases hc : c' = a
        · subst hc
          dsimp only at run
          rw [if_pos rfl] at run
          obtain ⟨v, h1, h2⟩ := ok.sl i _ eq
          cases (show v = V.ref c' from h2)
          exact ⟨.ref c', h1, vc, cv, b, fs, rfl, ok.g.fh _ _ (ok.g.ff _ _ hE), hrel, kit, run F H (Grow.refl ok.g.fh) ok.row _ (.bl b)⟩
        · dsimp only at run
          rw [if_neg hc] at run
          exact run.elim
      | _ => exact run.elim
theorem pd_xp (T : XfC X.K D) (P : PinE X a oe D dd) (hE : E.F dd = some (.xd fs)) (i : Nat) {x n : Str} {v : V} {y : PyData} (hno : PySem.W.findIn X.K (.ref D) n = some none) (hlk : fs.lookup n = some v) (hv : Dp X.K E.F v y) (hx : PE X (.Name x p1) (tVar i))
    (hb : attributeBase (.Name x p1) n X.env (eval (.Name x p1) X.env) = eval (.Name x p1) X.env := by rfl) :
    PD X W E (.Attribute (.Name x p1) n pos) (eXp i a y) := by
  refine PE.imp (pe_xp T P hno hx hb) fun σ H Q hl => ?_
  obtain ⟨F, ρ, R, ok, run⟩ := hl
  unfold eXp at run
  cases eq : ρ[i]? with
  | none => rw [eq] at run; exact run.elim
  | some sv =>
    rw [eq] at run
    cases sv with
    | no => exact run.elim
    | own o => exact run.elim
    | val d =>
      cases d with
      | row c' =>
        by_cases hc : c' = a
        · subst hc
          dsimp only at run
          rw [if_pos rfl] at run
          obtain ⟨u, h1, h2⟩ := ok.sl i _ eq
          cases (show u = V.ref c' from h2)
          exact ⟨.ref c', h1, rfl, fs, v, ok.g.fh _ _ (ok.g.ff _ _ hE), hlk, run F H (Grow.refl ok.g.fh) ok.row _ (hv.mono ok.g.ff)⟩
        · dsimp only at run
          rw [if_neg hc] at run
          exact run.elim
      | _ => exact run.elim
end
/-! ### what such a def promises -/
def spR (P : Program) (w : World) (K : PySem.W.Frag) (cs : List Str) (fn : Xn → M D) : Addr × Obj → Sp := fun p vs H Q EX =>
  ∃ (F : Hp) (R : RS) (dd : Addr) (fs : List (Str × V)) (xn : Xn), Same F H ∧ RowOk K F H R ∧ vs = [.ref p.1] ∧ xn.cls ∈ cs ∧ Zc (.ref (He.ga K xn.cls)) (some dd) p.2 ∧ (∃ vs, p.2.data = .fields vs) ∧ F dd = some (.xd fs) ∧
    (∀ n y, xn.fs.lookup n = some y → ∃ v, fs.lookup n = some v ∧ Dp K F v y) ∧ Run K EX (fn xn) R F H fun d R' F' H' => ∀ v, RD P w K F' v d → Q v H'
end DX

set_option maxHeartbeats 4000000
namespace DX
open PySem PySem.Spec PyProof.Rows L2 DL
open L2H (RoomH roomH_of)
/-! ### _law_told(lambda: e) -/
def eTold (cs : List Str) (fr : Xn → M DL.D) (fb : En → M DL.D) : En → M DL.D := fun ρ R => match fb ρ R with
  | some (.val (.dat y), R') => some (.val (.dat (.tuple [.str "told", y])), R')
  | some (.exn x, R') => if x.cls ∈ cs then (match fr x R' with
    | some (.val d, R'') => some (.val d, R'')
    | _ => none) else none
  | _ => none
/-- the def that tells a caught exception -/
def FnRef (P : Program) (w : World) (K : PySem.W.Frag) (mg : Str → Option Value) (base : Heap) (k : Nat) (x : Str) (cs : List Str) (fr : Xn → M DL.D) : Prop :=
  ∃ f fd, mg x = some (.ref f) ∧ PySem.W.keepIn K (.ref f) = true ∧ Binds K fd ["e"] [] ∧ FnP P w K mg base (L2.CX P w) k f fd ["e"] (spR P w K cs fr)
theorem ps_len {X : Cx} {st : Stmt} {t : TS} (h : PS X st t) : PS X st (fun D σ H => σ.length = X.N.length → t D σ H) := ⟨fun pins s σ H D I q => h.run pins s σ H D I (q I.len)⟩
section
variable {X : Cx} {W : XK} {E : Ent} {pos p : Pos}
theorem pd_told {k : Nat} {x re : Str} {cs : List Str} {fr : Xn → M DL.D} {fb : En → M DL.D} {st : Stmt} {g CL : Addr} {fd : FuncData} {params : Arguments} {body : Expr} {scope : Scope} {lpos : Pos} {c Pt : Addr} {j kk : Nat} {p0 p1 p2 p3 p4 p5 p6 p7 p8 p9 p10 p11 : Pos}
    (hg : Gl X x) (hm : X.mg x = some (.ref g)) (F1 : Fun X.K x x st g fd) (hb : L2.Binds X.K fd ["call"] []) (Sg : FnScope ["call", "e"] ["call"] (defScope st))
    (hst : defBody st = [.Try [.Return (some (.Tuple [.Constant (.str "told") j p0, .Call (.Name "call" p1) [] [] p2] kk p3)) p4] [.ExceptHandler (some (.Name "LeapError" p5)) (some "e") [.Return (some (.Call (.Name re p6) [.Name "e" p7] [] p8)) p9] p10] [] [] p11])
    (hle : (defScope st).names.lookup ("LeapError" : Str) = some .globalImplicit) (hre : (defScope st).names.lookup re = some .globalImplicit) (hcall : (defScope st).names.lookup ("call" : Str) = some .local) (hloc : (defScope st).names.lookup ("e" : Str) = some .local)
    (hL : X.mg "LeapError" = some (.ref CL)) (hcs : ∀ c ∈ cs, PySem.W.exmOne X.K (.ref (He.ga X.K c)) (.ref CL) = some true) (R2 : FnRef X.prog X.w X.K X.mg X.base k re cs fr)
    (TB : LamX.TabB X.base X.mg c Pt) (hcode : X.env.code = .ref c) (it : IsTab X.K Pt (X.env.qual ++ ("<lambda>" : Str))) (hr : Room (k + 2) X.A) (L : LamX.LamS X.env.scope scope) (hdef : defaultsOf params X.env = ([], []))
    (hbind : ∀ (q : Str) (cl : List (Str × Addr)) (pm cv ctv : Value), bindArgs (PySem.W.kla_fn "<lambda>" q params body scope cl pm cv ctv) ⟨[], []⟩ = pure [])
    (hbody : ∀ (A : Around) (outer : List Env) (s : Shared) (H : Hp) (E' : XK) (f c' : Addr), Room k (A.deeper (LamX.lamEnv X scope s.heap.objs.size f c')) → PD (LamX.lamCx X A outer s H E' scope f c') E' E body fb)
    (hdb : (x == ("__debug__" : Str)) = false := by decide) (hdr : (re == ("__debug__" : Str)) = false := by decide) :
    PD X W E (.Call (.Name x p) [.Lambda params body scope lpos] [] pos) (eTold cs fr fb) := by
  refine ⟨fun pins s σ H Q I hl => ?_⟩
  obtain ⟨F, ρ, R, ok, run⟩ := hl
  refine wpAny_Call_Name_kw (ld_glob I hg hm ?_ hdb)
  refine PySem.W.callWith_K (h₀ := X.base) I.ok.mod.kin F1.kp ?_ (by rfl) (by rfl)
  show wpAny _ _ (spliced ((false, eval (.Lambda params body scope lpos) X.env) :: backTo pos (starEach [] X.env))) _ _ s
  obtain ⟨o1, ps, hP, ht, ha0⟩ := ok.row.tb.2 Pt _ it
  have ha1 : ∀ pos cv, codeAmong pos ps.toList = some cv → ∃ c, cv = .ref c ∧ H c = some (LamX.CodeO c (X.env.qual ++ ("<lambda>" : Str))) := fun pos cv h => let ⟨c, a, b⟩ := ha0 pos cv h; ⟨c, a, ok.g.fh _ _ b⟩
  refine Calls.spliced_cons (lam_make3 I TB hcode hP ht ha1 hdef (L.has I.ok) fun f c' pm' ctv' H2 s2 I2 md hf hf0 hfs hco => ?_)
  obtain ⟨F2, g2, r2⟩ := made_grow (X := X) ok.g.fh ok.row it hP ha0 md
  refine Calls.spliced_nil ⟨I2.kIn, ?_⟩
  have ok2 : Ok X.prog X.w X.K E F2 σ H2 ρ R := ok.grow g2 r2
  obtain ⟨oc, od, kV, doc, pm, an, cdv, ct, osl, efd, lk, hcd⟩ := F1.ex
  subst efd
  obtain ⟨f2, fd2, hm2, hk2, hb2, FP⟩ := R2
  have rc : codeAny (model X.prog X.w) X.A (.call (.ref g) ⟨[.ref f], []⟩) (CR C8.CX0 X.stack X.prog X.w H2 s2 Q C8.E0) s2 := by
    refine LamX.run_ofS (N := ["call", "e"]) (ps := ["call"]) (us := [.ref f]) (vs := [.ref f]) lk hcd Sg hr I2.env0 (hb s2 [.ref f] I2.kIn rfl) (.cons rfl .nil) rfl fun hr' => ?_
    rw [hst]
    have hsu : ∀ (a : Addr) (oe : Obj) (cls : Value) (d : Option Addr) (pn : List (Addr × Obj)), Zc cls d oe → (∃ vs, oe.data = .fields vs) →
        PSs ((cxOf C8.CX0 X.prog X.w X.K X.mg X.base ["call", "e"] x (defScope st) g cdv X.A X.stack s2 H2 C8.E0).suite a ((a, oe) :: pn)) [.Return (some (.Call (.Name re p6) [.Name "e" p7] [] p8)) p9]
          ((fun a cls d => fun D σ H => σ.length = 2 → ∀ oe, Zc cls d oe → (∃ vs, oe.data = .fields vs) → tRet (tCallS (spR X.prog X.w X.K cs fr (a, oe)) (WE fun _ _ _ _ => False) (tCons (tVar 1) tNil)) D σ H) a cls d) := fun a oe cls d pn hz hf => by
      have hv : PE ((cxOf C8.CX0 X.prog X.w X.K X.mg X.base ["call", "e"] x (defScope st) g cdv X.A X.stack s2 H2 C8.E0).suite a ((a, oe) :: pn)) (.Name "e" p7) (tVar 1) := pe_var (i := 1) rfl (.inl hloc)
      have hcall := pe_callP (X := (cxOf C8.CX0 X.prog X.w X.K X.mg X.base ["call", "e"] x (defScope st) g cdv X.A X.stack s2 H2 C8.E0).suite a ((a, oe) :: pn)) (q := p6) (pos := p8) (p := (a, oe)) (E := WE fun _ _ _ _ => False) FP ⟨(hr'.mono (Nat.le_succ k)).dp, (hr'.mono (Nat.le_succ k)).un⟩ List.mem_cons_self hre hm2 hk2 hb2 (fun σ => passAt LamX.takes0 σ) (pa_cons hv pa_nil) hdr
      have hp := pss_one (ps_len (ps_ret (pos := p9) hcall))
      exact ⟨fun pins s σ H D I h => hp.run pins s σ H D I fun hl => h hl oe hz hf⟩
    refine ⟨_, (pss_one (ps_try_as (X := cxOf C8.CX0 X.prog X.w X.K X.mg X.base ["call", "e"] x (defScope st) g cdv X.A X.stack s2 H2 C8.E0) (i := 1) (c := .ref CL) (Wout := fun _ _ _ _ => False)
      (tb := fun W' D σ' H' => ∃ Ech : XK, (∀ cls d σ'' H'', Ech cls d H'' → W' cls d σ'' H'') ∧ σ'[0]? = some (some (.ref f)) ∧ H' c' = some (LamX.CodeO c' (X.env.qual ++ ("<lambda>" : Str))) ∧ lift X.prog X.w X.K Ech E fb σ H' fun v H'' => 2 ≤ sizeLine ∧ ∀ q, H'' q = none → D.rt (.ref q) (upd H'' q (.tup [.str "told", v])))
      rfl rfl Sg.nd rfl hloc ⟨hle, by decide, .inl hL⟩ LamX.takes0 (fun W' pn xe tk _ => ?_) hsu)), ?_⟩
    · refine ⟨fun pins s' σ' H' D I' h' => ?_⟩
      obtain ⟨Ech, hW, h1, h2, h3⟩ := h'
      have act := LamX.pe_act (X := X) (CXg := C8.CX0) (Eg := C8.E0) (Ng := ["call", "e"]) (qg := x) (sg := defScope st) (g := g) (cdg := cdv) (i := 0) (a := "call") (pn := pn) (xe := xe) (W := W') (E := Ech) (p1 := p1) (p2 := p2) (tb := lift X.prog X.w X.K Ech E fb) I2 L hf hf0 hfs (hbind _ _ _ _ _) tk hW hr' (fun A outer s H hr2 => hbody A outer s H Ech f c' hr2) rfl (.inl hcall)
      have hq := pss_one (ps_ret (pos := p4) (pe_tup (x1 := kk) (pos := p3) (pa_cons (pe_str (x := "told") (j := j) (pos := p0)) (pa_cons act pa_nil))))
      exact hq.run pins s' σ' H' D I' ⟨h1, h2, h3⟩
    · refine ⟨fun cls d H' => ∃ (xn : Xn) (R' : RS) (F' : Hp), Grow R R' F2 H2 F' H' ∧ RowOk X.K F' H' R' ∧ RX X.K F' cls d xn ∧ fb ρ R = some (.exn xn, R'), fun cls d σ' H' hE => ?_, rfl, hco, F2, ρ, R, ok2, ?_⟩
      · obtain ⟨xn, R', F', g', r', hx, efb⟩ := hE
        obtain ⟨ecl, dd, fs, ed, hF, hfs2⟩ := hx
        subst ecl ed
        have run2 := run
        unfold DL.Run eTold at run2
        rw [efb] at run2
        dsimp only at run2
        by_cases hc : xn.cls ∈ cs
        · rw [if_pos hc] at run2
          refine ⟨true, hcs _ hc, fun _ a ha hlen oe hz hff => ?_, fun z => nomatch z⟩
          refine ⟨.ref a, ?_, F', R', dd, fs, xn, g'.fh, r', rfl, hc, hz, hff, hF, hfs2, ?_⟩
          · rw [List.length_set] at hlen
            rw [List.getElem?_set]
            simp [hlen]
          · unfold DL.Run
            cases er : fr xn R' with
            | none => rw [er] at run2; exact run2.elim
            | some pr =>
              obtain ⟨o, R3⟩ := pr
              rw [er] at run2
              cases o with
              | exn _ => exact run2.elim
              | val dv => exact fun F3 H3 g3 r3 v rv => run2 F3 H3 (g2.trans (g'.trans g3)) r3 v rv
        · rw [if_neg hc] at run2
          exact run2.elim
      · have run2 := run
        unfold DL.Run eTold at run2
        unfold DL.Run
        cases efb : fb ρ R with
        | none => rw [efb] at run2; exact run2.elim
        | some pr =>
          obtain ⟨o, R'⟩ := pr
          rw [efb] at run2
          cases o with
          | exn xn => exact fun c dd F' H' g' r' hx => ⟨xn, R', F', g', r', hx, rfl⟩
          | val d =>
            cases d with
            | dat y =>
              intro F' H' g' r' v rv
              refine ⟨by decide, fun q hq => ?_⟩
              have gp := GrowP.new (o := .tup [.str "told", v]) g'.fh hq
              exact run2 _ _ (g2.trans (g'.trans gp.g)) (gp.row r') _ (Dp.newT g'.fh hq (.cons (.str _) (.cons rv .nil)))
            | _ => exact run2.elim
  refine wpAny_call (codeAny_mono rc fun r s3 hq => ?_)
  cases r with
  | error e => exact (show False from hq).elim
  | ok fl =>
    cases fl with
    | ret u => exact I2.after hq
    | next => exact False.elim hq
    | brk => exact False.elim hq
    | cont => exact False.elim hq
end
end DX

set_option maxHeartbeats 4000000
namespace DX
open PySem PySem.Spec PyProof.Rows L2 DL
open L2H (RoomH roomH_of PinOk cxH inv_startH)
/-! ### _law_refusal -/
def runX (n : Nat) (fb : En → M Fl) (a : Addr) : M D := do
  let fl ← fb (.val (.row a) :: List.replicate (n - 1) .no)
  match fl with
  | .nx _ => pure (.dat .none)
  | .rt d => pure d
  | _ => stk
theorem fnR_ok {P : Program} {w : World} {K : PySem.W.Frag} {mg : Str → Option Value} {base : Heap} {x : Str} {st : Stmt} {f : Addr} {fd : FuncData} {N : List Str} {k : Nat} {cs : List Str} {fr : Xn → M D} {fb : Addr → Xn → En → M Fl}
    (F : Fun K x x st f fd) (S : FnScope N ["e"] (defScope st))
    (hbody : ∀ (cdv : Value) (A : Around) (outer : List Env) (s : Shared) (H : Hp) (EX : XK) (a : Addr) (oe : Obj) (dd : Addr) (fs : List (Str × V)) (xn : Xn) (E : Ent), RoomH k (A.deeper (envOfC x (defScope st) s.heap.objs.size f cdv)) → xn.cls ∈ cs →
      PinE (cxH (L2.CX P w) P w K mg base N x (defScope st) f cdv A outer s H EX (a, oe)) a oe (He.ga K xn.cls) dd → E.F dd = some (.xd fs) → (∀ n y, xn.fs.lookup n = some y → ∃ v, fs.lookup n = some v ∧ Dp K E.F v y) →
      PDSs (cxH (L2.CX P w) P w K mg base N x (defScope st) f cdv A outer s H EX (a, oe)) EX E (defBody st) (fb a xn))
    (hfn : ∀ a xn R, xn.cls ∈ cs → fr xn R = none ∨ fr xn R = runX N.length (fb a xn) a R) :
    FnP P w K mg base (L2.CX P w) (k + 1) f fd ["e"] (spR P w K cs fr) := by
  obtain ⟨oc, od, kV, doc, pm, an, cdv, ct, osl, rfl, lk, hcd⟩ := F.ex
  refine fn_ofP lk hcd S (fun p vs H Q E h => ?_) fun A outer s H vs Q EX p hr h => ?_
  · obtain ⟨F, R, dd, fs, xn, h1, h2, rfl, _⟩ := h
    rfl
  · obtain ⟨F0, R, dd, fs, xn, sf, ro, rfl, hc, hz, hf, hF, hl, run⟩ := h
    obtain ⟨a, oe⟩ := p
    refine ⟨_, hbody cdv A outer s H EX a oe dd fs xn ⟨F0, H, R⟩ hr hc ⟨List.mem_cons_self, hz, hf⟩ hF hl, ?_⟩
    have hn : 1 ≤ N.length := by have := congrArg List.length S.pre; rw [List.length_take] at this; simp at this; omega
    have oks : Ok P w K ⟨F0, H, R⟩ F0 (L2.start N [.ref a]) H (.val (.row a) :: List.replicate (N.length - 1) .no) R := by
      refine ⟨Grow.refl sf, ro, fun i sv e => ?_, fun i j oi oj a' e1 _ _ _ => ?_, ?_⟩
      · cases i with
        | zero => cases e; exact ⟨.ref a, rfl, rfl⟩
        | succ i =>
          rw [List.getElem?_cons_succ, List.getElem?_replicate] at e
          split at e
          · cases e; trivial
          · cases e
      · cases i with
        | zero => cases e1
        | succ i =>
          rw [List.getElem?_cons_succ, List.getElem?_replicate] at e1
          split at e1 <;> cases e1
      · unfold L2.start
        simp
    refine ⟨F0, _, R, oks, ?_⟩
    unfold DL.Run at run
    unfold RunS
    rcases hfn a xn R hc with e0 | e0
    · rw [e0] at run; exact run.elim
    · rw [e0] at run
      unfold runX at run
      rw [M.bind_def] at run
      unfold M.bnd at run
      show (match fb a xn (.val (.row a) :: List.replicate (N.length - 1) .no) R with
        | some (.val (.nx ρ), R') => _ | some (.val (.bk ρ), R') => _ | some (.val (.ct ρ), R') => _ | some (.val (.rt d), R') => _ | some (.exn x, R') => _ | none => False)
      cases e : fb a xn (.val (.row a) :: List.replicate (N.length - 1) .no) R with
      | none => rw [e] at run; exact run
      | some q =>
        obtain ⟨o, R'⟩ := q
        rw [e] at run
        cases o with
        | exn x => exact fun c dd F' H' g r rx => run c dd F' H' g r rx
        | val y =>
          cases y with
          | nx ρ' => exact fun σ F' H' _ ok => run F' H' ok.g ok.row .non .non
          | rt d => exact fun v F' H' g r rd => run F' H' g r v rd
          | bk ρ' => exact run.elim
          | ct ρ' => exact run.elim
/-- what a law's table tells of the classes in cs and of the nine kinds -/
structure RefT (K : PySem.W.Frag) (mg : Str → Option Value) (cs kinds flds : List Str) : Prop where
  xc : ∀ c ∈ cs, ExcC K (He.ga K c)
  xf : ∀ c ∈ cs, XfC K (He.ga K c)
  nof : ∀ c ∈ cs, ∀ n ∈ flds, PySem.W.findIn K (.ref (He.ga K c)) n = some none
  kit : ∀ c ∈ cs, ∀ n ∈ kinds, PySem.W.kitOne K (.ref (He.ga K c)) (.ref (He.ga K n)) = some (c == n)
  kiv : ∀ c ∈ cs, PySem.W.kitOne K (.ref (He.ga K c)) (.type "ValueError") = some true
  glo : ∀ n ∈ kinds, mg n = some (.ref (He.ga K n))
section
variable {X : Cx} {W : XK} {E : Ent} {pos p p1 p2 : Pos} {a dd : Addr} {oe : Obj} {fs : List (Str × V)} {cs kinds flds : List Str} {xn : Xn}
theorem pd_isR (T : RefT X.K X.mg cs kinds flds) (hc : xn.cls ∈ cs) (P : PinE X a oe (He.ga X.K xn.cls) dd) (hE : E.F dd = some (.xd fs)) (i : Nat) {x c : Str} (hx : PE X (.Name x p1) (tVar i)) (hk : c ∈ kinds) (hgc : Gl X c) (hg : Gl X "isinstance") (hm : X.mg "isinstance" = none) (hdb : (c == ("__debug__" : Str)) = false)
    (hs : starEach [.Name x p1, .Name c p2] X.env = (false, eval (.Name x p1) X.env) :: starEach [.Name c p2] X.env := by rfl) (hs2 : starEach [.Name c p2] X.env = (false, eval (.Name c p2) X.env) :: starEach [] X.env := by rfl) (hpl : (backTo pos (starEach [.Name c p2] X.env)).any (·.1) = false := by rfl) :
    PD X W E (.Call (.Name "isinstance" p) [.Name x p1, .Name c p2] [] pos) (eIsX i a (xn.cls == c)) :=
  pd_isP (T.xc _ hc) P hE i hx (vc := .ref (He.ga X.K c)) (cv := .ref (He.ga X.K c)) (pe_glob hgc (T.glo _ hk) rfl hdb) (fun u h => h) (T.kit _ hc _ hk) hg hm hs hs2 hpl
theorem pd_isV (T : RefT X.K X.mg cs kinds flds) (hc : xn.cls ∈ cs) (P : PinE X a oe (He.ga X.K xn.cls) dd) (hE : E.F dd = some (.xd fs)) (i : Nat) {x : Str} (hx : PE X (.Name x p1) (tVar i)) (hgc : Gl X "ValueError") (hmc : X.mg "ValueError" = none) (hg : Gl X "isinstance") (hm : X.mg "isinstance" = none)
    (hs : starEach [.Name x p1, .Name "ValueError" p2] X.env = (false, eval (.Name x p1) X.env) :: starEach [.Name "ValueError" p2] X.env := by rfl) (hs2 : starEach [.Name "ValueError" p2] X.env = (false, eval (.Name "ValueError" p2) X.env) :: starEach [] X.env := by rfl) (hpl : (backTo pos (starEach [.Name "ValueError" p2] X.env)).any (·.1) = false := by rfl) :
    PD X W E (.Call (.Name "isinstance" p) [.Name x p1, .Name "ValueError" p2] [] pos) (eIsX i a true) :=
  pd_isP (T.xc _ hc) P hE i hx (vc := .ty "ValueError") (cv := .type "ValueError") (pe_bltn hgc hmc (by decide +kernel) rfl) (fun u h => h) (T.kiv _ hc) hg hm hs hs2 hpl
def eXpo (i : Nat) (a : Addr) (o : Option PyData) : En → M DL.D := match o with
  | some y => eXp i a y
  | none => fun _ => stk
theorem pd_xpo (T : RefT X.K X.mg cs kinds flds) (hc : xn.cls ∈ cs) (P : PinE X a oe (He.ga X.K xn.cls) dd) (hE : E.F dd = some (.xd fs)) (hl : ∀ n y, xn.fs.lookup n = some y → ∃ v, fs.lookup n = some v ∧ Dp X.K E.F v y) (i : Nat) {x n : Str} (hx : PE X (.Name x p1) (tVar i)) (hn : n ∈ flds)
    (hb : attributeBase (.Name x p1) n X.env (eval (.Name x p1) X.env) = eval (.Name x p1) X.env := by rfl) :
    PD X W E (.Attribute (.Name x p1) n pos) (eXpo i a (xn.fs.lookup n)) := by
  cases e : xn.fs.lookup n with
  | some y =>
    obtain ⟨v, h1, h2⟩ := hl n y e
    exact pd_xp (T.xf _ hc) P hE i (T.nof _ hc _ hn) h1 h2 hx hb
  | none =>
    refine ⟨fun pins s σ H Q I hh => ?_⟩
    obtain ⟨F, ρ, R, ok, run⟩ := hh
    exact run.elim
end
end DX

set_option maxHeartbeats 4000000
namespace DX
open PySem PySem.Spec PyProof.Rows L2 DL
/-! ### repr of a tuple, where no repr is under way -/
def reprOk (d : PyData) : Bool := d.showable && (!d.hasDict && (decide (d.depth ≤ 60) && decide (d.shown.length ≤ sizeLine)))
def g_repr : List D → Option D
  | [.dat (.tuple xs)] => if reprOk (.tuple xs) then some (.dat (.str (PyData.shown (.tuple xs)))) else none
  | _ => none
section
variable {X : Cx} {W : XK} {E : Ent} {pos p : Pos}
theorem dc_repr (hG : X.A.guards = some []) (hu : X.A.units + 64 < cLine) : DCall X (.builtin "repr") g_repr := by
  intro pins s σ H vs us Q I r h
  obtain ⟨F, ds, d, sf, pr, e, q⟩ := h
  unfold g_repr at e
  split at e
  · rename_i xs
    by_cases hz : reprOk (.tuple xs) = true
    · rw [if_pos hz] at e
      cases e
      unfold reprOk at hz
      simp only [Bool.and_eq_true, Bool.not_eq_true', decide_eq_true_eq] at hz
      obtain ⟨h1, h2, h3, h4⟩ := hz
      obtain ⟨v, rfl, rv⟩ := paired1 pr
      obtain ⟨u, rfl, ru⟩ := r.one
      obtain ⟨as, rd⟩ := rd_reads I sf rv ru
      obtain ⟨a, rfl⟩ := isRef_of_reads rd rfl
      refine repr_of_reads' (h₀ := s.heap) rd h1 (fun hh => ?_) hG (by omega) (fun _ _ e => e) (fun h' u tk hk => ?_) h4
      · rw [h2] at hh; cases hh
      · exact ⟨.str _, H, I.kept hk, ⟨_, rfl⟩, q _ F H (.refl sf) (.str _)⟩
    · rw [if_neg hz] at e
      cases e
  · cases e
end
end DX

set_option maxHeartbeats 4000000
namespace DX
open PySem PySem.Spec PyProof.Rows L2 DL
/-! ### a def that is called where no repr is under way -/
structure FnG (P : Program) (w : World) (K : PySem.W.Frag) (mg : Str → Option Value) (base : Heap) (CX : CXT) (k : Nat) (f : Addr) (fd : FuncData) (ps : List Str) (sp : Sp) : Prop where
  len : ∀ vs H Q E, sp vs H Q E → vs.length = ps.length
  run : ∀ (A : Around) (outer : List Env) (s : Shared) (H : Hp) (args : Args) (us : List Value) (vs : List V) (Q : VK) (E : XK), A.guards = some [] → Room k A → Env0 P w K mg base A outer s H → BindsTo s fd args (ps.zip us) → Vals vs us → sp vs H Q E →
    codeAny (model P w) A (.call (.ref f) args) (CR CX outer P w H s Q E) s
theorem fn_ofG {CX : CXT} {P : Program} {w : World} {K : PySem.W.Frag} {mg : Str → Option Value} {base : Heap} {k : Nat} {f : Addr} {x qual : Str} {st : Stmt} {fd : FuncData} {N ps : List Str} {sp : Sp} (F : Fun K x qual st f fd) (S : FnScope N ps (defScope st))
    (len : ∀ vs H Q E, sp vs H Q E → vs.length = ps.length)
    (hbody : ∀ (A : Around) (outer : List Env) (s : Shared) (H : Hp) (vs : List V) (Q : VK) (E : XK), A.guards = some [] → Room k (A.deeper (envOfC qual (defScope st) s.heap.objs.size f fd.code)) → sp vs H Q E →
      ∃ t, PSs (cxOf CX P w K mg base N qual (defScope st) f fd.code A outer s H E) (defBody st) t ∧ t { nx := fun _ H' => Q .non H', rt := Q } (L2.start N vs) H) :
    FnG P w K mg base CX (k + 1) f fd ps sp := by
  obtain ⟨oc, od, kV, doc, pm, an, cdv, ct, osl, rfl, lk, hcd⟩ := F.ex
  refine ⟨len, fun A outer s H args us vs Q E hG hr e0 hb r hsp => ?_⟩
  have hl := len _ _ _ _ hsp
  have KX : K.In s.heap := e0.mod.kin.keeps fun b o e => (e0.bs b o e).1
  have lim : s.heap.NoLimit := e0.mod.nolimit.keeps fun b o e => (e0.bs b o e).1
  refine codeAny_call_function hr.depth (KX _ _ lk) rfl S.co S.gen rfl (PySem.W.codeRec_of KX hcd) (hb _ _ _ _ ?_)
  refine wpAny_newFunctionEnv_cells S.kind (fun ⟨n, v⟩ hy => (S.par n (List.of_mem_zip hy).1).imp id fun q => ⟨q, PySem.W.cellsFrom_some _ _ _ (.inl q)⟩) fun env he s1 x => ?_
  subst he
  refine ⟨lim.keeps x.toInCall.keep, codeAny_func ?_⟩
  obtain ⟨t, ht, hq⟩ := hbody A outer s H vs Q E hG (hr.deeper _) hsp
  refine wpAny_mono (ht.run [] s1 (L2.start N vs) H _ (inv_start S hr.hd e0 hl r x) hq) (fun fl s' hs => ?_) fun e s' hs => hs
  cases fl with
  | ret u =>
    obtain ⟨v, σ', H', J, rv, q⟩ := hs
    exact ⟨v, H', J.os, J.bare, J.base, J.hok, rv, q⟩
  | next =>
    obtain ⟨σ', H', J, q⟩ := hs
    exact ⟨.non, H', J.os, J.bare, J.base, J.hok, rfl, q⟩
  | brk =>
    obtain ⟨_, _, _, q⟩ := hs
    exact False.elim q
  | cont =>
    obtain ⟨_, _, _, q⟩ := hs
    exact False.elim q
theorem fn_okG {P : Program} {w : World} {K : PySem.W.Frag} {mg : Str → Option Value} {base : Heap} {x qual : Str} {st : Stmt} {f : Addr} {fd : FuncData} {N ps : List Str} {k : Nat} {fb : En → M Fl} (F : Fun K x qual st f fd) (S : FnScope N ps (defScope st))
    (hbody : ∀ (A : Around) (outer : List Env) (s : Shared) (H : Hp) (EX : XK) (E : Ent), A.guards = some [] → Room k (A.deeper (envOfC qual (defScope st) s.heap.objs.size f fd.code)) →
      PDSs (cxOf (L2.CX P w) P w K mg base N qual (defScope st) f fd.code A outer s H EX) EX E (defBody st) fb) :
    FnG P w K mg base (L2.CX P w) (k + 1) f fd ps (spD P w K (runFn ps.length N.length fb)) := by
  refine fn_ofG F S (fun vs H Q EX h => ?_) (fun A outer s H vs Q EX hG hr h => ?_)
  · obtain ⟨F0, ds, R, sf, ro, pr, run⟩ := h
    unfold runFn at run
    by_cases hl : ds.length = ps.length
    · rw [paired_len pr, hl]
    · rw [if_neg hl] at run
      exact run.elim
  · obtain ⟨F0, ds, R, sf, ro, pr, run⟩ := h
    refine ⟨_, hbody A outer s H EX ⟨F0, H, R⟩ hG hr, ?_⟩
    have hl : ds.length = ps.length := by
      unfold runFn at run
      by_cases hl : ds.length = ps.length
      · exact hl
      · rw [if_neg hl] at run
        exact run.elim
    have hvl := paired_len pr
    have hpl : ps.length ≤ N.length := by have := congrArg List.length S.pre; rw [List.length_take] at this; omega
    unfold runFn at run
    rw [if_pos hl] at run
    have oks : Ok P w K ⟨F0, H, R⟩ F0 (L2.start N vs) H (ds.map .val ++ List.replicate (N.length - ps.length) .no) R := by
      refine ⟨Grow.refl sf, ro, fun i sv e => ?_, fun i j oi oj a e1 _ _ _ => ?_, ?_⟩
      · by_cases hi : i < ds.length
        · rw [List.getElem?_append_left (by simpa using hi), List.getElem?_map] at e
          obtain ⟨d, e1, e2⟩ := Option.map_eq_some_iff.mp e
          subst e2
          obtain ⟨v, e3, e4⟩ := paired_getD pr e1
          refine ⟨v, ?_, e4⟩
          unfold L2.start
          rw [List.getElem?_append_left (by simp; omega), List.getElem?_map, e3]
          rfl
        · rw [List.getElem?_append_right (by simpa using hi), List.getElem?_replicate] at e
          split at e
          · cases e; trivial
          · cases e
      · by_cases hi : i < ds.length
        · rw [List.getElem?_append_left (by simpa using hi), List.getElem?_map] at e1
          obtain ⟨d, _, e2⟩ := Option.map_eq_some_iff.mp e1
          cases e2
        · rw [List.getElem?_append_right (by simpa using hi), List.getElem?_replicate] at e1
          split at e1 <;> cases e1
      · unfold L2.start
        simp
        omega
    refine ⟨F0, _, R, oks, ?_⟩
    unfold DL.Run at run
    unfold RunS
    rw [M.bind_def] at run
    unfold M.bnd at run
    show (match fb (ds.map .val ++ List.replicate (N.length - ps.length) .no) R with
      | some (.val (.nx ρ), R') => _ | some (.val (.bk ρ), R') => _ | some (.val (.ct ρ), R') => _ | some (.val (.rt d), R') => _ | some (.exn x, R') => _ | none => False)
    cases e : fb (ds.map .val ++ List.replicate (N.length - ps.length) .no) R with
    | none => rw [e] at run; exact run
    | some q =>
      obtain ⟨o, R'⟩ := q
      rw [e] at run
      cases o with
      | exn x => exact fun c dd F' H' g r rx => run c dd F' H' g r rx
      | val y =>
        cases y with
        | nx ρ' => exact fun σ F' H' _ ok => run F' H' ok.g ok.row .non .non
        | rt d => exact fun v F' H' g r rd => run F' H' g r v rd
        | bk ρ' => exact run.elim
        | ct ρ' => exact run.elim
/-- .. as the module's name -/
def GFn (P : Program) (w : World) (K : PySem.W.Frag) (mg : Str → Option Value) (base : Heap) (k : Nat) (x : Str) (fn : List D → M D) : Prop :=
  ∃ f fd ps, mg x = some (.ref f) ∧ PySem.W.keepIn K (.ref f) = true ∧ Binds K fd ps [] ∧ FnG P w K mg base (L2.CX P w) k f fd ps (spD P w K fn)
theorem GFn.mono {P : Program} {w : World} {K : PySem.W.Frag} {mg : Str → Option Value} {base : Heap} {j k : Nat} {x : Str} {fn : List D → M D} (h : GFn P w K mg base j x fn) (hk : j ≤ k) : GFn P w K mg base k x fn := by
  obtain ⟨f, fd, ps, h1, h2, h3, F⟩ := h
  exact ⟨f, fd, ps, h1, h2, h3, F.len, fun A outer s H args us vs Q E hG hr => F.run A outer s H args us vs Q E hG (hr.mono hk)⟩
theorem fn_mkG {P : Program} {w : World} {K : PySem.W.Frag} {mg : Str → Option Value} {base : Heap} {x : Str} {st : Stmt} {f : Addr} {fd : FuncData} {N ps : List Str} {k : Nat} {fb : En → M Fl} {fn : List D → M D} (hm : mg x = some (.ref f)) (F : Fun K x x st f fd) (hb : Binds K fd ps []) (S : FnScope N ps (defScope st))
    (hbody : ∀ (A : Around) (outer : List Env) (s : Shared) (H : Hp) (EX : XK) (E : Ent), A.guards = some [] → Room k (A.deeper (envOfC x (defScope st) s.heap.objs.size f fd.code)) →
      PDSs (cxOf (L2.CX P w) P w K mg base N x (defScope st) f fd.code A outer s H EX) EX E (defBody st) fb) (hfn : runFn ps.length N.length fb = fn) : GFn P w K mg base (k + 1) x fn :=
  ⟨f, fd, ps, hm, F.kp, hb, by rw [← hfn]; exact fn_okG F S hbody⟩
section
variable {X : Cx} {W : XK} {E : Ent} {pos p : Pos}
theorem pd_callG {x : Str} {k : Nat} {e : Expr} {es : List Expr} {fn : List D → M D} {fr : En → M (List D)} (h : GFn X.prog X.w X.K X.mg X.base k x fn) (hG : X.A.guards = some []) (hr : Room k X.A) (hg : Gl X x) (tk : Takes X (fun c d _ H => W c d H)) (ha : PDA X W E (e :: es) fr)
    (hdb : (x == ("__debug__" : Str)) = false := by decide) (he : starEach (e :: es) X.env = (false, eval e X.env) :: starEach es X.env := by rfl) (hpl : (backTo pos (starEach es X.env)).any (·.1) = false := by rfl) :
    PD X W E (.Call (.Name x p) (e :: es) [] pos) (eF fn fr) := by
  obtain ⟨f, fd, ps, hm, hk, hb, F⟩ := h
  have pc : ∀ {t : TA}, PA X (e :: es) t → PE X (.Call (.Name x p) (e :: es) [] pos) (tCall (spD X.prog X.w X.K fn) [] W t) := fun {t} ha => by
    refine ⟨fun pins s σ H Q I h => ?_⟩
    refine wpAny_Call_Name_kw (ld_glob I hg hm ?_ hdb)
    refine PySem.W.callWith_K (h₀ := X.base) I.ok.mod.kin hk (thn (ha.run pos pins s σ H _ I h) fun us s1 ⟨vs, H1, I1, r, q⟩ => ⟨I1.kIn, ?_⟩) he hpl
    replace q : spD X.prog X.w X.K fn vs H1 Q W := by
      have q' : spD X.prog X.w X.K fn (vs ++ []) H1 Q W := q
      rwa [List.append_nil] at q'
    have hl : us.length = ps.length := by rw [← r.length]; exact F.len _ _ _ _ q
    have b := hb s1 us I1.kIn (by rw [List.append_nil]; exact hl)
    rw [List.append_nil] at b
    refine wpAny_call (codeAny_mono (F.run X.A X.stack s1 H1 ⟨us, []⟩ us vs Q W hG hr I1.env0 b r q) fun r s' hq => ?_)
    cases r with
    | error e => exact passes_call (E := W) tk (fun _ _ _ _ h => h) pins σ H1 s1 e s' I1 hq
    | ok fl =>
      cases fl with
      | ret u => exact I1.after hq
      | next => exact False.elim hq
      | brk => exact False.elim hq
      | cont => exact False.elim hq
  refine PE.imp (pc ha) fun σ H Q hl => ?_
  obtain ⟨F0, ρ, R, ok, run⟩ := hl
  refine ⟨F0, ρ, R, ok, run.bind.imp fun ds R1 F1 H1 g1 r1 h1 vs rs => ?_⟩
  show spD X.prog X.w X.K fn (vs ++ []) H1 Q W
  rw [List.append_nil]
  exact ⟨F1, ds, R1, g1.fh, r1, rs, h1⟩
end
end DX

set_option maxHeartbeats 4000000
namespace DX
open PySem PySem.Spec PyProof.Rows L2
open LamX (TabB)
/-! ### the end of a law row whose law may call repr: the caller's side has no repr under way -/
section
variable {P : Program} {w : World} {K : PySem.W.Frag} {mg mb : Str → Option Value} {a : Addr} {cs : List (Addr × Addr)} {s₁ : Shared} {vs : List Value} {ns : List Int}
/-- the abstract heap at the start: the tables of code objects, and the script unless it is written -/
noncomputable def hpA (K : PySem.W.Frag) (cs : List (Addr × Addr)) (a : Addr) (vs : List Value) (ns : List Int) : Hp := fun b =>
  open Classical in if b ∈ cs.map (·.2) then some (.tbl #[]) else if b = a ∧ K.lookup a = none then some (.frz { cls := .type "list", data := .seq vs.toArray } (.lst (ns.map V.int))) else none
theorem hpA_cases {b : Addr} {u : HO} (h : hpA K cs a vs ns b = some u) : (b ∈ cs.map (·.2) ∧ u = .tbl #[]) ∨ (b = a ∧ K.lookup a = none ∧ u = .frz { cls := .type "list", data := .seq vs.toArray } (.lst (ns.map V.int))) := by
  unfold hpA at h
  split at h
  · rename_i hb; cases h; exact .inl ⟨hb, rfl⟩
  · split at h
    · rename_i hb; cases h; exact .inr ⟨hb.1, hb.2, rfl⟩
    · cases h
theorem hpA_tab {b : Addr} (h : b ∈ cs.map (·.2)) : hpA K cs a vs ns b = some (.tbl #[]) := by unfold hpA; rw [if_pos h]
variable (ha : s₁.heap.get? a = some { cls := .type "list", data := .seq vs.toArray }) (hT : ∀ p ∈ cs, s₁.heap.get? p.2 = some { cls := .none, data := .fields #[] })
include ha hT
theorem hpA_free {b : Addr} {o : Obj} (e : s₁.heap.get? b = some o) (h1 : ∀ vs n, o.data ≠ .seq vs n) (h2 : o.data ≠ .fields #[]) : hpA K cs a vs ns b = none := by
  cases q : hpA K cs a vs ns b with
  | none => rfl
  | some u =>
    rcases hpA_cases q with ⟨hb, _⟩ | ⟨hb, _⟩
    · obtain ⟨p, hp, rfl⟩ := List.mem_map.mp hb
      rw [hT p hp] at e
      cases e
      exact absurd rfl h2
    · rw [hb, ha] at e
      cases e
      exact absurd rfl (h1 _ _)
theorem hpA_ok (hi : IntsAre vs ns) (hl : ns.length ≤ sizeLine) : HOk P w (hpA K cs a vs ns) s₁.heap := fun b u q => by
  rcases hpA_cases q with ⟨hb, rfl⟩ | ⟨rfl, _, rfl⟩
  · obtain ⟨p, hp, rfl⟩ := List.mem_map.mp hb
    exact hT p hp
  · exact ⟨ha, by rw [List.length_map]; exact hl, vs, _, vals_ints hi, ha⟩
theorem law_callG {CX : CXT} {k : Nat} {fa : Addr} {fd : FuncData} {x : Str} {sp : Sp}
    (KX : K.In s₁.heap) (hns : s₁.heap.Ns mainGlobals mg) (hb : s₁.heap.Ns builtinsNs mb) (hbb : ∀ x : Str, x ≠ "__name__" → mb x = bootBuiltins x) (hlim : s₁.heap.NoLimit) (hg : s₁.gens = #[])
    (nT : ∀ p ∈ cs, K.lookup p.2 = none) (C : ∀ p ∈ cs, PySem.W.CodeHd s₁.heap p.1 p.2)
    (hbm : ∃ (bm : Addr) (ob : Obj), mg "__builtins__" = some (.ref bm) ∧ bm ≠ builtinsNs ∧ s₁.heap.get? bm = some ob ∧ ob.cls = .type "module" ∧ ob.dict = some builtinsNs ∧ ob.data = .plain)
    (hi : IntsAre vs ns) (hl : ns.length ≤ sizeLine) (hr : Room k callerA)
    (F : ∀ base : Heap, K.In base → base.Ns mainGlobals mg → (∀ p ∈ cs, TabB base mg p.1 p.2) → FnG P w K mg base CX k fa fd [x] sp) (hbind : ∀ (s : Shared) (u : Value), BindsTo s fd ⟨[u], []⟩ [(x, u)])
    (hsp : ∀ H : Hp, (∀ p ∈ cs, H p.2 = some (.tbl #[])) → SqL K H a (ns.map V.int) → sp [.ref a] H (fun v _ => v = .bl true) fun _ _ _ => False)
    (hCX : ∀ H e s', CX [] H s₁ (fun _ _ _ => False) e s' → False) :
    codeAny (model P w) callerA (.call (.ref fa) ⟨[.ref a], []⟩) (fun r s' => r = .ok (.ret (.bool true)) ∧ OldK s₁.heap s'.heap ∧ s'.os = s₁.os ∧ AllBare s'.gens) s₁ := by
  generalize hH : hpA K cs a vs ns = H
  have free : ∀ {b : Addr} {o : Obj}, s₁.heap.get? b = some o → (∀ vs n, o.data ≠ .seq vs n) → o.data ≠ .fields #[] → H b = none := by
    intro b o e h1 h2
    rw [← hH]
    exact hpA_free ha hT e h1 h2
  have tab : ∀ p ∈ cs, H p.2 = some (.tbl #[]) := fun p hp => by rw [← hH]; exact hpA_tab (List.mem_map.mpr ⟨p, hp, rfl⟩)
  have hok : HOk P w H s₁.heap := by rw [← hH]; exact hpA_ok ha hT hi hl
  have base_of : ∀ {b : Addr} {o : Obj}, s₁.heap.get? b = some o → H b = none → (hidT s₁.heap H).get? b = some o := fun e n => hidT_get e n
  have nsK : ∀ {b : Addr} {m : Str → Option Value}, s₁.heap.Ns b m → (hidT s₁.heap H).Ns b m := by
    intro b m h
    obtain ⟨o, es, ep, e, d, r⟩ := h
    exact ⟨o, es, ep, base_of e (free e (by rw [d]; intro _ _ z; cases z) (by rw [d]; intro z; cases z)), d, r⟩
  have hKb : K.In (hidT s₁.heap H) := by
    intro b o e
    refine base_of (KX b o e) ?_
    cases q : H b with
    | none => rfl
    | some u =>
      rw [← hH] at q
      rcases hpA_cases q with ⟨hb, _⟩ | ⟨rfl, hn, _⟩
      · obtain ⟨p, hp, rfl⟩ := List.mem_map.mp hb
        rw [nT p hp] at e
        cases e
      · rw [hn] at e
        cases e
  have hS : SqL K H a (ns.map V.int) := by
    have lenV := hi.length
    cases hk : K.lookup a with
    | some o =>
      have e := KX a o hk
      rw [ha] at e
      cases e
      exact .inr ⟨_, vs.toArray, _, hk, rfl, rfl, rfl, by rw [List.size_toArray, lenV]; exact hl, by simpa using vals_ints hi⟩
    | none =>
      refine .inl (.inr ⟨{ cls := .type "list", data := .seq vs.toArray }, ?_⟩)
      rw [← hH]
      unfold hpA
      rw [if_neg fun hm => ?_, if_pos ⟨rfl, hk⟩]
      obtain ⟨p, hp, e⟩ := List.mem_map.mp hm
      have z := hT p hp
      rw [e, ha] at z
      have z' : Data.seq vs.toArray _ = Data.fields #[] := congrArg Obj.data (Option.some.inj z)
      cases z'
  have TB : ∀ p ∈ cs, TabB (hidT s₁.heap H) mg p.1 p.2 := by
    intro p hp
    obtain ⟨bm, ob, b1, b2, b3, b4, b5, b6⟩ := hbm
    obtain ⟨og, esg, epg, eg, dg, _⟩ := hns
    refine ⟨?_, ⟨bm, ob, b1, b2, fun q => ?_, fun q => ?_, base_of b3 (free b3 (by rw [b6]; intro _ _ z; cases z) (by rw [b6]; intro z; cases z)), b4, b5, b6⟩, fun z => ?_⟩
    · obtain ⟨o, us, file, tf, flags, tg, inF, text, tt, e1, r1, r2, r3, more⟩ := C p hp
      refine ⟨o, us, file, tf, flags, tg, inF, text, tt, base_of e1 (free e1 (by rw [r2]; intro _ _ z; cases z) (by rw [r2]; intro z; cases z; simp at r3)), r1, r2, r3, more⟩
    · rw [q, eg] at b3
      cases b3
      rw [dg] at b6
      cases b6
    · rw [q, hT p hp] at b3
      cases b3
      cases b6
    · rw [z, hT p hp] at eg
      cases eg
      cases dg
  have e0 : Env0 P w K mg (hidT s₁.heap H) callerA [] s₁ H :=
    ⟨rfl, ⟨hKb, nsK hns, ⟨mb, nsK hb, hbb⟩, let ⟨mc, h1, h2⟩ := hlim; ⟨mc, nsK h1, h2⟩⟩, fun b o e => of_hidT e, Nat.le_of_eq (hidT_size _ _), trivial, fun b hb => absurd (show b ∈ ([] : List Addr) from hb) (by simp), hok, .of_eq hg⟩
  refine codeAny_mono ((F _ hKb (nsK hns) TB).run callerA [] s₁ H ⟨[.ref a], []⟩ [.ref a] [.ref a] _ _ rfl hr e0 (hbind s₁ (.ref a)) (.cons rfl .nil) (hsp H tab hS)) fun r s' h => ?_
  cases r with
  | error e => exact (hCX H e s' h).elim
  | ok fl =>
    cases fl with
    | next => exact False.elim h
    | brk => exact False.elim h
    | cont => exact False.elim h
    | ret u =>
      obtain ⟨v, H', os, bare, un, hok', r', q⟩ := h
      cases (show v = .bl true from q)
      obtain rfl : u = Value.bool true := r'
      have stay : ∀ b o, b ∉ cs.map (·.2) → s₁.heap.get? b = some o → s'.heap.get? b = some o := by
        intro b o nb e
        cases q : H b with
        | none => exact un.keep b o e q (fun z => absurd (show b ∈ ([] : List Addr) from z) (by simp)) (by simp)
        | some u =>
          have q0 := q
          rw [← hH] at q
          rcases hpA_cases q with ⟨z, _⟩ | ⟨_, _, rfl⟩
          · exact absurd z nb
          · obtain ⟨e1, _⟩ := hok b _ q0
            obtain ⟨e2, _⟩ := hok' b _ (un.frzs b _ _ q0)
            rw [e] at e1
            cases e1
            exact e2
      have grown : ∀ p ∈ cs, ∃ more : Array Value, s'.heap.get? p.2 = some { cls := .none, data := .fields more } := fun p hp => by
        obtain ⟨more, z⟩ := un.tbls p.2 #[] (tab p hp)
        exact ⟨_, hok' p.2 _ z⟩
      refine ⟨rfl, ⟨fun b o e => ?_, fun b o e => ?_⟩, os, bare⟩
      · by_cases hb : b ∈ cs.map (·.2)
        · obtain ⟨p, hp, rfl⟩ := List.mem_map.mp hb
          obtain ⟨more, hm⟩ := grown p hp
          have z := hT p hp
          rw [e] at z
          cases z
          exact .inr (.inl ⟨((C p hp).tab (hT p hp)).isCodeTable, rfl, #[], more, rfl, by rw [Array.empty_append]; exact hm⟩)
        · exact .inl (stay b o hb e)
      · by_cases hb : b ∈ cs.map (·.2)
        · obtain ⟨p, hp, rfl⟩ := List.mem_map.mp hb
          obtain ⟨more, hm⟩ := grown p hp
          exact ⟨_, hm⟩
        · exact ⟨o, stay b o hb e⟩
end
/-- what is known of the law's promise at the head's heap h -/
def LawAtG (l : PySem.W.OpenLaw) (w : World) (K : PySem.W.Frag) (CX : CXT) (k n : Nat) (x : Str) (mg : Str → Option Value) (fa : Addr) (h : Heap) : Prop :=
  ∃ (fd : FuncData) (cs : List (Addr × Addr)) (sp : Sp), (∀ p ∈ cs, h.get? p.2 = some { cls := .none, data := .fields #[] }) ∧ (∀ p ∈ cs, K.lookup p.2 = none) ∧ (∀ p ∈ cs, PySem.W.CodeHd h p.1 p.2) ∧ (∀ (s : Shared) (u : Value), BindsTo s fd ⟨[u], []⟩ [(x, u)]) ∧
    (∀ (H : Hp) (a : Addr) (ns : List Int), ns.length ≤ n → (∀ z ∈ ns, Builtin.Int.intBits z ≤ 1048576) → (∀ p ∈ cs, H p.2 = some (.tbl #[])) → SqL K H a (ns.map V.int) → sp [.ref a] H (fun v _ => v = .bl true) fun _ _ _ => False) ∧
    ∀ base : Heap, K.In base → base.Ns mainGlobals mg → (∀ p ∈ cs, TabB base mg p.1 p.2) → FnG l.prog w K mg base CX k fa fd [x] sp
theorem walk_ofG {l : PySem.W.OpenLaw} {n k : Nat} {q : Program} {loose : List Str} {XP : (Str → Option Value) → Heap → Prop} {YP : World → Heap → Prop} {d : DefRec} {CX : World → CXT} {x : Str}
    (hn : l.most = some n) (hn2 : n ≤ sizeLine) (hdf : d.params.defaults = []) (hr : Room k callerA)
    (F : ∀ (w : World) (mg : Str → Option Value) (fa : Addr) (h : Heap), YP w h → h.Ns mainGlobals mg → mg d.name = some (.ref fa) → ∃ K : PySem.W.Frag, K.In h ∧ LawAtG l w K (CX w) k n x mg fa h)
    (hCX : ∀ (w : World) (H : Hp) (s : Shared) (e : Value) (s' : Shared), CX w [] H s (fun _ _ _ => False) e s' → False) :
    PySem.W.WalkO q loose XP YP l.row.toRowW d [] (fun f vs => PySem.call f vs) := by
  refine Att.attach_callB hn hdf fun w s₀ s₁ mg mb fa o pm cd doc a vs ns G Y ho hd hcd hmg hobj hints hlen hbits hg => ?_
  obtain ⟨K, KX, fd, cs, sp, hT, nT, C, hb, hsp, hF⟩ := F w mg fa _ Y G.T.g hmg
  exact law_callG hobj hT KX G.T.g G.T.b G.T.builtins G.T.nolimit hg nT C G.T.bmain hints (Nat.le_trans hlen hn2) hr hF hb (fun H hH hS => hsp H a ns hlen hbits hH hS) fun H e s' => hCX w H s₁ e s'
end DX

set_option maxHeartbeats 4000000
namespace DX
open PySem PySem.Spec PyProof.Rows L2 PySem.W
open He (ga ma)
/-! ### making an error of a class with one field -/
theorem mk1 {P : Program} {w : World} {K : Frag} {mg : Str → Option Value} {base : Heap} {d : ExD} {v n : Str} {p0 p1 p2 p3 p4 q1 q2 q3 q4 q5 : Pos} (h : ExH P K mg d) (hfs : n ∈ d.fs)
    (hst : defBody d.st = [.Expr (.Call (.Attribute (.Call (.Name "super" p0) [] [] p1) "__init__" p2) [.Name v q1] [] p3) p4, .Assign [.Attribute (.Name "self" q2) n q3] (.Name v q4) q5])
    (KS : KScope ["self", v] (defScope d.st)) (hks : (defScope d.st).names.lookup ("super" : Str) = some .globalImplicit) (hkc : (defScope d.st).names.lookup ("__class__" : Str) = some .free) (hms : mg "super" = none)
    (top : (P.main.scope.names.lookup ("super" : Str)).isSome = false) (har : ∃ a, ((defArgs d.st).posonlyargs ++ (defArgs d.st).args).head? = some a ∧ a.arg = "self")
    (hbind : ∀ (kV doc pm : Value) (an : Option Addr) (cda : Addr) (ct : Value) (cc : Addr) (us : List Value), us.length = 2 → bindArgs (ksFn "__init__" (d.x ++ ".__init__") (defArgs d.st) (defBody d.st) (defScope d.st) .none kV doc pm an (.ref cda) ct cc) ⟨us, []⟩ = pure ((["self", v] : List Str).zip us))
    (hi : ∀ L f cda cc, interactive (ksEnv (d.x ++ ".__init__") (defScope d.st) L f (.ref cda) cc) = false)
    (hs : ∀ L f cda cc, swapsWith (.Call (.Attribute (.Call (.Name "super" p0) [] [] p1) "__init__" p2) [.Name v q1] [] p3) none p4.line (ksEnv (d.x ++ ".__init__") (defScope d.st) L f (.ref cda) cc) = pure false)
    {pl : Env → Sem Bool} (he : ∀ L f cda cc, eval (.Call (.Attribute (.Call (.Name "super" p0) [] [] p1) "__init__" p2) [.Name v q1] [] p3) (ksEnv (d.x ++ ".__init__") (defScope d.st) L f (.ref cda) cc) = (do
      let ov ← attributeBase (.Call (.Name "super" p0) [] [] p1) "__init__" (ksEnv (d.x ++ ".__init__") (defScope d.st) L f (.ref cda) cc) (eval (.Call (.Name "super" p0) [] [] p1) (ksEnv (d.x ++ ".__init__") (defScope d.st) L f (.ref cda) cc))
      standAt p2.atName
      let (fx, first) ← holding [ov] (getMethod ov "__init__" (pl (ksEnv (d.x ++ ".__init__") (defScope d.st) L f (.ref cda) cc)))
      callWith p3 fx first (backTo p3 (starEach [.Name v q1] (ksEnv (d.x ++ ".__init__") (defScope d.st) L f (.ref cda) cc))) []))
    (hs2 : ∀ L f cda cc, swapsWith (.Name v q4) (some (.Attribute (.Name "self" q2) n q3)) q5.line (ksEnv (d.x ++ ".__init__") (defScope d.st) L f (.ref cda) cc) = pure false)
    (hdv : (v == ("__debug__" : Str)) = false := by decide) (hcv : (v == ("__classdict__" : Str)) = false := by decide) : MkX P w K mg base 1 d.x [n] := by
  obtain ⟨oc, od, kV, doc, pm, an, cda, ct, osl, cc, lk, hcd, hcell, hcode⟩ := h.fn
  refine ⟨h.T, h.glo, List.nodup_cons.mpr ⟨List.not_mem_nil, List.nodup_nil⟩, by show 1 ≤ 900; decide, _, _, ["self", v], h.iC, h.tI, Binds.all fun us hl => hbind kV doc pm an cda ct cc us hl, ?_⟩
  have S : SuK P K (ga K d.x) (ma K (ga K d.x) "__init__") cc cda "self" := ⟨h.T, ⟨_, _, _, _, lk, har⟩, hcell, hcode, h.op, h.sup, h.ve, h.self, top⟩
  rw [hst] at lk ⊢
  refine fn_su (k := 0) (CX := L2.CX P w) (w := w) (mg := mg) (base := base) (ps := ["self", v]) (sp := spX (ga K d.x) [n]) S lk hcd KS (fun vs H Q E hsp => ?_) hks hms hkc rfl (fun L => hi L _ _ _) (fun L => hs L _ _ _) (pl := pl) (fun L => he L _ _ _) (fun L => rfl) (fun L => rfl) fun A outer s H vs Q E hr hsp => ?_
  · obtain ⟨a, ys, rfl, hl, _⟩ := hsp
    show ys.length + 1 = 2
    rw [hl]
    rfl
  · obtain ⟨a, ys, rfl, hl, ea, hq⟩ := hsp
    match ys, hl with
    | [y], _ =>
      have v1 : ∀ q, PE (cxK (L2.CX P w) P w K mg base ["self", v] (d.x ++ ".__init__") (defScope d.st) (ma K (ga K d.x) "__init__") (.ref cda) cc A outer s H E) (.Name v q) (tVar 1) := fun q => pe_var (i := 1) rfl (.inl (KS.par v (by simp))) hdv hcv
      have v0 : ∀ q, PE (cxK (L2.CX P w) P w K mg base ["self", v] (d.x ++ ".__init__") (defScope d.st) (ma K (ga K d.x) "__init__") (.ref cda) cc A outer s H E) (.Name "self" q) (tVar 0) := fun q => pe_var (i := 0) rfl (.inl (KS.par "self" (by simp)))
      refine ⟨⟨a, rfl, ea⟩, ⟨_, pa_cons (v1 _) pa_nil, ⟨y, rfl, rfl, by show 1 ≤ 1000; decide⟩⟩, _, pss_one (ps_ost (v0 _) (v1 _) (hs2 _ _ _ _)), ?_⟩
      exact ⟨y, rfl, .ref a, rfl, a, ga K d.x, rfl, h.T, h.nof n hfs, .inl ⟨ea, fun dx hdx hne => hq dx hdx hne⟩⟩
/-! ### _law_refusal by equations -/
@[simp] theorem eIsX_self (a : Addr) (b : Bool) (ρ : DL.En) : eIsX 0 a b (.val (.row a) :: ρ) = pure (DL.dB b) := by
  unfold eIsX
  simp
@[simp] theorem eXpo_self (a : Addr) (y : PyData) (ρ : DL.En) : eXpo 0 a (some y) (.val (.row a) :: ρ) = pure (.dat y) := by
  unfold eXpo eXp
  simp
theorem eMeth1_list (op : DL.D → List DL.D → Option DL.D) (fo : DL.En → DL.M DL.D) (fa : DL.En → DL.M (List DL.D)) (ρ : DL.En) (xs : List PyData) (h : fo ρ = pure (.dat (.list xs))) : eMeth1 op fo fa ρ = (do
    let ds ← fa ρ
    DL.lft (op (.dat (.list xs)) ds)) := by
  unfold eMeth1
  rw [h]
  rfl
end DX

set_option maxHeartbeats 4000000
namespace DX
open PySem PySem.Spec PyProof.Rows L2
open He (ga ba eqO eqO_ok frT asD obsT valT SaysX tabsB cT FnW frT_none frT_in emptyTab_eq emptyTab Fa DefD Defn)
/-! ### the head of a law with errors -/
noncomputable abbrev AlY : Type := He.AlX × List FnW
def asY (g : Addr → Option Obj) (n : Nat) : List Addr := asD g n ++ [cStatics]
def obsY (n : Nat) (fa : List Fa) (fn : List DefD) (tf : List Defn) (ex : PySem.W.Frag → Bool) (xs : List ExD) (g : Addr → Option Obj) : He.AlX × List FnW :=
  ((obsT fa fn [] (frT g (asY g n)), ex (frT g (asY g n)) && tabsB g tf (frT g (asY g n))), xs.map fun d => fnQ (frT g (asY g n)) d.x)
def valY (fn : List DefD) (xs : List ExD) (w : World) : He.AlX × List FnW := (He.valX fn [] w, xs.map ExD.val)
def SaysY (fa : List Fa) (fn : List DefD) (tf : List Defn) (ex : PySem.W.Frag → Bool) (xs : List ExD) (w : World) (h : Heap) (K : PySem.W.Frag) : Prop :=
  SaysX fa fn [] tf ex w h K ∧ xs.map (fun d => fnQ K d.x) = xs.map ExD.val
theorem saysY_of {n : Nat} {fa : List Fa} {fn : List DefD} {tf : List Defn} {ex : PySem.W.Frag → Bool} {xs : List ExD} {w : World} {h : Heap} (e : obsY n fa fn tf ex xs h.get? = valY fn xs w) : SaysY fa fn tf ex xs w h (frT h.get? (asY h.get? n)) := by
  have e1 : obsT fa fn [] (frT h.get? (asY h.get? n)) = valT fn [] w := congrArg (fun z : He.AlX × List FnW => z.1.1) e
  have e2 : (ex (frT h.get? (asY h.get? n)) && tabsB h.get? tf (frT h.get? (asY h.get? n))) = true := congrArg (fun z : He.AlX × List FnW => z.1.2) e
  have e3 : xs.map (fun d => fnQ (frT h.get? (asY h.get? n)) d.x) = xs.map ExD.val := congrArg (fun z : He.AlX × List FnW => z.2) e
  obtain ⟨h1, h2⟩ := ba e2
  have tab : ∀ p ∈ tf, PySem.W.codeHdIn (frT h.get? (asY h.get? n)) (cT (frT h.get? (asY h.get? n)) p).1 (cT (frT h.get? (asY h.get? n)) p).2 = true ∧ ∃ o, h.get? (cT (frT h.get? (asY h.get? n)) p).2 = some o ∧ emptyTab o = true := fun p hp => by
    obtain ⟨h3, h4⟩ := ba (List.all_eq_true.mp h2 p hp)
    refine ⟨h3, ?_⟩
    split at h4
    · rename_i o q
      exact ⟨o, q, h4⟩
    · cases h4
  refine ⟨⟨e1, h1, fun p hp => (tab p hp).1, fun p hp => ?_, fun p hp => ?_⟩, e3⟩
  · obtain ⟨_, o, q, z⟩ := tab p hp
    exact frT_none q z
  · obtain ⟨_, o, q, z⟩ := tab p hp
    rw [q, emptyTab_eq z]
def hookY (n : Nat) (fa : List Fa) (fn : List DefD) (tf : List Defn) (ex : PySem.W.Frag → Bool) (xs : List ExD) : PySem.W.Hook where
  α := He.AlX × List FnW
  obs := fun s => obsY n fa fn tf ex xs s.heap.get?
  val := fun w => valY fn xs w
  says := fun w h => ∃ K : PySem.W.Frag, K.In h ∧ SaysY fa fn tf ex xs w h K
  of := fun _ _ e => ⟨_, frT_in, saysY_of e⟩
  keeps := fun _ _ _ ⟨K, hK, c, q⟩ k => ⟨K, PySem.W.Frag.In.keeps hK k, ⟨c.t, c.more, c.hd, c.out, fun p hp => k _ _ (c.empty p hp)⟩, q⟩
theorem obsY_eq {n : Nat} {fa : List Fa} {fn : List DefD} {tf : List Defn} {ex : PySem.W.Frag → Bool} {xs : List ExD} {g : Addr → Option Obj} {s : Shared} (h : ∀ a, g a = s.heap.get? a) : obsY n fa fn tf ex xs g = (hookY n fa fn tf ex xs).obs s := by
  have e : g = s.heap.get? := funext h
  rw [e] <;> rfl
theorem SaysY.fn {fa : List Fa} {fn : List DefD} {tf : List Defn} {ex : PySem.W.Frag → Bool} {xs : List ExD} {w : World} {h : Heap} {K : PySem.W.Frag} (c : SaysY fa fn tf ex xs w h K) {i : Nat} {d : ExD} (hd : xs[i]? = some d) : fnQ K d.x = d.val := by
  have e := congrArg (fun l : List FnW => l[i]?) c.2
  simp only [List.getElem?_map, hd, Option.map_some] at e
  exact Option.some.inj e
/-! ### the facts by one Bool -/
def excB (K : PySem.W.Frag) (D : Addr) : Bool :=
  eqO (PySem.W.findIn K (.ref D) "__getattribute__") (some (some (.builtin "BaseException.__getattribute__"))) && (eqO (PySem.W.findIn K (.ref D) "__getattr__") (some none) && (decide (PySem.W.subIn K (.ref D) (.type "BaseException") = some true) && (PySem.W.hasDictIn K D &&
  (eqO (PySem.W.findIn K (.ref D) "__class__") (some (some (.builtin "object.__class__"))) && (eqO (PySem.W.specialIn K (.builtin "object.__class__") "__get__") (some (some (.builtin "getset_descriptor.__get__"))) && (decide (PySem.W.takesIn K (.builtin "object.__class__") = some true) && decide (PySem.W.mroIn K D (.type "object") = some true)))))))
theorem excB_ok {K : PySem.W.Frag} {D : Addr} (h : excB K D = true) : ExcC K D ∧ XfC K D := by
  unfold excB at h
  obtain ⟨b1, h⟩ := ba h
  obtain ⟨b2, h⟩ := ba h
  obtain ⟨b3, h⟩ := ba h
  obtain ⟨b4, h⟩ := ba h
  obtain ⟨b5, h⟩ := ba h
  obtain ⟨b6, h⟩ := ba h
  obtain ⟨b7, b8⟩ := ba h
  exact ⟨⟨eqO_ok b1, eqO_ok b2, of_decide_eq_true b3, b4, eqO_ok b5, eqO_ok b6, of_decide_eq_true b7, of_decide_eq_true b8⟩, ⟨eqO_ok b1, eqO_ok b2, of_decide_eq_true b3, b4⟩⟩
def refB (K : PySem.W.Frag) (cs kinds flds : List Str) : Bool :=
  (kinds.all fun n => eqO (PySem.W.nsIn K mainGlobals n) (some (some (.ref (ga K n))))) && (eqO (PySem.W.nsIn K mainGlobals "LeapError") (some (some (.ref (ga K "LeapError")))) && cs.all fun c =>
    excB K (ga K c) && ((flds.all fun n => eqO (PySem.W.findIn K (.ref (ga K c)) n) (some none)) && ((kinds.all fun n => decide (PySem.W.kitOne K (.ref (ga K c)) (.ref (ga K n)) = some (c == n))) &&
      (decide (PySem.W.kitOne K (.ref (ga K c)) (.type "ValueError") = some true) && decide (PySem.W.exmOne K (.ref (ga K c)) (.ref (ga K "LeapError")) = some true)))))
theorem refB_ok {K : PySem.W.Frag} {h : Heap} {mg : Str → Option Value} {cs kinds flds : List Str} (X : K.In h) (G : h.Ns mainGlobals mg) (b : refB K cs kinds flds = true) :
    RefT K mg cs kinds flds ∧ ∃ CL, mg "LeapError" = some (.ref CL) ∧ ∀ c ∈ cs, PySem.W.exmOne K (.ref (ga K c)) (.ref CL) = some true := by
  unfold refB at b
  obtain ⟨b1, b⟩ := ba b
  obtain ⟨b2, b3⟩ := ba b
  have glo : ∀ n, eqO (PySem.W.nsIn K mainGlobals n) (some (some (.ref (ga K n)))) = true → mg n = some (.ref (ga K n)) := fun n e => He.glo_ok X G (x := n) e
  have key : ∀ c ∈ cs, _ := fun c hc => ba (List.all_eq_true.mp b3 c hc)
  refine ⟨⟨fun c hc => (excB_ok (key c hc).1).1, fun c hc => (excB_ok (key c hc).1).2, fun c hc n hn => ?_, fun c hc n hn => ?_, fun c hc => ?_, fun n hn => glo n (List.all_eq_true.mp b1 n hn)⟩, _, glo _ b2, fun c hc => ?_⟩
  · exact eqO_ok (List.all_eq_true.mp (ba (key c hc).2).1 n hn)
  · exact of_decide_eq_true (List.all_eq_true.mp (ba (ba (key c hc).2).2).1 n hn)
  · exact of_decide_eq_true (ba (ba (ba (key c hc).2).2).2).1
  · exact of_decide_eq_true (ba (ba (ba (key c hc).2).2).2).2
end DX

set_option maxHeartbeats 4000000
namespace DX
open PySem PySem.Spec PyProof.Rows L2 PySem.W
open He (ga ma)
/-! ### making an error of a class with two fields -/
theorem mk2 {P : Program} {w : World} {K : Frag} {mg : Str → Option Value} {base : Heap} {d : ExD} {v v2 n n2 : Str} {p0 p1 p2 p3 p4 q1 q1' q2 q3 q4 q5 r2 r3 r4 r5 : Pos} (h : ExH P K mg d) (hfs : n ∈ d.fs) (hfs2 : n2 ∈ d.fs)
    (hst : defBody d.st = [.Expr (.Call (.Attribute (.Call (.Name "super" p0) [] [] p1) "__init__" p2) [.Name v q1, .Name v2 q1'] [] p3) p4, .Assign [.Attribute (.Name "self" q2) n q3] (.Name v q4) q5, .Assign [.Attribute (.Name "self" r2) n2 r3] (.Name v2 r4) r5])
    (KS : KScope ["self", v, v2] (defScope d.st)) (hks : (defScope d.st).names.lookup ("super" : Str) = some .globalImplicit) (hkc : (defScope d.st).names.lookup ("__class__" : Str) = some .free) (hms : mg "super" = none)
    (top : (P.main.scope.names.lookup ("super" : Str)).isSome = false) (har : ∃ a, ((defArgs d.st).posonlyargs ++ (defArgs d.st).args).head? = some a ∧ a.arg = "self")
    (hbind : ∀ (kV doc pm : Value) (an : Option Addr) (cda : Addr) (ct : Value) (cc : Addr) (us : List Value), us.length = 3 → bindArgs (ksFn "__init__" (d.x ++ ".__init__") (defArgs d.st) (defBody d.st) (defScope d.st) .none kV doc pm an (.ref cda) ct cc) ⟨us, []⟩ = pure ((["self", v, v2] : List Str).zip us))
    (hi : ∀ L f cda cc, interactive (ksEnv (d.x ++ ".__init__") (defScope d.st) L f (.ref cda) cc) = false)
    (hs : ∀ L f cda cc, swapsWith (.Call (.Attribute (.Call (.Name "super" p0) [] [] p1) "__init__" p2) [.Name v q1, .Name v2 q1'] [] p3) none p4.line (ksEnv (d.x ++ ".__init__") (defScope d.st) L f (.ref cda) cc) = pure false)
    {pl : Env → Sem Bool} (he : ∀ L f cda cc, eval (.Call (.Attribute (.Call (.Name "super" p0) [] [] p1) "__init__" p2) [.Name v q1, .Name v2 q1'] [] p3) (ksEnv (d.x ++ ".__init__") (defScope d.st) L f (.ref cda) cc) = (do
      let ov ← attributeBase (.Call (.Name "super" p0) [] [] p1) "__init__" (ksEnv (d.x ++ ".__init__") (defScope d.st) L f (.ref cda) cc) (eval (.Call (.Name "super" p0) [] [] p1) (ksEnv (d.x ++ ".__init__") (defScope d.st) L f (.ref cda) cc))
      standAt p2.atName
      let (fx, first) ← holding [ov] (getMethod ov "__init__" (pl (ksEnv (d.x ++ ".__init__") (defScope d.st) L f (.ref cda) cc)))
      callWith p3 fx first (backTo p3 (starEach [.Name v q1, .Name v2 q1'] (ksEnv (d.x ++ ".__init__") (defScope d.st) L f (.ref cda) cc))) []))
    (hs2 : ∀ L f cda cc, swapsWith (.Name v q4) (some (.Attribute (.Name "self" q2) n q3)) q5.line (ksEnv (d.x ++ ".__init__") (defScope d.st) L f (.ref cda) cc) = pure false)
    (hs3 : ∀ L f cda cc, swapsWith (.Name v2 r4) (some (.Attribute (.Name "self" r2) n2 r3)) r5.line (ksEnv (d.x ++ ".__init__") (defScope d.st) L f (.ref cda) cc) = pure false)
    (hne : n ≠ n2) (hdv : (v == ("__debug__" : Str)) = false := by decide) (hcv : (v == ("__classdict__" : Str)) = false := by decide) (hdv2 : (v2 == ("__debug__" : Str)) = false := by decide) (hcv2 : (v2 == ("__classdict__" : Str)) = false := by decide) : MkX P w K mg base 1 d.x [n, n2] := by
  obtain ⟨oc, od, kV, doc, pm, an, cda, ct, osl, cc, lk, hcd, hcell, hcode⟩ := h.fn
  refine ⟨h.T, h.glo, ?_, by show 2 ≤ 900; decide, _, _, ["self", v, v2], h.iC, h.tI, Binds.all fun us hl => hbind kV doc pm an cda ct cc us hl, ?_⟩
  · exact List.nodup_cons.mpr ⟨fun hm => hne (by simpa using hm), List.nodup_cons.mpr ⟨List.not_mem_nil, List.nodup_nil⟩⟩
  have S : SuK P K (ga K d.x) (ma K (ga K d.x) "__init__") cc cda "self" := ⟨h.T, ⟨_, _, _, _, lk, har⟩, hcell, hcode, h.op, h.sup, h.ve, h.self, top⟩
  rw [hst] at lk ⊢
  refine fn_su (k := 0) (CX := L2.CX P w) (w := w) (mg := mg) (base := base) (ps := ["self", v, v2]) (sp := spX (ga K d.x) [n, n2]) S lk hcd KS (fun vs H Q E hsp => ?_) hks hms hkc rfl (fun L => hi L _ _ _) (fun L => hs L _ _ _) (pl := pl) (fun L => he L _ _ _) (fun L => rfl) (fun L => rfl) fun A outer s H vs Q E hr hsp => ?_
  · obtain ⟨a, ys, rfl, hl, _⟩ := hsp
    show ys.length + 1 = 3
    rw [hl]
    rfl
  · obtain ⟨a, ys, rfl, hl, ea, hq⟩ := hsp
    match ys, hl with
    | [y, y2], _ =>
      have v2' : ∀ q, PE (cxK (L2.CX P w) P w K mg base ["self", v, v2] (d.x ++ ".__init__") (defScope d.st) (ma K (ga K d.x) "__init__") (.ref cda) cc A outer s H E) (.Name v2 q) (tVar 2) := fun q => pe_var (i := 2) rfl (.inl (KS.par v2 (by simp))) hdv2 hcv2
      have v1 : ∀ q, PE (cxK (L2.CX P w) P w K mg base ["self", v, v2] (d.x ++ ".__init__") (defScope d.st) (ma K (ga K d.x) "__init__") (.ref cda) cc A outer s H E) (.Name v q) (tVar 1) := fun q => pe_var (i := 1) rfl (.inl (KS.par v (by simp))) hdv hcv
      have v0 : ∀ q, PE (cxK (L2.CX P w) P w K mg base ["self", v, v2] (d.x ++ ".__init__") (defScope d.st) (ma K (ga K d.x) "__init__") (.ref cda) cc A outer s H E) (.Name "self" q) (tVar 0) := fun q => pe_var (i := 0) rfl (.inl (KS.par "self" (by simp)))
      refine ⟨⟨a, rfl, ea⟩, ⟨_, pa_cons (v1 _) (pa_cons (v2' _) pa_nil), ⟨y, rfl, y2, rfl, rfl, by show 2 ≤ 1000; decide⟩⟩, _, pss_cons (ps_ost (v0 _) (v1 _) (hs2 _ _ _ _)) (pss_one (ps_ost (v0 _) (v2' _) (hs3 _ _ _ _))), ?_⟩
      refine ⟨y, rfl, .ref a, rfl, a, ga K d.x, rfl, h.T, h.nof n hfs, .inl ⟨ea, fun dx hdx hne => ?_⟩⟩
      refine ⟨y2, rfl, .ref a, rfl, a, ga K d.x, rfl, h.T, h.nof n2 hfs2, .inr ⟨dx, [(n, y)], upd_same, by rw [upd_ne hne, upd_same], by show 1 ≤ 900; decide, ?_⟩⟩
      have e : upd (upd (upd H dx (exd dx [(n, y)])) a (exo a (ga K d.x) (some dx))) dx (exd dx [(n2, y2), (n, y)]) = upd (upd H dx (exd dx [(n2, y2), (n, y)])) a (exo a (ga K d.x) (some dx)) := by
        funext b
        by_cases h1 : b = dx
        · rw [h1, upd_same, upd_ne hne, upd_same]
        · rw [upd_ne h1]
          by_cases h2 : b = a
          · rw [h2, upd_same, upd_same]
          · rw [upd_ne h2, upd_ne h2, upd_ne h1, upd_ne h1]
      rw [e]
      exact hq dx hdx hne
end DX

set_option maxHeartbeats 4000000
/-! ### min of two data -/
namespace DX
open PySem PySem.Spec PyProof.Rows L2 DL
open PySem.W hiding min_list_data
section
variable {prog : Program} {w : World} {A : Around} {E : Value → Shared → Prop} {s : Shared}
theorem call_min_pairH {a b : Value} {Q : Value → Shared → Prop}
    (h : wpAny (model prog w) A.in1 (pyIter (.ref s.heap.objs.size)) (fun it s₂ => ∃ I fp wr G n P St H bt, it = .ref I ∧ WalksS prog w A.in1 I fp wr G n P St ∧ St 0 s₂ ∧ (∀ b ∈ fp, b < s₂.heap.objs.size) ∧ 0 < n ∧
      (∀ b o, H.get? b = some o → b ∉ wr) ∧ (∀ b o, H.get? b = some o → s₂.heap.get? b = some o) ∧ CmpIn prog w A.in1 .Lt H P bt ∧ ∀ v s', P (argBest bt (n - 1)) v → Moved wr G s₂ s' → Q v s') E
      { s with heap := s.heap.push { cls := .type "tuple", data := .seq #[a, b] } }) :
    wpAny (model prog w) A (call (.builtin "min") [a, b]) Q E s := by
  have hname : (toString "min" ++ toString ".loop" : String) = "min.loop" := by decide
  refine call_function_tree F.kind_min F.plain_min F.entry_min (F.args_min2 _ _) ?_
  show wpAny _ A.in1 (Builtin.Builtins.bindParams "min" ["key", "default"] 0 ⟨[], []⟩ >>= _) _ _ s
  refine wpAny_bind (wpAny_of_eq (show Builtin.Builtins.bindParams "min" ["key", "default"] 0 ⟨[], []⟩ = pure [none, none] from rfl) ?_)
  show wpAny _ A.in1 (newTuple [a, b] >>= _) _ _ s
  refine wpAny_bind (wpAny_newObj_type ?_)
  refine wpAny_bind (wpAny_mono h (fun it s₂ h₂ => ?_) fun _ _ e => e)
  obtain ⟨I, fp, wr, G, n, P, St, H, bt, rfl, W, hst, hfp, hn, hw, hkeep, hcmp, hQ⟩ := h₂
  refine wpAny_bind (wpAny_newObj_type ?_)
  have hSf : s₂.heap.objs.size ∉ fp := fun hm => Nat.lt_irrefl _ (hfp _ hm)
  rw [hname]
  refine wpAny_pure ⟨plainId_quiet F.plain_min_loop _, codeAny_min_loop_firstH W H hw bt hcmp s₂.heap.objs.size hSf (fresh_in hkeep) _ hn (fun b o e => Heap.get?_push_of_some _ (hkeep b o e)) (W.frame 0 s₂ _ s₂.toks hst (Nat.le_refl _) fun b _ o e => Heap.get?_push_of_some _ e) (Heap.get?_push_size _ rfl) fun v s' hP hm => ?_⟩
  exact hQ v s' hP (Moved.drop_new (tk := s₂.toks) hm (Nat.le_refl _))
theorem min_pair_data {a b : Value} {x y : PyData} {as : List Addr} {Q : Value → Shared → Prop} (hh : A.handled = none) (hr : ReadsAll s.heap [a, b] [x, y] as) (ha : AlikeAll [x, y]) (hu : A.units + 1 + PyData.depthAll [x, y] < cLine)
    (h : ∀ (i : Nat) v h' tk bs, [a, b][i]? = some v → Reads h' v (minD x [y]) bs → (∀ b o, s.heap.get? b = some o → h'.get? b = some o) → Q v { s with heap := h', toks := tk }) :
    wpAny (model prog w) A (call (.builtin "min") [a, b]) Q E s := by
  have k0 : ∀ c o, s.heap.get? c = some o → (s.heap.push { cls := .type "tuple", data := .seq #[a, b] }).get? c = some o := fun c o e => Heap.get?_push_of_some _ e
  have hr' : ReadsAll (s.heap.push { cls := .type "tuple", data := .seq #[a, b] }) (#[a, b] : Array Value).toList [x, y] as := PyProof.Rows.ReadsAll.keeps k0 hr
  have hl : (s.heap.push { cls := .type "tuple", data := .seq #[a, b] }).IsTuple s.heap.objs.size #[a, b] := ⟨_, Heap.get?_push_size _ rfl, rfl, ⟨_, rfl⟩⟩
  refine call_min_pairH (iter_tupleW (A := A.in1) (s := { s with heap := s.heap.push { cls := .type "tuple", data := .seq #[a, b] } }) hh hl fun s₂ e W st hfp hw hk => ?_)
  refine ⟨_, _, _, _, _, _, _, (s.heap.push { cls := .type "tuple", data := .seq #[a, b] }), _, rfl, W, st, hfp, by show 0 < 2; decide, hw, hk, cmpIn_lt (A := A.in1) (s := { s with heap := s.heap.push { cls := .type "tuple", data := .seq #[a, b] } }) hr' ha (by show A.units + 1 + _ < _; exact hu), fun v s' hP m => ?_⟩
  obtain ⟨h', tk, rfl, hk'⟩ := moved_old e rfl m
  obtain ⟨bs, r, _, _, _⟩ := readsAll_atA hr' _ v hP
  have e2 := (argBest_fold dataLt PyData.none x [y] 1 (Nat.le_refl _)).2
  rw [show [y].take 1 = [y] from rfl] at e2
  refine h _ v h' tk bs (by simpa using hP) (reads_keeps hk' (by unfold minD; rw [← e2]; exact r)) fun c o ec => hk' c o (k0 c o ec)
end
section
variable {X : Cx}
def g_min2 : List D → Option D
  | [.dat x, .dat y] => if alikeL [x, y] = true then some (.dat (W.minD x [y])) else none
  | _ => none
theorem dc_min2 (hc : X.calm = true) (hu : X.A.units + 64 < cLine) : DCall X (.builtin "min") g_min2 := by
  intro pins s σ H vs us Q I r h
  obtain ⟨F, ds, d, sf, pr, e, q⟩ := h
  unfold g_min2 at e
  split at e
  · split at e
    · rename_i x y hz
      cases e
      obtain ⟨ha, hd⟩ := alikeL_ok hz
      obtain ⟨v, u, rfl, r1, r2⟩ := paired2 pr
      obtain ⟨v', u', rfl, w1, w2⟩ := vals2 r
      obtain ⟨as1, q1⟩ := rd_reads I sf r1 w1
      obtain ⟨as2, q2⟩ := rd_reads I sf r2 w2
      refine min_pair_data (I.ok.hd hc) (.cons q1 (.cons q2 .nil)) ha (by omega) fun i u h' tk bs eu rd hk => ?_
      exact best_ok I sf (.cons r1 (.cons r2 .nil)) r ha (fold_mem (fun a y => W.dataLt y a) _ _) eu rd hk q
    · cases e
  · cases e
end
end DX

set_option maxHeartbeats 4000000
/-! ### sums that begin with a bool; repr of a tuple, a list or an int, where no repr is under way -/
namespace DX
open PySem PySem.Spec PyProof.Rows L2 DL
section
variable {X : Cx}
def opAddB : D → D → Option D
  | .dat (.bool b), .dat (.int j) => some (.dat (.int ((if b = true then 1 else 0) + j)))
  | x, y => opAdd x y
def opSubB : D → D → Option D
  | .dat (.bool b), .dat (.int j) => some (.dat (.int ((if b = true then 1 else 0) - j)))
  | x, y => opSub x y
theorem dop_addB : DOp X (binaryOp .Add) opAddB := by
  intro pins s σ H x y v u Q I rx ry h
  obtain ⟨F, dx, dy, d, sf, hx, hy, e, q⟩ := h
  unfold opAddB at e
  split at e
  · rename_i b j
    cases e
    rw [Dp.bl_inv hx] at rx; rw [Dp.int_inv hy] at ry
    cases rx
    obtain ⟨t, rfl⟩ := ry
    exact IntBool.add_bool_int ⟨.int ((if b = true then 1 else 0) + j), H, I.tok _, ⟨_, rfl⟩, q _ F H (.refl sf) (.int _)⟩
  · exact dop_add pins s σ H x y v u Q I rx ry ⟨F, dx, dy, d, sf, hx, hy, e, q⟩
theorem dop_subB : DOp X (binaryOp .Sub) opSubB := by
  intro pins s σ H x y v u Q I rx ry h
  obtain ⟨F, dx, dy, d, sf, hx, hy, e, q⟩ := h
  unfold opSubB at e
  split at e
  · rename_i b j
    cases e
    rw [Dp.bl_inv hx] at rx; rw [Dp.int_inv hy] at ry
    cases rx
    obtain ⟨t, rfl⟩ := ry
    exact IntBool.sub_bool_int ⟨.int ((if b = true then 1 else 0) - j), H, I.tok _, ⟨_, rfl⟩, q _ F H (.refl sf) (.int _)⟩
  · exact dop_sub pins s σ H x y v u Q I rx ry ⟨F, dx, dy, d, sf, hx, hy, e, q⟩
def g_reprX : List D → Option D
  | [.dat (.tuple xs)] => if reprOk (.tuple xs) then some (.dat (.str (PyData.shown (.tuple xs)))) else none
  | [.dat (.list xs)] => if reprOk (.list xs) then some (.dat (.str (PyData.shown (.list xs)))) else none
  | [.dat (.int i)] => if i.natAbs.log2 < 1920 then some (.dat (.str (toString i))) else none
  | _ => none
theorem dc_reprX (hG : X.A.guards = some []) (hu : X.A.units + 64 < cLine) : DCall X (.builtin "repr") g_reprX := by
  intro pins s σ H vs us Q I r h
  obtain ⟨F, ds, d, sf, pr, e, q⟩ := h
  have key : ∀ x : PyData, (∀ as u, Reads s.heap u x as → ∃ a, u = .ref a) → ds = [.dat x] → (if reprOk x then some (D.dat (.str (PyData.shown x))) else none) = some d → wpAny (model X.prog X.w) X.A (call (.builtin "repr") us) (EP X pins σ Q) X.xe s := fun x hr hds e' => by
    subst hds
    by_cases hz : reprOk x = true
    · rw [if_pos hz] at e'
      cases e'
      unfold reprOk at hz
      simp only [Bool.and_eq_true, Bool.not_eq_true', decide_eq_true_eq] at hz
      obtain ⟨h1, h2, h3, h4⟩ := hz
      obtain ⟨v, rfl, rv⟩ := paired1 pr
      obtain ⟨u, rfl, ru⟩ := r.one
      obtain ⟨as, rd⟩ := rd_reads I sf rv ru
      obtain ⟨a, rfl⟩ := hr _ _ rd
      refine repr_of_reads' (h₀ := s.heap) rd h1 (fun hh => ?_) hG (by omega) (fun _ _ e => e) (fun h' u tk hk => ?_) h4
      · rw [h2] at hh; cases hh
      · exact ⟨.str _, H, I.kept hk, ⟨_, rfl⟩, q _ F H (.refl sf) (.str _)⟩
    · rw [if_neg hz] at e'
      cases e'
  unfold g_reprX at e
  split at e
  · exact key _ (fun as u rd => isRef_of_reads rd rfl) rfl e
  · exact key _ (fun as u rd => isRef_of_reads rd rfl) rfl e
  · split at e
    · rename_i hz
      cases e
      obtain ⟨v, rfl, rv⟩ := paired1 pr
      rw [Dp.int_inv rv] at r
      exact SkE.call_repr_int pins s σ H _ us Q I r ⟨_, rfl, hz, q _ F H (.refl sf) (.str _)⟩
    · cases e
  · cases e
end
end DX

set_option maxHeartbeats 4000000
/-! ### lambdas of one parameter with a number as its default: made, and called without arguments -/
namespace DX
open PySem PySem.Spec PyProof.Rows L2 DL
def LmO (f : Addr) (q : Str) (params : Arguments) (body : Expr) (scope : Scope) (T c' : Addr) : HO := .ext fun h => ∃ pm doc ctv : Value, h.get? f = some (PySem.W.kdv_obj "<lambda>" q params (.expr body) scope [] (.ref T) doc pm c' ctv)
def DfT (T : Addr) (n : Int) : HO := .ext fun h => ∃ t : Tok, h.get? T = some (PySem.W.kdv_tup [.int n t])
structure LamP (scope : Scope) (a : Str) : Prop where
  kind : scope.kind = .function
  co : scope.isCoroutine = false
  gen : scope.isGenerator = false
  own : ∀ y ∈ scope.names, y.2 ≠ .cell ∧ y.2 ≠ .free
  par : scope.names.lookup a = some .local
def lamPB (scope : Scope) (a : Str) : Bool :=
  decide (scope.kind = .function) && !scope.isCoroutine && !scope.isGenerator && (scope.names.all fun y => !decide (y.2 = .cell) && !decide (y.2 = .free)) && decide (scope.names.lookup a = some .local)
theorem lamP_by {scope : Scope} {a : Str} (h : lamPB scope a = true) : LamP scope a := by
  unfold lamPB at h
  simp only [Bool.and_eq_true, Bool.not_eq_true', decide_eq_true_eq, decide_eq_false_iff_not, List.all_eq_true] at h
  obtain ⟨⟨⟨⟨h1, h2⟩, h3⟩, h4⟩, h5⟩ := h
  exact ⟨h1, h2, h3, h4, h5⟩
theorem clo_nil (cells : List (Str × Addr)) : ∀ (names : List (Str × NameKind)) (acc : List (Str × Addr)), (∀ y ∈ names, y.2 ≠ .free) → cloFrom cells names acc = acc
  | [], _, _ => rfl
  | (n, k) :: r, acc, h => by
    unfold cloFrom
    have hk : (k == NameKind.free) = false := by
      have := h (n, k) List.mem_cons_self
      simpa using this
    rw [hk]
    exact clo_nil cells r acc fun y hy => h y (List.mem_cons_of_mem _ hy)
section
variable {X : Cx} {pins : List (Addr × Obj)} {σ : L2.St} {H : Hp} {s : Shared}
theorem lm_make {c P : Addr} {params : Arguments} {body : Expr} {scope : Scope} {pos : Pos} {a : Str} {n : Int} {Q EX : Value → Shared → Prop} {ps : Array Value} {q : Str} (hq : q = X.env.qual ++ ("<lambda>" : Str))
    (I : Inv X pins σ H s) (TB : LamX.TabB X.base X.mg c P) (hcode : X.env.code = .ref c) (hP : H P = some (.tbl ps)) (ht : TriplesOk ps.toList) (ha : ∀ pos cv, codeAmong pos ps.toList = some cv → ∃ c, cv = .ref c ∧ H c = some (LamX.CodeO c q))
    (hd : ∃ j p, params.defaults = [.Constant (.int n) j p]) (hk : params.kw_defaults = []) (L : LamP scope a)
    (h : ∀ (T f c' : Addr) (H2 : Hp) (s' : Shared), H T = none → Made (upd H T (DfT T n)) P q ps c' H2 → H2 f = none → Inv X pins σ (upd H2 f (LmO f q params body scope T c')) s' → Q (.ref f) s') :
    wpAny (model X.prog X.w) X.A (eval (.Lambda params body scope pos) X.env) Q EX s := by
  subst hq
  obtain ⟨j, p, hd⟩ := hd
  refine PySem.W.kdv_lam (by rw [hd]; rfl) hk ?_
  rw [hd]
  refine PySem.W.kdv_all1 (wpAny_Constant_int (PySem.W.kdv_all0 ?_))
  rw [makeFunction_eq]
  simp only [List.zip_nil_right, List.filterMap_nil, List.isEmpty_nil, if_true, pure_bind, List.isEmpty_cons, Bool.false_eq_true, if_false]
  refine wpAny_bind (wpAny_newTextTuple ?_)
  have hT : H s.heap.objs.size = none := I.hok.fresh (Nat.le_refl _)
  have I1 : Inv X pins σ (upd H s.heap.objs.size (DfT s.heap.objs.size n)) { s with heap := s.heap.push (PySem.W.kdv_tup [.int n s.toks]), toks := s.toks + 1 } := by
    have e : (s.heap.push (PySem.W.kdv_tup [.int n s.toks])).get? s.heap.objs.size = some (PySem.W.kdv_tup [.int n s.toks]) := Heap.get?_push_size _ rfl
    exact I.laid (fun b u e => Heap.get?_push_of_some _ e) (Nat.le_refl _) ⟨⟨_, e⟩, ⟨_, e⟩, fun h1 h2 ⟨t, z⟩ st => ⟨t, st _ z⟩⟩
  have hfree : ∀ y ∈ scope.names, y.2 = .free → ∃ c, X.env.cells.lookup y.1 = some c := fun y hy e => absurd e (L.own y hy).2
  have hcl : closureFor scope X.env = pure [] := by
    rw [closure_ok hfree, clo_nil _ _ _ fun y hy => (L.own y hy).2]
  have bP := Heap.BuiltinsAt.keeps TB.bm (Inv.bk I1)
  have hP1 : upd H s.heap.objs.size (DfT s.heap.objs.size n) P = some (.tbl ps) := by rw [upd_ne (ne_of_none hP hT)]; exact hP
  have hP' := I1.hok P (HO.tbl ps) hP1
  have fin : ∀ (c' : Addr) (H2 : Hp) (h' : Heap) (tk : Tok) (pm doc ctv : Value), Made (upd H s.heap.objs.size (DfT s.heap.objs.size n)) P (X.env.qual ++ ("<lambda>" : Str)) ps c' H2 → Inv X pins σ H2 { s with heap := h', toks := tk } →
      Q (.ref h'.objs.size) { s with heap := h'.push (PySem.W.kdv_obj "<lambda>" (X.env.qual ++ ("<lambda>" : Str)) params (.expr body) scope [] (.ref s.heap.objs.size) doc pm c' ctv), toks := tk } := fun c' H2 h' tk pm doc ctv md I2 => by
    have e : (h'.push (PySem.W.kdv_obj "<lambda>" (X.env.qual ++ ("<lambda>" : Str)) params (.expr body) scope [] (.ref s.heap.objs.size) doc pm c' ctv)).get? h'.objs.size = some (PySem.W.kdv_obj "<lambda>" (X.env.qual ++ ("<lambda>" : Str)) params (.expr body) scope [] (.ref s.heap.objs.size) doc pm c' ctv) := Heap.get?_push_size _ rfl
    have I3 : Inv X pins σ (upd H2 h'.objs.size (LmO h'.objs.size (X.env.qual ++ ("<lambda>" : Str)) params body scope s.heap.objs.size c')) { s with heap := h'.push (PySem.W.kdv_obj "<lambda>" (X.env.qual ++ ("<lambda>" : Str)) params (.expr body) scope [] (.ref s.heap.objs.size) doc pm c' ctv), toks := tk } :=
      I2.laid (t' := tk) (fun b u e => Heap.get?_push_of_some _ e) (Nat.le_refl _) ⟨⟨_, _, _, e⟩, ⟨_, e⟩, fun h1 h2 ⟨pm, doc, ctv, z⟩ st => ⟨pm, doc, ctv, st _ z⟩⟩
    exact h _ _ c' H2 _ hT md (I2.hok.fresh (Nat.le_refl _)) I3
  cases hc : codeAmong pos ps.toList with
  | none =>
    refine PySem.W.kdv_makeTail hcl I1.ok.glob (Heap.Ns.keeps (Inv.mod I1).glob (Inv.bk I1)) hcode (PySem.W.CodeHd.keeps TB.code (Inv.bk I1)) hP' ht hc TB.gP bP fun c' ctv doc h' tk hx hge hlt hrec htb => ?_
    obtain ⟨c2, oc, vs, t, e2, hoc, hd', hv⟩ := hrec
    cases e2
    have nC := I1.hok.fresh hge
    have I2 := LamX.inv_table (h' := h') (t' := tk) (q := X.env.qual ++ ("<lambda>" : Str)) I1 hP1 (fun b o hb e => hx b o hb e) htb hge ⟨oc, vs, t, hoc, hd', hv⟩
    have eL : (ps ++ #[rawInt ↑pos.line, rawInt ↑pos.col, Value.ref c']).toList = ps.toList ++ [rawInt ↑pos.line, rawInt ↑pos.col, Value.ref c'] := by simp
    refine fin c' _ h' tk _ doc ctv (.new _ nC (by rw [eL]; exact TriplesOk_snoc _ _ _ _ ht) fun p' cv hcv => ?_) I2
    rw [eL] at hcv
    exact LamX.among_app _ ht hcv
  | some cv =>
    obtain ⟨c', rfl, hco⟩ := ha pos cv hc
    refine PySem.W.kdv_makeTailHit hcl I1.ok.glob (Heap.Ns.keeps (Inv.mod I1).glob (Inv.bk I1)) hcode (PySem.W.CodeHd.keeps TB.code (Inv.bk I1)) hP' ht hc bP fun ctv doc h' tk hx hsz => ?_
    have hco1 : upd H s.heap.objs.size (DfT s.heap.objs.size n) c' = some (LamX.CodeO c' (X.env.qual ++ ("<lambda>" : Str))) := by rw [upd_ne (ne_of_none hco hT)]; exact hco
    have I2 := Inv.kept (t' := tk) I1 hx
    exact fin c' _ h' tk _ doc ctv (.hit hco1 ⟨pos, hc⟩) I2
end
/-! the call -/
abbrev lmEnv (q : Str) (scope : Scope) (L f c' : Addr) : Env := PySem.W.envX q scope L f (.ref c') []
def lmCx (P : Program) (w : World) (K : PySem.W.Frag) (mg : Str → Option Value) (base : Heap) (A : Around) (outer : List Env) (s : Shared) (H : Hp) (E : XK) (q : Str) (scope : Scope) (f c' : Addr) : Cx where
  prog := P
  w := w
  K := K
  mg := mg
  base := base
  A := A.deeper (lmEnv q scope s.heap.objs.size f c')
  N := []
  s_0 := s
  H_0 := H
  env := lmEnv q scope s.heap.objs.size f c'
  outer := outer
  stack := lmEnv q scope s.heap.objs.size f c' :: outer
  ex := []
  fn := fun _ => false
  calm := true
  pn := []
  xe := fun e s' => wpAny (model P w) (A.deeper (lmEnv q scope s.heap.objs.size f c')) (leaving (lmEnv q scope s.heap.objs.size f c') e) (fun _ s'' => L2.CX P w outer H s E e s'') (fun e' s'' => L2.CX P w outer H s E e' s'') s'
theorem lm_start {P : Program} {w : World} {K : PySem.W.Frag} {mg : Str → Option Value} {base : Heap} {A : Around} {outer : List Env} {HZ : Hp} {s1 : Shared} {E : XK} {q a : Str} {scope : Scope} {f c' : Addr} {h₁ : Heap} {tk : Nat} {m : Str → Option Value}
    (L : LamP scope a) (e0 : Env0 P w K mg base A outer s1 HZ) (hd : A.handled = none) (hns : h₁.Ns s1.heap.objs.size m) (kp : ∀ b o, s1.heap.get? b = some o → h₁.get? b = some o) :
    Inv (lmCx P w K mg base A outer s1 HZ E q scope f c') [] [] HZ { s1 with heap := h₁, toks := tk } := by
  have noA : ∀ b : Addr, b ∉ (lmCx P w K mg base A outer s1 HZ E q scope f c').ex := fun b z => absurd (show b ∈ ([] : List Addr) from z) (by simp)
  refine ⟨⟨e0.mod, L.kind, rfl, rfl, Nat.le_refl _, fun y z c e1 e2 => absurd (show ([] : List (Str × Addr)).lookup y = some c from e1) (by simp), fun y hy => ?_, fun y c z _ => ?_, fun _ => hd, Around.frames_deeper e0.frames, .inr ⟨rfl, rfl⟩, fun b z => absurd z (noA b), e0.bs, e0.bsz, fun b _ _ => noA b,
      fun b z => absurd z (noA b), e0.funs, e0.frf⟩,
    rfl, e0.bare, Un.kept kp, ⟨_, hns, fun i y v e1 e2 e3 => ?_⟩, fun y c e => ?_, e0.hok.fresh (Nat.le_refl _), fun y c e => ?_, fun q hq => absurd (show q ∈ ([] : List (Addr × Obj)) ++ [] from hq) (by simp), e0.hok.kept kp, rfl⟩
  · have hy : scope.names.lookup y = some .cell ∨ scope.names.lookup y = some .free := hy
    rcases hy with hy | hy
    · exact absurd rfl (L.own _ (PySem.mem_of_lookup hy)).1
    · exact absurd rfl (L.own _ (PySem.mem_of_lookup hy)).2
  · have z : false = true := z
    cases z
  · cases e2
  · cases e
  · cases e
theorem lm_act {X : Cx} {s : Shared} {H : Hp} {CXg : CXT} {Eg : XK} {Ng : List Str} {qg : Str} {sg : Scope} {g f c' T : Addr} {cdg : Value} {params : Arguments} {body : Expr} {scope : Scope} {k i : Nat} {a pa q : Str} {n : Int} {pn : List (Addr × Obj)} {xe : Value → Shared → Prop} {W : WX} {E : XK} {tb : TE} {p1 p2 : Pos}
    (L : LamP scope pa)
    (hbind : ∀ (doc pm cdv ctv : Value) (t : Tok) (s : Shared), s.heap.get? T = some (PySem.W.kdv_tup [.int n t]) → BindsTo s (PySem.W.kdv_fn "<lambda>" q params (.expr body) scope [] (.ref T) doc pm cdv ctv) ⟨[], []⟩ [(pa, .int n t)])
    (tk : Takes ((cxOf CXg X.prog X.w X.K X.mg X.base Ng qg sg g cdg X.A X.stack s H Eg).tr pn xe) W) (hW : ∀ cls d σ' H', E cls d H' → W cls d σ' H') (hr : Room (k + 1) (X.A.deeper (envOfC qg sg s.heap.objs.size g cdg)))
    (hbody : ∀ (A : Around) (outer : List Env) (s : Shared) (H : Hp), Room k (A.deeper (lmEnv q scope s.heap.objs.size f c')) → PE (lmCx X.prog X.w X.K X.mg X.base A outer s H E q scope f c') body tb)
    (hN : Ng[i]? = some a) (hv : Vis sg a) (hd : (a == ("__debug__" : Str)) = false := by decide) (hcd : (a == ("__classdict__" : Str)) = false := by decide) :
    PE ((cxOf CXg X.prog X.w X.K X.mg X.base Ng qg sg g cdg X.A X.stack s H Eg).tr pn xe) (.Call (.Name a p1) [] [] p2)
      (fun σZ HZ Q => σZ[i]? = some (some (.ref f)) ∧ HZ f = some (LmO f q params body scope T c') ∧ HZ T = some (DfT T n) ∧ HZ c' = some (LamX.CodeO c' q) ∧ tb [] HZ Q) := by
  refine ⟨fun pinsZ sZ σZ HZ Q IZ h => ?_⟩
  obtain ⟨hs, hf, hT, hc, ht⟩ := h
  refine wpAny_Call_Name_kw (thn ((pe_var (pos := p1) (i := i) hN hv hd hcd).run pinsZ sZ σZ HZ (fun v H1 => v = .ref f ∧ H1 = HZ) IZ ⟨.ref f, hs, rfl, rfl⟩) fun u s1 ⟨v, H1, I1, r1, q1⟩ => ?_)
  obtain ⟨ev, eH⟩ := q1
  subst ev
  rw [eH] at I1
  obtain rfl : u = Value.ref f := r1
  obtain ⟨⟨pm, doc, ctv, of1⟩, _, _⟩ := I1.hok f _ hf
  obtain ⟨⟨t, oT⟩, _, _⟩ := I1.hok T _ hT
  obtain ⟨⟨oc, vs, tt, hoc, hdc, hvc⟩, _, _⟩ := I1.hok c' _ hc
  refine PySem.W.callWith_F0 ⟨_, _, _, _, of1⟩ ?_
  have rc : codeAny (model X.prog X.w) (X.A.deeper (envOfC qg sg s.heap.objs.size g cdg)) (.call (.ref f) ⟨[], []⟩) (CR (L2.CX X.prog X.w) (envOfC qg sg s.heap.objs.size g cdg :: X.stack) X.prog X.w HZ s1 Q E) s1 := by
    refine PySem.W.kla_callFunE hr.depth of1 rfl L.co L.gen rfl ⟨c', oc, vs, tt, rfl, hoc, hdc, hvc⟩ ?_
    refine hbind doc pm (.ref c') ctv t s1 oT _ _ _ _ ?_
    refine wpAny_newFunctionEnv (fun y hy => (L.own y hy).1) (fun y hy => ?_) (fun h₁ hns hsb => ⟨I1.nolimit.fresh _ hsb, ?_⟩) L.kind
    · have e : y = (pa, Value.int n t) := by simpa using hy
      rw [e]
      exact L.par
    show codeAny _ _ (.expr body (lmEnv q scope s1.heap.objs.size f c')) _ _
    have kp : ∀ b o, s1.heap.get? b = some o → h₁.get? b = some o := fun b o e => hsb.extBut b o (Nat.ne_of_lt (Heap.lt_size e)) (Heap.get?_push_of_some _ e)
    have J : Inv (lmCx X.prog X.w X.K X.mg X.base (X.A.deeper (envOfC qg sg s.heap.objs.size g cdg)) (envOfC qg sg s.heap.objs.size g cdg :: X.stack) s1 HZ E q scope f c') [] [] HZ { s1 with heap := h₁, toks := s1.toks + ([(pa, Value.int n t)] : List (Str × Value)).length } :=
      lm_start L I1.env0 hr.hd hns kp
    refine PySem.W.kla_codeExpr (wpAny_mono ((hbody _ _ s1 HZ (hr.deeper _)).run [] _ _ HZ Q J ht) (fun v s' hq => ?_) fun e s' hq => hq)
    obtain ⟨w', H', J', rv, q⟩ := hq
    exact ⟨w', H', J'.os, J'.bare, J'.base, J'.hok, rv, q⟩
  have hx : Passes (L2.CX X.prog X.w) ((cxOf CXg X.prog X.w X.K X.mg X.base Ng qg sg g cdg X.A X.stack s H Eg).tr pn xe) E := passes_call tk hW
  refine wpAny_call (codeAny_mono rc fun r s' hq => ?_)
  cases r with
  | error e => exact hx pinsZ σZ HZ s1 e s' I1 hq
  | ok fl =>
    cases fl with
    | ret u => exact I1.after hq
    | next => exact False.elim hq
    | brk => exact False.elim hq
    | cont => exact False.elim hq
end DX

set_option maxHeartbeats 4000000
/-! ### a list of such lambdas, each told -/
namespace DX
open PySem PySem.Spec PyProof.Rows L2 DL
open L2H (RoomH roomH_of)
theorem made_grow2 {X : Cx} {F H H1 : Hp} {R : RS} {P c' : Addr} {q : Str} {ps : Array Value} (sf : Same F H) (r : RowOk X.K F H R) (t : IsTab X.K P q) (hP : H P = some (.tbl ps)) (ha : ∀ pos cv, codeAmong pos ps.toList = some cv → ∃ c, cv = .ref c ∧ F c = some (LamX.CodeO c q)) (m : Made H P q ps c' H1) :
    ∃ F1, Grow R R F H F1 H1 ∧ RowOk X.K F1 H1 R ∧ F1 c' = some (LamX.CodeO c' q) := by
  cases m with
  | hit _ hp =>
    obtain ⟨pos, hp⟩ := hp
    obtain ⟨c, e, hc⟩ := ha pos _ hp
    cases e
    exact ⟨F, Grow.refl sf, r, hc⟩
  | new more hc ht hm =>
    have hPc : P ≠ c' := fun z => by rw [z, hc] at hP; cases hP
    have fc : F c' = none := by
      cases e : F c' with
      | none => rfl
      | some o => rw [sf _ _ e] at hc; cases hc
    have fP := (r.tb.2 P q t).out
    have ff : Same F (upd F c' (LamX.CodeO c' q)) := fun b o e => by rw [upd_ne (ne_of_none e fc)]; exact e
    have hh : ∀ b o, H b = some o → b ≠ P → (upd (upd H P (.tbl (ps ++ more))) c' (LamX.CodeO c' q)) b = some o := fun b o e hb => by
      rw [upd_ne (ne_of_none e hc), upd_ne hb]; exact e
    have g : Grow R R F H (upd F c' (LamX.CodeO c' q)) (upd (upd H P (.tbl (ps ++ more))) c' (LamX.CodeO c' q)) := by
      refine ⟨rfl, ff, fun b o e => ?_, fun a h1 h2 => ?_, fun a o h1 h2 h3 h4 => ?_⟩
      · by_cases hb : b = c'
        · subst hb; rw [upd_same] at e ⊢; exact e
        · rw [upd_ne hb] at e
          exact hh b o (sf b o e) fun z => by rw [z, fP] at e; cases e
      · by_cases hb : a = P
        · subst hb
          rw [upd_ne hPc, upd_same, upd_ne hPc]
          exact ⟨by simp, fP⟩
        · cases e : H a with
          | none => exact absurd e h1
          | some o =>
            rw [hh a o e hb, upd_ne (ne_of_none e hc)]
            exact ⟨by simp, h2⟩
      · exact hh a o h1 fun z => by rw [z, hP] at h1; cases h1; exact h4 ps rfl
    refine ⟨_, g, ⟨?_, r.tb.1, fun P' q' i => ?_⟩, upd_same⟩
    · cases R with
      | none => trivial
      | some x =>
        obtain ⟨h1, h2, h3, h4⟩ := r.rw
        refine ⟨hh _ _ h1 (fun z => by rw [z, hP] at h1; cases h1), ?_, ff.seq h3, h4⟩
        rw [upd_ne (ne_of_none h1 hc)]; exact h2
    · obtain ⟨o', ps', e1, e2, e3⟩ := r.tb.2 P' q' i
      have ne : P' ≠ c' := fun z => by rw [z, hc] at e1; cases e1
      refine ⟨by rw [upd_ne ne]; exact o', ?_⟩
      by_cases hb : P' = P
      · subst hb
        have eq : q' = q := r.tb.1 _ _ _ i t
        subst eq
        refine ⟨ps ++ more, by rw [upd_ne ne, upd_same], ht, fun pos cv hcv => ?_⟩
        rcases hm pos cv hcv with h | h
        · obtain ⟨c, a, b⟩ := ha pos cv h
          exact ⟨c, a, ff _ _ b⟩
        · exact ⟨c', h, upd_same⟩
      · refine ⟨ps', hh _ _ e1 hb, e2, fun pos cv hcv => ?_⟩
        obtain ⟨c, a, b⟩ := e3 pos cv hcv
        exact ⟨c, a, ff _ _ b⟩
structure Lm where
  params : Arguments
  body : Expr
  scope : Scope
  a : Str
  n : Int
  fb : En → M DL.D
def LmAt (q : Str) (F : Hp) (f : Addr) (l : Lm) : Prop := ∃ T c', F f = some (LmO f q l.params l.body l.scope T c') ∧ F T = some (DfT T l.n) ∧ F c' = some (LamX.CodeO c' q)
theorem LmAt.mono {q : Str} {F F' : Hp} {f : Addr} {l : Lm} (e : Same F F') (h : LmAt q F f l) : LmAt q F' f l :=
  let ⟨T, c', h1, h2, h3⟩ := h; ⟨T, c', e _ _ h1, e _ _ h2, e _ _ h3⟩
structure LmOk (P : Program) (w : World) (K : PySem.W.Frag) (mg : Str → Option Value) (base : Heap) (k : Nat) (q : Str) (l : Lm) : Prop where
  dfl : ∃ j p, l.params.defaults = [.Constant (.int l.n) j p]
  kwd : l.params.kw_defaults = []
  lam : LamP l.scope l.a
  bind : ∀ (T : Addr) (doc pm cdv ctv : Value) (t : Tok) (s : Shared), s.heap.get? T = some (PySem.W.kdv_tup [.int l.n t]) → BindsTo s (PySem.W.kdv_fn "<lambda>" q l.params (.expr l.body) l.scope [] (.ref T) doc pm cdv ctv) ⟨[], []⟩ [(l.a, .int l.n t)]
  body : ∀ (A : Around) (outer : List Env) (s : Shared) (H : Hp) (E' : XK) (f c' : Addr) (E : Ent), Room k (A.deeper (lmEnv q l.scope s.heap.objs.size f c')) → PD (lmCx P w K mg base A outer s H E' q l.scope f c') E' E l.body l.fb
inductive PLs (P : Program) (w : World) (K : PySem.W.Frag) (mg : Str → Option Value) (base : Heap) (k : Nat) (q : Str) : List Expr → List Lm → Prop
  | nil : PLs P w K mg base k q [] []
  | cons {params : Arguments} {body : Expr} {scope : Scope} {pos : Pos} {a : Str} {n : Int} {fb : En → M DL.D} {es : List Expr} {ls : List Lm} : LmOk P w K mg base k q ⟨params, body, scope, a, n, fb⟩ → PLs P w K mg base k q es ls →
      PLs P w K mg base k q (.Lambda params body scope pos :: es) (⟨params, body, scope, a, n, fb⟩ :: ls)
theorem PLs.all {P : Program} {w : World} {K : PySem.W.Frag} {mg : Str → Option Value} {base : Heap} {k : Nat} {q : Str} {es : List Expr} {ls : List Lm} (h : PLs P w K mg base k q es ls) : ∀ l ∈ ls, LmOk P w K mg base k q l := by
  induction h with
  | nil => intro l hl; cases hl
  | cons h1 _ ih =>
    intro l hl
    rcases List.mem_cons.mp hl with e | hl
    · rw [e]; exact h1
    · exact ih l hl
def eToldF (i : Nat) (cs : List Str) (fr : Xn → M DL.D) (L : List (Addr × Lm)) : En → M DL.D := fun ρ => match ρ[i]? with
  | some (.val (.row c)) => (match L.lookup c with
    | some l => eTold cs fr l.fb []
    | none => stk)
  | _ => stk
theorem lookup_zipP {α : Type} {r : Addr → α → Prop} {c : Addr} {l : α} : ∀ {fs : List Addr} {ls : List α}, Paired r fs ls → (fs.zip ls).lookup c = some l → r c l ∧ l ∈ ls
  | _, _, .nil, e => by simp at e
  | f :: fs, l' :: ls, .cons h t, e => by
    rw [List.zip_cons_cons, List.lookup_cons] at e
    cases hb : c == f with
    | true =>
      rw [hb] at e
      cases e
      have : c = f := by simpa using hb
      rw [this]
      exact ⟨h, List.mem_cons_self⟩
    | false =>
      rw [hb] at e
      obtain ⟨a, b⟩ := lookup_zipP t e
      exact ⟨a, List.mem_cons_of_mem _ b⟩
section
variable {X : Cx} {W : XK} {E : Ent} {pos p : Pos}
theorem pd_toldF {k : Nat} {x re cn q : Str} {cs : List Str} {fr : Xn → M DL.D} {st : Stmt} {g CL : Addr} {fd : FuncData} {i : Nat} {fs : List Addr} {ls : List Lm} {j kk : Nat} {pc p0 p1 p2 p3 p4 p5 p6 p7 p8 p9 p10 p11 : Pos}
    (hg : Gl X x) (hm : X.mg x = some (.ref g)) (F1 : Fun X.K x x st g fd) (hb : L2.Binds X.K fd ["call"] []) (Sg : FnScope ["call", "e"] ["call"] (defScope st))
    (hst : defBody st = [.Try [.Return (some (.Tuple [.Constant (.str "told") j p0, .Call (.Name "call" p1) [] [] p2] kk p3)) p4] [.ExceptHandler (some (.Name "LeapError" p5)) (some "e") [.Return (some (.Call (.Name re p6) [.Name "e" p7] [] p8)) p9] p10] [] [] p11])
    (hle : (defScope st).names.lookup ("LeapError" : Str) = some .globalImplicit) (hre : (defScope st).names.lookup re = some .globalImplicit) (hcall : (defScope st).names.lookup ("call" : Str) = some .local) (hloc : (defScope st).names.lookup ("e" : Str) = some .local)
    (hL : X.mg "LeapError" = some (.ref CL)) (hcs : ∀ c ∈ cs, PySem.W.exmOne X.K (.ref (He.ga X.K c)) (.ref CL) = some true) (R2 : FnRef X.prog X.w X.K X.mg X.base k re cs fr)
    (hx : PE X (.Name cn pc) (tVar i)) (hr : Room (k + 2) X.A) (hls : ∀ l ∈ ls, LmOk X.prog X.w X.K X.mg X.base k q l) (hat : Paired (LmAt q E.F) fs ls)
    (hdb : (x == ("__debug__" : Str)) = false := by decide) (hdr : (re == ("__debug__" : Str)) = false := by decide) :
    PD X W E (.Call (.Name x p) [.Name cn pc] [] pos) (eToldF i cs fr (fs.zip ls)) := by
  refine ⟨fun pins s σ H Q I hl => ?_⟩
  obtain ⟨F, ρ, R, ok, run0⟩ := hl
  unfold eToldF at run0
  cases eq : ρ[i]? with
  | none => rw [eq] at run0; exact run0.elim
  | some sv =>
  rw [eq] at run0
  cases sv with
  | no => exact run0.elim
  | own o => exact run0.elim
  | val d =>
  cases d with
  | dat _ => exact run0.elim
  | brd _ _ => exact run0.elim
  | dic _ => exact run0.elim
  | ids _ => exact run0.elim
  | row f =>
  dsimp only at run0
  cases el : (fs.zip ls).lookup f with
  | none => rw [el] at run0; exact run0.elim
  | some lm =>
  rw [el] at run0
  dsimp only at run0
  obtain ⟨hat1, hmem⟩ := lookup_zipP hat el
  have LO := hls lm hmem
  obtain ⟨params, body, scope, pa, n, fb⟩ := lm
  obtain ⟨TA, c', hF1, hF2, hF3⟩ := hat1
  have hHf := ok.g.fh _ _ (ok.g.ff _ _ hF1)
  have hHT := ok.g.fh _ _ (ok.g.ff _ _ hF2)
  have hHc := ok.g.fh _ _ (ok.g.ff _ _ hF3)
  obtain ⟨vf, hσ, hvf⟩ := ok.sl i _ eq
  have hvf : vf = V.ref f := hvf
  subst hvf
  have run : DL.Run X.K W (eTold cs fr fb []) R F H (fun d R' F' H' => ∀ v, RD X.prog X.w X.K F' v d → Q v H') := run0
  refine wpAny_Call_Name_kw (ld_glob I hg hm ?_ hdb)
  refine PySem.W.callWith_K (h₀ := X.base) I.ok.mod.kin F1.kp ?_ (by rfl) (by rfl)
  show wpAny _ _ (spliced ((false, eval (.Name cn pc) X.env) :: backTo pos (starEach [] X.env))) _ _ s
  refine Calls.spliced_cons (thn (hx.run pins s σ H (fun v H1 => v = .ref f ∧ H1 = H) I ⟨.ref f, hσ, rfl, rfl⟩) fun u s2 ⟨v, H1, I2, r1, q1⟩ => ?_)
  obtain ⟨ev, eH⟩ := q1
  subst ev
  rw [eH] at I2
  obtain rfl : u = Value.ref f := r1
  refine Calls.spliced_nil ⟨I2.kIn, ?_⟩
  have ok2 : Ok X.prog X.w X.K E F [] H [] R := ⟨ok.g, ok.row, fun i sv e => by simp at e, fun i j oi oj a e => by simp at e, rfl⟩
  obtain ⟨oc, od, kV, doc, pm, an, cdv, ct, osl, efd, lk, hcd⟩ := F1.ex
  subst efd
  obtain ⟨f2, fd2, hm2, hk2, hb2, FP⟩ := R2
  have rc : codeAny (model X.prog X.w) X.A (.call (.ref g) ⟨[.ref f], []⟩) (CR C8.CX0 X.stack X.prog X.w H s2 Q C8.E0) s2 := by
    refine LamX.run_ofS (N := ["call", "e"]) (ps := ["call"]) (us := [.ref f]) (vs := [.ref f]) lk hcd Sg hr I2.env0 (hb s2 [.ref f] I2.kIn rfl) (.cons rfl .nil) rfl fun hr' => ?_
    rw [hst]
    have hsu : ∀ (a : Addr) (oe : Obj) (cls : Value) (d : Option Addr) (pn : List (Addr × Obj)), Zc cls d oe → (∃ vs, oe.data = .fields vs) →
        PSs ((cxOf C8.CX0 X.prog X.w X.K X.mg X.base ["call", "e"] x (defScope st) g cdv X.A X.stack s2 H C8.E0).suite a ((a, oe) :: pn)) [.Return (some (.Call (.Name re p6) [.Name "e" p7] [] p8)) p9]
          ((fun a cls d => fun D σ H => σ.length = 2 → ∀ oe, Zc cls d oe → (∃ vs, oe.data = .fields vs) → tRet (tCallS (spR X.prog X.w X.K cs fr (a, oe)) (WE fun _ _ _ _ => False) (tCons (tVar 1) tNil)) D σ H) a cls d) := fun a oe cls d pn hz hf => by
      have hv : PE ((cxOf C8.CX0 X.prog X.w X.K X.mg X.base ["call", "e"] x (defScope st) g cdv X.A X.stack s2 H C8.E0).suite a ((a, oe) :: pn)) (.Name "e" p7) (tVar 1) := pe_var (i := 1) rfl (.inl hloc)
      have hcall := pe_callP (X := (cxOf C8.CX0 X.prog X.w X.K X.mg X.base ["call", "e"] x (defScope st) g cdv X.A X.stack s2 H C8.E0).suite a ((a, oe) :: pn)) (q := p6) (pos := p8) (p := (a, oe)) (E := WE fun _ _ _ _ => False) FP ⟨(hr'.mono (Nat.le_succ k)).dp, (hr'.mono (Nat.le_succ k)).un⟩ List.mem_cons_self hre hm2 hk2 hb2 (fun σ => passAt LamX.takes0 σ) (pa_cons hv pa_nil) hdr
      have hp := pss_one (ps_len (ps_ret (pos := p9) hcall))
      exact ⟨fun pins s σ H D I h => hp.run pins s σ H D I fun hl => h hl oe hz hf⟩
    refine ⟨_, (pss_one (ps_try_as (X := cxOf C8.CX0 X.prog X.w X.K X.mg X.base ["call", "e"] x (defScope st) g cdv X.A X.stack s2 H C8.E0) (i := 1) (c := .ref CL) (Wout := fun _ _ _ _ => False)
      (tb := fun W' D σ' H' => ∃ Ech : XK, (∀ cls d σ'' H'', Ech cls d H'' → W' cls d σ'' H'') ∧ σ'[0]? = some (some (.ref f)) ∧ H' f = some (LmO f q params body scope TA c') ∧ H' TA = some (DfT TA n) ∧ H' c' = some (LamX.CodeO c' q) ∧ lift X.prog X.w X.K Ech E fb [] H' fun v H'' => 2 ≤ sizeLine ∧ ∀ q, H'' q = none → D.rt (.ref q) (upd H'' q (.tup [.str "told", v])))
      rfl rfl Sg.nd rfl hloc ⟨hle, by decide, .inl hL⟩ LamX.takes0 (fun W' pn xe tk _ => ?_) hsu)), ?_⟩
    · refine ⟨fun pins s' σ' H' D I' h' => ?_⟩
      obtain ⟨Ech, hW, h1, h2, h21, h22, h3⟩ := h'
      have act := lm_act (X := X) (s := s2) (H := H) (CXg := C8.CX0) (Eg := C8.E0) (Ng := ["call", "e"]) (qg := x) (sg := defScope st) (g := g) (cdg := cdv) (i := 0) (a := "call") (pn := pn) (xe := xe) (W := W') (E := Ech) (f := f) (c' := c') (p1 := p1) (p2 := p2) (tb := lift X.prog X.w X.K Ech E fb) LO.lam (LO.bind TA) tk hW hr' (fun A outer s H hr2 => LO.body A outer s H Ech f c' E hr2) rfl (.inl hcall)
      have hq := pss_one (ps_ret (pos := p4) (pe_tup (x1 := kk) (pos := p3) (pa_cons (pe_str (x := "told") (j := j) (pos := p0)) (pa_cons act pa_nil))))
      exact hq.run pins s' σ' H' D I' ⟨h1, h2, h21, h22, h3⟩
    · refine ⟨fun cls d H' => ∃ (xn : Xn) (R' : RS) (F' : Hp), Grow R R' F H F' H' ∧ RowOk X.K F' H' R' ∧ RX X.K F' cls d xn ∧ fb [] R = some (.exn xn, R'), fun cls d σ' H' hE => ?_, rfl, hHf, hHT, hHc, F, [], R, ok2, ?_⟩
      · obtain ⟨xn, R', F', g', r', hx, efb⟩ := hE
        obtain ⟨ecl, dd, fs, ed, hF, hfs2⟩ := hx
        subst ecl ed
        have run2 := run
        unfold DL.Run eTold at run2
        rw [efb] at run2
        dsimp only at run2
        by_cases hc : xn.cls ∈ cs
        · rw [if_pos hc] at run2
          refine ⟨true, hcs _ hc, fun _ a ha hlen oe hz hff => ?_, fun z => nomatch z⟩
          refine ⟨.ref a, ?_, F', R', dd, fs, xn, g'.fh, r', rfl, hc, hz, hff, hF, hfs2, ?_⟩
          · rw [List.length_set] at hlen
            rw [List.getElem?_set]
            simp [hlen]
          · unfold DL.Run
            cases er : fr xn R' with
            | none => rw [er] at run2; exact run2.elim
            | some pr =>
              obtain ⟨o, R3⟩ := pr
              rw [er] at run2
              cases o with
              | exn _ => exact run2.elim
              | val dv => exact fun F3 H3 g3 r3 v rv => run2 F3 H3 (g'.trans g3) r3 v rv
        · rw [if_neg hc] at run2
          exact run2.elim
      · have run2 := run
        unfold DL.Run eTold at run2
        unfold DL.Run
        cases efb : fb [] R with
        | none => rw [efb] at run2; exact run2.elim
        | some pr =>
          obtain ⟨o, R'⟩ := pr
          rw [efb] at run2
          cases o with
          | exn xn => exact fun c dd F' H' g' r' hx => ⟨xn, R', F', g', r', hx, rfl⟩
          | val d =>
            cases d with
            | dat y =>
              intro F' H' g' r' v rv
              refine ⟨by decide, fun q hq => ?_⟩
              have gp := GrowP.new (o := .tup [.str "told", v]) g'.fh hq
              exact run2 _ _ ((g'.trans gp.g)) (gp.row r') _ (Dp.newT g'.fh hq (.cons (.str _) (.cons rv .nil)))
            | _ => exact run2.elim
  refine wpAny_call (codeAny_mono rc fun r s3 hq => ?_)
  cases r with
  | error e => exact (show False from hq).elim
  | ok fl =>
    cases fl with
    | ret u => exact I2.after hq
    | next => exact False.elim hq
    | brk => exact False.elim hq
    | cont => exact False.elim hq
end
end DX

set_option maxHeartbeats 4000000
/-! ### calls = [lambda a=0: .., ..]; return f([told(call) for call in calls], ..) -/
namespace DX
open PySem PySem.Spec PyProof.Rows L2 DL
theorem upd_noneD {H : Hp} {a b : Addr} {o : HO} (e : upd H a o b = none) : H b = none := by
  unfold upd at e
  split at e
  · cases e
  · exact e
theorem made_none {H H1 : Hp} {P c' b : Addr} {q : Str} {ps : Array Value} (m : Made H P q ps c' H1) (e : H1 b = none) : H b = none := by
  cases m with
  | hit => exact e
  | new more _ _ _ => exact upd_noneD (upd_noneD e)
section
variable {X : Cx} {W : XK} {E : Ent} {pos p : Pos}
def tMk (P : Program) (w : World) (K : PySem.W.Frag) (E : Ent) (q : Str) (ls : List Lm) : TA := fun σ H Q => ∃ F ρ R, Ok P w K E F σ H ρ R ∧ ∀ F' H' fs, Grow R R F H F' H' → RowOk K F' H' R → Paired (LmAt q F') fs ls → fs.Nodup → (∀ f ∈ fs, H f = none) → Q (fs.map V.ref) H'
theorem pa_lms {k : Nat} {q : Str} {es : List Expr} {ls : List Lm} {c Pt : Addr} (h : PLs X.prog X.w X.K X.mg X.base k q es ls) (hq : q = X.env.qual ++ ("<lambda>" : Str)) (TB : LamX.TabB X.base X.mg c Pt) (hcode : X.env.code = .ref c) (it : IsTab X.K Pt q) : PA X es (tMk X.prog X.w X.K E q ls) := by
  induction h with
  | nil =>
    refine ⟨fun pos pins s σ H Q I h => ?_⟩
    obtain ⟨F, ρ, R, ok, hQ⟩ := h
    exact pa_nil.run pos pins s σ H Q I (hQ F H [] (Grow.refl ok.g.fh) ok.row .nil .nil (by simp))
  | @cons params body scope lpos a n fb es ls h1 _ ih =>
    refine ⟨fun pos pins s σ H Q I h => ?_⟩
    obtain ⟨F, ρ, R, ok, hQ⟩ := h
    have hs : starEach (.Lambda params body scope lpos :: es) X.env = (false, eval (.Lambda params body scope lpos) X.env) :: starEach es X.env := rfl
    rw [hs]
    show wpAny _ _ (spliced ((false, eval (.Lambda params body scope lpos) X.env) :: backTo pos (starEach es X.env))) _ _ s
    obtain ⟨o1, ps, hP, ht, ha0⟩ := ok.row.tb.2 Pt _ it
    have ha1 : ∀ pos cv, codeAmong pos ps.toList = some cv → ∃ c, cv = .ref c ∧ H c = some (LamX.CodeO c q) := fun pos cv h => let ⟨c, a, b⟩ := ha0 pos cv h; ⟨c, a, ok.g.fh _ _ b⟩
    refine Calls.spliced_cons (lm_make hq I TB hcode hP ht ha1 h1.dfl h1.kwd h1.lam fun T f c' H2 s' hT md hf I3 => ?_)
    have gp := GrowP.new (o := DfT T n) ok.g.fh hT
    have hP1 : upd H T (DfT T n) Pt = some (.tbl ps) := by rw [upd_ne (ne_of_none hP hT)]; exact hP
    obtain ⟨F2, g2, r2, hc2⟩ := made_grow2 (X := X) gp.fh (gp.row ok.row) it hP1 (fun pos cv h => let ⟨c, a, b⟩ := ha0 pos cv h; ⟨c, a, gp.ff _ _ b⟩) md
    have gp3 := GrowP.new (o := LmO f q params body scope T c') g2.fh hf
    have g3 : Grow R R F H (upd F2 f (LmO f q params body scope T c')) (upd H2 f (LmO f q params body scope T c')) := gp.g.trans (g2.trans gp3.g)
    have at3 : LmAt q (upd F2 f (LmO f q params body scope T c')) f ⟨params, body, scope, a, n, fb⟩ := ⟨T, c', upd_same, gp3.ff _ _ (g2.ff _ _ upd_same), gp3.ff _ _ hc2⟩
    have hHf : H f = none := upd_noneD (made_none md hf)
    refine thn (ih.run pos pins s' σ _ (fun vs H' => Q (.ref f :: vs) H') I3 ⟨_, ρ, R, ok.grow g3 (gp3.row r2), fun F' H' fs g r pr nd nf => ?_⟩) fun us s2 ⟨xs, H3, I4, r4, q4⟩ => ⟨.ref f :: xs, H3, I4, .cons rfl r4, q4⟩
    refine hQ F' H' (f :: fs) (g3.trans g) r (.cons (at3.mono g.ff) pr) (List.nodup_cons.mpr ⟨fun hm => ?_, nd⟩) fun f' hf' => ?_
    · have := nf f hm
      rw [upd_same] at this
      cases this
    · rcases List.mem_cons.mp hf' with e | e
      · rw [e]; exact hHf
      · exact upd_noneD (made_none md (upd_noneD (nf f' e)))
/-! the list is walked -/
def iFns (i : Nat) (a : Addr) (fs : List Addr) : En → M (List D) := fun ρ => match ρ[i]? with
  | some (.val (.row c)) => if c = a then pure (fs.map .row) else stk
  | _ => stk
theorem yields_fns {P : Program} {w : World} {K : PySem.W.Frag} {F : Hp} {a : Addr} {fs : List Addr} (h1 : SqL K F a (fs.map V.ref)) : Yields P w K F (Itl K a) (fs.map D.row) := by
  intro i F' H s1 s2
  have q : SqL K H a (fs.map V.ref) := s2.seq (s1.seq h1)
  refine ⟨fun d e => ?_, fun e => ⟨_, q, by simpa using e⟩⟩
  rw [List.getElem?_map] at e
  obtain ⟨y, e1, e2⟩ := Option.map_eq_some_iff.mp e
  subst e2
  have x1 : (fs.map V.ref)[i]? = some (V.ref y) := by rw [List.getElem?_map, e1]; rfl
  refine ⟨⟨_, _, q, x1⟩, fun z H' hz => ?_⟩
  obtain ⟨e3, e4⟩ := hz
  subst e3
  have := e4 _ q
  rw [x1] at this
  cases this
  exact ⟨F', .refl s2, rfl⟩
theorem pdi_fns {tg : Expr} {n : Str} {a : Addr} {fs : List Addr} (i : Nat) (hx : PE X (.Name n p) (tVar i)) (hE : E.F a = some (.lst (fs.map V.ref))) : PDI X W E tg (.Name n p) (iFns i a fs) := by
  refine PI.imp (pi_seq hx) fun σ H Q hl => ?_
  obtain ⟨F, ρ, R, ok, run⟩ := hl
  unfold iFns at run
  cases eq : ρ[i]? with
  | none => rw [eq] at run; exact run.elim
  | some sv =>
    rw [eq] at run
    cases sv with
    | no => exact run.elim
    | own o => exact run.elim
    | val d =>
      cases d with
      | row c =>
        by_cases hc : c = a
        · subst hc
          dsimp only at run
          rw [if_pos rfl] at run
          obtain ⟨v, h1, h2⟩ := ok.sl i _ eq
          have h2 : v = V.ref c := h2
          subst h2
          have hF : F c = some (.lst (fs.map V.ref)) := ok.g.ff _ _ hE
          have hs : SqL X.K F c (fs.map V.ref) := .inl (.inl hF)
          exact ⟨.ref c, h1, c, rfl, .inl ⟨⟨_, ok.g.fh.seq hs⟩, Run.pure run ok.g.fh ok.row _ (yields_fns hs)⟩⟩
        · dsimp only at run
          rw [if_neg hc] at run
          exact run.elim
      | _ => exact run.elim
/-! the two statements -/
def toldAll (cs : List Str) (fr : Xn → M DL.D) : List (En → M DL.D) → M (List PyData)
  | [] => pure []
  | fb :: ls => do
    let y ← eTold cs fr fb []
    let y' ← lft (asDat y)
    let r ← toldAll cs fr ls
    pure (y' :: r)
def toldL (cs : List Str) (fr : Xn → M DL.D) (ls : List (En → M DL.D)) : M DL.D := do let xs ← noX (toldAll cs fr ls); pure (.dat (.list xs))
theorem lookup_zip_at {α : Type} : ∀ {fs : List Addr} {ls : List α} {pre : List Addr} {prl : List α} {f : Addr} {l : α}, pre.length = prl.length → f ∉ pre → ((pre ++ f :: fs).zip (prl ++ l :: ls)).lookup f = some l := by
  intro fs ls pre prl f l hl hn
  induction pre generalizing prl with
  | nil =>
    cases prl with
    | nil => simp
    | cons _ _ => simp at hl
  | cons g pre ih =>
    cases prl with
    | nil => simp at hl
    | cons l' prl =>
      rw [List.cons_append, List.cons_append, List.zip_cons_cons, List.lookup_cons]
      have hg : (f == g) = false := by
        rw [beq_eq_false_iff_ne]
        intro e
        exact hn (by rw [e]; exact List.mem_cons_self)
      rw [hg]
      exact ih (by simpa using hl) fun z => hn (List.mem_cons_of_mem _ z)
theorem lcL_told {cs : List Str} {fr : Xn → M DL.D} {j : Nat} (LL : List (Addr × Lm)) : ∀ (fs : List Addr) (ls : List Lm) (pre : List Addr) (prl : List Lm) (ρ : En), LL = (pre ++ fs).zip (prl ++ ls) → pre.length = prl.length → fs.length = ls.length → (pre ++ fs).Nodup → j < ρ.length →
    lcL (gN j) bYes (eToldF j cs fr LL) (fs.map D.row) ρ = toldAll cs fr (ls.map Lm.fb)
  | [], [], _, _, ρ, _, _, _, _, _ => rfl
  | [], _ :: _, _, _, _, _, _, h, _, _ => by simp at h
  | _ :: _, [], _, _, _, _, _, h, _, _ => by simp at h
  | f :: fs, l :: ls, pre, prl, ρ, e, hp, hl, nd, hj => by
    have ih := lcL_told (cs := cs) (fr := fr) (j := j) LL fs ls (pre ++ [f]) (prl ++ [l]) ρ (by rw [e]; simp) (by simp [hp]) (by simpa using hl) (by simpa using nd) hj
    have hk : LL.lookup f = some l := by
      rw [e]
      refine lookup_zip_at hp fun z => ?_
      have := List.nodup_append.mp nd
      exact this.2.2 f z f List.mem_cons_self rfl
    have ht : eToldF j cs fr LL (ρ.set j (.val (.row f))) = eTold cs fr l.fb [] := by
      unfold eToldF
      rw [List.getElem?_set_self hj]
      dsimp only
      rw [hk]
    rw [List.map_cons, List.map_cons]
    unfold lcL toldAll
    have e1 : lft (gN j (D.row f) ρ) = (pure (ρ.set j (.val (.row f))) : M En) := rfl
    rw [e1, pure_bind]
    have e2 : bYes (ρ.set j (.val (.row f))) = (pure true : M Bool) := rfl
    rw [e2, pure_bind, if_pos rfl, ht, ih]
theorem nLc_told {cs : List Str} {fr : Xn → M DL.D} {i j : Nat} {a : Addr} {fs : List Addr} {ls : List Lm} {n : Nat} (hl : fs.length = ls.length) (nd : fs.Nodup) (hi : i < n) (hj : j < n) (hij : i ≠ j) (hz : ls.length ≤ 60) :
    eFresh (nLc (iFns i a fs) (gN j) bYes (eToldF j cs fr (fs.zip ls)) [j]) ((List.replicate n .no).set i (.val (.row a))) = toldL cs fr (ls.map Lm.fb) := by
  unfold eFresh nLc toldL
  have hi' : i < (List.replicate n SV.no).length := by simpa using hi
  have e1 : iFns i a fs ((List.replicate n .no).set i (.val (.row a))) = pure (fs.map D.row) := by
    unfold iFns
    rw [List.getElem?_set_self hi']
    dsimp only
    rw [if_pos rfl]
  rw [e1, pure_bind, if_pos (by rw [List.length_map, hl]; exact Nat.le_trans hz (by decide))]
  have e2 := lcL_told (cs := cs) (fr := fr) (j := j) (fs.zip ls) fs ls [] [] (wipD ((List.replicate n SV.no).set i (.val (.row a))) [j]) rfl rfl hl (by simpa using nd) (by
    unfold wipD wipD
    simpa using hj)
  rw [e2, bind_assoc]
  congr 1
theorem pdss_calls {k i : Nat} {y q : Str} {py pe pa pr : Pos} {es : List Expr} {ls : List Lm} {c Pt : Addr} {e : Expr} {fe : Addr → List Addr → En → M DL.D} {g : M DL.D} (h : PLs X.prog X.w X.K X.mg X.base k q es ls) (hq : q = X.env.qual ++ ("<lambda>" : Str)) (TB : LamX.TabB X.base X.mg c Pt) (hcode : X.env.code = .ref c) (it : IsTab X.K Pt q)
    (hz : ls.length ≤ 60) (hi : i < X.N.length) (hg : PG X (.Name y py) (gName i)) (hrest : ∀ (a : Addr) (fs : List Addr) (E' : Ent), E'.F a = some (.lst (fs.map V.ref)) → Paired (LmAt q E'.F) fs ls → (∀ l ∈ ls, LmOk X.prog X.w X.K X.mg X.base k q l) → PD X W E' e (fe a fs))
    (hG : ∀ (a : Addr) (fs : List Addr), fs.length = ls.length → fs.Nodup → fe a fs ((List.replicate X.N.length .no).set i (.val (.row a))) = g)
    (hs : swapsWithSole [Expr.Name y py] (.List es pe) pa.line X.env = pure false := by rfl) (hw : swappedStores [Expr.Name y py] (.List es pe) X.env = pure none := by rfl)
    (h1 : (assignEach [Expr.Name y py] X.env).map (·.2) = [assign (.Name y py) X.env] := by rfl) :
    PDSs X W E [.Assign [.Name y py] (.List es pe) pa, .Return (some e) pr] (sRet fun _ => g) := by
  have h2 : PSs X [.Return (some e) pr] (fun D₀ σ H => σ.length = X.N.length → ∃ (a : Addr) (fs : List Addr) (E' : Ent), E'.F a = some (.lst (fs.map V.ref)) ∧ Paired (LmAt q E'.F) fs ls ∧ liftS X.prog X.w X.K W E' (sRet (fe a fs)) D₀ σ H) :=
    ⟨fun pins s σ H D I hh => by
      obtain ⟨a, fs, E', f1, f2, f4⟩ := hh I.len
      exact (pds_one (pds_ret (hrest a fs E' f1 f2 h.all))).run pins s σ H D I f4⟩
  refine ⟨fun pins s σ H D I hh => (PSs.imp (pss_cons (ps_asg (pe_lst (pa_lms (E := E) h hq TB hcode it)) hg hs hw h1) h2) fun D₀ σ H hl => ?_ : PSs X _ (fun D₀ σ H => σ.length = X.N.length ∧ liftS X.prog X.w X.K W E (sRet fun _ => g) D₀ σ H)).run pins s σ H D I ⟨I.len, hh⟩⟩
  obtain ⟨hlen, F, ρ, R, ok, run⟩ := hl
  refine ⟨F, ρ, R, ok, fun F1 H1 fs g1 r1 pr nd nf => ⟨?_, fun p hp => ?_⟩⟩
  · rw [List.length_map, paired_len pr]
    exact Nat.le_trans hz (by decide)
  have gp := GrowP.new (o := .lst (fs.map V.ref)) g1.fh hp
  intro _
  refine ⟨p, fs, ⟨upd F1 p (.lst (fs.map V.ref)), upd H1 p (.lst (fs.map V.ref)), R⟩, upd_same, Paired.mapP pr fun f l z => z.mono gp.ff, upd F1 p (.lst (fs.map V.ref)), (List.replicate X.N.length .no).set i (.val (.row p)), R, ?_, ?_⟩
  · have o0 : Ok X.prog X.w X.K ⟨upd F1 p (.lst (fs.map V.ref)), upd H1 p (.lst (fs.map V.ref)), R⟩ (upd F1 p (.lst (fs.map V.ref))) σ (upd H1 p (.lst (fs.map V.ref))) (List.replicate X.N.length .no) R := by
      refine ⟨Grow.refl gp.fh, gp.row r1, fun i sv e => ?_, fun i j oi oj a e1 _ _ _ => ?_, by simp [hlen]⟩
      · rw [List.getElem?_replicate] at e
        split at e
        · cases e; trivial
        · cases e
      · rw [List.getElem?_replicate] at e1
        split at e1 <;> cases e1
    exact o0.set i (v := .ref p) (d := .row p) rfl
  · have eg := hG p fs (paired_len pr) nd
    have gg : Grow E.R R E.F E.H (upd F1 p (.lst (fs.map V.ref))) (upd H1 p (.lst (fs.map V.ref))) := ok.g.trans (g1.trans gp.g)
    unfold RunS at run ⊢
    have es : sRet (fe p fs) ((List.replicate X.N.length .no).set i (.val (.row p))) = (sRet (fun _ => g) ρ : M Fl) := by
      unfold sRet
      rw [eg]
    rw [es]
    have sr : (sRet (fun _ => g) ρ : M Fl) = (do let d ← g; pure (.rt d)) := rfl
    rw [sr] at run ⊢
    rw [M.bind_def] at run ⊢
    unfold M.bnd at run ⊢
    cases e : g R with
    | none => rw [e] at run; exact run.elim
    | some pq =>
      obtain ⟨o, R'⟩ := pq
      rw [e] at run
      cases o with
      | exn x => exact fun c dd F H gw => run c dd F H (gg.trans gw)
      | val d => exact fun v F H gw => run v F H (gg.trans gw)
theorem same_calls {fn : List D → M D} {cs : List Str} {fr : Xn → M DL.D} {i j : Nat} {a : Addr} {fs : List Addr} {ls : List Lm} {n : Nat} {f2 : En → M DL.D} {fbs : List (En → M DL.D)} (hl : fs.length = ls.length) (nd : fs.Nodup) (hi : i < n) (hj : j < n) (hij : i ≠ j) (hz : ls.length ≤ 60) (hb : ls.map Lm.fb = fbs)
    (h2 : f2 ((List.replicate n .no).set i (.val (.row a))) = f2 (List.replicate n .no)) :
    eF fn (aCons (eFresh (nLc (iFns i a fs) (gN j) bYes (eToldF j cs fr (fs.zip ls)) [j])) (aCons f2 aNil)) ((List.replicate n .no).set i (.val (.row a))) = eF fn (aCons (fun _ => toldL cs fr fbs) (aCons f2 aNil)) (List.replicate n .no) := by
  unfold eF aCons
  rw [nLc_told hl nd hi hj hij hz, h2, hb]
  rfl
end
end DX

set_option maxHeartbeats 4000000
/-! ### own.extend(a new list) -/
namespace DX
open PySem PySem.Spec PyProof.Rows L2 DL
section
variable {X : Cx} {W : XK} {E : Ent} {pos p : Pos}
def sExt (i : Nat) (f : En → M OW) : En → M Fl := fun ρ => match ρ[i]? with
  | some (.own (.lst ds)) => do
    let o ← f ρ
    match o with
    | .lst es => if ds.length + es.length ≤ SZ then pure (.nx (ρ.set i (.own (.lst (ds ++ es))))) else stk
    | _ => stk
  | _ => stk
theorem pds_ext {x : Str} {p apos cpos : Pos} {e : Expr} {f : En → M OW} (i : Nat) (hv : PE X (.Name x p) (tVar i)) (h : PDN X W E e f) 
    (hbase : attributeBase (.Name x p) "extend" X.env (eval (.Name x p) X.env) = eval (.Name x p) X.env := by rfl)
    (hfew : ((backTo cpos (starEach (e :: []) X.env)).all (fun x => !x.1) && (backToKw cpos (keywordEach [] X.env)).all (fun x => x.1.isSome)
      && decide ((e :: []).length + ([] : List Keyword).length + (if ([] : List Keyword).isEmpty then 0 else 1) < 30)) = true := by rfl)
    (hline : (apos.endLine == cpos.line) = true := by rfl) (hst : starEach (e :: []) X.env = (false, eval e X.env) :: starEach [] X.env := by rfl) (hplain : (backTo cpos (starEach [] X.env)).any (·.1) = false := by rfl)
    (hs : swapsWith (.Call (.Attribute (.Name x p) "extend" apos) [e] [] cpos) none pos.line X.env = pure false := by rfl) :
    PDS X W E (.Expr (.Call (.Attribute (.Name x p) "extend" apos) [e] [] cpos) pos) (sExt i f) := by
  refine PS.imp (ps_expr (pe_bm PySem.F.plainAttrs_list PySem.F.slot_list_extend PySem.F.type_list_extend mt_extend hv (pa_cons h pa_nil hst) hbase hfew hline hst hplain) hs) fun D₀ σ H hl => ?_
  obtain ⟨F, ρ, R, ok, run⟩ := hl
  unfold sExt at run
  cases eq : ρ[i]? with
  | none => rw [eq] at run; exact run.elim
  | some sv =>
    rw [eq] at run
    cases sv with
    | no => exact run.elim
    | val d => exact run.elim
    | own o =>
      cases o with
      | dic k => exact run.elim
      | ids k => exact run.elim
      | lst ds =>
        obtain ⟨a, h1, h2, h3, h4, xs, h5, h6⟩ := ok.sl i _ eq
        refine ⟨.ref a, h1, .inl ⟨rfl, xs, SqL.of h5⟩, F, ρ, R, ok, (run.bind ok).imp fun o R1 F1 H1 g1 r1 q p u hp ow => ?_⟩
        cases o with
        | dic _ => exact q.elim
        | ids _ => exact q.elim
        | lst es =>
          obtain ⟨ys, hy, hd⟩ := ow
          rw [upd_same] at hy
          cases hy
          dsimp only at q
          by_cases hz : ds.length + es.length ≤ SZ
          · rw [if_pos hz] at q
            have gp := GrowP.new (o := .lst ys) g1.fh hp
            have ok1 := (ok.grow g1 r1).grow gp.g (gp.row r1)
            have e5 := g1.hs a _ h5 h2 h4 fun ps e => nomatch e
            have e6 : upd H1 p (.lst ys) a = some (.lst xs) := by rw [upd_ne (ne_of_none e5 hp)]; exact e5
            refine ⟨a, p, xs, ys, rfl, rfl, e6, upd_same, by rw [h6.len, hd.len, ← sz_eq]; exact hz, q σ _ _ gp.ff (ok1.mut eq h1 ⟨_, upd_same, (DpAll.mono (g1.ff.trans gp.ff) h6).append (DpAll.mono gp.ff hd)⟩)⟩
          · rw [if_neg hz] at q
            exact q.elim
end
end DX

set_option maxHeartbeats 4000000
/-! ### a, b = a value, a new list, both names plain -/
namespace DX
open PySem PySem.Spec PyProof.Rows L2 DL
section
variable {X : Cx} {W : XK} {E : Ent} {pos : Pos}
theorem pds_parEN {x y : Str} {a b : Expr} {px py pt : Pos} {kt k2 pt2} {f : En → M D} {g : En → M OW} (i j : Nat) (hc : X.calm = true) (hN : X.N.Nodup) (hi : X.N[i]? = some x) (hj : X.N[j]? = some y) (hij : i ≠ j)
    (hx : X.env.scope.names.lookup x = some .local) (hy : X.env.scope.names.lookup y = some .local) (ha : PD X W E a f) (hb : PDN X W E b g)
    (hw : swappedStores [.Tuple [.Name x px, .Name y py] kt pt] (.Tuple [a, b] k2 pt2) X.env = pure (some [x, y]))
    (hs : swapsWithSole [.Tuple [.Name x px, .Name y py] kt pt] (.Tuple [a, b] k2 pt2) pos.line X.env = pure false := by rfl) (h1 : starEach [a, b] X.env = (false, eval a X.env) :: starEach [b] X.env := by rfl) (h2 : starEach [b] X.env = (false, eval b X.env) :: starEach [] X.env := by rfl) :
    PDS X W E (.Assign [.Tuple [.Name x px, .Name y py] kt pt] (.Tuple [a, b] k2 pt2) pos) (sParEN i j f g) := by
  refine PS.imp (ps_par hc hN hi hj hij hx hy (pa_cons ha (pa_cons hb pa_nil h2) h1) hw hs) fun D₀ σ H hl => ?_
  obtain ⟨F, ρ, R, ok, run⟩ := hl
  refine ⟨F, ρ, R, ok, (run.bind ok).imp fun dx R1 F1 H1 g1 r1 q1 vx rx => ?_⟩
  have ok1 := ok.grow g1 r1
  refine ⟨F1, ρ, R1, ok1, (q1.bind ok1).imp fun oy R2 F2 H2 g2 r2 q2 p u hp ow => ?_⟩
  have ok2 := ok1.grow g2 r2
  exact ⟨vx, .ref p, rfl, q2 _ F2 _ (Same.refl F2) ((ok2.set i (rx.mono g2.ff)).setOwn j hp ow)⟩
end
end DX

set_option maxHeartbeats 4000000
namespace LT
open PySem PySem.Spec PyProof.Rows L2 DL
def topS (i : Nat) : Stmt := PySem.Challenge.pw_leaptover_k17_whole_lines_that_settle.main.body.getD i (.Pass ⟨0, 0, 0, 0⟩)
abbrev s_is_number : Stmt := topS 1
abbrev s_first_false : Stmt := topS 2
abbrev s_need_line : Stmt := topS 16
abbrev s_line_worth : Stmt := topS 17
abbrev s_line_value : Stmt := topS 18
abbrev s_least_line : Stmt := topS 25
abbrev s_settled : Stmt := topS 19
abbrev s_line_leaps : Stmt := topS 20
abbrev s_line_after : Stmt := topS 21
abbrev s_many_leaps : Stmt := topS 23
abbrev s_settling : Stmt := topS 22
abbrev s_do_meet : Stmt := topS 24
abbrev s__law_taken : Stmt := topS 27
abbrev s__law_alike : Stmt := topS 28
abbrev s__law_same : Stmt := topS 29
abbrev s__law_refusal : Stmt := topS 31
abbrev s__law_told : Stmt := topS 30
abbrev s__law_ends : Stmt := topS 32
abbrev s_law : Stmt := topS 33
def memS : Stmt → Nat → Stmt
  | .ClassDef _ _ _ body _ _ _ _ _ _ _, i => body.getD i (.Pass ⟨0, 0, 0, 0⟩)
  | _, _ => .Pass ⟨0, 0, 0, 0⟩
def P : Program := PySem.Challenge.rw_leaptover_k17_whole_lines_that_settle.prog
def ed_BadPegs : DX.ExD := ⟨"BadPegs", ["place"], memS (topS 6) 0⟩
def csX : List Str := ["BadPegs"]
def kindsX : List Str := ["BadBoard", "BadPegs", "BadLeap", "BadNumber", "BadWorth", "BadSet", "BadRow", "BadText", "Unlike"]
def fldsX : List Str := ["one", "other", "line", "value", "place"]
structure Hd (K : PySem.W.Frag) (mg : Str → Option Value) (base : Heap) : Prop where
  x_BadPegs : DX.ExH P K mg ed_BadPegs
  rf : DX.RefT K mg csX kindsX fldsX
  lt : ∃ CL, mg "LeapError" = some (.ref CL) ∧ ∀ c ∈ csX, PySem.W.exmOne K (.ref (He.ga K c)) (.ref CL) = some true
  m_ValueError : mg "ValueError" = none
  m_bool : mg "bool" = none
  m_enumerate : mg "enumerate" = none
  m_int : mg "int" = none
  m_isinstance : mg "isinstance" = none
  m_len : mg "len" = none
  m_list : mg "list" = none
  m_range : mg "range" = none
  m_repr : mg "repr" = none
  m_set : mg "set" = none
  m_sorted : mg "sorted" = none
  m_str : mg "str" = none
  m_sum : mg "sum" = none
  m_super : mg "super" = none
  m_tuple : mg "tuple" = none
  c_MOST_LINE : ∃ t, mg "MOST_LINE" = some (.int 40 t)
  f_is_number : ∃ f fd, mg "is_number" = some (.ref f) ∧ Fun K "is_number" "is_number" s_is_number f fd ∧ Binds K fd ["value"] []
  f_first_false : ∃ f fd, mg "first_false" = some (.ref f) ∧ Fun K "first_false" "first_false" s_first_false f fd ∧ Binds K fd ["marks"] []
  f_need_line : ∃ f fd, mg "need_line" = some (.ref f) ∧ Fun K "need_line" "need_line" s_need_line f fd ∧ Binds K fd ["pegs"] []
  f_line_worth : ∃ f fd, mg "line_worth" = some (.ref f) ∧ Fun K "line_worth" "line_worth" s_line_worth f fd ∧ Binds K fd ["place"] []
  f_line_value : ∃ f fd, mg "line_value" = some (.ref f) ∧ Fun K "line_value" "line_value" s_line_value f fd ∧ Binds K fd ["pegs"] []
  f_least_line : ∃ f fd, mg "least_line" = some (.ref f) ∧ Fun K "least_line" "least_line" s_least_line f fd ∧ Binds K fd ["value"] []
  f_settled : ∃ f fd, mg "settled" = some (.ref f) ∧ Fun K "settled" "settled" s_settled f fd ∧ Binds K fd ["pegs"] []
  f_line_leaps : ∃ f fd, mg "line_leaps" = some (.ref f) ∧ Fun K "line_leaps" "line_leaps" s_line_leaps f fd ∧ Binds K fd ["pegs"] []
  f_line_after : ∃ f fd, mg "line_after" = some (.ref f) ∧ Fun K "line_after" "line_after" s_line_after f fd ∧ Binds K fd ["pegs", "place"] []
  f_many_leaps : ∃ f fd, mg "many_leaps" = some (.ref f) ∧ Fun K "many_leaps" "many_leaps" s_many_leaps f fd ∧ Binds K fd ["pegs"] []
  f_settling : ∃ f fd, mg "settling" = some (.ref f) ∧ Fun K "settling" "settling" s_settling f fd ∧ Binds K fd ["pegs"] []
  f_do_meet : ∃ f fd, mg "do_meet" = some (.ref f) ∧ Fun K "do_meet" "do_meet" s_do_meet f fd ∧ Binds K fd ["pegs", "other"] []
  f__law_taken : ∃ f fd, mg "_law_taken" = some (.ref f) ∧ Fun K "_law_taken" "_law_taken" s__law_taken f fd ∧ Binds K fd ["row", "amount"] []
  f__law_alike : ∃ f fd, mg "_law_alike" = some (.ref f) ∧ Fun K "_law_alike" "_law_alike" s__law_alike f fd ∧ Binds K fd ["found", "due"] []
  f__law_same : ∃ f fd, mg "_law_same" = some (.ref f) ∧ Fun K "_law_same" "_law_same" s__law_same f fd ∧ Binds K fd ["found", "due"] []
  f__law_refusal : ∃ f fd, mg "_law_refusal" = some (.ref f) ∧ Fun K "_law_refusal" "_law_refusal" s__law_refusal f fd ∧ Binds K fd ["e"] []
  f__law_told : ∃ f fd, mg "_law_told" = some (.ref f) ∧ Fun K "_law_told" "_law_told" s__law_told f fd ∧ Binds K fd ["call"] []
  f__law_ends : ∃ f fd, mg "_law_ends" = some (.ref f) ∧ Fun K "_law_ends" "_law_ends" s__law_ends f fd ∧ Binds K fd ["pegs"] []
  f_law : ∃ f fd, mg "law" = some (.ref f) ∧ Fun K "law" "law" s_law f fd ∧ Binds K fd ["script"] []
  t_law : ∀ f fd, mg "law" = some (.ref f) → Fun K "law" "law" s_law f fd → TabAt K mg base "law" fd
open DX
section
variable {w : World} {K : PySem.W.Frag} {mg : Str → Option Value} {base : Heap}
theorem mk_BadPegs (T : Hd K mg base) : MkX P w K mg base 1 "BadPegs" ["place"] := by
  refine mk1 (d := ed_BadPegs) T.x_BadPegs (by decide) rfl ⟨rfl, rfl, rfl, by decide, by decide +kernel, by decide +kernel, fun y h => (show ∀ z ∈ (defScope ed_BadPegs.st).names, z.2 = .free → z.1 = "__class__" by decide +kernel) _ (PySem.mem_of_lookup h) rfl⟩ rfl rfl T.m_super (by kernel_rfl) ⟨_, rfl, rfl⟩ (fun _ _ _ _ _ _ _ us hl => match us, hl with | [_, _], _ => rfl) (fun _ _ _ _ => rfl) (fun _ _ _ _ => rfl) (pl := L2.plainOf (.Call (.Name "super" _) [] [] _)) (fun _ _ _ _ => rfl) (fun _ _ _ _ => rfl)
theorem sc_is_number : FnScope ["value"] ["value"] (defScope s_is_number) := ⟨rfl, rfl, rfl, by decide +kernel, rfl, by decide +kernel, by decide +kernel⟩
def den_is_number : En → M Fl := sRet (eAnd (e1 (opIs "int") (eV 0)) (eNot (e1 (opIs "bool") (eV 0))))
def fn_is_number : List D → M D := runFn 1 1 den_is_number
theorem ok_is_number (T : Hd K mg base) : Fn P w K mg base 1 "is_number" fn_is_number := by
  obtain ⟨f, fd, hm, F, hb⟩ := T.f_is_number
  refine fn_mk hm F hb sc_is_number (fun cdv A outer s H EX E hr => ?_) rfl
  have nd := sc_is_number.nd
  exact pds_one (pds_ret (pd_and (pd_isi "int" (by simp) rfl T.m_isinstance rfl T.m_int (by decide +kernel) (by decide) (by decide) (pd_var 0 (pv 0))) (pd_one (pd_not (pd_isi "bool" (by simp) rfl T.m_isinstance rfl T.m_bool (by decide +kernel) (by decide) (by decide) (pd_var 0 (pv 0)))))))
theorem sc_first_false : FnScope ["marks", "place", "mark"] ["marks"] (defScope s_first_false) := ⟨rfl, rfl, rfl, by decide +kernel, rfl, by decide +kernel, by decide +kernel⟩
def den_first_false : En → M Fl := sSeq (sFor (iEnum (eV 0)) (gT 1 2) (sIf (bNot (bE (eV 2))) (sRet (eV 1)) (sNil))) (sRet (eC (.dat .none)))
def fn_first_false : List D → M D := runFn 1 3 den_first_false
theorem ok_first_false (T : Hd K mg base) : Fn P w K mg base 1 "first_false" fn_first_false := by
  obtain ⟨f, fd, hm, F, hb⟩ := T.f_first_false
  refine fn_mk hm F hb sc_first_false (fun cdv A outer s H EX E hr => ?_) rfl
  have nd := sc_first_false.nd
  have hp := passes_of (X := cxOf (L2.CX P w) P w K mg base ["marks", "place", "mark"] "first_false" (defScope s_first_false) f cdv A outer s H EX) rfl
  exact pds_cons (pds_for hp rfl (pdi_enum rfl T.m_enumerate (pd_var 0 (pv 0))) (pdg_two 1 2 rfl (pg_name (i := 1) nd rfl (by first | exact Or.inl rfl | exact Or.inr rfl | exact Or.inr ⟨rfl, rfl⟩)) (pg_name (i := 2) nd rfl (by first | exact Or.inl rfl | exact Or.inr rfl | exact Or.inr ⟨rfl, rfl⟩))) (pds_one (pds_if (pdt_not (pdt_val (pd_var 2 (pv 2)))) (pds_one (pds_ret (pd_var 1 (pv 1)))) (pds_nil)))) (pds_one (pds_ret (pd_non)))
theorem sc_need_line : FnScope ["pegs", "marks", "place", "one", "is_right", "wrong"] ["pegs"] (defScope s_need_line) := ⟨rfl, rfl, rfl, by decide +kernel, rfl, by decide +kernel, by decide +kernel⟩
def den_need_line : En → M Fl := sSeq (sIf (bNot (bE (e1 (opIs "tuple") (eV 0)))) (sRaise "BadPegs" ["place"] (aCons (e1 opNeg (eC (.dat (.int 1)))) (aNil))) (sNil)) (sSeq (sOwn 1 (nLst (aNil))) (sSeq (sFor (iEnum (eV 0)) (gT 2 3) (sSeq (sSet 4 (eAnd (eF fn_is_number (aCons (eV 3) (aNil))) (eCh opLe opLe (eC (.dat (.int 0))) (eV 3) (eC (.dat (.int 40)))))) (sSeq (sIf (bAnd (bE (eV 4)) (bAnd (bE (e2 opGt (eV 2) (eC (.dat (.int 0))))) (bE (eOwnIx 1 (e1 opNeg (eC (.dat (.int 1)))))))) (sSet 4 (e2 opLt (eIx (eV 0) (e2 opSub (eV 2) (eC (.dat (.int 1))))) (eV 3))) (sNil)) (sApp 1 (eV 4))))) (sFrz 1 (sSeq (sSet 5 (eF fn_first_false (aCons (eV 1) (aNil)))) (sIf (bE (e1 opNotN (eV 5))) (sRaise "BadPegs" ["place"] (aCons (eV 5) (aNil))) (sNil))))))
def fn_need_line : List D → M D := runFn 1 6 den_need_line
theorem ok_need_line (T : Hd K mg base) : Fn P w K mg base 3 "need_line" fn_need_line := by
  obtain ⟨f, fd, hm, F, hb⟩ := T.f_need_line
  refine fn_mk hm F hb sc_need_line (fun cdv A outer s H EX E hr => ?_) rfl
  have hu := hr.units
  have nd := sc_need_line.nd
  have tk := takes_of (X := cxOf (L2.CX P w) P w K mg base ["pegs", "marks", "place", "one", "is_right", "wrong"] "need_line" (defScope s_need_line) f cdv A outer s H EX) (E := EX) rfl rfl rfl rfl
  have hp := passes_of (X := cxOf (L2.CX P w) P w K mg base ["pegs", "marks", "place", "one", "is_right", "wrong"] "need_line" (defScope s_need_line) f cdv A outer s H EX) rfl
  exact pds_cons (pds_if (pdt_not (pdt_val (pd_isi "tuple" (by simp) rfl T.m_isinstance rfl T.m_tuple (by decide +kernel) (by decide) (by decide) (pd_var 0 (pv 0))))) (pds_one (pds_raise (mk_BadPegs T) (hr.mono (by decide)) rfl rfl tk (pda_cons (pd_neg (pd_int)) (pda_nil)))) (pds_nil)) (pds_cons (pds_own 1 (pg_name (i := 1) nd rfl (by first | exact Or.inl rfl | exact Or.inr rfl | exact Or.inr ⟨rfl, rfl⟩)) (pdn_lst (pda_nil))) (pds_cons (pds_for hp rfl (pdi_enum rfl T.m_enumerate (pd_var 0 (pv 0))) (pdg_two 2 3 rfl (pg_name (i := 2) nd rfl (by first | exact Or.inl rfl | exact Or.inr rfl | exact Or.inr ⟨rfl, rfl⟩)) (pg_name (i := 3) nd rfl (by first | exact Or.inl rfl | exact Or.inr rfl | exact Or.inr ⟨rfl, rfl⟩))) (pds_cons (pds_set 4 (pg_name (i := 4) nd rfl (by first | exact Or.inl rfl | exact Or.inr rfl | exact Or.inr ⟨rfl, rfl⟩)) (pd_and (pd_call ((ok_is_number T).mono (by decide)) hr rfl tk (pda_cons (pd_var 3 (pv 3)) (pda_nil))) (pd_one (pd_chain cmpD_bool cmpD_bool (dop_le hu) (dop_le hu) (pd_int) (pd_var 3 (pv 3)) (pd_gint rfl T.c_MOST_LINE))))) (pds_cons (pds_if (pdt_bool (pdw_and (pdt_val (pd_var 4 (pv 4))) (pdw_and (pdt_cmp (dop_gt hu) (pd_var 2 (pv 2)) (pd_int) (nomark _)) (pdw_and1 (pdt_val (pd_ownIx 1 (pv 1) (pd_neg (pd_int)) (fun _ _ => rfl))))))) (pds_one (pds_set 4 (pg_name (i := 4) nd rfl (by first | exact Or.inl rfl | exact Or.inr rfl | exact Or.inr ⟨rfl, rfl⟩)) (pd_cmp (dop_lt hu) (pd_ix (pd_var 0 (pv 0)) (pd_bin dop_sub (pd_var 2 (pv 2)) (pd_int)) (fun _ _ => rfl)) (pd_var 3 (pv 3)) (nomark _)))) (pds_nil)) (pds_one (pds_app 1 (pv 1) (pd_var 4 (pv 4))))))) (pds_frz 1 (pds_cons (pds_set 5 (pg_name (i := 5) nd rfl (by first | exact Or.inl rfl | exact Or.inr rfl | exact Or.inr ⟨rfl, rfl⟩)) (pd_call ((ok_first_false T).mono (by decide)) hr rfl tk (pda_cons (pd_var 1 (pv 1)) (pda_nil)))) (pds_one (pds_if (pdt_notN (pd_var 5 (pv 5))) (pds_one (pds_raise (mk_BadPegs T) (hr.mono (by decide)) rfl rfl tk (pda_cons (pd_var 5 (pv 5)) (pda_nil)))) (pds_nil)))))))
theorem sc_line_worth : FnScope ["place", "one", "other", "turn"] ["place"] (defScope s_line_worth) := ⟨rfl, rfl, rfl, by decide +kernel, rfl, by decide +kernel, by decide +kernel⟩
def den_line_worth : En → M Fl := sSeq (sParEE 1 2 (eC (.dat (.int 1))) (eC (.dat (.int 2)))) (sSeq (sFor (iRange1 (aCons (eV 0) (aNil))) (gN 3) (sParEE 1 2 (eV 2) (e2 opAdd (eV 1) (eV 2)))) (sRet (eV 1)))
def fn_line_worth : List D → M D := runFn 1 4 den_line_worth
theorem ok_line_worth (T : Hd K mg base) : Fn P w K mg base 1 "line_worth" fn_line_worth := by
  obtain ⟨f, fd, hm, F, hb⟩ := T.f_line_worth
  refine fn_mk hm F hb sc_line_worth (fun cdv A outer s H EX E hr => ?_) rfl
  have nd := sc_line_worth.nd
  have hp := passes_of (X := cxOf (L2.CX P w) P w K mg base ["place", "one", "other", "turn"] "line_worth" (defScope s_line_worth) f cdv A outer s H EX) rfl
  exact pds_cons (pds_parEEc 1 2 rfl (pg_name (i := 1) nd rfl (by first | exact Or.inl rfl | exact Or.inr rfl | exact Or.inr ⟨rfl, rfl⟩)) (pg_name (i := 2) nd rfl (by first | exact Or.inl rfl | exact Or.inr rfl | exact Or.inr ⟨rfl, rfl⟩)) (pd_int) (pd_int)) (pds_cons (pds_for hp rfl (pdi_range1 rfl T.m_range (pda_cons (pd_var 0 (pv 0)) (pda_nil))) (pdg_name 3 (pg_name (i := 3) nd rfl (by first | exact Or.inl rfl | exact Or.inr rfl | exact Or.inr ⟨rfl, rfl⟩))) (pds_one (pds_parEE 1 2 rfl nd rfl rfl (by decide) rfl rfl (pd_var 2 (pv 2)) (pd_bin dop_add (pd_var 1 (pv 1)) (pd_var 2 (pv 2))) rfl))) (pds_one (pds_ret (pd_var 1 (pv 1)))))
theorem sc_line_value : FnScope ["pegs", "one"] ["pegs"] (defScope s_line_value) := ⟨rfl, rfl, rfl, by decide +kernel, rfl, by decide +kernel, by decide +kernel⟩
def den_line_value : En → M Fl := sSeq (sEx (eF fn_need_line (aCons (eV 0) (aNil)))) (sRet (eN g_sum (aCons (eFresh (nLc (iSeq (eV 0)) (gN 1) (bYes) (eF fn_line_worth (aCons (eV 1) (aNil))) [1])) (aNil))))
def fn_line_value : List D → M D := runFn 1 2 den_line_value
theorem ok_line_value (T : Hd K mg base) : Fn P w K mg base 4 "line_value" fn_line_value := by
  obtain ⟨f, fd, hm, F, hb⟩ := T.f_line_value
  refine fn_mk hm F hb sc_line_value (fun cdv A outer s H EX E hr => ?_) rfl
  have nd := sc_line_value.nd
  have tk := takes_of (X := cxOf (L2.CX P w) P w K mg base ["pegs", "one"] "line_value" (defScope s_line_value) f cdv A outer s H EX) (E := EX) rfl rfl rfl rfl
  exact pds_cons (pds_ex (pd_call ((ok_need_line T).mono (by decide)) hr rfl tk (pda_cons (pd_var 0 (pv 0)) (pda_nil)))) (pds_one (pds_ret (pd_callB (dc_sum rfl) rfl T.m_sum (by decide +kernel) (pda_cons (pd_fresh (pdn_lc (own := [("one", 1)]) rfl nd (pdi_seq (pd_var 0 (pv 0))) (blkOk_by (by kernel_rfl)) (pdgb_name 1 (by decide) (fun _ _ _ _ _ => pg_name (i := 1) nd rfl (by first | exact Or.inl rfl | exact Or.inr rfl | exact Or.inr ⟨rfl, rfl⟩))) (fun _ _ _ _ _ => pdts_nil) (fun _ _ _ _ _ => pd_call ((ok_line_worth T).mono (by decide)) hr rfl takes0 (pda_cons (pd_var 1 (pv 1)) (pda_nil))))) (pda_nil)))))
theorem sc_least_line : FnScope ["value", "rest", "found", "place"] ["value"] (defScope s_least_line) := ⟨rfl, rfl, rfl, by decide +kernel, rfl, by decide +kernel, by decide +kernel⟩
def den_least_line : En → M Fl := sSeq (sParEN 1 2 (eV 0) (nLst (aNil))) (sSeq (sFor (iRangeDn (aCons (e2 opAdd (eC (.dat (.int 40))) (eC (.dat (.int 1)))) (aCons (e1 opNeg (eC (.dat (.int 1)))) (aCons (e1 opNeg (eC (.dat (.int 1)))) (aNil))))) (gN 3) (sIf (bE (e2 opLe (eF fn_line_worth (aCons (eV 3) (aNil))) (eV 1))) (sSeq (sSet 1 (e2 opSub (eV 1) (eF fn_line_worth (aCons (eV 3) (aNil))))) (sApp 2 (eV 3))) (sNil))) (sFrz 2 (sRet (eN g_tuple (aCons (e1 opRev (eV 2)) (aNil))))))
def fn_least_line : List D → M D := runFn 1 4 den_least_line
theorem ok_least_line (T : Hd K mg base) : Fn P w K mg base 2 "least_line" fn_least_line := by
  obtain ⟨f, fd, hm, F, hb⟩ := T.f_least_line
  refine fn_mk hm F hb sc_least_line (fun cdv A outer s H EX E hr => ?_) rfl
  have hu := hr.units
  have nd := sc_least_line.nd
  have tk := takes_of (X := cxOf (L2.CX P w) P w K mg base ["value", "rest", "found", "place"] "least_line" (defScope s_least_line) f cdv A outer s H EX) (E := EX) rfl rfl rfl rfl
  have hp := passes_of (X := cxOf (L2.CX P w) P w K mg base ["value", "rest", "found", "place"] "least_line" (defScope s_least_line) f cdv A outer s H EX) rfl
  exact pds_cons (pds_parEN 1 2 rfl nd rfl rfl (by decide) rfl rfl (pd_var 0 (pv 0)) (pdn_lst (pda_nil)) rfl) (pds_cons (pds_for hp rfl (pdi_rangeDn rfl T.m_range (pda_cons (pd_bin dop_add (pd_gint rfl T.c_MOST_LINE) (pd_int)) (pda_cons (pd_neg (pd_int)) (pda_cons (pd_neg (pd_int)) (pda_nil))))) (pdg_name 3 (pg_name (i := 3) nd rfl (by first | exact Or.inl rfl | exact Or.inr rfl | exact Or.inr ⟨rfl, rfl⟩))) (pds_one (pds_if (pdt_cmp (dop_le hu) (pd_call ((ok_line_worth T).mono (by decide)) hr rfl tk (pda_cons (pd_var 3 (pv 3)) (pda_nil))) (pd_var 1 (pv 1)) (nomark _)) (pds_cons (pds_set 1 (pg_name (i := 1) nd rfl (by first | exact Or.inl rfl | exact Or.inr rfl | exact Or.inr ⟨rfl, rfl⟩)) (pd_bin dop_sub (pd_var 1 (pv 1)) (pd_call ((ok_line_worth T).mono (by decide)) hr rfl tk (pda_cons (pd_var 3 (pv 3)) (pda_nil))))) (pds_one (pds_app 2 (pv 2) (pd_var 3 (pv 3))))) (pds_nil)))) (pds_frz 2 (pds_one (pds_ret (pd_callTy dt_tuple rfl T.m_tuple (by decide +kernel) (pda_cons (pd_rev (pd_var 2 (pv 2))) (pda_nil)))))))
theorem sc_settled : FnScope ["pegs"] ["pegs"] (defScope s_settled) := ⟨rfl, rfl, rfl, by decide +kernel, rfl, by decide +kernel, by decide +kernel⟩
def den_settled : En → M Fl := sRet (eF fn_least_line (aCons (eF fn_line_value (aCons (eV 0) (aNil))) (aNil)))
def fn_settled : List D → M D := runFn 1 1 den_settled
theorem ok_settled (T : Hd K mg base) : Fn P w K mg base 5 "settled" fn_settled := by
  obtain ⟨f, fd, hm, F, hb⟩ := T.f_settled
  refine fn_mk hm F hb sc_settled (fun cdv A outer s H EX E hr => ?_) rfl
  have nd := sc_settled.nd
  have tk := takes_of (X := cxOf (L2.CX P w) P w K mg base ["pegs"] "settled" (defScope s_settled) f cdv A outer s H EX) (E := EX) rfl rfl rfl rfl
  exact pds_one (pds_ret (pd_call ((ok_least_line T).mono (by decide)) hr rfl tk (pda_cons (pd_call ((ok_line_value T).mono (by decide)) hr rfl tk (pda_cons (pd_var 0 (pv 0)) (pda_nil))) (pda_nil))))
theorem sc_line_leaps : FnScope ["pegs", "one"] ["pegs"] (defScope s_line_leaps) := ⟨rfl, rfl, rfl, by decide +kernel, rfl, by decide +kernel, by decide +kernel⟩
def den_line_leaps : En → M Fl := sSeq (sEx (eF fn_need_line (aCons (eV 0) (aNil)))) (sRet (eN g_tuple (aCons (eFresh (nLc (iSeq (eV 0)) (gN 1) (bAnd (bE (e2 opIn (e2 opAdd (eV 1) (eC (.dat (.int 1)))) (eV 0))) (bE (e2 opNotIn (e2 opAdd (eV 1) (eC (.dat (.int 2)))) (eV 0)))) (eV 1) [1])) (aNil))))
def fn_line_leaps : List D → M D := runFn 1 2 den_line_leaps
theorem ok_line_leaps (T : Hd K mg base) : Fn P w K mg base 4 "line_leaps" fn_line_leaps := by
  obtain ⟨f, fd, hm, F, hb⟩ := T.f_line_leaps
  refine fn_mk hm F hb sc_line_leaps (fun cdv A outer s H EX E hr => ?_) rfl
  have hu := hr.units
  have nd := sc_line_leaps.nd
  have tk := takes_of (X := cxOf (L2.CX P w) P w K mg base ["pegs", "one"] "line_leaps" (defScope s_line_leaps) f cdv A outer s H EX) (E := EX) rfl rfl rfl rfl
  exact pds_cons (pds_ex (pd_call ((ok_need_line T).mono (by decide)) hr rfl tk (pda_cons (pd_var 0 (pv 0)) (pda_nil)))) (pds_one (pds_ret (pd_callTy dt_tuple rfl T.m_tuple (by decide +kernel) (pda_cons (pd_fresh (pdn_lc (own := [("one", 1)]) rfl nd (pdi_seq (pd_var 0 (pv 0))) (blkOk_by (by kernel_rfl)) (pdgb_name 1 (by decide) (fun _ _ _ _ _ => pg_name (i := 1) nd rfl (by first | exact Or.inl rfl | exact Or.inr rfl | exact Or.inr ⟨rfl, rfl⟩))) (fun _ _ _ _ _ => pdts_one (pdt_bool (pdw_and (pdt_cmp (dop_in hu) (pd_bin dop_add (pd_var 1 (pv 1)) (pd_int)) (pd_var 0 (pv 0)) rfl) (pdw_and1 (pdt_cmp (dop_notIn hu) (pd_bin dop_add (pd_var 1 (pv 1)) (pd_int)) (pd_var 0 (pv 0)) rfl))))) (fun _ _ _ _ _ => pd_var 1 (pv 1)))) (pda_nil)))))
theorem sc_line_after : FnScope ["pegs", "place", "one"] ["pegs", "place"] (defScope s_line_after) := ⟨rfl, rfl, rfl, by decide +kernel, rfl, by decide +kernel, by decide +kernel⟩
def den_line_after : En → M Fl := sRet (eN g_tuple (aCons (eN g_sorted (aCons (e2 opAdd (eFresh (nLc (iSeq (eV 0)) (gN 2) (bE (e2 opNotIn (eV 2) (eN gTupD (aCons (eV 1) (aCons (e2 opAdd (eV 1) (eC (.dat (.int 1)))) (aNil)))))) (eV 2) [2])) (eN gLstD (aCons (e2 opAdd (eV 1) (eC (.dat (.int 2)))) (aNil)))) (aNil))) (aNil)))
def fn_line_after : List D → M D := runFn 2 3 den_line_after
theorem ok_line_after (T : Hd K mg base) : Fn P w K mg base 1 "line_after" fn_line_after := by
  obtain ⟨f, fd, hm, F, hb⟩ := T.f_line_after
  refine fn_mk hm F hb sc_line_after (fun cdv A outer s H EX E hr => ?_) rfl
  have hu := hr.units
  have nd := sc_line_after.nd
  exact pds_one (pds_ret (pd_callTy dt_tuple rfl T.m_tuple (by decide +kernel) (pda_cons (pd_callB (dc_sorted hu) rfl T.m_sorted (by decide +kernel) (pda_cons (pd_bin dop_add (pd_fresh (pdn_lc (own := [("one", 2)]) rfl nd (pdi_seq (pd_var 0 (pv 0))) (blkOk_by (by kernel_rfl)) (pdgb_name 2 (by decide) (fun _ _ _ _ _ => pg_name (i := 2) nd rfl (by first | exact Or.inl rfl | exact Or.inr rfl | exact Or.inr ⟨rfl, rfl⟩))) (fun _ _ _ _ _ => pdts_one (pdt_cmp (dop_notIn hu) (pd_var 2 (pv 2)) (pd_tup (pda_cons (pd_var 1 (pv 1)) (pda_cons (pd_bin dop_add (pd_var 1 (pv 1)) (pd_int)) (pda_nil)))) rfl)) (fun _ _ _ _ _ => pd_var 2 (pv 2)))) (pd_lst (pda_cons (pd_bin dop_add (pd_var 1 (pv 1)) (pd_int)) (pda_nil)))) (pda_nil))) (pda_nil))))
theorem sc_many_leaps : FnScope ["pegs"] ["pegs"] (defScope s_many_leaps) := ⟨rfl, rfl, rfl, by decide +kernel, rfl, by decide +kernel, by decide +kernel⟩
def den_many_leaps : En → M Fl := sRet (e2 opSub (eN g_len (aCons (eV 0) (aNil))) (eN g_len (aCons (eF fn_settled (aCons (eV 0) (aNil))) (aNil))))
def fn_many_leaps : List D → M D := runFn 1 1 den_many_leaps
theorem ok_many_leaps (T : Hd K mg base) : Fn P w K mg base 6 "many_leaps" fn_many_leaps := by
  obtain ⟨f, fd, hm, F, hb⟩ := T.f_many_leaps
  refine fn_mk hm F hb sc_many_leaps (fun cdv A outer s H EX E hr => ?_) rfl
  have nd := sc_many_leaps.nd
  have tk := takes_of (X := cxOf (L2.CX P w) P w K mg base ["pegs"] "many_leaps" (defScope s_many_leaps) f cdv A outer s H EX) (E := EX) rfl rfl rfl rfl
  exact pds_one (pds_ret (pd_bin dop_sub (pd_callB (dc_len) rfl T.m_len (boot_len) (pda_cons (pd_var 0 (pv 0)) (pda_nil))) (pd_callB (dc_len) rfl T.m_len (boot_len) (pda_cons (pd_call ((ok_settled T).mono (by decide)) hr rfl tk (pda_cons (pd_var 0 (pv 0)) (pda_nil))) (pda_nil)))))
theorem sc_settling : FnScope ["pegs", "found", "here", "turn", "place", "one"] ["pegs"] (defScope s_settling) := ⟨rfl, rfl, rfl, by decide +kernel, rfl, by decide +kernel, by decide +kernel⟩
def den_settling : En → M Fl := sSeq (sEx (eF fn_need_line (aCons (eV 0) (aNil)))) (sSeq (sParNE 1 2 (nLst (aNil)) (eV 0)) (sSeq (sFor (iRange1 (aCons (eF fn_many_leaps (aCons (eV 0) (aNil))) (aNil))) (gN 3) (sSeq (sSet 4 (eIx (eFresh (nLc (iSeq (eV 2)) (gN 5) (bAnd (bE (e2 opIn (e2 opAdd (eV 5) (eC (.dat (.int 1)))) (eV 2))) (bE (e2 opNotIn (e2 opAdd (eV 5) (eC (.dat (.int 2)))) (eV 2)))) (eV 5) [5])) (e1 opNeg (eC (.dat (.int 1)))))) (sSeq (sApp 1 (eV 4)) (sSet 2 (eF fn_line_after (aCons (eV 2) (aCons (eV 4) (aNil)))))))) (sFrz 1 (sRet (eN g_tuple (aCons (eV 1) (aNil)))))))
def fn_settling : List D → M D := runFn 1 6 den_settling
theorem ok_settling (T : Hd K mg base) : Fn P w K mg base 7 "settling" fn_settling := by
  obtain ⟨f, fd, hm, F, hb⟩ := T.f_settling
  refine fn_mk hm F hb sc_settling (fun cdv A outer s H EX E hr => ?_) rfl
  have hu := hr.units
  have nd := sc_settling.nd
  have tk := takes_of (X := cxOf (L2.CX P w) P w K mg base ["pegs", "found", "here", "turn", "place", "one"] "settling" (defScope s_settling) f cdv A outer s H EX) (E := EX) rfl rfl rfl rfl
  have hp := passes_of (X := cxOf (L2.CX P w) P w K mg base ["pegs", "found", "here", "turn", "place", "one"] "settling" (defScope s_settling) f cdv A outer s H EX) rfl
  exact pds_cons (pds_ex (pd_call ((ok_need_line T).mono (by decide)) hr rfl tk (pda_cons (pd_var 0 (pv 0)) (pda_nil)))) (pds_cons (pds_parNEc 1 2 rfl (pg_name (i := 1) nd rfl (by first | exact Or.inl rfl | exact Or.inr rfl | exact Or.inr ⟨rfl, rfl⟩)) (pg_name (i := 2) nd rfl (by first | exact Or.inl rfl | exact Or.inr rfl | exact Or.inr ⟨rfl, rfl⟩)) (pdn_lst (pda_nil)) (pd_var 0 (pv 0))) (pds_cons (pds_for hp rfl (pdi_range1 rfl T.m_range (pda_cons (pd_call ((ok_many_leaps T).mono (by decide)) hr rfl tk (pda_cons (pd_var 0 (pv 0)) (pda_nil))) (pda_nil))) (pdg_name 3 (pg_name (i := 3) nd rfl (by first | exact Or.inl rfl | exact Or.inr rfl | exact Or.inr ⟨rfl, rfl⟩))) (pds_cons (pds_set 4 (pg_name (i := 4) nd rfl (by first | exact Or.inl rfl | exact Or.inr rfl | exact Or.inr ⟨rfl, rfl⟩)) (pd_ix (pd_fresh (pdn_lc (own := [("one", 5)]) rfl nd (pdi_seq (pd_var 2 (pv 2))) (blkOk_by (by kernel_rfl)) (pdgb_name 5 (by decide) (fun _ _ _ _ _ => pg_name (i := 5) nd rfl (by first | exact Or.inl rfl | exact Or.inr rfl | exact Or.inr ⟨rfl, rfl⟩))) (fun _ _ _ _ _ => pdts_one (pdt_bool (pdw_and (pdt_cmp (dop_in hu) (pd_bin dop_add (pd_var 5 (pv 5)) (pd_int)) (pd_var 2 (pv 2)) rfl) (pdw_and1 (pdt_cmp (dop_notIn hu) (pd_bin dop_add (pd_var 5 (pv 5)) (pd_int)) (pd_var 2 (pv 2)) rfl))))) (fun _ _ _ _ _ => pd_var 5 (pv 5)))) (pd_neg (pd_int)) (fun _ _ => rfl))) (pds_cons (pds_app 1 (pv 1) (pd_var 4 (pv 4))) (pds_one (pds_set 2 (pg_name (i := 2) nd rfl (by first | exact Or.inl rfl | exact Or.inr rfl | exact Or.inr ⟨rfl, rfl⟩)) (pd_call ((ok_line_after T).mono (by decide)) hr rfl tk (pda_cons (pd_var 2 (pv 2)) (pda_cons (pd_var 4 (pv 4)) (pda_nil))))))))) (pds_frz 1 (pds_one (pds_ret (pd_callTy dt_tuple rfl T.m_tuple (by decide +kernel) (pda_cons (pd_var 1 (pv 1)) (pda_nil))))))))
theorem sc_do_meet : FnScope ["pegs", "other"] ["pegs", "other"] (defScope s_do_meet) := ⟨rfl, rfl, rfl, by decide +kernel, rfl, by decide +kernel, by decide +kernel⟩
def den_do_meet : En → M Fl := sRet (e2 opEq (eF fn_line_value (aCons (eV 0) (aNil))) (eF fn_line_value (aCons (eV 1) (aNil))))
def fn_do_meet : List D → M D := runFn 2 2 den_do_meet
theorem ok_do_meet (T : Hd K mg base) : Fn P w K mg base 5 "do_meet" fn_do_meet := by
  obtain ⟨f, fd, hm, F, hb⟩ := T.f_do_meet
  refine fn_mk hm F hb sc_do_meet (fun cdv A outer s H EX E hr => ?_) rfl
  have hu := hr.units
  have nd := sc_do_meet.nd
  have tk := takes_of (X := cxOf (L2.CX P w) P w K mg base ["pegs", "other"] "do_meet" (defScope s_do_meet) f cdv A outer s H EX) (E := EX) rfl rfl rfl rfl
  exact pds_one (pds_ret (pd_cmp (dop_eq hu) (pd_call ((ok_line_value T).mono (by decide)) hr rfl tk (pda_cons (pd_var 0 (pv 0)) (pda_nil))) (pd_call ((ok_line_value T).mono (by decide)) hr rfl tk (pda_cons (pd_var 1 (pv 1)) (pda_nil))) (nomark _)))
theorem sc__law_taken : FnScope ["row", "amount", "found", "cell"] ["row", "amount"] (defScope s__law_taken) := ⟨rfl, rfl, rfl, by decide +kernel, rfl, by decide +kernel, by decide +kernel⟩
def den__law_taken : En → M Fl := sSeq (sIf (bE (e2 opGt (eIx (eV 0) (eC (.dat (.int 3)))) (eC (.dat (.int 0))))) (sSeq (sSet 2 (e2 opMod (eN g_int (aCons (eIx (eV 0) (eC (.dat (.int 3)))) (aNil))) (eV 1))) (sSeq (sRowPut (eV 0) (eC (.dat (.int 3))) (e2 opFdiv (eIx (eV 0) (eC (.dat (.int 3)))) (eV 1))) (sRet (eV 2)))) (sNil)) (sSeq (sRowPut (eV 0) (eC (.dat (.int 1))) (e2 opAdd (eIx (eV 0) (eC (.dat (.int 1)))) (eC (.dat (.int 1))))) (sSeq (sIf (bE (e2 opGt (eIx (eV 0) (eC (.dat (.int 1)))) (eN g_len (aCons (eIx (eV 0) (eC (.dat (.int 0)))) (aNil))))) (sSeq (sRowPut (eV 0) (eC (.dat (.int 2))) (e2 opMod (eN g_int (aCons (e2 opAdd (e2 opMul (eIx (eV 0) (eC (.dat (.int 2)))) (eC (.dat (.int 48271)))) (eC (.dat (.int 11)))) (aNil))) (eC (.dat (.int 2147483647))))) (sRet (e2 opMod (eN g_int (aCons (e2 opFdiv (eIx (eV 0) (eC (.dat (.int 2)))) (eC (.dat (.int 7)))) (aNil))) (eV 1)))) (sNil)) (sSeq (sSet 3 (eIx (eIx (eV 0) (eC (.dat (.int 0)))) (e2 opSub (eIx (eV 0) (eC (.dat (.int 1)))) (eC (.dat (.int 1)))))) (sSeq (sRowPut (eV 0) (eC (.dat (.int 2))) (e2 opMod (eN g_int (aCons (e2 opAdd (e2 opAdd (e2 opMul (eIx (eV 0) (eC (.dat (.int 2)))) (eC (.dat (.int 48271)))) (eV 3)) (eC (.dat (.int 11)))) (aNil))) (eC (.dat (.int 2147483647))))) (sSeq (sIf (bE (e2 opGe (eV 3) (e2 opPow (eC (.dat (.int 10))) (eC (.dat (.int 18)))))) (sSeq (sRowPut (eV 0) (eC (.dat (.int 3))) (e2 opFdiv (eV 3) (eV 1))) (sRet (e2 opMod (eN g_int (aCons (eV 3) (aNil))) (eV 1)))) (sNil)) (sRet (e2 opMod (eN g_int (aCons (e2 opAdd (e2 opMul (e2 opMod (eN g_int (aCons (eV 3) (aNil))) (eC (.dat (.int 1000003)))) (eC (.dat (.int 31)))) (e2 opFdiv (eIx (eV 0) (eC (.dat (.int 2)))) (eC (.dat (.int 11))))) (aNil))) (eV 1))))))))
def fn__law_taken : List D → M D := runFn 2 4 den__law_taken
theorem ok__law_taken (T : Hd K mg base) : Fn P w K mg base 1 "_law_taken" fn__law_taken := by
  obtain ⟨f, fd, hm, F, hb⟩ := T.f__law_taken
  refine fn_mk hm F hb sc__law_taken (fun cdv A outer s H EX E hr => ?_) rfl
  have hu := hr.units
  have nd := sc__law_taken.nd
  exact pds_cons (pds_if (pdt_cmp (dop_gt hu) (pd_ix (pd_var 0 (pv 0)) (pd_int) (fun _ _ => rfl)) (pd_int) (nomark _)) (pds_cons (pds_set 2 (pg_name (i := 2) nd rfl (by first | exact Or.inl rfl | exact Or.inr rfl | exact Or.inr ⟨rfl, rfl⟩)) (pd_bin dop_mod (pd_callTy dt_int rfl T.m_int (by decide +kernel) (pda_cons (pd_ix (pd_var 0 (pv 0)) (pd_int) (fun _ _ => rfl)) (pda_nil))) (pd_var 1 (pv 1)))) (pds_cons (pds_row (pd_var 0 (pv 0)) (pd_int) (pd_bin dop_fdiv (pd_ix (pd_var 0 (pv 0)) (pd_int) (fun _ _ => rfl)) (pd_var 1 (pv 1)))) (pds_one (pds_ret (pd_var 2 (pv 2)))))) (pds_nil)) (pds_cons (pds_row (pd_var 0 (pv 0)) (pd_int) (pd_bin dop_add (pd_ix (pd_var 0 (pv 0)) (pd_int) (fun _ _ => rfl)) (pd_int))) (pds_cons (pds_if (pdt_cmp (dop_gt hu) (pd_ix (pd_var 0 (pv 0)) (pd_int) (fun _ _ => rfl)) (pd_callB (dc_len) rfl T.m_len (boot_len) (pda_cons (pd_ix (pd_var 0 (pv 0)) (pd_int) (fun _ _ => rfl)) (pda_nil))) (nomark _)) (pds_cons (pds_row (pd_var 0 (pv 0)) (pd_int) (pd_bin dop_mod (pd_callTy dt_int rfl T.m_int (by decide +kernel) (pda_cons (pd_bin dop_add (pd_bin dop_mul (pd_ix (pd_var 0 (pv 0)) (pd_int) (fun _ _ => rfl)) (pd_int)) (pd_int)) (pda_nil))) (pd_int))) (pds_one (pds_ret (pd_bin dop_mod (pd_callTy dt_int rfl T.m_int (by decide +kernel) (pda_cons (pd_bin dop_fdiv (pd_ix (pd_var 0 (pv 0)) (pd_int) (fun _ _ => rfl)) (pd_int)) (pda_nil))) (pd_var 1 (pv 1)))))) (pds_nil)) (pds_cons (pds_set 3 (pg_name (i := 3) nd rfl (by first | exact Or.inl rfl | exact Or.inr rfl | exact Or.inr ⟨rfl, rfl⟩)) (pd_ix (pd_ix (pd_var 0 (pv 0)) (pd_int) (fun _ _ => rfl)) (pd_bin dop_sub (pd_ix (pd_var 0 (pv 0)) (pd_int) (fun _ _ => rfl)) (pd_int)) (fun _ _ => rfl))) (pds_cons (pds_row (pd_var 0 (pv 0)) (pd_int) (pd_bin dop_mod (pd_callTy dt_int rfl T.m_int (by decide +kernel) (pda_cons (pd_bin dop_add (pd_bin dop_add (pd_bin dop_mul (pd_ix (pd_var 0 (pv 0)) (pd_int) (fun _ _ => rfl)) (pd_int)) (pd_var 3 (pv 3))) (pd_int)) (pda_nil))) (pd_int))) (pds_cons (pds_if (pdt_cmp (dop_ge hu) (pd_var 3 (pv 3)) (pd_bin dop_pow (pd_int) (pd_int)) (nomark _)) (pds_cons (pds_row (pd_var 0 (pv 0)) (pd_int) (pd_bin dop_fdiv (pd_var 3 (pv 3)) (pd_var 1 (pv 1)))) (pds_one (pds_ret (pd_bin dop_mod (pd_callTy dt_int rfl T.m_int (by decide +kernel) (pda_cons (pd_var 3 (pv 3)) (pda_nil))) (pd_var 1 (pv 1)))))) (pds_nil)) (pds_one (pds_ret (pd_bin dop_mod (pd_callTy dt_int rfl T.m_int (by decide +kernel) (pda_cons (pd_bin dop_add (pd_bin dop_mul (pd_bin dop_mod (pd_callTy dt_int rfl T.m_int (by decide +kernel) (pda_cons (pd_var 3 (pv 3)) (pda_nil))) (pd_int)) (pd_int)) (pd_bin dop_fdiv (pd_ix (pd_var 0 (pv 0)) (pd_int) (fun _ _ => rfl)) (pd_int))) (pda_nil))) (pd_var 1 (pv 1))))))))))
theorem sc__law_alike : FnScope ["found", "due", "k"] ["found", "due"] (defScope s__law_alike) := ⟨rfl, rfl, rfl, by decide +kernel, rfl, by decide +kernel, by decide +kernel⟩
def den__law_alike (rec : List D → M D) : En → M Fl := sSeq (sIf (bE (e1 opIsTL (eV 1))) (sSeq (sIf (bOr (bNot (bE (e1 opIsTL (eV 0)))) (bE (e2 opNe (e1 (opIs "list") (eV 0)) (e1 (opIs "list") (eV 1))))) (sRet (eC (.dat (.bool false)))) (sNil)) (sSeq (sIf (bE (e2 opNe (eN g_len (aCons (eV 0) (aNil))) (eN g_len (aCons (eV 1) (aNil))))) (sRet (eC (.dat (.bool false)))) (sNil)) (sRet (e2 opEq (eFresh (nLc (iRange1 (aCons (eN g_len (aCons (eV 1) (aNil))) (aNil))) (gN 2) (bNot (bE (eF rec (aCons (eIx (eV 0) (eV 2)) (aCons (eIx (eV 1) (eV 2)) (aNil)))))) (eV 2) [2])) (eN gLstD (aNil)))))) (sNil)) (sSeq (sIf (bOr (bE (e1 opIsN (eV 1))) (bE (e1 (opIs "str") (eV 1)))) (sRet (eAnd (e2 opEq (eV 0) (eV 1)) (e2 opEq (e1 (opIs "str") (eV 0)) (e1 (opIs "str") (eV 1))))) (sNil)) (sRet (eAnd (e1 (opIs "int") (eV 0)) (eAnd (e2 opEq (e1 (opIs "bool") (eV 0)) (e1 (opIs "bool") (eV 1))) (e2 opEq (eV 0) (eV 1))))))
def fnR__law_alike : Nat → List D → M D
  | 0 => fun _ => stk
  | n + 1 => runFn 2 3 (den__law_alike (fnR__law_alike n))
def fn__law_alike : List D → M D := fnR__law_alike 8
theorem okR__law_alike (T : Hd K mg base) : ∀ n, Fn P w K mg base (0 + n) "_law_alike" (fnR__law_alike n)
  | 0 => by
    obtain ⟨f, fd, hm, F, hb⟩ := T.f__law_alike
    exact fn_stk hm F.kp hb
  | n + 1 => by
    have ih := okR__law_alike T n
    obtain ⟨f, fd, hm, F, hb⟩ := T.f__law_alike
    refine fn_mk (k := 0 + n) hm F hb sc__law_alike (fun cdv A outer s H EX E hr => ?_) rfl
    have hu := hr.units
    have nd := sc__law_alike.nd
    exact pds_cons (pds_if (pdt_val (pd_isTL rfl T.m_isinstance rfl T.m_tuple rfl T.m_list (pd_var 1 (pv 1)))) (pds_cons (pds_if (pdt_bool (pdw_or (pdt_not (pdt_val (pd_isTL rfl T.m_isinstance rfl T.m_tuple rfl T.m_list (pd_var 0 (pv 0))))) (pdw_or1 (pdt_cmp (dop_ne hu) (pd_isi "list" (by simp) rfl T.m_isinstance rfl T.m_list (by decide +kernel) (by decide) (by decide) (pd_var 0 (pv 0))) (pd_isi "list" (by simp) rfl T.m_isinstance rfl T.m_list (by decide +kernel) (by decide) (by decide) (pd_var 1 (pv 1))) (nomark _))))) (pds_one (pds_ret (pd_bl))) (pds_nil)) (pds_cons (pds_if (pdt_cmp (dop_ne hu) (pd_callB (dc_len) rfl T.m_len (boot_len) (pda_cons (pd_var 0 (pv 0)) (pda_nil))) (pd_callB (dc_len) rfl T.m_len (boot_len) (pda_cons (pd_var 1 (pv 1)) (pda_nil))) (nomark _)) (pds_one (pds_ret (pd_bl))) (pds_nil)) (pds_one (pds_ret (pd_cmp (dop_eq hu) (pd_fresh (pdn_lc (own := [("k", 2)]) rfl nd (pdi_range1 rfl T.m_range (pda_cons (pd_callB (dc_len) rfl T.m_len (boot_len) (pda_cons (pd_var 1 (pv 1)) (pda_nil))) (pda_nil))) (blkOk_by (by kernel_rfl)) (pdgb_name 2 (by decide) (fun _ _ _ _ _ => pg_name (i := 2) nd rfl (by first | exact Or.inl rfl | exact Or.inr rfl | exact Or.inr ⟨rfl, rfl⟩))) (fun _ _ _ _ _ => pdts_one (pdt_not (pdt_val (pd_call (ih.mono (by omega)) hr rfl takes0 (pda_cons (pd_ix (pd_var 0 (pv 0)) (pd_var 2 (pv 2)) (fun _ _ => rfl)) (pda_cons (pd_ix (pd_var 1 (pv 1)) (pd_var 2 (pv 2)) (fun _ _ => rfl)) (pda_nil))))))) (fun _ _ _ _ _ => pd_var 2 (pv 2)))) (pd_lst (pda_nil)) (nomark _)))))) (pds_nil)) (pds_cons (pds_if (pdt_bool (pdw_or (pdt_isN (pd_var 1 (pv 1))) (pdw_or1 (pdt_val (pd_isi "str" (by simp) rfl T.m_isinstance rfl T.m_str (by decide +kernel) (by decide) (by decide) (pd_var 1 (pv 1))))))) (pds_one (pds_ret (pd_and (pd_cmp (dop_eq hu) (pd_var 0 (pv 0)) (pd_var 1 (pv 1)) (nomark _)) (pd_one (pd_cmp (dop_eq hu) (pd_isi "str" (by simp) rfl T.m_isinstance rfl T.m_str (by decide +kernel) (by decide) (by decide) (pd_var 0 (pv 0))) (pd_isi "str" (by simp) rfl T.m_isinstance rfl T.m_str (by decide +kernel) (by decide) (by decide) (pd_var 1 (pv 1))) (nomark _)))))) (pds_nil)) (pds_one (pds_ret (pd_and (pd_isi "int" (by simp) rfl T.m_isinstance rfl T.m_int (by decide +kernel) (by decide) (by decide) (pd_var 0 (pv 0))) (pd_and (pd_cmp (dop_eq hu) (pd_isi "bool" (by simp) rfl T.m_isinstance rfl T.m_bool (by decide +kernel) (by decide) (by decide) (pd_var 0 (pv 0))) (pd_isi "bool" (by simp) rfl T.m_isinstance rfl T.m_bool (by decide +kernel) (by decide) (by decide) (pd_var 1 (pv 1))) (nomark _)) (pd_one (pd_cmp (dop_eq hu) (pd_var 0 (pv 0)) (pd_var 1 (pv 1)) (nomark _))))))))
theorem ok__law_alike (T : Hd K mg base) : Fn P w K mg base 8 "_law_alike" fn__law_alike := okR__law_alike T 8
theorem sc__law_same : FnScope ["found", "due"] ["found", "due"] (defScope s__law_same) := ⟨rfl, rfl, rfl, by decide +kernel, rfl, by decide +kernel, by decide +kernel⟩
def den__law_same : En → M Fl := sRet (e2 opEq (eN DX.g_reprX (aCons (eV 0) (aNil))) (eN DX.g_reprX (aCons (eV 1) (aNil))))
def fn__law_same : List D → M D := runFn 2 2 den__law_same
theorem ok__law_same (T : Hd K mg base) : GFn P w K mg base 1 "_law_same" fn__law_same := by
  obtain ⟨f, fd, hm, F, hb⟩ := T.f__law_same
  refine fn_mkG (k := 0) hm F hb sc__law_same (fun A outer s H EX E hG hr => ?_) rfl
  have hu := hr.units
  have nd := sc__law_same.nd
  exact pds_one (pds_ret (pd_cmp (dop_eq hu) (pd_callB (DX.dc_reprX hG hu) rfl T.m_repr (by decide +kernel) (pda_cons (pd_var 0 (pv 0)) (pda_nil))) (pd_callB (DX.dc_reprX hG hu) rfl T.m_repr (by decide +kernel) (pda_cons (pd_var 1 (pv 1)) (pda_nil))) (nomark _)))
theorem sc__law_refusal : FnScope ["e", "kinds", "marks", "name"] ["e"] (defScope s__law_refusal) := ⟨rfl, rfl, rfl, by decide +kernel, rfl, by decide +kernel, by decide +kernel⟩
def den__law_refusal (a : Addr) (xn : Xn) : En → M Fl := sSeq (sSet 1 (eN gLstD (aCons (eC (.dat (.str "BadBoard"))) (aCons (eC (.dat (.str "BadPegs"))) (aCons (eC (.dat (.str "BadLeap"))) (aCons (eC (.dat (.str "BadNumber"))) (aCons (eC (.dat (.str "BadWorth"))) (aCons (eC (.dat (.str "BadSet"))) (aCons (eC (.dat (.str "BadRow"))) (aCons (eC (.dat (.str "BadText"))) (aCons (eC (.dat (.str "Unlike"))) (aNil)))))))))))) (sSeq (sSet 2 (eN gLstD (aCons (eIsX 0 a (xn.cls == "BadBoard")) (aCons (eIsX 0 a (xn.cls == "BadPegs")) (aCons (eIsX 0 a (xn.cls == "BadLeap")) (aCons (eIsX 0 a (xn.cls == "BadNumber")) (aCons (eIsX 0 a (xn.cls == "BadWorth")) (aCons (eIsX 0 a (xn.cls == "BadSet")) (aCons (eIsX 0 a (xn.cls == "BadRow")) (aCons (eIsX 0 a (xn.cls == "BadText")) (aCons (eIsX 0 a (xn.cls == "Unlike")) (aNil)))))))))))) (sSeq (sIf (bOr (bE (e2 opNe (eMeth1 opCountB (eV 2) (aCons (eC (.dat (.bool true))) (aNil))) (eC (.dat (.int 1))))) (bNot (bE (eIsX 0 a true)))) (sRet (eN gTupD (aCons (eC (.dat (.str "other"))) (aNil)))) (sNil)) (sSeq (sSet 3 (eIx (eV 1) (eMeth1 opIndexB (eV 2) (aCons (eC (.dat (.bool true))) (aNil))))) (sSeq (sIf (bE (e2 opEq (eV 3) (eC (.dat (.str "Unlike"))))) (sRet (eN gTupD (aCons (eV 3) (aCons (eXpo 0 a (xn.fs.lookup ("one" : Str))) (aCons (eXpo 0 a (xn.fs.lookup ("other" : Str))) (aNil)))))) (sNil)) (sSeq (sIf (bE (e2 opEq (eV 3) (eC (.dat (.str "BadText"))))) (sRet (eN gTupD (aCons (eV 3) (aCons (eXpo 0 a (xn.fs.lookup ("line" : Str))) (aNil))))) (sNil)) (sRet (eIf (bE (e2 opEq (eV 3) (eC (.dat (.str "BadNumber"))))) (eN gTupD (aCons (eV 3) (aCons (eXpo 0 a (xn.fs.lookup ("value" : Str))) (aNil)))) (eN gTupD (aCons (eV 3) (aCons (eXpo 0 a (xn.fs.lookup ("place" : Str))) (aNil)))))))))))
def fn__law_refusal : Xn → M DL.D := fun xn =>
  if xn.cls = "BadPegs" then (match xn.fs.lookup ("place" : Str) with | some y => pure (.dat (.tuple [.str "BadPegs", y])) | none => stk) else
  stk
theorem ref_BadPegs (a : Addr) (fs : List (Str × PyData)) (R : RS) : fn__law_refusal ⟨"BadPegs", fs⟩ R = none ∨ fn__law_refusal ⟨"BadPegs", fs⟩ R = runX 4 (den__law_refusal a ⟨"BadPegs", fs⟩) a R := by
  unfold fn__law_refusal den__law_refusal
  dsimp only
  cases h0 : fs.lookup ("place" : Str) with
  | none => exact .inl rfl
  | some y0 =>
    refine .inr ?_
    have z9 : (9 : Nat) ≤ SZ := by decide
    have z1 : (1 : Nat) ≤ SZ := by decide
    have z2 : (2 : Nat) ≤ SZ := by decide
    have z3 : (3 : Nat) ≤ SZ := by decide
    have q_BadBoard : (("BadPegs" : Str) == ("BadBoard" : Str)) = false := by decide +kernel
    have q_BadLeap : (("BadPegs" : Str) == ("BadLeap" : Str)) = false := by decide +kernel
    have q_BadNumber : (("BadPegs" : Str) == ("BadNumber" : Str)) = false := by decide +kernel
    have q_BadWorth : (("BadPegs" : Str) == ("BadWorth" : Str)) = false := by decide +kernel
    have q_BadSet : (("BadPegs" : Str) == ("BadSet" : Str)) = false := by decide +kernel
    have q_BadRow : (("BadPegs" : Str) == ("BadRow" : Str)) = false := by decide +kernel
    have q_BadText : (("BadPegs" : Str) == ("BadText" : Str)) = false := by decide +kernel
    have q_Unlike : (("BadPegs" : Str) == ("Unlike" : Str)) = false := by decide +kernel
    have qi : List.idxOf true [false, true, false, false, false, false, false, false, false] = 1 := by decide
    have ox : opIx (.dat (.list [.str "BadBoard", .str "BadPegs", .str "BadLeap", .str "BadNumber", .str "BadWorth", .str "BadSet", .str "BadRow", .str "BadText", .str "Unlike"])) (.dat (.int 1)) = some (.dat (.str "BadPegs")) := by rfl
    have o_Unlike : opEq (.dat (.str "BadPegs")) (.dat (.str "Unlike")) = some (dB false) := by rfl
    have o_BadText : opEq (.dat (.str "BadPegs")) (.dat (.str "BadText")) = some (dB false) := by rfl
    have o_BadNumber : opEq (.dat (.str "BadPegs")) (.dat (.str "BadNumber")) = some (dB false) := by rfl
    simp [runX, gLstD, gTupD, dats, eMeth1, opCountB, opIndexB, boolsD, dB, z9, z1, z2, z3, ox, qi, q_BadBoard, q_BadLeap, q_BadNumber, q_BadWorth, q_BadSet, q_BadRow, q_BadText, q_Unlike, o_Unlike, o_BadText, o_BadNumber]
theorem ok__law_refusal (T : Hd K mg base) (k : Nat) : FnRef P w K mg base (k + 1) "_law_refusal" csX fn__law_refusal := by
  obtain ⟨f, fd, hm, F, hb⟩ := T.f__law_refusal
  refine ⟨f, fd, hm, F.kp, hb, fnR_ok (N := ["e", "kinds", "marks", "name"]) (fb := den__law_refusal) F sc__law_refusal (fun cdv A outer s H EX a oe dd fs xn E hr hc PI hE hl => ?_) fun a xn R hc => ?_⟩
  · have hu : (A.deeper (envOfC "_law_refusal" (defScope s__law_refusal) s.heap.objs.size f cdv)).units + 64 < cLine := by have := hr.un; omega
    have nd := sc__law_refusal.nd
    exact pds_cons (pds_set 1 (pg_name (i := 1) nd rfl (by first | exact Or.inl rfl | exact Or.inr rfl | exact Or.inr ⟨rfl, rfl⟩)) (pd_lst (pda_cons (pd_str) (pda_cons (pd_str) (pda_cons (pd_str) (pda_cons (pd_str) (pda_cons (pd_str) (pda_cons (pd_str) (pda_cons (pd_str) (pda_cons (pd_str) (pda_cons (pd_str) (pda_nil)))))))))))) (pds_cons (pds_set 2 (pg_name (i := 2) nd rfl (by first | exact Or.inl rfl | exact Or.inr rfl | exact Or.inr ⟨rfl, rfl⟩)) (pd_lst (pda_cons (pd_isR T.rf hc PI hE 0 (pv 0) (by decide) rfl rfl T.m_isinstance (by decide)) (pda_cons (pd_isR T.rf hc PI hE 0 (pv 0) (by decide) rfl rfl T.m_isinstance (by decide)) (pda_cons (pd_isR T.rf hc PI hE 0 (pv 0) (by decide) rfl rfl T.m_isinstance (by decide)) (pda_cons (pd_isR T.rf hc PI hE 0 (pv 0) (by decide) rfl rfl T.m_isinstance (by decide)) (pda_cons (pd_isR T.rf hc PI hE 0 (pv 0) (by decide) rfl rfl T.m_isinstance (by decide)) (pda_cons (pd_isR T.rf hc PI hE 0 (pv 0) (by decide) rfl rfl T.m_isinstance (by decide)) (pda_cons (pd_isR T.rf hc PI hE 0 (pv 0) (by decide) rfl rfl T.m_isinstance (by decide)) (pda_cons (pd_isR T.rf hc PI hE 0 (pv 0) (by decide) rfl rfl T.m_isinstance (by decide)) (pda_cons (pd_isR T.rf hc PI hE 0 (pv 0) (by decide) rfl rfl T.m_isinstance (by decide)) (pda_nil)))))))))))) (pds_cons (pds_if (pdt_bool (pdw_or (pdt_cmp (dop_ne hu) (pd_countB (pd_var 2 (pv 2)) (pda_cons (pd_bl) (pda_nil))) (pd_int) (nomark _)) (pdw_or1 (pdt_not (pdt_val (pd_isV T.rf hc PI hE 0 (pv 0) rfl T.m_ValueError rfl T.m_isinstance)))))) (pds_one (pds_ret (pd_tup (pda_cons (pd_str) (pda_nil))))) (pds_nil)) (pds_cons (pds_set 3 (pg_name (i := 3) nd rfl (by first | exact Or.inl rfl | exact Or.inr rfl | exact Or.inr ⟨rfl, rfl⟩)) (pd_ix (pd_var 1 (pv 1)) (pd_indexB (pd_var 2 (pv 2)) (pda_cons (pd_bl) (pda_nil))) (fun _ _ => rfl))) (pds_cons (pds_if (pdt_cmp (dop_eq hu) (pd_var 3 (pv 3)) (pd_str) (nomark _)) (pds_one (pds_ret (pd_tup (pda_cons (pd_var 3 (pv 3)) (pda_cons (pd_xpo T.rf hc PI hE hl 0 (pv 0) (by decide)) (pda_cons (pd_xpo T.rf hc PI hE hl 0 (pv 0) (by decide)) (pda_nil))))))) (pds_nil)) (pds_cons (pds_if (pdt_cmp (dop_eq hu) (pd_var 3 (pv 3)) (pd_str) (nomark _)) (pds_one (pds_ret (pd_tup (pda_cons (pd_var 3 (pv 3)) (pda_cons (pd_xpo T.rf hc PI hE hl 0 (pv 0) (by decide)) (pda_nil)))))) (pds_nil)) (pds_one (pds_ret (pd_if (pdt_cmp (dop_eq hu) (pd_var 3 (pv 3)) (pd_str) (nomark _)) (pd_tup (pda_cons (pd_var 3 (pv 3)) (pda_cons (pd_xpo T.rf hc PI hE hl 0 (pv 0) (by decide)) (pda_nil)))) (pd_tup (pda_cons (pd_var 3 (pv 3)) (pda_cons (pd_xpo T.rf hc PI hE hl 0 (pv 0) (by decide)) (pda_nil))))))))))))
  · obtain ⟨c, fs⟩ := xn
    have hc : c ∈ csX := hc
    unfold csX at hc
    simp only [List.mem_cons, List.not_mem_nil, or_false] at hc
    subst hc
    exact ref_BadPegs a fs R
theorem sc__law_told : FnScope ["call", "e"] ["call"] (defScope s__law_told) := ⟨rfl, rfl, rfl, by decide +kernel, rfl, by decide +kernel, by decide +kernel⟩
theorem sc__law_ends : FnScope ["pegs", "found", "layer", "turn", "following", "here", "able", "k", "x"] ["pegs"] (defScope s__law_ends) := ⟨rfl, rfl, rfl, by decide +kernel, rfl, by decide +kernel, by decide +kernel⟩
def den__law_ends : En → M Fl := sSeq (sParEE 1 2 (eN gLstD (aNil)) (eN gLstD (aCons (eV 0) (aNil)))) (sSeq (sFor (iRange1 (aCons (e2 opAdd (eN g_len (aCons (eV 0) (aNil))) (eC (.dat (.int 1)))) (aNil))) (gN 3) (sSeq (sSet 4 (eN gLstD (aNil))) (sSeq (sFor (iSeq (eV 2)) (gN 5) (sSeq (sSet 6 (eFresh (nLc (iSeq (eV 5)) (gN 7) (bAnd (bE (e2 opIn (e2 opAdd (eV 7) (eC (.dat (.int 1)))) (eV 5))) (bE (e2 opNotIn (e2 opAdd (eV 7) (eC (.dat (.int 2)))) (eV 5)))) (eV 7) [7]))) (sSeq (sIf (bE (e2 opEq (eV 6) (eN gLstD (aNil)))) (sSet 1 (e2 opAdd (eV 1) (eN gLstD (aCons (eN gTupD (aCons (eV 5) (aCons (eV 3) (aNil)))) (aNil))))) (sNil)) (sSet 4 (e2 opAdd (eV 4) (eFresh (nLc (iSeq (eV 6)) (gN 7) (bYes) (eN g_tuple (aCons (eN g_sorted (aCons (e2 opAdd (eFresh (nLc (iSeq (eV 5)) (gN 8) (bAnd (bE (e2 opNe (eV 8) (eV 7))) (bE (e2 opNe (eV 8) (e2 opAdd (eV 7) (eC (.dat (.int 1))))))) (eV 8) [8])) (eN gLstD (aCons (e2 opAdd (eV 7) (eC (.dat (.int 2)))) (aNil)))) (aNil))) (aNil))) [7]))))))) (sSet 2 (e1 opSortSet (eV 4)))))) (sRet (e1 opSortSet (eV 1))))
def fn__law_ends : List D → M D := runFn 1 9 den__law_ends
theorem ok__law_ends (T : Hd K mg base) : Fn P w K mg base 1 "_law_ends" fn__law_ends := by
  obtain ⟨f, fd, hm, F, hb⟩ := T.f__law_ends
  refine fn_mk hm F hb sc__law_ends (fun cdv A outer s H EX E hr => ?_) rfl
  have hu := hr.units
  have nd := sc__law_ends.nd
  have hp := passes_of (X := cxOf (L2.CX P w) P w K mg base ["pegs", "found", "layer", "turn", "following", "here", "able", "k", "x"] "_law_ends" (defScope s__law_ends) f cdv A outer s H EX) rfl
  exact pds_cons (pds_parEE 1 2 rfl nd rfl rfl (by decide) rfl rfl (pd_lst (pda_nil)) (pd_lst (pda_cons (pd_var 0 (pv 0)) (pda_nil))) rfl) (pds_cons (pds_for hp rfl (pdi_range1 rfl T.m_range (pda_cons (pd_bin dop_add (pd_callB (dc_len) rfl T.m_len (boot_len) (pda_cons (pd_var 0 (pv 0)) (pda_nil))) (pd_int)) (pda_nil))) (pdg_name 3 (pg_name (i := 3) nd rfl (by first | exact Or.inl rfl | exact Or.inr rfl | exact Or.inr ⟨rfl, rfl⟩))) (pds_cons (pds_set 4 (pg_name (i := 4) nd rfl (by first | exact Or.inl rfl | exact Or.inr rfl | exact Or.inr ⟨rfl, rfl⟩)) (pd_lst (pda_nil))) (pds_cons (pds_for hp rfl (pdi_seq (pd_var 2 (pv 2))) (pdg_name 5 (pg_name (i := 5) nd rfl (by first | exact Or.inl rfl | exact Or.inr rfl | exact Or.inr ⟨rfl, rfl⟩))) (pds_cons (pds_setLc 6 rfl rfl rfl (by decide +kernel) rfl (own := [("k", 7)]) rfl nd (pdi_seq (pd_var 5 (pv 5))) (blkOk_by (by kernel_rfl)) (pdgb_name 7 (by decide) (fun _ _ _ _ _ => pg_name (i := 7) nd rfl (by first | exact Or.inl rfl | exact Or.inr rfl | exact Or.inr ⟨rfl, rfl⟩))) (fun _ _ _ _ _ => pdts_one (pdt_bool (pdw_and (pdt_cmp (dop_in hu) (pd_bin dop_add (pd_var 7 (pv 7)) (pd_int)) (pd_var 5 (pv 5)) rfl) (pdw_and1 (pdt_cmp (dop_notIn hu) (pd_bin dop_add (pd_var 7 (pv 7)) (pd_int)) (pd_var 5 (pv 5)) rfl))))) (fun _ _ _ _ _ => pd_var 7 (pv 7))) (pds_cons (pds_if (pdt_cmp (dop_eq hu) (pd_var 6 (pv 6)) (pd_lst (pda_nil)) (nomark _)) (pds_one (pds_set 1 (pg_name (i := 1) nd rfl (by first | exact Or.inl rfl | exact Or.inr rfl | exact Or.inr ⟨rfl, rfl⟩)) (pd_bin dop_add (pd_var 1 (pv 1)) (pd_lst (pda_cons (pd_tup (pda_cons (pd_var 5 (pv 5)) (pda_cons (pd_var 3 (pv 3)) (pda_nil)))) (pda_nil)))))) (pds_nil)) (pds_one (pds_set 4 (pg_name (i := 4) nd rfl (by first | exact Or.inl rfl | exact Or.inr rfl | exact Or.inr ⟨rfl, rfl⟩)) (pd_bin dop_add (pd_var 4 (pv 4)) (pd_fresh (pdn_lc (own := [("k", 7)]) rfl nd (pdi_seq (pd_var 6 (pv 6))) (blkOk_by (by kernel_rfl)) (pdgb_name 7 (by decide) (fun _ _ _ _ _ => pg_name (i := 7) nd rfl (by first | exact Or.inl rfl | exact Or.inr rfl | exact Or.inr ⟨rfl, rfl⟩))) (fun _ _ _ _ _ => pdts_nil) (fun _ _ _ _ _ => pd_callTy dt_tuple rfl T.m_tuple (by decide +kernel) (pda_cons (pd_callB (dc_sorted hu) rfl T.m_sorted (by decide +kernel) (pda_cons (pd_bin dop_add (pd_fresh (pdn_lc (own := [("x", 8)]) rfl nd (pdi_seq (pd_var 5 (pv 5))) (blkOk_by (by kernel_rfl)) (pdgb_name 8 (by decide) (fun _ _ _ _ _ => pg_name (i := 8) nd rfl (by first | exact Or.inl rfl | exact Or.inr rfl | exact Or.inr ⟨rfl, rfl⟩))) (fun _ _ _ _ _ => pdts_one (pdt_bool (pdw_and (pdt_cmp (dop_ne hu) (pd_var 8 (pv 8)) (pd_var 7 (pv 7)) (nomark _)) (pdw_and1 (pdt_cmp (dop_ne hu) (pd_var 8 (pv 8)) (pd_bin dop_add (pd_var 7 (pv 7)) (pd_int)) (nomark _)))))) (fun _ _ _ _ _ => pd_var 8 (pv 8)))) (pd_lst (pda_cons (pd_bin dop_add (pd_var 7 (pv 7)) (pd_int)) (pda_nil)))) (pda_nil))) (pda_nil))))))))))) (pds_one (pds_set 2 (pg_name (i := 2) nd rfl (by first | exact Or.inl rfl | exact Or.inr rfl | exact Or.inr ⟨rfl, rfl⟩)) (pd_sortSet rfl hu rfl T.m_sorted rfl T.m_set (pd_var 4 (pv 4)))))))) (pds_one (pds_ret (pd_sortSet rfl hu rfl T.m_sorted rfl T.m_set (pd_var 1 (pv 1))))))
theorem sc_law : FnScope ["script", "row", "worths", "k", "turn", "pegs", "other", "ends", "also", "value", "able", "here", "place", "last", "calls", "call"] ["script"] (defScope s_law) := ⟨rfl, rfl, rfl, by decide +kernel, rfl, by decide +kernel, by decide +kernel⟩
def den_law : En → M Fl := sSeq (sSet 2 (eN gLstD (aCons (eC (.dat (.int 1))) (aCons (eC (.dat (.int 2))) (aNil))))) (sSeq (sFor (iRange1 (aCons (eC (.dat (.int 20))) (aNil))) (gN 3) (sSet 2 (e2 opAdd (eV 2) (eN gLstD (aCons (e2 opAdd (eIx (eV 2) (e1 opNeg (eC (.dat (.int 1))))) (eIx (eV 2) (e1 opNeg (eC (.dat (.int 2)))))) (aNil)))))) (sSeq (sFor (iRange1 (aCons (eC (.dat (.int 6))) (aNil))) (gN 4) (sSeq (sSet 5 (eN g_tuple (aCons (eFresh (nLc (iRange1 (aCons (eC (.dat (.int 9))) (aNil))) (gN 3) (bE (e2 opGt (eF fn__law_taken (aCons (eV 1) (aCons (eC (.dat (.int 3))) (aNil)))) (eC (.dat (.int 0))))) (eV 3) [3])) (aNil)))) (sSeq (sSet 6 (eN g_tuple (aCons (eFresh (nLc (iRange1 (aCons (eC (.dat (.int 9))) (aNil))) (gN 3) (bE (e2 opGt (eF fn__law_taken (aCons (eV 1) (aCons (eC (.dat (.int 3))) (aNil)))) (eC (.dat (.int 0))))) (eV 3) [3])) (aNil)))) (sSeq (sParEE 7 8 (eF fn__law_ends (aCons (eV 5) (aNil))) (eF fn__law_ends (aCons (eV 6) (aNil)))) (sSeq (sIf (bOr (bE (e2 opNe (eN g_len (aCons (eV 7) (aNil))) (eC (.dat (.int 1))))) (bNot (bE (eF fn__law_alike (aCons (eN gTupD (aCons (eF fn_settled (aCons (eV 5) (aNil))) (aCons (eF fn_many_leaps (aCons (eV 5) (aNil))) (aNil)))) (aCons (eIx (eV 7) (eC (.dat (.int 0)))) (aNil))))))) (sRet (eC (.dat (.bool false)))) (sNil)) (sSeq (sSet 9 (eN g_sum (aCons (eFresh (nLc (iSeq (eV 5)) (gN 3) (bYes) (eIx (eV 2) (eV 3)) [3])) (aNil)))) (sSeq (sIf (bNot (bE (eF fn__law_alike (aCons (eN gTupD (aCons (eF fn_line_value (aCons (eV 5) (aNil))) (aCons (eF fn_least_line (aCons (eV 9) (aNil))) (aCons (eF fn_line_worth (aCons (eC (.dat (.int 7))) (aNil))) (aNil))))) (aCons (eN gTupD (aCons (eV 9) (aCons (eIx (eIx (eV 7) (eC (.dat (.int 0)))) (eC (.dat (.int 0)))) (aCons (eIx (eV 2) (eC (.dat (.int 7)))) (aNil))))) (aNil)))))) (sRet (eC (.dat (.bool false)))) (sNil)) (sSeq (sIf (bNot (bE (eF fn__law_alike (aCons (eF fn_do_meet (aCons (eV 5) (aCons (eV 6) (aNil)))) (aCons (e2 opEq (eIx (eIx (eV 7) (eC (.dat (.int 0)))) (eC (.dat (.int 0)))) (eIx (eIx (eV 8) (eC (.dat (.int 0)))) (eC (.dat (.int 0))))) (aNil)))))) (sRet (eC (.dat (.bool false)))) (sNil)) (sSeq (sSet 10 (eN g_tuple (aCons (eFresh (nLc (iSeq (eV 5)) (gN 3) (bAnd (bE (e2 opIn (e2 opAdd (eV 3) (eC (.dat (.int 1)))) (eV 5))) (bE (e2 opNotIn (e2 opAdd (eV 3) (eC (.dat (.int 2)))) (eV 5)))) (eV 3) [3])) (aNil)))) (sSeq (sIf (bNot (bE (eF fn__law_alike (aCons (eF fn_line_leaps (aCons (eV 5) (aNil))) (aCons (eV 10) (aNil)))))) (sRet (eC (.dat (.bool false)))) (sNil)) (sSeq (sSet 11 (eV 5)) (sSeq (sFor (iSeq (eF fn_settling (aCons (eV 5) (aNil)))) (gN 12) (sSeq (sSet 13 (eFresh (nLc (iSeq (eV 11)) (gN 3) (bAnd (bE (e2 opIn (e2 opAdd (eV 3) (eC (.dat (.int 1)))) (eV 11))) (bE (e2 opNotIn (e2 opAdd (eV 3) (eC (.dat (.int 2)))) (eV 11)))) (eV 3) [3]))) (sSeq (sIf (bOr (bE (e2 opEq (eV 13) (eN gLstD (aNil)))) (bE (e2 opNe (eIx (eV 13) (e1 opNeg (eC (.dat (.int 1))))) (eV 12)))) (sRet (eC (.dat (.bool false)))) (sNil)) (sSet 11 (eF fn_line_after (aCons (eV 11) (aCons (eV 12) (aNil)))))))) (sIf (bE (e2 opNe (eV 11) (eIx (eIx (eV 7) (eC (.dat (.int 0)))) (eC (.dat (.int 0)))))) (sRet (eC (.dat (.bool false)))) (sNil)))))))))))))) (sRet (fun _ => eF fn__law_same (aCons (fun _ => toldL csX fn__law_refusal [eF fn_settled (aCons (eN gLstD (aCons (eC (.dat (.int 0))) (aNil))) (aNil)), eF fn_line_value (aCons (eN gTupD (aCons (eC (.dat (.int 0))) (aCons (eC (.dat (.int 0))) (aNil)))) (aNil)), eF fn_settling (aCons (eN gTupD (aCons (eC (.dat (.int 41))) (aNil))) (aNil)), eF fn_line_leaps (aCons (eN gTupD (aCons (e1 opNeg (eC (.dat (.int 1)))) (aNil))) (aNil))]) (aCons (eN gLstD (aCons (eN gTupD (aCons (eC (.dat (.str "BadPegs"))) (aCons (e1 opNeg (eC (.dat (.int 1)))) (aNil)))) (aCons (eN gTupD (aCons (eC (.dat (.str "BadPegs"))) (aCons (eC (.dat (.int 1))) (aNil)))) (aCons (eN gTupD (aCons (eC (.dat (.str "BadPegs"))) (aCons (eC (.dat (.int 0))) (aNil)))) (aCons (eN gTupD (aCons (eC (.dat (.str "BadPegs"))) (aCons (eC (.dat (.int 0))) (aNil)))) (aNil)))))) (aNil))) (List.replicate 16 .no)))))
theorem ok_law (T : Hd K mg base) (good : List Int → Prop) (hden : ∀ (ns : List Int) (a sc : Addr), ns.length ≤ 63 → good ns → ∃ R', den_law (.no :: .val (.row a) :: List.replicate 14 .no) (some ⟨a, sc, ns, 0, 25018, 0⟩) = some (.val (.rt (dB true)), R')) : ∃ f fd, mg "law" = some (.ref f) ∧ Fun K "law" "law" s_law f fd ∧ Binds K fd ["script"] [] ∧ FnG P w K mg base (L2.CX P w) 10 f fd ["script"] (spLaw K good) := by
  obtain ⟨f, fd, hm, F, hb⟩ := T.f_law
  obtain ⟨c, Pt, hcode, TB, it⟩ := T.t_law f fd hm F
  obtain ⟨gT, fdT, hmT, FT, hbT⟩ := T.f__law_told
  obtain ⟨CL, hL, hcs⟩ := T.lt
  refine ⟨f, fd, hm, F, hb, fn_ofG (k := 9) F sc_law (fun vs H Q E h => ?_) fun A outer s H vs Q EX hG hr h => ?_⟩
  · obtain ⟨a, ns, rfl, _⟩ := h
    rfl
  · have nd := sc_law.nd
    have hu := hr.units
    have tk := takes_of (X := (cxOf (L2.CX P w) P w K mg base ["script", "row", "worths", "k", "turn", "pegs", "other", "ends", "also", "value", "able", "here", "place", "last", "calls", "call"] "law" (defScope s_law) f fd.code A outer s H EX)) (E := EX) rfl rfl rfl rfl
    have hp := passes_of (X := (cxOf (L2.CX P w) P w K mg base ["script", "row", "worths", "k", "turn", "pegs", "other", "ends", "also", "value", "able", "here", "place", "last", "calls", "call"] "law" (defScope s_law) f fd.code A outer s H EX)) rfl
    have hrest : ∀ E, PDSs (cxOf (L2.CX P w) P w K mg base ["script", "row", "worths", "k", "turn", "pegs", "other", "ends", "also", "value", "able", "here", "place", "last", "calls", "call"] "law" (defScope s_law) f fd.code A outer s H EX) EX E (defBody s_law).tail den_law := fun E => pds_cons (pds_set 2 (pg_name (i := 2) nd rfl (by first | exact Or.inl rfl | exact Or.inr rfl | exact Or.inr ⟨rfl, rfl⟩)) (pd_lst (pda_cons (pd_int) (pda_cons (pd_int) (pda_nil))))) (pds_cons (pds_for hp rfl (pdi_range1 rfl T.m_range (pda_cons (pd_int) (pda_nil))) (pdg_name 3 (pg_name (i := 3) nd rfl (by first | exact Or.inl rfl | exact Or.inr rfl | exact Or.inr ⟨rfl, rfl⟩))) (pds_one (pds_set 2 (pg_name (i := 2) nd rfl (by first | exact Or.inl rfl | exact Or.inr rfl | exact Or.inr ⟨rfl, rfl⟩)) (pd_bin dop_add (pd_var 2 (pv 2)) (pd_lst (pda_cons (pd_bin dop_add (pd_ix (pd_var 2 (pv 2)) (pd_neg (pd_int)) (fun _ _ => rfl)) (pd_ix (pd_var 2 (pv 2)) (pd_neg (pd_int)) (fun _ _ => rfl))) (pda_nil))))))) (pds_cons (pds_for hp rfl (pdi_range1 rfl T.m_range (pda_cons (pd_int) (pda_nil))) (pdg_name 4 (pg_name (i := 4) nd rfl (by first | exact Or.inl rfl | exact Or.inr rfl | exact Or.inr ⟨rfl, rfl⟩))) (pds_cons (pds_set 5 (pg_name (i := 5) nd rfl (by first | exact Or.inl rfl | exact Or.inr rfl | exact Or.inr ⟨rfl, rfl⟩)) (pd_callTy dt_tuple rfl T.m_tuple (by decide +kernel) (pda_cons (pd_fresh (pdn_lc (own := [("k", 3)]) rfl nd (pdi_range1 rfl T.m_range (pda_cons (pd_int) (pda_nil))) (blkOk_by (by kernel_rfl)) (pdgb_name 3 (by decide) (fun _ _ _ _ _ => pg_name (i := 3) nd rfl (by first | exact Or.inl rfl | exact Or.inr rfl | exact Or.inr ⟨rfl, rfl⟩))) (fun _ _ _ _ _ => pdts_one (pdt_cmp (dop_gt hu) (pd_call ((ok__law_taken T).mono (by decide)) hr rfl takes0 (pda_cons (pd_var 1 (pv 1)) (pda_cons (pd_int) (pda_nil)))) (pd_int) (nomark _))) (fun _ _ _ _ _ => pd_var 3 (pv 3)))) (pda_nil)))) (pds_cons (pds_set 6 (pg_name (i := 6) nd rfl (by first | exact Or.inl rfl | exact Or.inr rfl | exact Or.inr ⟨rfl, rfl⟩)) (pd_callTy dt_tuple rfl T.m_tuple (by decide +kernel) (pda_cons (pd_fresh (pdn_lc (own := [("k", 3)]) rfl nd (pdi_range1 rfl T.m_range (pda_cons (pd_int) (pda_nil))) (blkOk_by (by kernel_rfl)) (pdgb_name 3 (by decide) (fun _ _ _ _ _ => pg_name (i := 3) nd rfl (by first | exact Or.inl rfl | exact Or.inr rfl | exact Or.inr ⟨rfl, rfl⟩))) (fun _ _ _ _ _ => pdts_one (pdt_cmp (dop_gt hu) (pd_call ((ok__law_taken T).mono (by decide)) hr rfl takes0 (pda_cons (pd_var 1 (pv 1)) (pda_cons (pd_int) (pda_nil)))) (pd_int) (nomark _))) (fun _ _ _ _ _ => pd_var 3 (pv 3)))) (pda_nil)))) (pds_cons (pds_parEE 7 8 rfl nd rfl rfl (by decide) rfl rfl (pd_call ((ok__law_ends T).mono (by decide)) hr rfl tk (pda_cons (pd_var 5 (pv 5)) (pda_nil))) (pd_call ((ok__law_ends T).mono (by decide)) hr rfl tk (pda_cons (pd_var 6 (pv 6)) (pda_nil))) rfl) (pds_cons (pds_if (pdt_bool (pdw_or (pdt_cmp (dop_ne hu) (pd_callB (dc_len) rfl T.m_len (boot_len) (pda_cons (pd_var 7 (pv 7)) (pda_nil))) (pd_int) (nomark _)) (pdw_or1 (pdt_not (pdt_val (pd_call ((ok__law_alike T).mono (by decide)) hr rfl tk (pda_cons (pd_tup (pda_cons (pd_call ((ok_settled T).mono (by decide)) hr rfl tk (pda_cons (pd_var 5 (pv 5)) (pda_nil))) (pda_cons (pd_call ((ok_many_leaps T).mono (by decide)) hr rfl tk (pda_cons (pd_var 5 (pv 5)) (pda_nil))) (pda_nil)))) (pda_cons (pd_ix (pd_var 7 (pv 7)) (pd_int) (fun _ _ => rfl)) (pda_nil))))))))) (pds_one (pds_ret (pd_bl))) (pds_nil)) (pds_cons (pds_set 9 (pg_name (i := 9) nd rfl (by first | exact Or.inl rfl | exact Or.inr rfl | exact Or.inr ⟨rfl, rfl⟩)) (pd_callB (dc_sum rfl) rfl T.m_sum (by decide +kernel) (pda_cons (pd_fresh (pdn_lc (own := [("k", 3)]) rfl nd (pdi_seq (pd_var 5 (pv 5))) (blkOk_by (by kernel_rfl)) (pdgb_name 3 (by decide) (fun _ _ _ _ _ => pg_name (i := 3) nd rfl (by first | exact Or.inl rfl | exact Or.inr rfl | exact Or.inr ⟨rfl, rfl⟩))) (fun _ _ _ _ _ => pdts_nil) (fun _ _ _ _ _ => pd_ix (pd_var 2 (pv 2)) (pd_var 3 (pv 3)) (fun _ _ => rfl)))) (pda_nil)))) (pds_cons (pds_if (pdt_not (pdt_val (pd_call ((ok__law_alike T).mono (by decide)) hr rfl tk (pda_cons (pd_tup (pda_cons (pd_call ((ok_line_value T).mono (by decide)) hr rfl tk (pda_cons (pd_var 5 (pv 5)) (pda_nil))) (pda_cons (pd_call ((ok_least_line T).mono (by decide)) hr rfl tk (pda_cons (pd_var 9 (pv 9)) (pda_nil))) (pda_cons (pd_call ((ok_line_worth T).mono (by decide)) hr rfl tk (pda_cons (pd_int) (pda_nil))) (pda_nil))))) (pda_cons (pd_tup (pda_cons (pd_var 9 (pv 9)) (pda_cons (pd_ix (pd_ix (pd_var 7 (pv 7)) (pd_int) (fun _ _ => rfl)) (pd_int) (fun _ _ => rfl)) (pda_cons (pd_ix (pd_var 2 (pv 2)) (pd_int) (fun _ _ => rfl)) (pda_nil))))) (pda_nil)))))) (pds_one (pds_ret (pd_bl))) (pds_nil)) (pds_cons (pds_if (pdt_not (pdt_val (pd_call ((ok__law_alike T).mono (by decide)) hr rfl tk (pda_cons (pd_call ((ok_do_meet T).mono (by decide)) hr rfl tk (pda_cons (pd_var 5 (pv 5)) (pda_cons (pd_var 6 (pv 6)) (pda_nil)))) (pda_cons (pd_cmp (dop_eq hu) (pd_ix (pd_ix (pd_var 7 (pv 7)) (pd_int) (fun _ _ => rfl)) (pd_int) (fun _ _ => rfl)) (pd_ix (pd_ix (pd_var 8 (pv 8)) (pd_int) (fun _ _ => rfl)) (pd_int) (fun _ _ => rfl)) (nomark _)) (pda_nil)))))) (pds_one (pds_ret (pd_bl))) (pds_nil)) (pds_cons (pds_set 10 (pg_name (i := 10) nd rfl (by first | exact Or.inl rfl | exact Or.inr rfl | exact Or.inr ⟨rfl, rfl⟩)) (pd_callTy dt_tuple rfl T.m_tuple (by decide +kernel) (pda_cons (pd_fresh (pdn_lc (own := [("k", 3)]) rfl nd (pdi_seq (pd_var 5 (pv 5))) (blkOk_by (by kernel_rfl)) (pdgb_name 3 (by decide) (fun _ _ _ _ _ => pg_name (i := 3) nd rfl (by first | exact Or.inl rfl | exact Or.inr rfl | exact Or.inr ⟨rfl, rfl⟩))) (fun _ _ _ _ _ => pdts_one (pdt_bool (pdw_and (pdt_cmp (dop_in hu) (pd_bin dop_add (pd_var 3 (pv 3)) (pd_int)) (pd_var 5 (pv 5)) rfl) (pdw_and1 (pdt_cmp (dop_notIn hu) (pd_bin dop_add (pd_var 3 (pv 3)) (pd_int)) (pd_var 5 (pv 5)) rfl))))) (fun _ _ _ _ _ => pd_var 3 (pv 3)))) (pda_nil)))) (pds_cons (pds_if (pdt_not (pdt_val (pd_call ((ok__law_alike T).mono (by decide)) hr rfl tk (pda_cons (pd_call ((ok_line_leaps T).mono (by decide)) hr rfl tk (pda_cons (pd_var 5 (pv 5)) (pda_nil))) (pda_cons (pd_var 10 (pv 10)) (pda_nil)))))) (pds_one (pds_ret (pd_bl))) (pds_nil)) (pds_cons (pds_set 11 (pg_name (i := 11) nd rfl (by first | exact Or.inl rfl | exact Or.inr rfl | exact Or.inr ⟨rfl, rfl⟩)) (pd_var 5 (pv 5))) (pds_cons (pds_for hp rfl (pdi_seq (pd_call ((ok_settling T).mono (by decide)) hr rfl tk (pda_cons (pd_var 5 (pv 5)) (pda_nil)))) (pdg_name 12 (pg_name (i := 12) nd rfl (by first | exact Or.inl rfl | exact Or.inr rfl | exact Or.inr ⟨rfl, rfl⟩))) (pds_cons (pds_setLc 13 rfl rfl rfl (by decide +kernel) rfl (own := [("k", 3)]) rfl nd (pdi_seq (pd_var 11 (pv 11))) (blkOk_by (by kernel_rfl)) (pdgb_name 3 (by decide) (fun _ _ _ _ _ => pg_name (i := 3) nd rfl (by first | exact Or.inl rfl | exact Or.inr rfl | exact Or.inr ⟨rfl, rfl⟩))) (fun _ _ _ _ _ => pdts_one (pdt_bool (pdw_and (pdt_cmp (dop_in hu) (pd_bin dop_add (pd_var 3 (pv 3)) (pd_int)) (pd_var 11 (pv 11)) rfl) (pdw_and1 (pdt_cmp (dop_notIn hu) (pd_bin dop_add (pd_var 3 (pv 3)) (pd_int)) (pd_var 11 (pv 11)) rfl))))) (fun _ _ _ _ _ => pd_var 3 (pv 3))) (pds_cons (pds_if (pdt_bool (pdw_or (pdt_cmp (dop_eq hu) (pd_var 13 (pv 13)) (pd_lst (pda_nil)) (nomark _)) (pdw_or1 (pdt_cmp (dop_ne hu) (pd_ix (pd_var 13 (pv 13)) (pd_neg (pd_int)) (fun _ _ => rfl)) (pd_var 12 (pv 12)) (nomark _))))) (pds_one (pds_ret (pd_bl))) (pds_nil)) (pds_one (pds_set 11 (pg_name (i := 11) nd rfl (by first | exact Or.inl rfl | exact Or.inr rfl | exact Or.inr ⟨rfl, rfl⟩)) (pd_call ((ok_line_after T).mono (by decide)) hr rfl tk (pda_cons (pd_var 11 (pv 11)) (pda_cons (pd_var 12 (pv 12)) (pda_nil))))))))) (pds_one (pds_if (pdt_cmp (dop_ne hu) (pd_var 11 (pv 11)) (pd_ix (pd_ix (pd_var 7 (pv 7)) (pd_int) (fun _ _ => rfl)) (pd_int) (fun _ _ => rfl)) (nomark _)) (pds_one (pds_ret (pd_bl))) (pds_nil))))))))))))))) (pdss_calls (k := 7) (i := 14) (q := "law.<locals>.<lambda>") (PLs.cons (a := "a") (n := 0) (fb := eF fn_settled (aCons (eN gLstD (aCons (eC (.dat (.int 0))) (aNil))) (aNil))) (LmOk.mk ⟨_, _, rfl⟩ rfl (lamP_by (by decide +kernel)) (fun _ _ _ _ _ _ _ h => PySem.BindsTo.of_defaults rfl h rfl rfl rfl) (fun A outer s H E' f c' E hr => have hu := hr.units; pd_call ((ok_settled T).mono (by decide)) hr rfl (takes_of rfl rfl rfl rfl) (pda_cons (pd_lst (pda_cons (pd_int) (pda_nil))) (pda_nil)))) (PLs.cons (a := "b") (n := 0) (fb := eF fn_line_value (aCons (eN gTupD (aCons (eC (.dat (.int 0))) (aCons (eC (.dat (.int 0))) (aNil)))) (aNil))) (LmOk.mk ⟨_, _, rfl⟩ rfl (lamP_by (by decide +kernel)) (fun _ _ _ _ _ _ _ h => PySem.BindsTo.of_defaults rfl h rfl rfl rfl) (fun A outer s H E' f c' E hr => have hu := hr.units; pd_call ((ok_line_value T).mono (by decide)) hr rfl (takes_of rfl rfl rfl rfl) (pda_cons (pd_tup (pda_cons (pd_int) (pda_cons (pd_int) (pda_nil)))) (pda_nil)))) (PLs.cons (a := "c") (n := 0) (fb := eF fn_settling (aCons (eN gTupD (aCons (eC (.dat (.int 41))) (aNil))) (aNil))) (LmOk.mk ⟨_, _, rfl⟩ rfl (lamP_by (by decide +kernel)) (fun _ _ _ _ _ _ _ h => PySem.BindsTo.of_defaults rfl h rfl rfl rfl) (fun A outer s H E' f c' E hr => have hu := hr.units; pd_call ((ok_settling T).mono (by decide)) hr rfl (takes_of rfl rfl rfl rfl) (pda_cons (pd_tup (pda_cons (pd_int) (pda_nil))) (pda_nil)))) (PLs.cons (a := "d") (n := 0) (fb := eF fn_line_leaps (aCons (eN gTupD (aCons (e1 opNeg (eC (.dat (.int 1)))) (aNil))) (aNil))) (LmOk.mk ⟨_, _, rfl⟩ rfl (lamP_by (by decide +kernel)) (fun _ _ _ _ _ _ _ h => PySem.BindsTo.of_defaults rfl h rfl rfl rfl) (fun A outer s H E' f c' E hr => have hu := hr.units; pd_call ((ok_line_leaps T).mono (by decide)) hr rfl (takes_of rfl rfl rfl rfl) (pda_cons (pd_tup (pda_cons (pd_neg (pd_int)) (pda_nil))) (pda_nil)))) (PLs.nil))))) rfl TB hcode it (Nat.le_of_ble_eq_true rfl) (Nat.le_of_ble_eq_true rfl) (pg_name (i := 14) nd rfl (by first | exact Or.inl rfl | exact Or.inr rfl | exact Or.inr ⟨rfl, rfl⟩)) (fun a fs E' hE hat hls => pd_callG ((ok__law_same T).mono (by decide)) hG hr rfl tk (pda_cons (pd_fresh (pdn_lc (own := [("call", 15)]) rfl nd (pdi_fns 14 (pv 14) hE) (blkOk_by (by kernel_rfl)) (pdgb_name 15 (by decide) (fun _ _ _ _ _ => pg_name (i := 15) nd rfl (by first | exact Or.inl rfl | exact Or.inr rfl | exact Or.inr ⟨rfl, rfl⟩))) (fun _ _ _ _ _ => pdts_nil) (fun _ _ _ _ _ => pd_toldF (k := 7) (i := 15) rfl hmT FT hbT sc__law_told rfl rfl rfl rfl rfl hL hcs (ok__law_refusal T _) (pv 15) (hr.mono (by decide)) hls hat))) (pda_cons (pd_lst (pda_cons (pd_tup (pda_cons (pd_str) (pda_cons (pd_neg (pd_int)) (pda_nil)))) (pda_cons (pd_tup (pda_cons (pd_str) (pda_cons (pd_int) (pda_nil)))) (pda_cons (pd_tup (pda_cons (pd_str) (pda_cons (pd_int) (pda_nil)))) (pda_cons (pd_tup (pda_cons (pd_str) (pda_cons (pd_int) (pda_nil)))) (pda_nil)))))) (pda_nil)))) (fun a fs hl nd => same_calls (n := 16) hl nd (by decide) (by decide) (by decide) (Nat.le_of_ble_eq_true rfl) rfl rfl))))
    obtain ⟨t, h1, h2⟩ := law_top (X := (cxOf (L2.CX P w) P w K mg base ["script", "row", "worths", "k", "turn", "pegs", "other", "ends", "also", "value", "able", "here", "place", "last", "calls", "call"] "law" (defScope s_law) f fd.code A outer s H EX)) (EX := EX) (n := 14) (seed := 25018) (fb := den_law) (good := good) (pg_name (i := 1) nd rfl (by first | exact Or.inl rfl | exact Or.inr rfl | exact Or.inr ⟨rfl, rfl⟩)) (pv 0) hrest hden
    exact ⟨t, h1, h2 _ vs H Q rfl h⟩
end

set_option maxHeartbeats 1000000
/-! ### basics, boards, pegs by equations -/
theorem is_number_eq (x : Int) : fn_is_number [.dat (.int x)] = pure (dB true) := by
  simp [fn_is_number, den_is_number, dB]
theorem first_false_loop : ∀ (n k : Nat) (a b c : SV), ∃ b' c', forL (gT 1 2) (sIf (bNot (bE (eV 2))) (sRet (eV 1)) sNil) (enumF k (List.replicate n (PyData.bool true))) [a, b, c] = pure (.nx [a, b', c'])
  | 0, k, a, b, c => ⟨b, c, rfl⟩
  | n + 1, k, a, b, c => by
    obtain ⟨b', c', h⟩ := first_false_loop n (k + 1) a (.val (.dat (.int (k : Int)))) (.val (.dat (.bool true)))
    refine ⟨b', c', ?_⟩
    rw [List.replicate_succ, enumF, forL_cons]
    simp
    exact h
theorem first_false_none (n : Nat) : fn_first_false [.dat (.list (List.replicate n (.bool true)))] = pure (.dat .none) := by
  obtain ⟨b', c', h⟩ := first_false_loop n 0 (.val (.dat (.list (List.replicate n (.bool true))))) .no .no
  simp [fn_first_false, den_first_false, enumD_eq]
  rw [h]
  rfl
/-- p: places of many, upwards -/
structure PegsOk (many : Int) (p : List Int) : Prop where
  lo : ∀ x ∈ p, 0 ≤ x ∧ x < many
  up : p.Pairwise (· < ·)
theorem replicate_last {α : Type} (n : Nat) (x : α) : (List.replicate (n + 1) x).getLast? = some x := by
  rw [List.replicate_succ']
  simp
/-! ### leaps, boards -/
structure LpOk (m : Int) (l : Lp) : Prop where
  s0 : 0 ≤ l.s ∧ l.s < m
  m0 : 0 ≤ l.m ∧ l.m < m
  e0 : 0 ≤ l.e ∧ l.e < m
  sm : l.s ≠ l.m
  se : l.s ≠ l.e
  me : l.m ≠ l.e
structure LpsOk (m : Int) (ls : List Lp) : Prop where
  m1 : 1 ≤ m
  m2 : m ≤ 12
  len : ls.length ≤ 60
  ok : ∀ l ∈ ls, LpOk m l
  up : ls.Pairwise fun a b => W.DatumOrd.lt a b = true
abbrev tL (ls : List Lp) : PyData := .tuple (ls.map Lp.d)
/-! ### leaping -/
def doneL (p : List Int) (l : Lp) : List Int := sortT (p.filter (fun x => decide (x ∉ [l.s, l.m])) ++ [l.e])
@[simp] theorem sl2 (l : Lp) : opSl (.dat l.d) none (some 2) = some (.dat (tI [l.s, l.m])) := rfl
/-! ### the draws -/
theorem taken_ok (a : Addr) (n : Int) (h1 : 1 ≤ n) (h2 : n ≤ 1000000) (R : RS) (hR : RowInv a R) : Ter (fn__law_taken [.row a, .dat (.int n)]) R fun d R' => ∃ k : Int, d = .dat (.int k) ∧ 0 ≤ k ∧ k < n ∧ RowInv a R' := by
  obtain ⟨⟨a', sc, ns, i, r, c⟩, rfl, rfl, i0, r0, r1, c0⟩ := hR
  dsimp only at i0 r0 r1 c0
  have hn : 0 < n := by omega
  have hn2 : n < 1073741824 := by omega
  have md : ∀ x : Int, 0 ≤ x % n ∧ x % n < n := fun x => ⟨Int.emod_nonneg _ (by omega), Int.emod_lt_of_pos _ hn⟩
  have mm : ∀ x : Int, 0 ≤ x % 2147483647 ∧ x % 2147483647 < 2147483648 := fun x => ⟨Int.emod_nonneg _ (by decide), by have := Int.emod_lt_of_pos x (show (0 : Int) < 2147483647 by decide); omega⟩
  unfold Ter
  simp only [fn__law_taken, runFn_def, List.length_cons, List.length_nil, Nat.zero_add, Nat.reduceAdd, if_true, List.map_cons, List.map_nil, Nat.reduceSub, List.replicate, List.cons_append, List.nil_append, den__law_taken]
  by_cases hc : 0 < c
  · refine ⟨.dat (.int (c % n)), some ⟨a', sc, ns, i, r, c / n⟩, ?_, _, rfl, (md _).1, (md _).2, _, rfl, rfl, i0, r0, r1, Int.ediv_nonneg c0 (by omega)⟩
    simp [-bind_pure_comp, bind_at, pure_at, get3, put3, hc, opMod_i _ _ hn, opFdiv_i _ _ hn hn2, dB]
  · by_cases hi : (ns.length : Int) < i + 1
    · refine ⟨.dat (.int ((r * 48271 + 11) % 2147483647 / 7 % n)), some ⟨a', sc, ns, i + 1, (r * 48271 + 11) % 2147483647, c⟩, ?_, _, rfl, (md _).1, (md _).2, _, rfl, rfl, by show 0 ≤ i + 1; omega, (mm _).1, (mm _).2, c0⟩
      simp [-bind_pure_comp, bind_at, pure_at, get0, get1, get2, get3, put1, put2, hc, hi, opMod_i _ _ hn, opMod_i _ 2147483647 (by decide), opFdiv_i _ 7 (by decide) (by decide), opMul_i _ 48271 (.inr (by decide)), dB]
    · obtain ⟨j, hj⟩ : ∃ j : Nat, i = (j : Int) := ⟨i.toNat, by omega⟩
      subst hj
      have hjl : j < ns.length := by omega
      have hx : (ns.map PyData.int)[j]? = some (.int ns[j]) := by rw [List.getElem?_map, List.getElem?_eq_getElem hjl]; rfl
      have hs : ((j : Int) + 1 - 1) = (j : Int) := by omega
      by_cases hb : (1000000000000000000 : Int) ≤ ns[j]
      · refine ⟨.dat (.int (ns[j] % n)), some ⟨a', sc, ns, (j : Int) + 1, (r * 48271 + ns[j] + 11) % 2147483647, ns[j] / n⟩, ?_, _, rfl, (md _).1, (md _).2, _, rfl, rfl, by show 0 ≤ (j : Int) + 1; omega, (mm _).1, (mm _).2, Int.ediv_nonneg (by omega) (by omega)⟩
        simp [-bind_pure_comp, bind_at, pure_at, get0, get1, get2, get3, put1, put2, put3, hc, hi, hs, hx, hb, opMod_i _ _ hn, opFdiv_i _ _ hn hn2, opMod_i _ 2147483647 (by decide), opMul_i _ 48271 (.inr (by decide)), opPow_18, dB]
      · refine ⟨.dat (.int ((ns[j] % 1000003 * 31 + (r * 48271 + ns[j] + 11) % 2147483647 / 11) % n)), some ⟨a', sc, ns, (j : Int) + 1, (r * 48271 + ns[j] + 11) % 2147483647, c⟩, ?_, _, rfl, (md _).1, (md _).2, _, rfl, rfl, by show 0 ≤ (j : Int) + 1; omega, (mm _).1, (mm _).2, c0⟩
        simp [-bind_pure_comp, bind_at, pure_at, get0, get1, get2, get3, put1, put2, put3, hc, hi, hs, hx, hb, opMod_i _ _ hn, opMod_i _ 2147483647 (by decide), opMod_i _ 1000003 (by decide), opFdiv_i _ 11 (by decide) (by decide), opMul_i _ 48271 (.inr (by decide)), opMul_i _ 31 (.inr (by decide)), opPow_18, dB]

/-! ### draws of a thing, of pegs; a leap by the law -/
def behL (p : List Int) (l : Lp) : Option (List Int) := if l.s ∉ p ∨ l.m ∉ p ∨ l.e ∈ p then none else some (sortT ((p ++ [l.e]).filter fun x => decide (x ≠ l.s) && decide (x ≠ l.m)))
def oP : Option (List Int) → D
  | none => .dat .none
  | some q => .dat (tI q)
theorem behL_some {p q : List Int} {l : Lp} (h : behL p l = some q) : l.s ∈ p ∧ l.m ∈ p ∧ l.e ∉ p := by
  unfold behL at h
  split at h
  · cases h
  · rename_i hn
    simp at hn
    exact hn
theorem behL_done {p q : List Int} {l : Lp} {m : Int} (hl : LpOk m l) (h : behL p l = some q) : q = doneL p l := by
  unfold behL at h
  split at h
  · cases h
  · cases h
    unfold doneL
    congr 1
    rw [List.filter_append]
    congr 1
    · refine List.filter_congr fun x _ => ?_
      simp
    · have h1 := hl.se
      have h2 := hl.me
      simp [Ne.symm h1, Ne.symm h2]
theorem mem_done {p : List Int} {l : Lp} {x : Int} : x ∈ doneL p l ↔ (x ∈ p ∧ x ≠ l.s ∧ x ≠ l.m) ∨ x = l.e := by
  unfold doneL
  rw [sortI_mem]
  simp
theorem done_ok {m : Int} {p : List Int} {l : Lp} (hp : PegsOk m p) (hl : LpOk m l) (he : l.e ∉ p) : PegsOk m (doneL p l) := by
  refine ⟨fun x hx => ?_, sortI_lt ?_⟩
  · rcases mem_done.mp hx with ⟨h, _⟩ | h
    · exact hp.lo x h
    · rw [h]; exact hl.e0
  · rw [List.nodup_append]
    refine ⟨(up_nodup hp.up).sublist List.filter_sublist, by simp, fun a ha b hb => ?_⟩
    simp at hb
    rw [hb]
    exact fun z => he (z ▸ (List.mem_filter.mp ha).1)
theorem pegs_len {m : Int} {p : List Int} (hp : PegsOk m p) (hm : m ≤ 100) : p.length ≤ 100 := by
  have h2 : (p.map Int.toNat).Nodup := by
    refine List.pairwise_map.mpr (List.Pairwise.imp_of_mem (fun {a b} ha hb hab => ?_) hp.up)
    have := hp.lo a ha
    have := hp.lo b hb
    omega
  have h3 := L2.nat_nodup_len (p.map Int.toNat) (List.range 100) h2 fun x hx => by
    obtain ⟨y, hy, rfl⟩ := List.mem_map.mp hx
    have := hp.lo y hy
    exact List.mem_range.mpr (by omega)
  simpa using h3

/-! ### alike: a thing with itself -/
inductive Al : Nat → PyData → Prop
  | non (n : Nat) : Al n .none
  | bl (n : Nat) (b : Bool) : Al n (.bool b)
  | int (n : Nat) (i : Int) : Al n (.int i)
  | str (n : Nat) (s : Str) : Al n (.str s)
  | tup (n : Nat) (xs : List PyData) (h : xs.length ≤ 1000000) (a : ∀ x ∈ xs, Al n x) : Al (n + 1) (.tuple xs)
  | lst (n : Nat) (xs : List PyData) (h : xs.length ≤ 1000000) (a : ∀ x ∈ xs, Al n x) : Al (n + 1) (.list xs)
theorem opEq_b (a b : Bool) : opEq (.dat (.bool a)) (.dat (.bool b)) = some (dB (decide (a = b))) := opEq_t (α := Bool) (by decide) a b
theorem opNe_b (a b : Bool) : opNe (.dat (.bool a)) (.dat (.bool b)) = some (dB (decide (a ≠ b))) := opNe_t (α := Bool) (by decide) a b
theorem opNe_bb (a : Bool) : opNe (dB a) (dB a) = some (dB false) := by
  have := opNe_b a a
  rw [decide_eq_false (by simp)] at this
  exact this
theorem opEq_s (a : Str) : opEq (.dat (.str a)) (.dat (.str a)) = some (dB true) := by
  have := opEq_t (α := Str) (by decide) a a
  rw [decide_eq_true rfl] at this
  exact this
theorem opEq_n : opEq (.dat .none) (.dat .none) = some (dB true) := rfl
theorem alike_seq (n : Nat) (xs : List PyData) (h : xs.length ≤ 1000000) (ih : ∀ x ∈ xs, fnR__law_alike n [.dat x, .dat x] = pure (dB true)) (tu : Bool) (y : PyData)
    (hx : ∀ i, i < xs.length → ixM (.dat y) (.dat (.int ((i : Nat) : Int))) = pure (.dat (xs.getD i .none))) (hl : g_len [.dat y] = some (.dat (.int xs.length))) (ht : isTyS "tuple" (tyName y) = tu) (hls : isTyS "list" (tyName y) = !tu) :
    fnR__law_alike (n + 1) [.dat y, .dat y] = pure (dB true) := by
  have hc := nLc_map (fi := iRange1 (aCons (eN g_len (aCons (eV 1) aNil)) aNil)) (t := gN 2) (ft := bNot (bE (eF (fnR__law_alike n) (aCons (eIx (eV 0) (eV 2)) (aCons (eIx (eV 1) (eV 2)) aNil))))) (fe := eV 2) (vs := [2]) (ρ := [.val (.dat y), .val (.dat y), .no])
    (List.range xs.length) (fun (i : Nat) => .dat (.int (i : Int))) (fun _ => false) (fun (i : Nat) => .int (i : Int)) (fun (i : Nat) => [.val (.dat y), .val (.dat y), .val (.dat (.int (i : Int)))])
    (by simp only [iRange1_def, aCons_def, aNil_def, eN_def, eV_def, List.getElem?_cons_succ, List.getElem?_cons_zero, pure_bind, bind_assoc, hl, lft_some, inLine_ok (i := (xs.length : Int)) (by omega) (by omega), if_true, Int.toNat_natCast, rangeD_eq])
    (by simp [SZ]; omega) (fun i _ => rfl)
    (fun i hi => by
      have hi' := List.mem_range.mp hi
      have hm : xs.getD i .none ∈ xs := by rw [List.getD_eq_getElem?_getD, List.getElem?_eq_getElem hi']; exact List.getElem_mem hi'
      simp only [bNot_def, bE_def, eF_def, aCons_def, aNil_def, eIx_def, eV_def, List.getElem?_cons_succ, List.getElem?_cons_zero, pure_bind, bind_assoc, hx i hi', ih _ hm, asB_dB, lft_some]
      rfl)
    (fun i _ h => nomatch h)
  rw [show (List.range xs.length).filter (fun _ => false) = [] from by simp] at hc
  simp only [fnR__law_alike, runFn_def, List.length_cons, List.length_nil, Nat.zero_add, Nat.reduceAdd, if_true, List.map_cons, List.map_nil, Nat.reduceSub, List.replicate, List.cons_append, List.nil_append, den__law_alike, sSeq_def, sIf_def, bE_def, e1_def, eV_def, List.getElem?_cons_succ, List.getElem?_cons_zero, pure_bind, opIsTL_def, ht, hls, lft_some, asB_dB, bind_assoc, bOr_def, bNot_def, e2_def, opIs_def, sNil_def, sRet_def, eN_def, aCons_def, aNil_def, hl, eFresh_def, hc, owD_lst, gLstD0]
  have hll : opNe (.dat (.int (xs.length : Int))) (.dat (.int (xs.length : Int))) = some (dB false) := by simp
  have he : opEq (.dat (.list [])) (.dat (.list [])) = some (dB true) := rfl
  cases tu <;> simp [opNe_bb, hll, he, hc, hl]
theorem alike_self : ∀ (n : Nat) (x : PyData), Al n x → fnR__law_alike (n + 1) [.dat x, .dat x] = pure (dB true)
  | n, _, .non _ => by simp [fnR__law_alike, den__law_alike, isTyS, tyName, opEq_n, opEq_b, dB]
  | n, _, .bl _ b => by simp [fnR__law_alike, den__law_alike, isTyS, tyName, opEq_b, dB, opIsN]
  | n, _, .int _ i => by simp [fnR__law_alike, den__law_alike, isTyS, tyName, opEq_b, dB]
  | n, _, .str _ s => by simp [fnR__law_alike, den__law_alike, isTyS, tyName, opEq_s, opEq_b, dB, opIsN]
  | n + 1, _, .tup _ xs h a => alike_seq (n + 1) xs h (fun x hx => alike_self n x (a x hx)) true _ (fun i hi => by
      have e : xs[i]? = some (xs.getD i .none) := by rw [List.getD_eq_getElem?_getD, List.getElem?_eq_getElem hi]; rfl
      simp only [ixM_dat, opIx_tn, e, Option.map_some, lft_some]) rfl rfl rfl
  | n + 1, _, .lst _ xs h a => alike_seq (n + 1) xs h (fun x hx => alike_self n x (a x hx)) false _ (fun i hi => by
      have e : xs[i]? = some (xs.getD i .none) := by rw [List.getD_eq_getElem?_getD, List.getElem?_eq_getElem hi]; rfl
      simp only [ixM_dat, opIx_ln, e, Option.map_some, lft_some]) rfl rfl rfl
theorem alike_ok (x : PyData) (h : Al 7 x) : fn__law_alike [.dat x, .dat x] = pure (dB true) := alike_self 7 x h

/-! ### leaps in order; lines -/
theorem sortL_perm (xs : List Lp) : (sortT xs).Perm xs := List.mergeSort_perm _ _
theorem lt_lp (a b : Lp) : W.DatumOrd.lt a b = true ↔ a.s < b.s ∨ (a.s = b.s ∧ (a.m < b.m ∨ (a.m = b.m ∧ a.e < b.e))) := by
  show W.listLt [a.s, a.m, a.e] [b.s, b.m, b.e] = true ↔ _
  simp only [W.listLt]
  by_cases h1 : a.s = b.s
  · rw [if_pos h1]
    by_cases h2 : a.m = b.m
    · rw [if_pos h2]
      by_cases h3 : a.e = b.e
      · rw [if_pos h3]; simp; omega
      · rw [if_neg h3]
        show decide (a.e < b.e) = true ↔ _
        rw [decide_eq_true_eq]
        omega
    · rw [if_neg h2]
      show decide (a.m < b.m) = true ↔ _
      rw [decide_eq_true_eq]
      omega
  · rw [if_neg h1]
    show decide (a.s < b.s) = true ↔ _
    rw [decide_eq_true_eq]
    omega
theorem sortL_up {xs : List Lp} (hn : xs.Nodup) : (sortT xs).Pairwise fun a b => W.DatumOrd.lt a b = true := by
  have h1 := List.pairwise_mergeSort (le := fun a b : Lp => !W.DatumOrd.lt b a) (fun a b c h1 h2 => by
    simp only [Bool.not_eq_true', ← Bool.not_eq_true, lt_lp] at h1 h2 ⊢
    omega) (fun a b => by
    simp only [Bool.or_eq_true, Bool.not_eq_true', ← Bool.not_eq_true, lt_lp]
    omega) xs
  have h2 : (sortT xs).Nodup := (sortL_perm xs).nodup_iff.mpr hn
  refine (h1.and h2).imp fun {a b} ⟨h, hne⟩ => ?_
  simp only [Bool.not_eq_true', ← Bool.not_eq_true, lt_lp] at h
  rw [lt_lp]
  have : ¬ (a.s = b.s ∧ a.m = b.m ∧ a.e = b.e) := fun ⟨x, y, z⟩ => hne (by cases a; cases b; simp at x y z; simp [x, y, z])
  omega
def lineL (n : Nat) : List Lp := (List.range n).map fun (k : Nat) => ⟨(k : Int), (k : Int) + 1, (k : Int) + 2⟩
def revL (l : Lp) : Lp := ⟨l.e, l.m, l.s⟩
def lineLeaps (n : Nat) : List Lp := sortT (lineL n ++ (lineL n).map revL)
theorem mem_line {n : Nat} {l : Lp} (h : l ∈ lineL n) : ∃ k : Nat, k < n ∧ l = ⟨(k : Int), (k : Int) + 1, (k : Int) + 2⟩ := by
  obtain ⟨k, hk, rfl⟩ := List.mem_map.mp h
  exact ⟨k, List.mem_range.mp hk, rfl⟩
theorem line_ok (m : Nat) (h1 : 3 ≤ m) (h2 : m ≤ 12) : LpsOk (m : Int) (lineLeaps (m - 2)) where
  m1 := by omega
  m2 := by omega
  len := by
    unfold lineLeaps
    rw [(sortL_perm _).length_eq]
    simp [lineL]
    omega
  ok := fun l hl => by
    have hl' := (sortL_perm _).mem_iff.mp hl
    rcases List.mem_append.mp hl' with h | h
    · obtain ⟨k, hk, rfl⟩ := mem_line h
      refine ⟨?_, ?_, ?_, ?_, ?_, ?_⟩ <;> dsimp only <;> omega
    · obtain ⟨l', h', rfl⟩ := List.mem_map.mp h
      obtain ⟨k, hk, rfl⟩ := mem_line h'
      refine ⟨?_, ?_, ?_, ?_, ?_, ?_⟩ <;> dsimp only [revL] <;> omega
  up := by
    refine sortL_up ?_
    rw [List.nodup_append]
    have hn : (lineL (m - 2)).Nodup := by
      refine List.pairwise_map.mpr (List.pairwise_lt_range.imp fun {a b} h e => ?_)
      have := congrArg Lp.s e
      dsimp only at this
      omega
    refine ⟨hn, ?_, fun a ha b hb e => ?_⟩
    · refine List.pairwise_map.mpr (hn.imp fun {a b} h e => h ?_)
      have x := congrArg Lp.s e
      have y := congrArg Lp.m e
      have z := congrArg Lp.e e
      simp only [revL] at x y z
      cases a; cases b
      simp at x y z
      simp [x, y, z]
    · subst e
      obtain ⟨k, hk, rfl⟩ := mem_line ha
      obtain ⟨l', h', e⟩ := List.mem_map.mp hb
      obtain ⟨k', hk', rfl⟩ := mem_line h'
      have x := congrArg Lp.s e
      have z := congrArg Lp.e e
      simp only [revL] at x z
      omega

/-! ### while loops -/
theorem whN_at (ft : En → M Bool) (fb : En → M Fl) (n : Nat) (ρ : En) : whN ft fb (n + 1) ρ = (do
    let b ← ft ρ
    if b = true then (do
      let fl ← fb ρ
      match fl with
      | .nx ρ2 => whN ft fb n ρ2
      | .ct ρ2 => whN ft fb n ρ2
      | .bk ρ2 => pure (.nx ρ2)
      | .rt d => pure (.rt d)) else pure (.nx ρ)) := rfl
theorem whN_more {ft : En → M Bool} {fb : En → M Fl} : ∀ (n : Nat) (ρ : En) (R : RS) (x : Out Fl × RS), whN ft fb n ρ R = some x → whN ft fb (n + 1) ρ R = some x
  | 0, _, _, _, h => by cases h
  | n + 1, ρ, R, x, h => by
    rw [whN_at, bind_at] at h ⊢
    cases e1 : ft ρ R with
    | none => rw [e1] at h; cases h
    | some q1 =>
      obtain ⟨o1, R1⟩ := q1
      rw [e1] at h
      cases o1 with
      | exn y => exact h
      | val b =>
        dsimp only at h ⊢
        cases b with
        | false => exact h
        | true =>
          simp only [if_true] at h ⊢
          rw [bind_at] at h ⊢
          cases e2 : fb ρ R1 with
          | none => rw [e2] at h; cases h
          | some q2 =>
            obtain ⟨o2, R2⟩ := q2
            rw [e2] at h
            cases o2 with
            | exn y => exact h
            | val fl =>
              cases fl with
              | nx ρ2 => exact whN_more n ρ2 R2 x h
              | ct ρ2 => exact whN_more n ρ2 R2 x h
              | bk ρ2 => exact h
              | rt d => exact h
theorem whN_le {ft : En → M Bool} {fb : En → M Fl} {n : Nat} {ρ : En} {R : RS} {x : Out Fl × RS} (h : whN ft fb n ρ R = some x) : ∀ k, whN ft fb (n + k) ρ R = some x
  | 0 => h
  | k + 1 => whN_more _ _ _ _ (whN_le h k)
theorem sWhile_at {ft : En → M Bool} {fb : En → M Fl} {n : Nat} {ρ : En} {R : RS} {x : Out Fl × RS} (h : whN ft fb n ρ R = some x) : sWhile ft fb ρ R = some x := by
  have hex : ∃ n, (whN ft fb n ρ R).isSome := ⟨n, by rw [h]; rfl⟩
  unfold sWhile
  rw [dif_pos hex]
  generalize hk : Classical.choose hex = k
  have hs : (whN ft fb k ρ R).isSome := hk ▸ Classical.choose_spec hex
  obtain ⟨y, hy⟩ := Option.isSome_iff_exists.mp hs
  have h1 := whN_le h k
  have h2 := whN_le hy n
  rw [Nat.add_comm] at h2
  rw [hy, ← h1, h2]
theorem while_ter {ft : En → M Bool} {fb : En → M Fl} {Q : Fl → RS → Prop} (I : Nat → En → RS → Prop) (step : ∀ n ρ R, I n ρ R → Ter (ft ρ) R fun b R1 => if b = true then Ter (fb ρ) R1 fun fl R2 => ∃ ρ2 k, fl = .nx ρ2 ∧ k < n ∧ I k ρ2 R2 else Q (.nx ρ) R1) :
    ∀ (n : Nat) (ρ : En) (R : RS), I n ρ R → Ter (sWhile ft fb ρ) R Q := by
  have key : ∀ (n : Nat) (ρ : En) (R : RS), I n ρ R → ∃ j fl R', whN ft fb j ρ R = some (.val fl, R') ∧ Q fl R' := by
    intro n
    induction n using Nat.strongRecOn with
    | ind n ih =>
      intro ρ R h
      obtain ⟨b, R1, e1, h1⟩ := step n ρ R h
      cases b with
      | false =>
        refine ⟨1, .nx ρ, R1, ?_, h1⟩
        rw [whN_at, bind_at, e1]
        rfl
      | true =>
        obtain ⟨fl, R2, e2, ρ2, k, rfl, hk, h2⟩ := h1
        obtain ⟨j, fl, R3, e3, q⟩ := ih k hk ρ2 R2 h2
        refine ⟨j + 1, fl, R3, ?_, q⟩
        rw [whN_at, bind_at, e1]
        simp only [if_true]
        rw [bind_at, e2]
        exact e3
  intro n ρ R h
  obtain ⟨j, fl, R', e, q⟩ := key n ρ R h
  exact ⟨fl, R', sWhile_at e, q⟩
theorem eq_of_ter {α : Type} {m : M α} {a : α} (h : ∀ R, Ter m R fun d R' => d = a ∧ R' = R) : m = pure a := by
  funext R
  obtain ⟨d, R', e, rfl, rfl⟩ := h R
  exact e
/-! ### what can be come to -/
def CanDo (q : List Int) (l : Lp) : Prop := l.s ∈ q ∧ l.m ∈ q ∧ l.e ∉ q
instance (q : List Int) (l : Lp) : Decidable (CanDo q l) := inferInstanceAs (Decidable (_ ∧ _))
inductive Rch (ls : List Lp) (p : List Int) : List Int → Prop
  | refl : Rch ls p p
  | step {q : List Int} {l : Lp} : Rch ls p q → l ∈ ls → CanDo q l → Rch ls p (doneL q l)
theorem rch_ok {m : Int} {ls : List Lp} {p q : List Int} (hp : PegsOk m p) (hl : LpsOk m ls) (h : Rch ls p q) : PegsOk m q := by
  induction h with
  | refl => exact hp
  | step _ h1 h2 ih => exact done_ok ih (hl.ok _ h1) h2.2.2
/-! all standings of so many places -/
def allS : Nat → List (List Int)
  | 0 => [[]]
  | n + 1 => allS n ++ (allS n).map (· ++ [(n : Int)])
theorem allS_len : ∀ n, (allS n).length = 2 ^ n
  | 0 => rfl
  | n + 1 => by rw [allS, List.length_append, List.length_map, allS_len n]; omega
theorem allS_mem : ∀ (n : Nat) (p : List Int), PegsOk (n : Int) p → p ∈ allS n
  | 0, p, h => by
    cases p with
    | nil => simp [allS]
    | cons x p =>
      have := h.lo x List.mem_cons_self
      omega
  | n + 1, p, h => by
    rw [allS, List.mem_append]
    by_cases hn : (n : Int) ∈ p
    · right
      obtain ⟨a, b, rfl⟩ := List.append_of_mem hn
      have hb : b = [] := by
        cases b with
        | nil => rfl
        | cons y b =>
          have h1 := h.lo y (by simp)
          have h2 := (List.pairwise_append.mp h.up).2.1
          have h3 := (List.pairwise_cons.mp h2).1 y List.mem_cons_self
          omega
      subst hb
      refine List.mem_map.mpr ⟨a, allS_mem n a ⟨fun x hx => ?_, (List.pairwise_append.mp h.up).1⟩, rfl⟩
      have h1 := h.lo x (by simp [hx])
      have h2 := (List.pairwise_append.mp h.up).2.2 x hx n (by simp)
      omega
    · left
      refine allS_mem n p ⟨fun x hx => ?_, h.up⟩
      have h1 := h.lo x hx
      have : x ≠ (n : Int) := fun e => hn (e ▸ hx)
      omega
theorem few_standings {n : Nat} {qs : List (List Int)} (hn : qs.Nodup) (h : ∀ q ∈ qs, PegsOk (n : Int) q) : qs.length ≤ 2 ^ n := by
  have := NS.short hn fun q hq => allS_mem n q (h q hq)
  rwa [allS_len] at this

/-! ### keys of standings -/
def keyI (p : List Int) : NestedKey := .tup (p.map .num)
theorem keysOf_ints : ∀ p : List Int, keysOf (p.map .int) = some (p.map .num)
  | [] => rfl
  | x :: p => by
    rw [List.map_cons, keysOf, keysOf_ints p]
    rfl
theorem keyOf_I (p : List Int) : DL.keyOf (tI p) = some (keyI p) := by
  show (keysOf (p.map .int)).map NestedKey.tup = _
  rw [keysOf_ints]
  rfl
theorem keyI_inj {p q : List Int} (h : keyI p = keyI q) : p = q := by
  injection h with h
  induction p generalizing q with
  | nil => cases q with
    | nil => rfl
    | cons y q => cases h
  | cons x p ih => cases q with
    | nil => cases h
    | cons y q =>
      injection h with h1 h2
      injection h1 with h1
      rw [h1, ih h2]
theorem keyI_depth (p : List Int) : (keyI p).depth ≤ 8 := by
  have : ∀ p : List Int, NestedKey.depthAll (p.map .num) = 0 := by
    intro p
    induction p with
    | nil => rfl
    | cons x p ih => rw [List.map_cons, NestedKey.depthAll, ih]; rfl
  show NestedKey.depthAll (p.map .num) + 1 ≤ 8
  rw [this]; omega
def kvs (qs : List (List Int)) : List (PyData × PyData) := qs.map fun q => (tI q, .bool true)
theorem kvs_at (qs : List (List Int)) (p : List Int) : (dicAt (kvs qs) (keyI p)).isSome = decide (p ∈ qs) := by
  unfold dicAt kvs
  rw [Option.isSome_map]
  induction qs with
  | nil => rfl
  | cons q qs ih =>
    rw [List.map_cons, List.find?_cons]
    by_cases e : q = p
    · subst e
      rw [decide_eq_true (keyOf_I q)]
      simp
    · have : decide (DL.keyOf (tI q, PyData.bool true).1 = some (keyI p)) = false := decide_eq_false fun h => e (keyI_inj (by
        rw [keyOf_I] at h; exact Option.some.inj h))
      rw [this, ih]
      have hpq : p ≠ q := fun z => e z.symm
      simp [hpq]
theorem kvs_put {qs : List (List Int)} {p : List Int} (h : p ∉ qs) : putD (kvs qs) (keyI p) (tI p) (.bool true) = kvs (qs ++ [p]) := by
  unfold putD
  rw [kvs_at, decide_eq_false h]
  simp [kvs]
theorem in_kvs (qs : List (List Int)) (p : List Int) : opIn (.dat (tI p)) (.dic (kvs qs)) = some (dB (decide (p ∈ qs))) := by
  unfold opIn
  dsimp only
  rw [keyOf_I]
  dsimp only
  rw [if_pos (keyI_depth p), kvs_at]
theorem notIn_kvs (qs : List (List Int)) (p : List Int) : opNotIn (.dat (tI p)) (.dic (kvs qs)) = some (dB (!decide (p ∈ qs))) := by
  unfold opNotIn
  rw [in_kvs]
  rfl

/-! ### all_from -/
@[simp] theorem eOwnR_def (r : D → D → Option D) (f : En → M D) (i : Nat) (ρ : En) : eOwnR r f i ρ = (do
  let d ← f ρ
  match ρ[i]? with
  | some (.own o) => lft (r d (owD o))
  | _ => stk) := rfl
@[simp] theorem eOwnL_def (r : D → D → Option D) (i : Nat) (f : En → M D) (ρ : En) : eOwnL r i f ρ = (match ρ[i]? with
  | some (.own o) => do let d ← f ρ; lft (r (owD o) d)
  | _ => stk) := rfl
@[simp] theorem sDPut_def (i : Nat) (fk f : En → M D) (ρ : En) : sDPut i fk f ρ = (do
  let d ← f ρ
  match d, ρ[i]? with
  | .dat y, some (.own (.dic kvs)) => do
    let k ← fk ρ
    match k with
    | .dat x => match DL.keyOf x with
      | some q => if isTupD x = true ∧ q.depth ≤ 8 ∧ kvs.length < SZ then pure (.nx (ρ.set i (.own (.dic (putD kvs q x y))))) else stk
      | none => stk
    | _ => stk
  | _, _ => stk) := rfl
@[simp] theorem sPop_def (i j : Nat) (ρ : En) : sPop i j ρ = (match ρ[i]? with
  | some (.own (.lst ds)) => do
    let y ← lft ds.getLast?
    pure (.nx ((ρ.set i (.own (.lst ds.dropLast))).set j (.val (.dat y))))
  | _ => stk) := rfl
abbrev envA (b : D) (p : List Int) (qs ws : List (List Int)) (x y z : SV) : En := [.val b, .val (.dat (tI p)), .own (.dic (kvs qs)), .own (.lst (ws.map tI)), x, y, z]
theorem ne_nil (ws : List (List Int)) : opNe (.dat (.list (ws.map tI))) (.dat (.list [])) = some (dB (decide (ws ≠ []))) := by
  cases ws with
  | nil => rfl
  | cons w ws =>
    have h1 : near (.list ((w :: ws).map tI)) (.list []) = true := decide_eq_true (Nat.le_trans (Nat.min_le_right _ _) (by decide))
    show (if near (.list ((w :: ws).map tI)) (.list []) = true then _ else _) = _
    rw [if_pos h1]
    rfl
theorem nLst_one (p : List Int) (ρ : En) (i : Nat) (h : ρ[i]? = some (.val (.dat (tI p)))) : nLst (aCons (eV i) aNil) ρ = pure (.lst [tI p]) := by
  unfold nLst
  simp [h] <;> rfl
theorem nDic_one (p : List Int) (ρ : En) (i : Nat) (h : ρ[i]? = some (.val (.dat (tI p)))) : nDic1 (eV i) (eC (.dat (.bool true))) ρ = pure (.dic (kvs [p])) := by
  unfold nDic1
  have e1 : noX (eV i ρ) = pure (.dat (tI p)) := by
    simp [h] <;> rfl
  have e2 : noX (eC (.dat (.bool true)) ρ) = pure (.dat (.bool true)) := rfl
  rw [e1, e2]
  simp [keyOf_I, keyI_depth, isTupD, kvs]
structure AllI (m : Int) (ls : List Lp) (p : List Int) (qs ws : List (List Int)) : Prop where
  nod : qs.Nodup
  rch : ∀ q ∈ qs, Rch ls p q
  fst : p ∈ qs
  sub : ∀ q ∈ ws, q ∈ qs
  cls : ∀ q ∈ qs, q ∉ ws → ∀ l ∈ ls, CanDo q l → doneL q l ∈ qs
  le : ws.length ≤ qs.length
theorem AllI.all {m : Int} {ls : List Lp} {p : List Int} {qs : List (List Int)} (h : AllI m ls p qs []) (q : List Int) : q ∈ qs ↔ Rch ls p q := by
  refine ⟨h.rch q, fun r => ?_⟩
  induction r with
  | refl => exact h.fst
  | step _ h1 h2 ih => exact h.cls _ ih (by simp) _ h1 h2
open Classical in
noncomputable def rchB (ls : List Lp) (p q : List Int) : Bool := decide (Rch ls p q)
theorem rchB_iff {ls : List Lp} {p q : List Int} : rchB ls p q = true ↔ Rch ls p q := by
  show @decide (Rch ls p q) (Classical.propDecidable _) = true ↔ _
  exact @decide_eq_true_iff _ (Classical.propDecidable _)
/-! ### sorted(set(rows)) -/
theorem data_I (p : List Int) : (keyI p).data = tI p := (NS.data_of_key (tI p) (keyI p) (keyOf_I p)).symm
theorem keysOf_rows : ∀ qs : List (List Int), keysOf (qs.map tI) = some (qs.map keyI)
  | [] => rfl
  | q :: qs => by
    rw [List.map_cons, keysOf, keyOf_I, keysOf_rows qs]
    rfl
theorem num_I (p : List Int) : NS.num (keyI p) = true := by
  show NS.nums (p.map .num) = true
  induction p with
  | nil => rfl
  | cons x p ih => rw [List.map_cons, NS.nums, ih]; rfl
theorem perm_rows {α β : Type} {f : α → β} : ∀ {l : List β} {ys : List α}, l.Perm (ys.map f) → ∃ zs : List α, l = zs.map f ∧ ∀ z ∈ zs, z ∈ ys
  | [], _, _ => ⟨[], rfl, fun _ h => (nomatch h)⟩
  | x :: l, ys, h => by
    have hall : ∀ b ∈ x :: l, ∃ y ∈ ys, f y = b := fun b hb => List.mem_map.mp (h.mem_iff.mp hb)
    clear h
    generalize x :: l = m at hall
    induction m with
    | nil => exact ⟨[], rfl, fun _ h => (nomatch h)⟩
    | cons b m ih =>
      obtain ⟨y, hy, rfl⟩ := hall b List.mem_cons_self
      obtain ⟨zs, rfl, hz⟩ := ih fun c hc => hall c (List.mem_cons_of_mem _ hc)
      exact ⟨y :: zs, rfl, fun z hz' => by
        rcases List.mem_cons.mp hz' with rfl | hz'
        · exact hy
        · exact hz z hz'⟩

theorem sortSet_I0 (qs : List (List Int)) (hne : ∀ q ∈ qs, q ≠ []) (few : (NS.dd qs).length ≤ 306) :
    opSortSet (.dat (.list (qs.map tI))) = some (.dat (.list (sortD ((NS.dd qs).map tI)))) := by
  have hdd : (NS.dd (qs.map keyI)).map NestedKey.data = (NS.dd qs).map tI := by
    rw [NS.dd_map fun a b h => keyI_inj h, List.map_map]
    exact List.map_congr_left fun q _ => data_I q
  have dep : ∀ l : List (List Int), PyData.depthAll (l.map tI) ≤ 1 := by
    intro l
    induction l with
    | nil => exact Nat.zero_le _
    | cons q l ih =>
      have : PyData.depthAll (q.map .int) = 0 := W.depth_ints q
      rw [List.map_cons, PyData.depthAll, PyData.depth, this]
      exact Nat.max_le.mpr ⟨Nat.le_refl _, ih⟩
  have ok : setOk (qs.map keyI) = true := by
    unfold setOk
    rw [hdd, Bool.and_eq_true, Bool.and_eq_true]
    refine ⟨⟨?_, ?_⟩, ?_⟩
    · rw [List.all_eq_true]
      intro k hk
      obtain ⟨q, hq, rfl⟩ := List.mem_map.mp hk
      simp [num_I, keyI_depth]
      rfl
    · rw [NS.dd_map fun a b h => keyI_inj h, List.length_map]
      exact decide_eq_true few
    · unfold sortOk
      simp only [Bool.and_eq_true, Bool.or_eq_true]
      refine ⟨⟨⟨decide_eq_true (by rw [List.length_map]; unfold SZ; omega), decide_eq_true (Nat.le_trans (dep _) (by decide))⟩, ?_⟩, .inl ?_⟩
      · rw [List.all_eq_true]
        intro x hx
        rw [List.all_eq_true]
        intro y hy
        obtain ⟨a, _, rfl⟩ := List.mem_map.mp hx
        obtain ⟨b, _, rfl⟩ := List.mem_map.mp hy
        exact W.alike_ints a b
      · rw [List.all_eq_true]
        intro x hx
        obtain ⟨a, ha, rfl⟩ := List.mem_map.mp hx
        have := hne a (NS.mem_dd.mp ha)
        cases a with
        | nil => exact absurd rfl this
        | cons y a => rfl
  unfold opSortSet
  dsimp only
  rw [keysOf_rows]
  show (if setOk (qs.map keyI) = true then _ else _) = _
  rw [if_pos ok, hdd]
theorem sortSet_I (qs : List (List Int)) (hne : ∀ q ∈ qs, q ≠ []) (few : (NS.dd qs).length ≤ 306) :
    ∃ rs : List (List Int), opSortSet (.dat (.list (qs.map tI))) = some (.dat (.list (rs.map tI))) ∧ (∀ q, q ∈ rs ↔ q ∈ qs) ∧ rs.length ≤ 306 := by
  have perm : (sortD ((NS.dd qs).map tI)).Perm ((NS.dd qs).map tI) := List.mergeSort_perm _ _
  obtain ⟨rs, e, hs⟩ := perm_rows perm
  refine ⟨rs, by rw [sortSet_I0 qs hne few, e], fun q => ⟨fun h => NS.mem_dd.mp (hs q h), fun h => ?_⟩, ?_⟩
  · have : tI q ∈ rs.map tI := by rw [← e]; exact perm.mem_iff.mpr (List.mem_map.mpr ⟨q, NS.mem_dd.mpr h, rfl⟩)
    obtain ⟨r, hr, er⟩ := List.mem_map.mp this
    have : keyI r = keyI q := by
      have := congrArg DL.keyOf er
      rw [keyOf_I, keyOf_I] at this
      exact Option.some.inj this
    exact keyI_inj this ▸ hr
  · have := perm.length_eq
    rw [e, List.length_map, List.length_map] at this
    omega
theorem sortSet_L (ls : List Lp) (few : ls.length ≤ 306) : opSortSet (.dat (.list (ls.map Lp.d))) = some (.dat (.list ((sortT (NS.dd ls)).map Lp.d))) := by
  have e1 : ls.map Lp.d = (ls.map Lp.li).map tI := by rw [List.map_map]; rfl
  have e2 : NS.dd (ls.map Lp.li) = (NS.dd ls).map Lp.li := NS.dd_map (fun a b h => Lp.li_inj h) ls
  have hl : (NS.dd ls).length ≤ ls.length := NS.short (NS.nodup_dd ls) fun x h => NS.mem_dd.mp h
  rw [e1, sortSet_I0 _ (fun q hq => by
    obtain ⟨l, _, rfl⟩ := List.mem_map.mp hq
    exact fun e => nomatch e) (by rw [e2, List.length_map]; omega), e2]
  have e3 : ((NS.dd ls).map Lp.li).map tI = (NS.dd ls).map Lp.d := by rw [List.map_map]; rfl
  rw [e3, ← map_lp (NS.dd ls), sortD_t, map_lp]

/-! pairs of a length and a standing -/
abbrev tP (q : List Int) : PyData := .tuple [.int (q.length : Int), tI q]
def keyP (q : List Int) : NestedKey := .tup [.num (q.length : Int), keyI q]
theorem keyOf_P (q : List Int) : DL.keyOf (tP q) = some (keyP q) := by
  show (keysOf [.int (q.length : Int), tI q]).map NestedKey.tup = _
  rw [keysOf, keysOf, keyOf_I]
  rfl
theorem keyP_inj {p q : List Int} (h : keyP p = keyP q) : p = q := by
  injection h with h
  injection h with _ h
  injection h with h _
  exact keyI_inj h
theorem keyP_depth (p : List Int) : (keyP p).depth ≤ 8 := by
  have : ∀ p : List Int, NestedKey.depthAll (p.map .num) = 0 := by
    intro p
    induction p with
    | nil => rfl
    | cons x p ih => rw [List.map_cons, NestedKey.depthAll, ih]; rfl
  show max 0 (max (NestedKey.depthAll (p.map .num) + 1) 0) + 1 ≤ 8
  rw [this]; decide
theorem data_P (p : List Int) : (keyP p).data = tP p := (NS.data_of_key (tP p) (keyP p) (keyOf_P p)).symm
theorem keysOf_prs : ∀ qs : List (List Int), keysOf (qs.map tP) = some (qs.map keyP)
  | [] => rfl
  | q :: qs => by
    rw [List.map_cons, keysOf, keyOf_P, keysOf_prs qs]
    rfl
theorem num_P (p : List Int) : NS.num (keyP p) = true := by
  show (true && (NS.num (keyI p) && true)) = true
  rw [num_I]; rfl
theorem sortSet_P (qs : List (List Int)) (few : (NS.dd qs).length ≤ 306) :
    ∃ rs : List (List Int), opSortSet (.dat (.list (qs.map tP))) = some (.dat (.list (rs.map tP))) ∧ (∀ q, q ∈ rs ↔ q ∈ qs) ∧ rs.length ≤ 306 := by
  have hdd : (NS.dd (qs.map keyP)).map NestedKey.data = (NS.dd qs).map tP := by
    rw [NS.dd_map fun a b h => keyP_inj h, List.map_map]
    exact List.map_congr_left fun q _ => data_P q
  have dep : ∀ l : List (List Int), PyData.depthAll (l.map tP) ≤ 2 := by
    intro l
    induction l with
    | nil => exact Nat.zero_le _
    | cons q l ih =>
      have : PyData.depthAll (q.map .int) = 0 := W.depth_ints q
      have h2 : (tP q).depth = 2 := by
        show max 0 (max (PyData.depthAll (q.map .int) + 1) 0) + 1 = 2
        rw [this]; rfl
      rw [List.map_cons, PyData.depthAll, h2]
      exact Nat.max_le.mpr ⟨Nat.le_refl _, ih⟩
  have ok : setOk (qs.map keyP) = true := by
    unfold setOk
    rw [hdd, Bool.and_eq_true, Bool.and_eq_true]
    refine ⟨⟨?_, ?_⟩, ?_⟩
    · rw [List.all_eq_true]
      intro k hk
      obtain ⟨q, hq, rfl⟩ := List.mem_map.mp hk
      simp [num_P, keyP_depth]
      rfl
    · rw [NS.dd_map fun a b h => keyP_inj h, List.length_map]
      exact decide_eq_true few
    · unfold sortOk
      simp only [Bool.and_eq_true, Bool.or_eq_true]
      refine ⟨⟨⟨decide_eq_true (by rw [List.length_map]; unfold SZ; omega), decide_eq_true (Nat.le_trans (dep _) (by decide))⟩, ?_⟩, .inl ?_⟩
      · rw [List.all_eq_true]
        intro x hx
        rw [List.all_eq_true]
        intro y hy
        obtain ⟨a, _, rfl⟩ := List.mem_map.mp hx
        obtain ⟨b, _, rfl⟩ := List.mem_map.mp hy
        show (true && (W.alikeAll (a.map .int) (b.map .int) && true)) = true
        rw [W.alike_ints]; rfl
      · rw [List.all_eq_true]
        intro x hx
        obtain ⟨a, ha, rfl⟩ := List.mem_map.mp hx
        rfl
  have perm : (sortD ((NS.dd qs).map tP)).Perm ((NS.dd qs).map tP) := List.mergeSort_perm _ _
  obtain ⟨rs, e, hs⟩ := perm_rows perm
  refine ⟨rs, ?_, fun q => ⟨fun h => NS.mem_dd.mp (hs q h), fun h => ?_⟩, ?_⟩
  · unfold opSortSet
    dsimp only
    rw [keysOf_prs]
    show (if setOk (qs.map keyP) = true then _ else _) = _
    rw [if_pos ok, hdd, e]
  · have : tP q ∈ rs.map tP := by rw [← e]; exact perm.mem_iff.mpr (List.mem_map.mpr ⟨q, NS.mem_dd.mpr h, rfl⟩)
    obtain ⟨r, hr, er⟩ := List.mem_map.mp this
    have : keyP r = keyP q := by
      have := congrArg DL.keyOf er
      rw [keyOf_P, keyOf_P] at this
      exact Option.some.inj this
    exact keyP_inj this ▸ hr
  · have := perm.length_eq
    rw [e, List.length_map, List.length_map] at this
    omega

/-! ### rows in order -/
theorem opAdd_ll (xs ys : List PyData) (h : xs.length + ys.length ≤ 1000000) : opAdd (.dat (.list xs)) (.dat (.list ys)) = some (.dat (.list (xs ++ ys))) := by
  show (if _ then _ else _) = _
  rw [if_pos (by unfold SZ; omega)]
theorem opAdd_tt (xs ys : List PyData) (h : xs.length + ys.length ≤ 1000000) : opAdd (.dat (.tuple xs)) (.dat (.tuple ys)) = some (.dat (.tuple (xs ++ ys))) := by
  show (if _ then _ else _) = _
  rw [if_pos (by unfold SZ; omega)]
/-! ### what can be come to, in layers -/
inductive RchN (ls : List Lp) (p : List Int) : Nat → List Int → Prop
  | refl : RchN ls p 0 p
  | step {k : Nat} {q : List Int} {l : Lp} : RchN ls p k q → l ∈ ls → CanDo q l → RchN ls p (k + 1) (doneL q l)
theorem rch_n {ls : List Lp} {p q : List Int} : Rch ls p q ↔ ∃ k, RchN ls p k q := by
  constructor
  · intro h
    induction h with
    | refl => exact ⟨0, .refl⟩
    | step _ a b ih => obtain ⟨k, h⟩ := ih; exact ⟨k + 1, .step h a b⟩
  · rintro ⟨k, h⟩
    induction h with
    | refl => exact .refl
    | step _ a b ih => exact .step ih a b
theorem rchN_ok {m : Int} {ls : List Lp} {p q : List Int} {k : Nat} (hp : PegsOk m p) (hl : ∀ l ∈ ls, LpOk m l) (h : RchN ls p k q) : PegsOk m q := by
  induction h with
  | refl => exact hp
  | step _ h1 h2 ih => exact done_ok ih (hl _ h1) h2.2.2
theorem done_len {m : Int} {p : List Int} {l : Lp} (hp : PegsOk m p) (hl : LpOk m l) (hc : CanDo p l) : (doneL p l).length + 1 = p.length := by
  unfold doneL
  rw [sortI_len, List.length_append, List.length_singleton]
  have hn := up_nodup hp.up
  obtain ⟨h1, h2, _⟩ := hc
  have e1 : (p.erase l.s).length + 1 = p.length := by
    rw [List.length_erase_of_mem h1]
    have := List.length_pos_of_mem h1
    omega
  have h3 : l.m ∈ p.erase l.s := (List.Nodup.mem_erase_iff hn).mpr ⟨Ne.symm hl.sm, h2⟩
  have e2 : ((p.erase l.s).erase l.m).length + 1 = (p.erase l.s).length := by
    rw [List.length_erase_of_mem h3]
    have := List.length_pos_of_mem h3
    omega
  have e3 : p.filter (fun x => decide (x ∉ [l.s, l.m])) = (p.erase l.s).erase l.m := by
    rw [hn.erase_eq_filter, (hn.sublist List.filter_sublist).erase_eq_filter, List.filter_filter]
    refine List.filter_congr fun x _ => ?_
    simp only [List.mem_cons, List.not_mem_nil, or_false, not_or]
    by_cases a : x = l.s <;> by_cases b : x = l.m <;> simp [a, b]
  rw [e3]
  omega
theorem rchN_len {m : Int} {ls : List Lp} {p q : List Int} {k : Nat} (hp : PegsOk m p) (hl : ∀ l ∈ ls, LpOk m l) (h : RchN ls p k q) : q.length + k = p.length := by
  induction h with
  | refl => rfl
  | step h0 h1 h2 ih =>
    have := done_len (rchN_ok hp hl h0) (hl _ h1) h2
    omega
theorem behL_of {m : Int} {p : List Int} {l : Lp} (hl : LpOk m l) (h : CanDo p l) : behL p l = some (doneL p l) := by
  have hne : ¬ (l.s ∉ p ∨ l.m ∉ p ∨ l.e ∈ p) := by
    obtain ⟨a, b, c⟩ := h
    rintro (x | x | x)
    · exact x a
    · exact x b
    · exact c x
  cases e : behL p l with
  | none => unfold behL at e; rw [if_neg hne] at e; cases e
  | some q => rw [behL_done hl e]
def nxt (ls : List Lp) (h : List Int) : List (List Int) := ls.filterMap (behL h)
theorem mem_nxt {m : Int} {ls : List Lp} {h q : List Int} (hl : ∀ l ∈ ls, LpOk m l) : q ∈ nxt ls h ↔ ∃ l ∈ ls, CanDo h l ∧ q = doneL h l := by
  unfold nxt
  rw [List.mem_filterMap]
  constructor
  · rintro ⟨l, a, b⟩
    exact ⟨l, a, behL_some b, behL_done (hl l a) b⟩
  · rintro ⟨l, a, b, rfl⟩
    exact ⟨l, a, behL_of (hl l a) b⟩
theorem notN_oP (x : Option (List Int)) : opNotN (oP x) = some (dB x.isSome) := by cases x <;> rfl
def oPd : Option (List Int) → PyData
  | none => .none
  | some q => tI q
theorem nxt_rows (ls : List Lp) (h : List Int) : (ls.filter fun l => (behL h l).isSome).map (fun l => oPd (behL h l)) = (nxt ls h).map tI := by
  unfold nxt
  induction ls with
  | nil => rfl
  | cons l ls ih =>
    rw [List.filter_cons, List.filterMap_cons]
    cases e : behL h l with
    | none => simpa using ih
    | some q =>
      simp only [Option.isSome_some, if_true, List.map_cons, ih, e]
      rfl
/-! ### the law's way through what can be come to -/
structure FromI (ls : List Lp) (p : List Int) (i : Nat) (fs ly : List (List Int)) : Prop where
  lyr : ∀ q, q ∈ ly ↔ RchN ls p i q
  fsr : ∀ q, q ∈ fs ↔ ∃ j, j ≤ i ∧ RchN ls p j q
  l1 : ly.length ≤ 306
  l2 : fs.length ≤ 1 + 306 * i
theorem in_rows (qs : List (List Int)) (p : List Int) : opIn (.dat (tI p)) (.dat (.tuple (qs.map tI))) = some (dB (decide (p ∈ qs))) := by
  have := opIn_tt (α := W.Tup Int) (by decide) (qs.map W.Tup.mk) ⟨p⟩
  rw [List.map_map] at this
  have e : (decide (W.Tup.mk p ∈ qs.map W.Tup.mk)) = decide (p ∈ qs) := decide_eq_decide.mpr ⟨fun h => by
    obtain ⟨q, hq, e⟩ := List.mem_map.mp h
    cases e
    exact hq, fun h => List.mem_map.mpr ⟨p, h, rfl⟩⟩
  rw [e] at this
  exact this
/-! ### all standings of so many places -/
def bitsL (m b : Nat) : List Int := ((List.range m).filter fun (k : Nat) => decide (Builtin.bitAnd ((b : Int) / 2 ^ ((k : Int)).toNat) 1 = 1)).map fun (k : Nat) => (k : Int)
theorem bits_ok (m b : Nat) : PegsOk m (bitsL m b) where
  lo := fun x hx => by
    obtain ⟨k, hk, rfl⟩ := List.mem_map.mp hx
    have := List.mem_range.mp (List.mem_filter.mp hk).1
    omega
  up := by
    unfold bitsL
    rw [List.pairwise_map]
    exact (List.Pairwise.sublist List.filter_sublist List.pairwise_lt_range).imp fun {a b} h => by omega

/-! ### rows in order: the one list -/
theorem le_len (a b : List Int) : W.dataLe false keyLen a b = !W.dataLt (tP b) (tP a) := rfl
theorem sortLen_P (qs : List (List Int)) : (sortLen qs).map tP = sortD (qs.map tP) := by
  unfold sortLen sortD
  rw [List.map_mergeSort]
  intro a _ b _
  exact le_len a b
theorem sortLen_perm (qs : List (List Int)) : (sortLen qs).Perm qs := List.mergeSort_perm _ _
theorem sortLen_mem {q : List Int} {qs : List (List Int)} : q ∈ sortLen qs ↔ q ∈ qs := (sortLen_perm qs).mem_iff
theorem sortLen_length (qs : List (List Int)) : (sortLen qs).length = qs.length := (sortLen_perm qs).length_eq
abbrev leP (a b : List Int) : Prop := W.dataLt (tP b) (tP a) = false
theorem sortLen_up (qs : List (List Int)) : (sortLen qs).Pairwise leP := by
  have := NS.sortD_up (qs.map tP)
  rw [← sortLen_P] at this
  exact (List.pairwise_map (f := tP)).mp this
theorem alike_P (a b : List Int) : W.alike (tP a) (tP b) = true := by
  show (true && (W.alikeAll (a.map .int) (b.map .int) && true)) = true
  rw [W.alike_ints]; rfl
theorem leP_anti {a b : List Int} (h1 : leP a b) (h2 : leP b a) : a = b := by
  refine keyP_inj (NS.key_of_data (a := keyP a) (b := keyP b) ?_ ?_ ?_)
  · rw [data_P, data_P]; exact alike_P a b
  · rw [data_P, data_P]; exact h2
  · rw [data_P, data_P]; exact h1
/-- a list in order is the sorted one -/
theorem sortLen_of {as bs : List (List Int)} (hp : as.Perm bs) (hu : as.Pairwise leP) : as = sortLen bs :=
  List.Perm.eq_of_pairwise (le := leP) (fun a b _ _ h h' => leP_anti h h') hu (sortLen_up bs) (hp.trans (sortLen_perm bs).symm)
theorem sortLen_ext {as bs : List (List Int)} (h1 : as.Nodup) (h2 : bs.Nodup) (h : ∀ x, x ∈ as ↔ x ∈ bs) : sortLen as = sortLen bs :=
  sortLen_of ((sortLen_perm as).trans ((List.perm_ext_iff_of_nodup h1 h2).mpr h)) (sortLen_up as)
theorem sortLen_filter (qs : List (List Int)) (p : List Int → Bool) : (sortLen qs).filter p = sortLen (qs.filter p) :=
  sortLen_of ((sortLen_perm qs).filter p) ((sortLen_up qs).sublist List.filter_sublist)
theorem sortSet_Q (qs : List (List Int)) (few : (NS.dd qs).length ≤ 306) : opSortSet (.dat (.list (qs.map tP))) = some (.dat (.list ((sortLen (NS.dd qs)).map tP))) := by
  obtain ⟨rs, e, hs, hl⟩ := sortSet_P qs few
  rw [e]
  have hdd : sortD ((NS.dd qs).map tP) = rs.map tP := by
    unfold opSortSet at e
    dsimp only at e
    rw [keysOf_prs] at e
    have hd : (NS.dd (qs.map keyP)).map NestedKey.data = (NS.dd qs).map tP := by
      rw [NS.dd_map fun a b h => keyP_inj h, List.map_map]
      exact List.map_congr_left fun q _ => data_P q
    have e' : (if setOk (qs.map keyP) = true then some (D.dat (.list (sortD ((NS.dd (qs.map keyP)).map NestedKey.data)))) else none) = some (D.dat (.list (rs.map tP))) := e
    by_cases h : setOk (qs.map keyP) = true
    · rw [if_pos h, hd] at e'
      injection e' with e'
      injection e' with e'
      injection e' with e'
    · rw [if_neg h] at e'; cases e'
  rw [sortLen_P, hdd]
theorem map_tP_inj {as bs : List (List Int)} (h : as.map tP = bs.map tP) : as = bs := by
  induction as generalizing bs with
  | nil => cases bs with
    | nil => rfl
    | cons => cases h
  | cons a as ih => cases bs with
    | nil => cases h
    | cons b bs =>
      rw [List.map_cons, List.map_cons] at h
      injection h with h1 h2
      have : keyP a = keyP b := by
        have := congrArg DL.keyOf h1
        rw [keyOf_P, keyOf_P] at this
        exact Option.some.inj this
      rw [keyP_inj this, ih h2]
/-- in_order of a list -/
theorem rowsD_eq : ∀ qs : List (List Int), rowsD (qs.map tI) = some qs
  | [] => rfl
  | q :: qs => by
    have : intsD (q.map .int) = some q := by
      induction q with
      | nil => rfl
      | cons x q ih => rw [List.map_cons, intsD, ih]; rfl
    rw [List.map_cons, rowsD, this, rowsD_eq qs]
/-! ### all standings, each once -/
theorem allS_nodup : ∀ n, (allS n).Nodup
  | 0 => by simp [allS]
  | n + 1 => by
    rw [allS, List.nodup_append]
    have hin : ∀ q ∈ allS n, ∀ x ∈ q, x < (n : Int) := by
      have : ∀ n, ∀ q ∈ allS n, ∀ x ∈ q, x < (n : Int) := by
        intro n
        induction n with
        | zero => intro q hq x hx; simp [allS] at hq; subst hq; cases hx
        | succ n ih =>
          intro q hq x hx
          rw [allS, List.mem_append] at hq
          rcases hq with h | h
          · have := ih q h x hx; omega
          · obtain ⟨r, hr, rfl⟩ := List.mem_map.mp h
            rcases List.mem_append.mp hx with hx | hx
            · have := ih r hr x hx; omega
            · rw [List.mem_singleton.mp hx]; omega
      exact this n
    refine ⟨allS_nodup n, List.pairwise_map.mpr ((allS_nodup n).imp fun {a b} h e => h (List.append_cancel_right e)), fun a ha b hb e => ?_⟩
    obtain ⟨r, _, rfl⟩ := List.mem_map.mp hb
    have := hin a ha (n : Int) (by rw [e]; simp)
    omega
theorem allS_ok : ∀ (n : Nat) (p : List Int), p ∈ allS n → PegsOk (n : Int) p
  | 0, p, h => by
    simp [allS] at h
    subst h
    exact ⟨fun x hx => (nomatch hx), List.Pairwise.nil⟩
  | n + 1, p, h => by
    rw [allS, List.mem_append] at h
    rcases h with h | h
    · have := allS_ok n p h
      exact ⟨fun x hx => by have := this.lo x hx; omega, this.up⟩
    · obtain ⟨r, hr, rfl⟩ := List.mem_map.mp h
      have := allS_ok n r hr
      refine ⟨fun x hx => ?_, List.pairwise_append.mpr ⟨this.up, List.pairwise_singleton _ _, fun x hx y hy => ?_⟩⟩
      · rcases List.mem_append.mp hx with hx | hx
        · have := this.lo x hx; omega
        · rw [List.mem_singleton.mp hx]; omega
      · rw [List.mem_singleton.mp hy]
        exact (this.lo x hx).2
theorem allS_iff {n : Nat} {p : List Int} : p ∈ allS n ↔ PegsOk (n : Int) p := ⟨allS_ok n p, allS_mem n p⟩
/-- what can be come to, in order -/
noncomputable def reachS (n : Nat) (ls : List Lp) (p : List Int) : List (List Int) := sortLen ((allS n).filter (rchB ls p))
theorem reachS_mem {n : Nat} {ls : List Lp} {p q : List Int} (hp : PegsOk n p) (hl : ∀ l ∈ ls, LpOk n l) : q ∈ reachS n ls p ↔ Rch ls p q := by
  unfold reachS
  rw [sortLen_mem, List.mem_filter, rchB_iff, allS_iff]
  refine ⟨fun h => h.2, fun h => ⟨?_, h⟩⟩
  obtain ⟨k, hk⟩ := rch_n.mp h
  exact rchN_ok hp hl hk
theorem reachS_len (n : Nat) (ls : List Lp) (p : List Int) : (reachS n ls p).length ≤ 2 ^ n := by
  unfold reachS
  rw [sortLen_length]
  refine Nat.le_trans (List.length_filter_le _ _) ?_
  rw [allS_len]
  exact Nat.le_refl _
theorem reachS_of {n : Nat} {ls : List Lp} {p : List Int} (hp : PegsOk n p) (hl : ∀ l ∈ ls, LpOk n l) {qs : List (List Int)} (hn : qs.Nodup) (h : ∀ q, q ∈ qs ↔ Rch ls p q) : sortLen qs = reachS n ls p :=
  sortLen_ext hn ((allS_nodup n).sublist List.filter_sublist) fun q => by
    rw [h q, ← reachS_mem hp hl]
    unfold reachS
    rw [sortLen_mem]

theorem while_pure {ft : En → M Bool} {fb : En → M Fl} {Q : En → Prop} (I : Nat → En → Prop) (step : ∀ n ρ, I n ρ → (ft ρ = pure true ∧ ∃ ρ2 k, fb ρ = pure (.nx ρ2) ∧ k < n ∧ I k ρ2) ∨ (ft ρ = pure false ∧ Q ρ)) :
    ∀ (n : Nat) (ρ : En), I n ρ → ∃ ρ', sWhile ft fb ρ = pure (.nx ρ') ∧ Q ρ' := by
  have key : ∀ (n : Nat) (ρ : En), I n ρ → ∃ j ρ', (∀ R, whN ft fb j ρ R = some (.val (.nx ρ'), R)) ∧ Q ρ' := by
    intro n
    induction n using Nat.strongRecOn with
    | ind n ih =>
      intro ρ h
      rcases step n ρ h with ⟨e1, ρ2, k, e2, hk, h2⟩ | ⟨e1, q⟩
      · obtain ⟨j, ρ', e3, q⟩ := ih k hk ρ2 h2
        refine ⟨j + 1, ρ', fun R => ?_, q⟩
        rw [whN_at, e1, pure_bind, if_pos rfl, e2, pure_bind]
        exact e3 R
      · refine ⟨1, ρ, fun R => ?_, q⟩
        rw [whN_at, e1, pure_bind]
        rfl
  intro n ρ h
  obtain ⟨j, ρ', e, q⟩ := key n ρ h
  exact ⟨ρ', funext fun R => sWhile_at (e R), q⟩
/-! ### a walk by steps: all that can be come to -/
inductive Gr (Can : List Int → Lp → Prop) (dn : List Int → Lp → List Int) (ls : List Lp) (p : List Int) : List Int → Prop
  | refl : Gr Can dn ls p p
  | step {q : List Int} {l : Lp} : Gr Can dn ls p q → l ∈ ls → Can q l → Gr Can dn ls p (dn q l)
structure StepOk (m : Int) (Can : List Int → Lp → Prop) [∀ q l, Decidable (Can q l)] (dn : List Int → Lp → List Int) (fc fd : List D → M D) : Prop where
  can : ∀ (h : List Int) (l : Lp), fc [.dat (tI h), .dat l.d] = pure (dB (decide (Can h l)))
  done : ∀ (h : List Int) (l : Lp), h.length ≤ 1000 → fd [.dat (tI h), .dat l.d] = pure (.dat (tI (dn h l)))
  ok : ∀ (h : List Int) (l : Lp), PegsOk m h → LpOk m l → Can h l → PegsOk m (dn h l)
section
variable {m : Int} {Can : List Int → Lp → Prop} [∀ q l, Decidable (Can q l)] {dn : List Int → Lp → List Int} {fc fd : List D → M D}
theorem gr_ok {ls : List Lp} {p q : List Int} (S : StepOk m Can dn fc fd) (hp : PegsOk m p) (hl : ∀ l ∈ ls, LpOk m l) (h : Gr Can dn ls p q) : PegsOk m q := by
  induction h with
  | refl => exact hp
  | step _ h1 h2 ih => exact S.ok _ _ ih (hl _ h1) h2
abbrev bodyG (fc fd : List D → M D) : En → M Fl := sIf (bE (eF fc (aCons (eV 4) (aCons (eV 5) (aNil))))) (sSeq (sSet 6 (eF fd (aCons (eV 4) (aCons (eV 5) (aNil))))) (sIf (bE (eOwnR opNotIn (eV 6) 2)) (sSeq (sDPut 2 (eV 6) (eC (.dat (.bool true)))) (sApp 3 (eV 6))) (sNil))) (sNil)
/-- one leap from h -/
theorem leap_stepG (S : StepOk m Can dn fc fd) (b : D) (p : List Int) (qs ws : List (List Int)) (h : List Int) (l : Lp) (z : SV) (hh : h.length ≤ 1000) (h1 : qs.length < SZ) (h2 : ws.length < SZ) :
    ∃ z', (bodyG fc fd) (envA b p qs ws (.val (.dat (tI h))) (.val (.dat l.d)) z) = pure (.nx (if Can h l ∧ dn h l ∉ qs then envA b p (qs ++ [dn h l]) (ws ++ [dn h l]) (.val (.dat (tI h))) (.val (.dat l.d)) z' else envA b p qs ws (.val (.dat (tI h))) (.val (.dat l.d)) z')) := by
  by_cases hc : Can h l
  · by_cases hq : dn h l ∈ qs
    · refine ⟨.val (.dat (tI (dn h l))), ?_⟩
      rw [if_neg (fun e => e.2 hq)]
      simp [S.can, S.done h l hh, hc, notIn_kvs, hq, owD]
    · refine ⟨.val (.dat (tI (dn h l))), ?_⟩
      rw [if_pos ⟨hc, hq⟩]
      have hlen : (kvs qs).length < SZ := by unfold kvs; rw [List.length_map]; exact h1
      simp [S.can, S.done h l hh, hc, notIn_kvs, hq, owD, keyOf_I, keyI_depth, isTupD, hlen, kvs_put hq, h2]
      simp [envA]
  · refine ⟨z, ?_⟩
    rw [if_neg (fun e => hc e.1)]
    simp [S.can, hc, dB]
theorem leaps_loopG (S : StepOk m Can dn fc fd) (b : D) (p : List Int) (h : List Int) (hh : h.length ≤ 1000) : ∀ (ls : List Lp) (qs ws : List (List Int)) (x z : SV), qs.length + ls.length < SZ → ws.length + ls.length < SZ → qs.Nodup →
    ∃ new x' z', forL (gN 5) (bodyG fc fd) (ls.map fun l => .dat l.d) (envA b p qs ws (.val (.dat (tI h))) x z) = pure (.nx (envA b p (qs ++ new) (ws ++ new) (.val (.dat (tI h))) x' z')) ∧
      (qs ++ new).Nodup ∧ (∀ q ∈ new, ∃ l ∈ ls, Can h l ∧ q = dn h l) ∧ (∀ l ∈ ls, Can h l → dn h l ∈ qs ++ new)
  | [], qs, ws, x, z, _, _, hn => ⟨[], x, z, by rw [List.append_nil, List.append_nil]; rfl, by rw [List.append_nil]; exact hn, fun _ e => (nomatch e), fun _ e => (nomatch e)⟩
  | l :: ls, qs, ws, x, z, h1, h2, hn => by
    rw [List.length_cons] at h1 h2
    obtain ⟨z1, e1⟩ := leap_stepG S b p qs ws h l z hh (by omega) (by omega)
    have e0 : gN 5 (.dat l.d) (envA b p qs ws (.val (.dat (tI h))) x z) = some (envA b p qs ws (.val (.dat (tI h))) (.val (.dat l.d)) z) := rfl
    by_cases hc : Can h l ∧ dn h l ∉ qs
    · rw [if_pos hc] at e1
      obtain ⟨new, x', z', e2, n2, s2, c2⟩ := leaps_loopG S b p h hh ls (qs ++ [dn h l]) (ws ++ [dn h l]) (.val (.dat l.d)) z1 (by simp; omega) (by simp; omega) (List.nodup_append.mpr ⟨hn, List.nodup_cons.mpr ⟨by simp, List.nodup_nil⟩, fun a ha b hb e => hc.2 (by rw [← List.mem_singleton.mp hb, ← e]; exact ha)⟩)
      refine ⟨dn h l :: new, x', z', ?_, by simpa using n2, fun q hq => ?_, fun l' hl' hcan => ?_⟩
      · rw [List.map_cons, forL_cons, e0]
        simp only [lft_some, pure_bind, e1]
        rw [e2]
        simp
      · rcases List.mem_cons.mp hq with rfl | hq
        · exact ⟨l, List.mem_cons_self, hc.1, rfl⟩
        · obtain ⟨l', a1, a2⟩ := s2 q hq
          exact ⟨l', List.mem_cons_of_mem _ a1, a2⟩
      · rcases List.mem_cons.mp hl' with rfl | hl'
        · simp
        · simpa using c2 l' hl' hcan
    · rw [if_neg hc] at e1
      obtain ⟨new, x', z', e2, n2, s2, c2⟩ := leaps_loopG S b p h hh ls qs ws (.val (.dat l.d)) z1 (by omega) (by omega) hn
      refine ⟨new, x', z', ?_, n2, fun q hq => ?_, fun l' hl' hcan => ?_⟩
      · rw [List.map_cons, forL_cons, e0]
        simp only [lft_some, pure_bind, e1]
        rw [e2]
      · obtain ⟨l', a1, a2⟩ := s2 q hq
        exact ⟨l', List.mem_cons_of_mem _ a1, a2⟩
      · rcases List.mem_cons.mp hl' with rfl | hl'
        · exact List.mem_append_left _ (Decidable.byContradiction fun e => hc ⟨hcan, e⟩)
        · exact c2 l' hl' hcan
abbrev bodyAllG (fc fd : List D → M D) : En → M Fl := sSeq (sPop 3 4) (sFor (iSeq (e1 opLeaps (eV 0))) (gN 5) (bodyG fc fd))
structure AllIG (Can : List Int → Lp → Prop) (dn : List Int → Lp → List Int) (ls : List Lp) (p : List Int) (qs ws : List (List Int)) : Prop where
  nod : qs.Nodup
  rch : ∀ q ∈ qs, Gr Can dn ls p q
  fst : p ∈ qs
  sub : ∀ q ∈ ws, q ∈ qs
  cls : ∀ q ∈ qs, q ∉ ws → ∀ l ∈ ls, Can q l → dn q l ∈ qs
  le : ws.length ≤ qs.length
theorem AllIG.all {ls : List Lp} {p : List Int} {qs : List (List Int)} (h : AllIG Can dn ls p qs []) (q : List Int) : q ∈ qs ↔ Gr Can dn ls p q := by
  refine ⟨h.rch q, fun r => ?_⟩
  induction r with
  | refl => exact h.fst
  | step _ h1 h2 ih => exact h.cls _ ih (by simp) _ h1 h2
theorem walk_pure (n : Nat) (S : StepOk n Can dn fc fd) (hn : n ≤ 12) (ls : List Lp) (p : List Int) (hl : LpsOk n ls) (hp : PegsOk n p) :
    ∃ qs x y z, sWhile (bE (eOwnL opNe 3 (eN gLstD (aNil)))) (bodyAllG fc fd) (envA (.brd n (tL ls)) p [p] [p] .no .no .no) = pure (.nx (envA (.brd n (tL ls)) p qs [] x y z)) ∧ qs.Nodup ∧ ∀ q, q ∈ qs ↔ Gr Can dn ls p q := by
  have big : 2 ^ n ≤ 4096 := by
    calc 2 ^ n ≤ 2 ^ 12 := Nat.pow_le_pow_right (by decide) hn
      _ = 4096 := by decide
  have key := while_pure (ft := bE (eOwnL opNe 3 (eN gLstD (aNil)))) (fb := bodyAllG fc fd) (Q := fun ρ => ∃ qs x y z, ρ = envA (.brd n (tL ls)) p qs [] x y z ∧ AllIG Can dn ls p qs [])
    (fun k ρ => ∃ qs ws x y z, ρ = envA (.brd n (tL ls)) p qs ws x y z ∧ k = 2 * (2 ^ n - qs.length) + ws.length ∧ AllIG Can dn ls p qs ws) (fun k ρ ⟨qs, ws, x, y, z, e, e3, inv⟩ => by
      subst e e3
      have hq : qs.length ≤ 2 ^ n := few_standings inv.nod fun q hq => gr_ok S hp hl.ok (inv.rch q hq)
      have ht : bE (eOwnL opNe 3 (eN gLstD (aNil))) (envA (.brd n (tL ls)) p qs ws x y z) = pure (decide (ws ≠ [])) := by
        simp [ne_nil, owD]
      by_cases hw : ws = []
      · subst hw
        exact .inr ⟨ht, qs, x, y, z, rfl, inv⟩
      · obtain ⟨h, w0, rfl⟩ : ∃ h w0, ws = w0 ++ [h] := ⟨ws.getLast hw, ws.dropLast, (List.dropLast_concat_getLast hw).symm⟩
        rw [decide_eq_true hw] at ht
        have hh : h ∈ qs := inv.sub h (by simp)
        have hlen := pegs_len (gr_ok S hp hl.ok (inv.rch h hh)) (by omega)
        have hwl := inv.le
        rw [List.length_append, List.length_singleton] at hwl
        obtain ⟨new, x', z', e1, n1, s1, c1⟩ := leaps_loopG S (.brd n (tL ls)) p h (by omega) ls qs w0 y z (by have := hl.len; unfold SZ; omega) (by have := hl.len; unfold SZ; omega) inv.nod
        have hb : bodyAllG fc fd (envA (.brd n (tL ls)) p qs (w0 ++ [h]) x y z) = pure (.nx (envA (.brd n (tL ls)) p (qs ++ new) (w0 ++ new) (.val (.dat (tI h))) x' z')) := by
          have e0 : sPop 3 4 (envA (.brd n (tL ls)) p qs (w0 ++ [h]) x y z) = pure (.nx (envA (.brd n (tL ls)) p qs w0 (.val (.dat (tI h))) y z)) := by
            simp [envA]
          have e2 : iSeq (DL.e1 opLeaps (eV 0)) (envA (.brd n (tL ls)) p qs w0 (.val (.dat (tI h))) y z) = pure (ls.map fun l => .dat l.d) := by
            simp
            rfl
          simp only [bodyAllG, sSeq_def, e0, pure_bind, sFor_def, e2, e1]
        refine .inl ⟨ht, _, _, hb, ?_, qs ++ new, w0 ++ new, _, x', z', rfl, rfl, ?_⟩
        · have hq2 : (qs ++ new).length ≤ 2 ^ n := few_standings n1 fun q hq => by
            rcases List.mem_append.mp hq with hq | hq
            · exact gr_ok S hp hl.ok (inv.rch q hq)
            · obtain ⟨l, a1, a2, rfl⟩ := s1 q hq
              exact gr_ok S hp hl.ok (.step (inv.rch h hh) a1 a2)
          simp only [List.length_append, List.length_singleton] at hq2 ⊢
          omega
        · refine ⟨n1, fun q hq => ?_, List.mem_append_left _ inv.fst, fun q hq => ?_, fun q hq hnw l hl' hcan => ?_, by simp only [List.length_append]; omega⟩
          · rcases List.mem_append.mp hq with hq | hq
            · exact inv.rch q hq
            · obtain ⟨l, a1, a2, rfl⟩ := s1 q hq
              exact .step (inv.rch h hh) a1 a2
          · rcases List.mem_append.mp hq with hq | hq
            · exact List.mem_append_left _ (inv.sub q (by simp [hq]))
            · exact List.mem_append_right _ hq
          · by_cases e : q = h
            · subst e; exact c1 l hl' hcan
            · rcases List.mem_append.mp hq with hq | hq
              · exact List.mem_append_left _ (inv.cls q hq (fun z => by
                  rcases List.mem_append.mp z with z | z
                  · exact hnw (List.mem_append_left _ z)
                  · exact e (List.mem_singleton.mp z)) l hl' hcan)
              · exact absurd (List.mem_append_right _ hq) hnw)
  obtain ⟨ρ', e, qs, x, y, z, e2, inv⟩ := key _ (envA (.brd n (tL ls)) p [p] [p] .no .no .no) ⟨[p], [p], .no, .no, .no, rfl, rfl, by simp, fun q hq => by rw [List.mem_singleton.mp hq]; exact .refl, by simp, fun q hq => hq, fun q hq hn => absurd hq hn, Nat.le_refl _⟩
  subst e2
  exact ⟨qs, x, y, z, e, inv.nod, inv.all⟩
end

/-! ### all_from, backed -/
theorem gr_rch {ls : List Lp} {p q : List Int} : Gr CanDo doneL ls p q ↔ Rch ls p q := by
  constructor
  · intro h
    induction h with
    | refl => exact .refl
    | step _ a b ih => exact .step ih a b
  · intro h
    induction h with
    | refl => exact .refl
    | step _ a b ih => exact .step ih a b
def CanUndo (q : List Int) (l : Lp) : Prop := l.e ∈ q ∧ l.s ∉ q ∧ l.m ∉ q
instance (q : List Int) (l : Lp) : Decidable (CanUndo q l) := inferInstanceAs (Decidable (_ ∧ _))
def undoneL (p : List Int) (l : Lp) : List Int := sortT (p.filter (fun x => decide (x ≠ l.e)) ++ [l.s, l.m])
theorem mem_undone {p : List Int} {l : Lp} {x : Int} : x ∈ undoneL p l ↔ (x ∈ p ∧ x ≠ l.e) ∨ x = l.s ∨ x = l.m := by
  unfold undoneL
  rw [sortI_mem]
  simp
theorem undone_ok {m : Int} {p : List Int} {l : Lp} (hp : PegsOk m p) (hl : LpOk m l) (hc : CanUndo p l) : PegsOk m (undoneL p l) := by
  refine ⟨fun x hx => ?_, sortI_lt ?_⟩
  · rcases mem_undone.mp hx with ⟨h, _⟩ | h | h
    · exact hp.lo x h
    · rw [h]; exact hl.s0
    · rw [h]; exact hl.m0
  · rw [List.nodup_append]
    refine ⟨(up_nodup hp.up).sublist List.filter_sublist, by simp [hl.sm], fun a ha b hb e => ?_⟩
    have ha' := (List.mem_filter.mp ha).1
    subst e
    simp at hb
    rcases hb with h | h
    · exact hc.2.1 (h ▸ ha')
    · exact hc.2.2 (h ▸ ha')
theorem undo_do {m : Int} {q : List Int} {l : Lp} (hq : PegsOk m q) (hl : LpOk m l) (h : CanUndo q l) : CanDo (undoneL q l) l ∧ doneL (undoneL q l) l = q := by
  have ok := undone_ok hq hl h
  have hs := hl.se
  have hm := hl.me
  have c : CanDo (undoneL q l) l := ⟨mem_undone.mpr (.inr (.inl rfl)), mem_undone.mpr (.inr (.inr rfl)), fun z => by
    rcases mem_undone.mp z with ⟨_, z⟩ | z | z
    · exact z rfl
    · exact hs z.symm
    · exact hm z.symm⟩
  refine ⟨c, up_unique (done_ok ok hl c.2.2).up hq.up fun x => ?_⟩
  rw [mem_done, mem_undone]
  constructor
  · rintro (⟨(⟨h1, _⟩ | h1 | h1), h2, h3⟩ | h1)
    · exact h1
    · exact absurd h1 h2
    · exact absurd h1 h3
    · rw [h1]; exact h.1
  · intro hx
    by_cases e : x = l.e
    · exact .inr e
    · exact .inl ⟨.inl ⟨hx, e⟩, fun z => h.2.1 (z ▸ hx), fun z => h.2.2 (z ▸ hx)⟩
theorem do_undo {m : Int} {q : List Int} {l : Lp} (hq : PegsOk m q) (hl : LpOk m l) (h : CanDo q l) : CanUndo (doneL q l) l ∧ undoneL (doneL q l) l = q := by
  have ok := done_ok hq hl h.2.2
  have c : CanUndo (doneL q l) l := ⟨mem_done.mpr (.inr rfl), fun z => by
    rcases mem_done.mp z with ⟨_, z, _⟩ | z
    · exact z rfl
    · exact hl.se z, fun z => by
    rcases mem_done.mp z with ⟨_, _, z⟩ | z
    · exact z rfl
    · exact hl.me z⟩
  refine ⟨c, up_unique (undone_ok ok hl c).up hq.up fun x => ?_⟩
  rw [mem_undone, mem_done]
  constructor
  · rintro (⟨(⟨h1, _, _⟩ | h1), h2⟩ | h1 | h1)
    · exact h1
    · exact absurd h1 h2
    · rw [h1]; exact h.1
    · rw [h1]; exact h.2.1
  · intro hx
    by_cases e1 : x = l.s
    · exact .inr (.inl e1)
    · by_cases e2 : x = l.m
      · exact .inr (.inr e2)
      · exact .inl ⟨.inl ⟨hx, e1, e2⟩, fun z => h.2.2 (z ▸ hx)⟩
theorem rch_head {ls : List Lp} {p q : List Int} {l : Lp} (hl : l ∈ ls) (hc : CanDo p l) (h : Rch ls (doneL p l) q) : Rch ls p q := by
  induction h with
  | refl => exact .step .refl hl hc
  | step _ a b ih => exact .step ih a b
theorem gr_back {m : Int} {ls : List Lp} {g q : List Int} (hl : ∀ l ∈ ls, LpOk m l) (hg : PegsOk m g) : Gr CanUndo undoneL ls g q → PegsOk m q ∧ Rch ls q g := by
  intro h
  induction h with
  | refl => exact ⟨hg, .refl⟩
  | @step r l _ a b ih =>
    obtain ⟨h1, h2⟩ := ih
    obtain ⟨c1, c2⟩ := undo_do h1 (hl l a) b
    exact ⟨undone_ok h1 (hl l a) b, rch_head a c1 (by rw [c2]; exact h2)⟩
theorem gr_head {ls : List Lp} {g q : List Int} {r : List Int} {l : Lp} (hl : l ∈ ls) (hc : CanUndo g l) (e : undoneL g l = r) (h : Gr CanUndo undoneL ls r q) : Gr CanUndo undoneL ls g q := by
  subst e
  induction h with
  | refl => exact .step .refl hl hc
  | step _ a b ih => exact .step ih a b
theorem gr_fwd {m : Int} {ls : List Lp} {g q : List Int} (hl : ∀ l ∈ ls, LpOk m l) (hq : PegsOk m q) (h : Rch ls q g) : Gr CanUndo undoneL ls g q := by
  have main : PegsOk m g ∧ Gr CanUndo undoneL ls g q := by
    induction h with
    | refl => exact ⟨hq, .refl⟩
    | @step r l _ a b ih =>
      obtain ⟨h1, h2⟩ := ih
      obtain ⟨c1, c2⟩ := do_undo h1 (hl l a) b
      exact ⟨done_ok h1 (hl l a) b.2.2, gr_head a c1 c2 h2⟩
  exact main.2
theorem envA_start (b : D) (p : List Int) : sParNN 2 3 (nDic1 (eV 1) (eC (.dat (.bool true)))) (nLst (aCons (eV 1) (aNil))) [.val b, .val (.dat (tI p)), .no, .no, .no, .no, .no] = pure (.nx (envA b p [p] [p] .no .no .no)) := by
  unfold sParNN
  rw [nDic_one p _ 1 rfl, nLst_one p _ 1 rfl]
  rfl
theorem kvs_keys (qs : List (List Int)) : g_listD [.dic (kvs qs)] = some (.dat (.list (qs.map tI))) := by
  show some (D.dat (.list ((kvs qs).map (·.1)))) = _
  unfold kvs
  rw [List.map_map]
  rfl
theorem qs_len {n : Nat} {qs : List (List Int)} (hn : n ≤ 12) (h1 : qs.Nodup) (h2 : ∀ q ∈ qs, PegsOk (n : Int) q) : qs.length ≤ 4096 := by
  have := few_standings h1 h2
  have big : 2 ^ n ≤ 4096 := by
    calc 2 ^ n ≤ 2 ^ 12 := Nat.pow_le_pow_right (by decide) hn
      _ = 4096 := by decide
  omega
/-- from where it can be come to, in order -/
noncomputable def backS (n : Nat) (ls : List Lp) (g : List Int) : List (List Int) := sortLen ((allS n).filter fun q => rchB ls q g)
/-! ### all standings, by bits -/
theorem bit_mem {m b : Nat} {k : Nat} : (k : Int) ∈ bitsL m b ↔ k < m ∧ b / 2 ^ k % 2 = 1 := by
  have hb : ∀ k : Nat, (Builtin.bitAnd ((b : Int) / 2 ^ ((k : Int)).toNat) 1 = 1) ↔ b / 2 ^ k % 2 = 1 := fun k => by
    have e1 : ((b : Int) / 2 ^ ((k : Int)).toNat) = ((b / 2 ^ k : Nat) : Int) := by
      rw [Int.toNat_natCast]
      simp
    rw [e1]
    have e2 : Builtin.bitAnd ((b / 2 ^ k : Nat) : Int) 1 = ((b / 2 ^ k % 2 : Nat) : Int) := by
      have h0 : decide ((0 : Int) ≤ ((b / 2 ^ k : Nat) : Int)) = true := decide_eq_true (Int.natCast_nonneg _)
      unfold Builtin.bitAnd
      rw [h0]
      show (((((b / 2 ^ k : Nat) : Int).toNat &&& (1 : Int).toNat) : Nat) : Int) = _
      rw [Int.toNat_natCast]
      show ((b / 2 ^ k &&& 1 : Nat) : Int) = _
      rw [Nat.and_one_is_mod]
    rw [e2]
    omega
  unfold bitsL
  rw [List.mem_map]
  constructor
  · rintro ⟨j, hj, e⟩
    have : j = k := by omega
    subst this
    obtain ⟨h1, h2⟩ := List.mem_filter.mp hj
    exact ⟨List.mem_range.mp h1, (hb j).mp (of_decide_eq_true h2)⟩
  · rintro ⟨h1, h2⟩
    exact ⟨k, List.mem_filter.mpr ⟨List.mem_range.mpr h1, decide_eq_true ((hb k).mpr h2)⟩, rfl⟩
theorem bits_some : ∀ (m : Nat) (s : Nat → Bool), ∃ b, b < 2 ^ m ∧ ∀ k, k < m → (b / 2 ^ k % 2 = 1 ↔ s k = true)
  | 0, s => ⟨0, by decide, fun k h => absurd h (Nat.not_lt_zero k)⟩
  | m + 1, s => by
    obtain ⟨b, h1, h2⟩ := bits_some m s
    have hp : 2 ^ (m + 1) = 2 ^ m + 2 ^ m := by rw [Nat.pow_succ]; omega
    cases hs : s m with
    | false =>
      refine ⟨b, by omega, fun k hk => ?_⟩
      by_cases e : k = m
      · subst e
        rw [Nat.div_eq_of_lt h1, hs]
        decide
      · exact h2 k (by omega)
    | true =>
      refine ⟨b + 2 ^ m, by omega, fun k hk => ?_⟩
      by_cases e : k = m
      · subst e
        rw [Nat.add_div_right _ (Nat.pow_pos (by decide)), Nat.div_eq_of_lt h1, hs]
        decide
      · have hk' : k < m := by omega
        rw [← h2 k hk']
        have e1 : 2 ^ m = 2 ^ k * (2 * 2 ^ (m - k - 1)) := by
          rw [← Nat.pow_succ', ← Nat.pow_add]
          congr 1
          omega
        rw [e1, Nat.add_mul_div_left _ _ (Nat.pow_pos (by decide)), Nat.add_mul_mod_self_left]
theorem bits_all {m : Nat} {p : List Int} (hp : PegsOk m p) : ∃ b, b < 2 ^ m ∧ bitsL m b = p := by
  obtain ⟨b, h1, h2⟩ := bits_some m fun k => decide ((k : Int) ∈ p)
  refine ⟨b, h1, up_unique (bits_ok m b).up hp.up fun x => ?_⟩
  constructor
  · intro hx
    have := (bits_ok m b).lo x hx
    obtain ⟨k, rfl⟩ : ∃ k : Nat, x = (k : Int) := ⟨x.toNat, by omega⟩
    obtain ⟨a1, a2⟩ := bit_mem.mp hx
    exact of_decide_eq_true ((h2 k a1).mp a2)
  · intro hx
    have := hp.lo x hx
    obtain ⟨k, rfl⟩ : ∃ k : Nat, x = (k : Int) := ⟨x.toNat, by omega⟩
    exact bit_mem.mpr ⟨by omega, (h2 k (by omega)).mpr (decide_eq_true hx)⟩
theorem in_reach {n : Nat} {ls : List Lp} {p g : List Int} (hp : PegsOk n p) (hl : ∀ l ∈ ls, LpOk n l) : opIn (.dat (tI g)) (.dat (.tuple ((reachS n ls p).map tI))) = some (dB (rchB ls p g)) := by
  rw [in_rows]
  congr 2
  rw [Bool.eq_iff_iff, rchB_iff, decide_eq_true_iff]
  exact reachS_mem hp hl

theorem ix_p0 (x y : PyData) : opIx (.dat (.tuple [x, y])) (.dat (.int 0)) = some (.dat x) := rfl
theorem ix_p1 (x y : PyData) : opIx (.dat (.tuple [x, y])) (.dat (.int 1)) = some (.dat y) := rfl
abbrev ptD (n : Nat) (ls : List Lp) : D := .dat (.tuple [.int (n : Int), tL ls])
theorem al_int (n : Nat) (xs : List Int) (h : xs.length ≤ 1000000) : Al (n + 1) (tI xs) := .tup n _ (by rw [List.length_map]; exact h) fun x hx => by
  obtain ⟨i, _, rfl⟩ := List.mem_map.mp hx
  exact .int _ i
theorem al_rows (n : Nat) (qs : List (List Int)) (h : qs.length ≤ 1000000) (h2 : ∀ q ∈ qs, q.length ≤ 1000000) : Al (n + 2) (.tuple (qs.map tI)) := .tup (n + 1) _ (by rw [List.length_map]; exact h) fun x hx => by
  obtain ⟨q, hq, rfl⟩ := List.mem_map.mp hx
  exact al_int n q (h2 q hq)
theorem seq_nx {f g : En → M Fl} {ρ ρ' : En} (h : f ρ = pure (.nx ρ')) : sSeq f g ρ = g ρ' := by rw [sSeq_def, h]; rfl
theorem seq_ter {f g : En → M Fl} {ρ : En} {R : RS} {Q : Fl → RS → Prop} (h : Ter (f ρ) R fun fl R' => ∃ ρ', fl = .nx ρ' ∧ Ter (g ρ') R' Q) : Ter (sSeq f g ρ) R Q := by
  rw [sSeq_def]
  refine Ter.bind (h.imp fun fl R' ⟨ρ', e, h2⟩ => ?_)
  subst e
  exact h2
theorem chk {f : En → M Bool} {ρ : En} (h : f ρ = pure true) : sIf (bNot f) (sRet (eC (.dat (.bool false)))) sNil ρ = pure (.nx ρ) := by
  rw [sIf_def, bNot_def, h]
  rfl
theorem rows_len {n : Nat} {qs : List (List Int)} (h : ∀ q ∈ qs, PegsOk (n : Int) q) (hn : n ≤ 12) : ∀ q ∈ qs, q.length ≤ 1000000 := fun q hq => by
  have := pegs_len (h q hq) (by omega)
  omega
theorem pow6 {n : Nat} (hn : n ≤ 6) : 2 ^ n ≤ 64 := by
  calc 2 ^ n ≤ 2 ^ 6 := Nat.pow_le_pow_right (by decide) hn
    _ = 64 := by decide
theorem reachS_ok {n : Nat} {ls : List Lp} {p : List Int} : ∀ q ∈ reachS n ls p, PegsOk (n : Int) q := fun q hq => allS_ok n q (List.mem_filter.mp (sortLen_mem.mp hq)).1
theorem filterS_ok {n : Nat} {f : List Int → Bool} : ∀ q ∈ sortLen ((allS n).filter f), PegsOk (n : Int) q := fun q hq => allS_ok n q (List.mem_filter.mp (sortLen_mem.mp hq)).1
theorem filterS_len (n : Nat) (f : List Int → Bool) : (sortLen ((allS n).filter f)).length ≤ 2 ^ n := by
  rw [sortLen_length]
  refine Nat.le_trans (List.length_filter_le _ _) ?_
  rw [allS_len]
  exact Nat.le_refl _
/-- the answer is what is due -/
theorem alike_rows {n : Nat} (hn : n ≤ 6) (f : List Int → Bool) : fn__law_alike [.dat (.tuple ((sortLen ((allS n).filter f)).map tI)), .dat (.tuple ((sortLen ((allS n).filter f)).map tI))] = pure (dB true) :=
  alike_ok _ (al_rows 5 _ (by have := filterS_len n f; have := pow6 hn; omega) (rows_len filterS_ok (by omega)))
theorem chk0 {f : En → M Bool} {ρ : En} (h : f ρ = pure false) : sIf f (sRet (eC (.dat (.bool false)))) sNil ρ = pure (.nx ρ) := by
  rw [sIf_def, h]
  rfl
theorem al_leaps (n : Nat) (xs : List Lp) (h : xs.length ≤ 1000000) : Al (n + 2) (tL xs) := .tup (n + 1) _ (by rw [List.length_map]; exact h) fun x hx => by
  obtain ⟨i, _, rfl⟩ := List.mem_map.mp hx
  exact al_int n i.li (by show 3 ≤ 1000000; decide)
theorem opNe_tI (q : List Int) : opNe (.dat (tI q)) (.dat (tI q)) = some (dB false) := by
  have := opNe_t (α := W.Tup Int) (by decide) ⟨q⟩ ⟨q⟩
  rw [decide_eq_false (by simp)] at this
  exact this
theorem opNe_tL (q : List Lp) : opNe (.dat (tL q)) (.dat (tL q)) = some (dB false) := by
  have := opNe_t (α := W.Tup Lp) (by decide) ⟨q⟩ ⟨q⟩
  rw [decide_eq_false (by simp)] at this
  exact this

/-! ### a loop that gathers -/
theorem acc_loop {α β ζ : Type} {t : D → En → Option En} {fb : En → M Fl} (env : List β → ζ → En) (e : α → D) (g : α → List β) (B b : Nat) (hg : ∀ x, (g x).length ≤ b) : ∀ (xs : List α), (∀ x ∈ xs, ∀ (fo : List β) (z : ζ), fo.length + b ≤ B → ∃ (ρ1 : En) (z' : ζ), t (e x) (env fo z) = some ρ1 ∧ fb ρ1 = pure (.nx (env (fo ++ g x) z'))) →
    ∀ (fo : List β) (z : ζ), fo.length + xs.length * b ≤ B → ∃ z', forL t fb (xs.map e) (env fo z) = pure (.nx (env (fo ++ xs.flatMap g) z'))
  | [], _, fo, z, _ => ⟨z, by rw [List.flatMap_nil, List.append_nil]; rfl⟩
  | x :: xs, step, fo, z, hb => by
    have hm : (x :: xs).length * b = xs.length * b + b := by rw [List.length_cons, Nat.succ_mul]
    obtain ⟨ρ1, z1, e1, e2⟩ := step x List.mem_cons_self fo z (by omega)
    have := hg x
    obtain ⟨z', h⟩ := acc_loop env e g B b hg xs (fun y hy => step y (List.mem_cons_of_mem _ hy)) (fo ++ g x) z1 (by rw [List.length_append]; omega)
    refine ⟨z', ?_⟩
    rw [List.map_cons, forL_cons, e1]
    simp only [lft_some, pure_bind, e2, h, List.flatMap_cons, List.append_assoc]
/-! ### leaps that help -/

theorem gLstD3 (x y z : PyData) : gLstD [.dat x, .dat y, .dat z] = some (.dat (.list [x, y, z])) := rfl
theorem al2 {n : Nat} {x y : PyData} (hx : Al n x) (hy : Al n y) : Al (n + 1) (.tuple [x, y]) := .tup n _ (by simp) fun z hz => by
  rcases List.mem_cons.mp hz with rfl | hz
  · exact hx
  · rw [List.mem_singleton.mp hz]; exact hy
theorem peg_small {n : Nat} {p : List Int} (hn : n ≤ 12) (hp : PegsOk n p) : p.length ≤ 1000000 := by
  have := pegs_len hp (by omega)
  omega
theorem opEq_lps (qs : List Lp) : opEq (.dat (.list (qs.map Lp.d))) (.dat (.list [])) = some (dB (decide (qs = []))) := by
  have := opEq_t (α := List Lp) (by decide) qs []
  exact this


/-! ### lines: worths, settled standings -/
def fw : Nat → Nat
  | 0 => 1
  | 1 => 2
  | n + 2 => fw n + fw (n + 1)
theorem fw_pos : ∀ n, 1 ≤ fw n
  | 0 => by decide
  | 1 => by decide
  | n + 2 => by
    have := fw_pos n
    unfold fw
    omega
theorem fw_lt : ∀ n, fw n < fw (n + 1)
  | 0 => by decide
  | n + 1 => by
    have h : fw (n + 2) = fw n + fw (n + 1) := by rw [fw]
    have := fw_pos n
    show fw (n + 1) < fw (n + 2)
    omega
theorem fw_mono {m n : Nat} (h : m ≤ n) : fw m ≤ fw n := by
  induction h with
  | refl => exact Nat.le_refl _
  | step _ ih => exact Nat.le_trans ih (Nat.le_of_lt (fw_lt _))
/-- the greedy standing, from the place m - 1 down -/
def gr : Nat → Nat → List Nat
  | 0, _ => []
  | m + 1, v => if fw m ≤ v then m :: gr m (v - fw m) else gr m v
def Spr : Nat → List Nat → Prop
  | _, [] => True
  | m, x :: d => x < m ∧ Spr (x - 1) d
def sumW (d : List Nat) : Nat := (d.map fw).sum
theorem sumW_cons (x : Nat) (d : List Nat) : sumW (x :: d) = fw x + sumW d := by unfold sumW; simp
theorem sp_mono : ∀ {d : List Nat} {m n : Nat}, m ≤ n → Spr m d → Spr n d
  | [], _, _, _, _ => trivial
  | x :: d, m, n, h, ⟨h1, h2⟩ => ⟨Nat.lt_of_lt_of_le h1 h, h2⟩
theorem sp_lt : ∀ {d : List Nat} {m : Nat}, Spr m d → sumW d < fw m
  | [], m, _ => fw_pos m
  | x :: d, m, ⟨h1, h2⟩ => by
    have ih := sp_lt h2
    rw [sumW_cons]
    cases x with
    | zero =>
      have : fw 0 = 1 := rfl
      have h3 : fw 1 ≤ fw m := fw_mono (by omega)
      have h4 : fw 1 = 2 := rfl
      have h5 : sumW d < fw 0 := ih
      omega
    | succ x =>
      have h3 : fw (x + 2) ≤ fw m := fw_mono (by omega)
      have h4 : fw (x + 2) = fw x + fw (x + 1) := by rw [fw]
      have h5 : sumW d < fw x := ih
      omega
theorem gr_of : ∀ (m : Nat) (d : List Nat), Spr m d → gr m (sumW d) = d
  | 0, [], _ => rfl
  | 0, x :: d, ⟨h, _⟩ => absurd h (by omega)
  | m + 1, [], _ => by
    have h0 : sumW [] = 0 := rfl
    have := gr_of m [] trivial
    have hp := fw_pos m
    rw [gr, h0, if_neg (by omega)]
    rw [h0] at this
    exact this
  | m + 1, x :: d, ⟨h1, h2⟩ => by
    by_cases hx : x = m
    · subst hx
      have := gr_of x d (sp_mono (by omega) h2)
      rw [gr, sumW_cons, if_pos (by omega), Nat.add_sub_cancel_left, this]
    · have hs : Spr m (x :: d) := ⟨by omega, h2⟩
      have := sp_lt hs
      rw [gr, if_neg (by omega)]
      exact gr_of m (x :: d) hs
/-! standings as rising lists of places -/
def valI (p : List Int) : Nat := (p.map fun x => fw x.toNat).sum
abbrev ln (k : Int) : Lp := ⟨k, k + 1, k + 2⟩
abbrev CanL (p : List Int) (k : Int) : Prop := k ∈ p ∧ k + 1 ∈ p ∧ k + 2 ∉ p
/-- no two side by side -/
def Dead (p : List Int) : Prop := ∀ k, ¬ CanL p k
theorem dead_sparse {m : Int} {p : List Int} (hp : PegsOk m p) (hd : Dead p) {k : Int} (hk : k ∈ p) : k + 1 ∉ p := by
  intro h1
  have all : ∀ n : Nat, k + (n : Int) ∈ p ∧ k + (n : Int) + 1 ∈ p := by
    intro n
    induction n with
    | zero => exact ⟨by simpa using hk, by simpa using h1⟩
    | succ n ih =>
      obtain ⟨a, b⟩ := ih
      have c : k + (n : Int) + 2 ∈ p := Decidable.byContradiction fun h => hd (k + (n : Int)) ⟨a, b, h⟩
      refine ⟨by rw [show k + ((n + 1 : Nat) : Int) = k + (n : Int) + 1 by omega]; exact b, by rw [show k + ((n + 1 : Nat) : Int) + 1 = k + (n : Int) + 2 by omega]; exact c⟩
  have h2 := (all (m - k).toNat).1
  have h3 := hp.lo _ h2
  have h4 := hp.lo _ hk
  omega
theorem sp_of : ∀ (d : List Int) (m : Nat), d.Pairwise (· > ·) → (∀ x ∈ d, 0 ≤ x ∧ x < (m : Int)) → (∀ x ∈ d, x + 1 ∉ d) → Spr m (d.map Int.toNat)
  | [], _, _, _, _ => trivial
  | x :: d, m, hp, hl, hs => by
    have hx := hl x List.mem_cons_self
    obtain ⟨h1, h2⟩ := List.pairwise_cons.mp hp
    refine ⟨by omega, sp_of d (x.toNat - 1) h2 (fun y hy => ?_) (fun y hy h => hs y (List.mem_cons_of_mem _ hy) (List.mem_cons_of_mem _ h))⟩
    have h3 := h1 y hy
    have h4 := hl y (List.mem_cons_of_mem _ hy)
    have h5 : x ≠ y + 1 := fun e => hs y (List.mem_cons_of_mem _ hy) (by rw [← e]; exact List.mem_cons_self)
    omega
/-- the settled standing that is worth v -/
def setd (v : Nat) : List Int := ((gr 42 v).map fun (x : Nat) => (x : Int)).reverse
theorem val_rev (p : List Int) : sumW (p.reverse.map Int.toNat) = valI p := by
  unfold sumW valI
  rw [List.map_map, List.map_reverse, List.sum_reverse]
  rfl
theorem dead_set {p : List Int} (hp : PegsOk 42 p) (hd : Dead p) : p = setd (valI p) := by
  have hs := sp_of p.reverse 42 (by rw [List.pairwise_reverse]; exact hp.up) (fun x hx => hp.lo x (List.mem_reverse.mp hx)) (fun x hx h => dead_sparse hp hd (List.mem_reverse.mp hx) (List.mem_reverse.mp h))
  have := gr_of 42 _ hs
  rw [val_rev] at this
  unfold setd
  rw [this, List.map_map]
  have e : p.reverse.map ((fun (x : Nat) => (x : Int)) ∘ Int.toNat) = p.reverse := by
    have h2 : p.reverse.map ((fun (x : Nat) => (x : Int)) ∘ Int.toNat) = p.reverse.map id := List.map_congr_left fun x hx => by
      have := hp.lo x (List.mem_reverse.mp hx)
      show ((x.toNat : Nat) : Int) = x
      omega
    rw [h2, List.map_id]
  rw [e, List.reverse_reverse]

theorem perm_sum {a b : List Nat} (h : a.Perm b) : a.sum = b.sum := by
  induction h with
  | nil => rfl
  | cons x _ ih => simp [ih]
  | swap x y l => simp; omega
  | trans _ _ i1 i2 => exact i1.trans i2
theorem val_perm {a b : List Int} (h : a.Perm b) : valI a = valI b := perm_sum (h.map _)
theorem val_cons (x : Int) (p : List Int) : valI (x :: p) = fw x.toNat + valI p := by unfold valI; simp
theorem leap_perm {m : Int} {p : List Int} {k : Int} (hp : PegsOk m p) (hc : CanL p k) : p.Perm (k :: (k + 1) :: p.filter (fun x => decide (x ∉ [k, k + 1]))) := by
  have n1 : p.Nodup := up_nodup hp.up
  have n2 : (k :: (k + 1) :: p.filter (fun x => decide (x ∉ [k, k + 1]))).Nodup := by
    rw [List.nodup_cons, List.nodup_cons]
    refine ⟨fun h => ?_, fun h => ?_, n1.filter _⟩
    · rcases List.mem_cons.mp h with e | h
      · omega
      · have := of_decide_eq_true (List.mem_filter.mp h).2
        exact this List.mem_cons_self
    · have := of_decide_eq_true (List.mem_filter.mp h).2
      exact this (by simp)
  refine (List.perm_ext_iff_of_nodup n1 n2).mpr fun x => ?_
  rw [List.mem_cons, List.mem_cons, List.mem_filter, decide_eq_true_iff]
  constructor
  · intro h
    by_cases h1 : x = k
    · exact .inl h1
    by_cases h2 : x = k + 1
    · exact .inr (.inl h2)
    exact .inr (.inr ⟨h, by simp [h1, h2]⟩)
  · rintro (h | h | h)
    · rw [h]; exact hc.1
    · rw [h]; exact hc.2.1
    · exact h.1
theorem val_done {m : Int} {p : List Int} {k : Int} (hp : PegsOk m p) (hc : CanL p k) : valI (doneL p (ln k)) = valI p := by
  have h0 := (hp.lo k hc.1).1
  have h1 := val_perm (leap_perm hp hc)
  have h2 : valI (doneL p (ln k)) = valI (p.filter (fun x => decide (x ∉ [k, k + 1])) ++ [k + 2]) := val_perm (sortI_perm _)
  have h3 : valI (p.filter (fun x => decide (x ∉ [k, k + 1])) ++ [k + 2]) = valI (p.filter (fun x => decide (x ∉ [k, k + 1]))) + fw (k + 2).toNat := by
    unfold valI
    simp
  rw [val_cons, val_cons] at h1
  have e1 : (k + 1).toNat = k.toNat + 1 := by omega
  have e2 : (k + 2).toNat = k.toNat + 2 := by omega
  have e3 : fw (k.toNat + 2) = fw k.toNat + fw (k.toNat + 1) := by rw [fw]
  rw [h2, h3, h1, e1, e2, e3]
  omega
theorem val_mem {p : List Int} {x : Int} (h : x ∈ p) : fw x.toNat ≤ valI p := by
  induction p with
  | nil => cases h
  | cons y p ih =>
    rw [val_cons]
    rcases List.mem_cons.mp h with e | h
    · rw [e]; omega
    · have := ih h
      omega
/-- a line's standing in play: places of 12, worth v -/
structure Ply (v : Nat) (p : List Int) : Prop where
  ok : PegsOk 12 p
  val : valI p = v
theorem Ply.lt {v : Nat} {p : List Int} (h : Ply v p) (hv : v < 144) {x : Int} (hx : x ∈ p) : 0 ≤ x ∧ x < 10 := by
  have h1 := h.ok.lo x hx
  refine ⟨h1.1, Decidable.byContradiction fun hn => ?_⟩
  have h2 := val_mem hx
  have h3 : fw 10 ≤ fw x.toNat := fw_mono (by omega)
  have h4 : fw 10 = 144 := by decide
  have h5 := h.val
  omega
theorem Ply.leap {v : Nat} {p : List Int} (h : Ply v p) (hv : v < 144) {k : Int} (hc : CanL p k) : LpOk 12 (ln k) ∧ Ply v (doneL p (ln k)) ∧ (doneL p (ln k)).length + 1 = p.length := by
  have h1 := h.lt hv hc.1
  have hl : LpOk 12 (ln k) := by
    constructor <;> (try dsimp only) <;> omega
  exact ⟨hl, ⟨done_ok h.ok hl hc.2.2, (val_done h.ok hc).trans h.val⟩, done_len h.ok hl hc⟩
theorem ok_up {m n : Int} {p : List Int} (h : PegsOk m p) (hm : m ≤ n) : PegsOk n p := ⟨fun x hx => by have := h.lo x hx; omega, h.up⟩
theorem Ply.dead {v : Nat} {p : List Int} (h : Ply v p) (hd : Dead p) : p = setd v := by
  have := dead_set (ok_up h.ok (by decide)) hd
  rw [h.val] at this
  exact this
/-- the places that can leap -/
def ableI (p : List Int) : List Int := p.filter fun k => decide (k + 1 ∈ p) && decide (k + 2 ∉ p)
theorem ableI_mem {p : List Int} {k : Int} : k ∈ ableI p ↔ CanL p k := by
  unfold ableI
  rw [List.mem_filter, Bool.and_eq_true, decide_eq_true_iff, decide_eq_true_iff]
theorem able_nil {p : List Int} (h : ableI p = []) : Dead p := fun k hk => by
  have := ableI_mem.mpr hk
  rw [h] at this
  cases this
/-- every play ends, at the settled standing -/
theorem Ply.ends {v : Nat} (hv : v < 144) : ∀ (n : Nat) (p : List Int), p.length = n → Ply v p → Ply v (setd v) ∧ (setd v).length ≤ n ∧ ((setd v).length = n → p = setd v)
  | n, p, hn, h => by
    by_cases hd : ableI p = []
    · have e := h.dead (able_nil hd)
      refine ⟨by rw [← e]; exact h, by rw [← e, hn]; exact Nat.le_refl _, fun _ => e⟩
    · obtain ⟨k, t, hk⟩ := List.exists_cons_of_ne_nil hd
      have hc : CanL p k := ableI_mem.mp (by rw [hk]; exact List.mem_cons_self)
      obtain ⟨hl, hp2, hlen⟩ := h.leap hv hc
      cases n with
      | zero => omega
      | succ n =>
        obtain ⟨a, b, c⟩ := Ply.ends hv n (doneL p (ln k)) (by omega) hp2
        exact ⟨a, by omega, fun e => by omega⟩
theorem few_sub : ∀ s : Fin 13, ((allS 10).filter fun q => decide (q.length = s.val)).length ≤ 252 := by decide +kernel
theorem allS_val : ∀ p ∈ allS 9, valI p < 144 := by decide +kernel
theorem few_ply {v : Nat} (hv : v < 144) (s : Nat) (hs : s ≤ 12) (qs : List (List Int)) (h : ∀ q ∈ qs, Ply v q ∧ q.length = s) : (NS.dd qs).length ≤ 306 := by
  have h1 := NS.short (NS.nodup_dd qs) (m := (allS 10).filter fun q => decide (q.length = s)) fun q hq => by
    obtain ⟨hp, hl⟩ := h q (NS.mem_dd.mp hq)
    rw [List.mem_filter, allS_iff]
    refine ⟨⟨fun x hx => ?_, hp.ok.up⟩, decide_eq_true hl⟩
    have := hp.lt hv hx
    omega
  have h2 := few_sub ⟨s, by omega⟩
  dsimp only at h2
  omega

noncomputable def st1 : En → M Fl := sSet 2 (eN gLstD (aCons (eC (.dat (.int 1))) (aCons (eC (.dat (.int 2))) (aNil))))
noncomputable def st2 : En → M Fl := sFor (iRange1 (aCons (eC (.dat (.int 20))) (aNil))) (gN 3) (sSet 2 (e2 opAdd (eV 2) (eN gLstD (aCons (e2 opAdd (eIx (eV 2) (e1 opNeg (eC (.dat (.int 1))))) (eIx (eV 2) (e1 opNeg (eC (.dat (.int 2)))))) (aNil)))))
noncomputable def st3_1 : En → M Fl := sSet 5 (eN g_tuple (aCons (eFresh (nLc (iRange1 (aCons (eC (.dat (.int 9))) (aNil))) (gN 3) (bE (e2 opGt (eF fn__law_taken (aCons (eV 1) (aCons (eC (.dat (.int 3))) (aNil)))) (eC (.dat (.int 0))))) (eV 3) [3])) (aNil)))
noncomputable def st3_2 : En → M Fl := sSet 6 (eN g_tuple (aCons (eFresh (nLc (iRange1 (aCons (eC (.dat (.int 9))) (aNil))) (gN 3) (bE (e2 opGt (eF fn__law_taken (aCons (eV 1) (aCons (eC (.dat (.int 3))) (aNil)))) (eC (.dat (.int 0))))) (eV 3) [3])) (aNil)))
noncomputable def st3_3 : En → M Fl := sParEE 7 8 (eF fn__law_ends (aCons (eV 5) (aNil))) (eF fn__law_ends (aCons (eV 6) (aNil)))
noncomputable def st3_4 : En → M Fl := sIf (bOr (bE (e2 opNe (eN g_len (aCons (eV 7) (aNil))) (eC (.dat (.int 1))))) (bNot (bE (eF fn__law_alike (aCons (eN gTupD (aCons (eF fn_settled (aCons (eV 5) (aNil))) (aCons (eF fn_many_leaps (aCons (eV 5) (aNil))) (aNil)))) (aCons (eIx (eV 7) (eC (.dat (.int 0)))) (aNil))))))) (sRet (eC (.dat (.bool false)))) (sNil)
noncomputable def st3_5 : En → M Fl := sSet 9 (eN g_sum (aCons (eFresh (nLc (iSeq (eV 5)) (gN 3) (bYes) (eIx (eV 2) (eV 3)) [3])) (aNil)))
noncomputable def st3_6 : En → M Fl := sIf (bNot (bE (eF fn__law_alike (aCons (eN gTupD (aCons (eF fn_line_value (aCons (eV 5) (aNil))) (aCons (eF fn_least_line (aCons (eV 9) (aNil))) (aCons (eF fn_line_worth (aCons (eC (.dat (.int 7))) (aNil))) (aNil))))) (aCons (eN gTupD (aCons (eV 9) (aCons (eIx (eIx (eV 7) (eC (.dat (.int 0)))) (eC (.dat (.int 0)))) (aCons (eIx (eV 2) (eC (.dat (.int 7)))) (aNil))))) (aNil)))))) (sRet (eC (.dat (.bool false)))) (sNil)
noncomputable def st3_7 : En → M Fl := sIf (bNot (bE (eF fn__law_alike (aCons (eF fn_do_meet (aCons (eV 5) (aCons (eV 6) (aNil)))) (aCons (e2 opEq (eIx (eIx (eV 7) (eC (.dat (.int 0)))) (eC (.dat (.int 0)))) (eIx (eIx (eV 8) (eC (.dat (.int 0)))) (eC (.dat (.int 0))))) (aNil)))))) (sRet (eC (.dat (.bool false)))) (sNil)
noncomputable def st3_8 : En → M Fl := sSet 10 (eN g_tuple (aCons (eFresh (nLc (iSeq (eV 5)) (gN 3) (bAnd (bE (e2 opIn (e2 opAdd (eV 3) (eC (.dat (.int 1)))) (eV 5))) (bE (e2 opNotIn (e2 opAdd (eV 3) (eC (.dat (.int 2)))) (eV 5)))) (eV 3) [3])) (aNil)))
noncomputable def st3_9 : En → M Fl := sIf (bNot (bE (eF fn__law_alike (aCons (eF fn_line_leaps (aCons (eV 5) (aNil))) (aCons (eV 10) (aNil)))))) (sRet (eC (.dat (.bool false)))) (sNil)
noncomputable def st3_10 : En → M Fl := sSet 11 (eV 5)
noncomputable def st3_11_1 : En → M Fl := sSet 13 (eFresh (nLc (iSeq (eV 11)) (gN 3) (bAnd (bE (e2 opIn (e2 opAdd (eV 3) (eC (.dat (.int 1)))) (eV 11))) (bE (e2 opNotIn (e2 opAdd (eV 3) (eC (.dat (.int 2)))) (eV 11)))) (eV 3) [3]))
noncomputable def st3_11_2 : En → M Fl := sIf (bOr (bE (e2 opEq (eV 13) (eN gLstD (aNil)))) (bE (e2 opNe (eIx (eV 13) (e1 opNeg (eC (.dat (.int 1))))) (eV 12)))) (sRet (eC (.dat (.bool false)))) (sNil)
noncomputable def st3_11_3 : En → M Fl := sSet 11 (eF fn_line_after (aCons (eV 11) (aCons (eV 12) (aNil))))
noncomputable def bodyst3_11 : En → M Fl := sSeq st3_11_1 (sSeq st3_11_2 (st3_11_3))
noncomputable def st3_11 : En → M Fl := sFor (iSeq (eF fn_settling (aCons (eV 5) (aNil)))) (gN 12) bodyst3_11
noncomputable def st3_12 : En → M Fl := sIf (bE (e2 opNe (eV 11) (eIx (eIx (eV 7) (eC (.dat (.int 0)))) (eC (.dat (.int 0)))))) (sRet (eC (.dat (.bool false)))) (sNil)
noncomputable def bodyst3 : En → M Fl := sSeq st3_1 (sSeq st3_2 (sSeq st3_3 (sSeq st3_4 (sSeq st3_5 (sSeq st3_6 (sSeq st3_7 (sSeq st3_8 (sSeq st3_9 (sSeq st3_10 (sSeq st3_11 (st3_12)))))))))))
noncomputable def st3 : En → M Fl := sFor (iRange1 (aCons (eC (.dat (.int 6))) (aNil))) (gN 4) bodyst3
noncomputable def st4 : En → M Fl := sRet (fun _ => eF fn__law_same (aCons (fun _ => DX.toldL csX fn__law_refusal [eF fn_settled (aCons (eN gLstD (aCons (eC (.dat (.int 0))) (aNil))) (aNil)), eF fn_line_value (aCons (eN gTupD (aCons (eC (.dat (.int 0))) (aCons (eC (.dat (.int 0))) (aNil)))) (aNil)), eF fn_settling (aCons (eN gTupD (aCons (eC (.dat (.int 41))) (aNil))) (aNil)), eF fn_line_leaps (aCons (eN gTupD (aCons (e1 opNeg (eC (.dat (.int 1)))) (aNil))) (aNil))]) (aCons (eN gLstD (aCons (eN gTupD (aCons (eC (.dat (.str "BadPegs"))) (aCons (e1 opNeg (eC (.dat (.int 1)))) (aNil)))) (aCons (eN gTupD (aCons (eC (.dat (.str "BadPegs"))) (aCons (eC (.dat (.int 1))) (aNil)))) (aCons (eN gTupD (aCons (eC (.dat (.str "BadPegs"))) (aCons (eC (.dat (.int 0))) (aNil)))) (aCons (eN gTupD (aCons (eC (.dat (.str "BadPegs"))) (aCons (eC (.dat (.int 0))) (aNil)))) (aNil)))))) (aNil))) (List.replicate 16 .no))
noncomputable def bodyLaw : En → M Fl := sSeq st1 (sSeq st2 (sSeq st3 (st4)))
theorem law_den : den_law = bodyLaw := rfl

/-! ### the line's functions -/
theorem fold_loop {σ α ζ : Type} {t : D → En → Option En} {fb : En → M Fl} (env : σ → ζ → En) (e : α → D) (step : σ → α → σ) : ∀ (xs : List α), (∀ x ∈ xs, ∀ (s : σ) (z : ζ), ∃ (ρ1 : En) (z' : ζ), t (e x) (env s z) = some ρ1 ∧ fb ρ1 = pure (.nx (env (step s x) z'))) →
    ∀ (s : σ) (z : ζ), ∃ z', forL t fb (xs.map e) (env s z) = pure (.nx (env (xs.foldl step s) z'))
  | [], _, s, z => ⟨z, rfl⟩
  | x :: xs, h, s, z => by
    obtain ⟨ρ1, z1, e1, e2⟩ := h x List.mem_cons_self s z
    obtain ⟨z', h2⟩ := fold_loop env e step xs (fun y hy => h y (List.mem_cons_of_mem _ hy)) (step s x) z1
    refine ⟨z', ?_⟩
    rw [List.map_cons, forL_cons, e1]
    simp only [lft_some, pure_bind, e2, h2, List.foldl_cons]
theorem fw_fold : ∀ k : Nat, (List.range k).foldl (fun (s : Nat × Nat) (_ : Nat) => (s.2, s.1 + s.2)) (1, 2) = (fw k, fw (k + 1))
  | 0 => rfl
  | k + 1 => by
    rw [List.range_succ, List.foldl_append, fw_fold k]
    show (fw (k + 1), fw k + fw (k + 1)) = (fw (k + 1), fw (k + 2))
    rw [fw]
abbrev bodyW : En → M Fl := sParEE 1 2 (eV 2) (e2 opAdd (eV 1) (eV 2))
theorem worth_loop (k : Nat) : ∃ z', forL (gN 3) bodyW ((List.range k).map fun (i : Nat) => .dat (.int (i : Int))) [.val (.dat (.int (k : Int))), .val (.dat (.int ((1 : Nat) : Int))), .val (.dat (.int ((2 : Nat) : Int))), .no] = pure (.nx [.val (.dat (.int (k : Int))), .val (.dat (.int (fw k : Int))), .val (.dat (.int (fw (k + 1) : Int))), z']) := by
  obtain ⟨z', hl⟩ := fold_loop (ζ := SV) (t := gN 3) (fb := bodyW) (fun (s : Nat × Nat) z => [.val (.dat (.int (k : Int))), .val (.dat (.int (s.1 : Int))), .val (.dat (.int (s.2 : Int))), z]) (fun (i : Nat) => .dat (.int (i : Int))) (fun (s : Nat × Nat) (_ : Nat) => (s.2, s.1 + s.2)) (List.range k)
    (fun i _ s z => ⟨_, .val (.dat (.int (i : Int))), rfl, by
      simp only [gN, sParEE_def, e2_def, eV_def, List.set_cons_succ, List.set_cons_zero, List.getElem?_cons_succ, List.getElem?_cons_zero, pure_bind, bind_assoc, opAdd_i, lft_some, Int.natCast_add]⟩) (1, 2) .no
  rw [fw_fold] at hl
  exact ⟨z', hl⟩
theorem w1 (k : Nat) : sParEE 1 2 (eC (.dat (.int 1))) (eC (.dat (.int 2))) [.val (.dat (.int (k : Int))), .no, .no, .no] = pure (.nx [.val (.dat (.int (k : Int))), .val (.dat (.int ((1 : Nat) : Int))), .val (.dat (.int ((2 : Nat) : Int))), .no]) := by
  simp only [sParEE_def, eC_def, List.set_cons_succ, List.set_cons_zero, pure_bind]
  rfl
theorem w2 (k : Nat) (hk : k ≤ 1000) (z' : SV) (fb : En → M Fl)
  (hl : forL (gN 3) fb ((List.range k).map fun (i : Nat) => .dat (.int (i : Int))) [.val (.dat (.int (k : Int))), .val (.dat (.int ((1 : Nat) : Int))), .val (.dat (.int ((2 : Nat) : Int))), .no] = pure (.nx [.val (.dat (.int (k : Int))), .val (.dat (.int (fw k : Int))), .val (.dat (.int (fw (k + 1) : Int))), z'])) :
  sFor (iRange1 (aCons (eV 0) (aNil))) (gN 3) fb [.val (.dat (.int (k : Int))), .val (.dat (.int ((1 : Nat) : Int))), .val (.dat (.int ((2 : Nat) : Int))), .no] = pure (.nx [.val (.dat (.int (k : Int))), .val (.dat (.int (fw k : Int))), .val (.dat (.int (fw (k + 1) : Int))), z']) := by
  simp only [sFor_def, iRange1_def, aCons_def, aNil_def, eV_def, List.getElem?_cons_succ, List.getElem?_cons_zero, pure_bind, bind_assoc, inLine_ok (i := (k : Int)) (by omega) (by omega), if_true, Int.toNat_natCast, rangeD_eq]
  exact hl
theorem w3 (k : Nat) (z' : SV) : sRet (eV 1) [.val (.dat (.int (k : Int))), .val (.dat (.int (fw k : Int))), .val (.dat (.int (fw (k + 1) : Int))), z'] = pure (.rt (.dat (.int (fw k : Int)))) := by
    simp only [sRet_def, eV_def, List.getElem?_cons_succ, List.getElem?_cons_zero, pure_bind]
theorem w4 (k : Nat) (hk : k ≤ 1000) : den_line_worth [.val (.dat (.int (k : Int))), .no, .no, .no] = pure (.rt (.dat (.int (fw k : Int)))) := by
  obtain ⟨z', hl⟩ := worth_loop k
  have h2 := w2 k hk z' bodyW hl
  have h := (seq_nx (g := sSeq (sFor (iRange1 (aCons (eV 0) (aNil))) (gN 3) bodyW) (sRet (eV 1))) (w1 k)).trans ((seq_nx (g := sRet (eV 1)) h2).trans (w3 k z'))
  exact h
theorem worth_eq (k : Nat) (hk : k ≤ 1000) : fn_line_worth [.dat (.int (k : Int))] = pure (.dat (.int (fw k : Int))) := by
  have q := w4 k hk
  unfold fn_line_worth
  simp only [runFn_def, List.length_cons, List.length_nil, Nat.zero_add, Nat.reduceAdd, if_true, List.map_cons, List.map_nil, Nat.reduceSub, List.replicate, List.cons_append, List.nil_append, q, pure_bind]
abbrev bodyNL : En → M Fl := sSeq (sSet 4 (eAnd (eF fn_is_number (aCons (eV 3) (aNil))) (eCh opLe opLe (eC (.dat (.int 0))) (eV 3) (eC (.dat (.int 40)))))) (sSeq (sIf (bAnd (bE (eV 4)) (bAnd (bE (e2 opGt (eV 2) (eC (.dat (.int 0))))) (bE (eOwnIx 1 (e1 opNeg (eC (.dat (.int 1)))))))) (sSet 4 (e2 opLt (eIx (eV 0) (e2 opSub (eV 2) (eC (.dat (.int 1))))) (eV 3))) (sNil)) (sApp 1 (eV 4)))
theorem need_line_loop (p : List Int) (hp : PegsOk 41 p) (hz : p.length ≤ 1000) : ∀ (q r : List Int) (a b c : SV), p = q ++ r → ∃ a' b' c', forL (gT 2 3) bodyNL (enumF q.length (r.map .int)) [.val (.dat (tI p)), .own (.lst (List.replicate q.length (.bool true))), a, b, c, .no] = pure (.nx [.val (.dat (tI p)), .own (.lst (List.replicate p.length (.bool true))), a', b', c', .no])
  | q, [], a, b, c, e => by
    rw [List.append_nil] at e
    subst e
    exact ⟨a, b, c, rfl⟩
  | q, x :: r, a, b, c, e => by
    have e' : p = (q ++ [x]) ++ r := by rw [e]; simp
    obtain ⟨a', b', c', h⟩ := need_line_loop p hp hz (q ++ [x]) r (.val (.dat (.int (q.length : Int)))) (.val (.dat (.int x))) (.val (.dat (.bool true))) e'
    refine ⟨a', b', c', ?_⟩
    have hx : 0 ≤ x ∧ x ≤ 40 := by
      have := hp.lo x (by rw [e]; simp)
      omega
    have hl : q.length < p.length := by rw [e]; simp
    rw [List.map_cons, enumF, forL_cons]
    simp only [gT_def, lft_some, pure_bind, List.set_cons_succ, List.set_cons_zero]
    have hb : bodyNL [SV.val (D.dat (tI p)), SV.own (OW.lst (List.replicate q.length (PyData.bool true))), SV.val (D.dat (PyData.int ↑q.length)), SV.val (D.dat (PyData.int x)), c, .no] = pure (.nx [SV.val (D.dat (tI p)), SV.own (OW.lst (List.replicate (q.length + 1) (PyData.bool true))), SV.val (D.dat (PyData.int ↑q.length)), SV.val (D.dat (PyData.int x)), .val (.dat (.bool true)), .no]) := by
      unfold bodyNL
      simp [is_number_eq, hx, dB]
      cases hq : q.length with
      | zero => simp [SZ]
      | succ n =>
        have hlt : ∃ y, p[n]? = some y ∧ y < x := by
          have hn : n < p.length := by omega
          refine ⟨p[n], List.getElem?_eq_getElem hn, ?_⟩
          have hq' : q.length < p.length := hl
          have := List.pairwise_iff_getElem.mp hp.up n q.length hn hq' (by omega)
          have ex : p[q.length] = x := by
            have : p[q.length]? = some x := by rw [e]; simp
            rw [List.getElem?_eq_getElem hq'] at this
            exact Option.some.inj this
          rw [ex] at this
          exact this
        obtain ⟨y, hy, hyx⟩ := hlt
        have e3 : ((↑(n + 1) : Int) - 1) = (n : Int) := by omega
        have e4 : ((n : Int) + 1 - 1) = (n : Int) := by omega
        simp [atI_neg1, replicate_last, hy, hyx, e3, e4, SZ, dB]
        rw [if_pos (by omega)]
        simp [← List.replicate_succ']
    rw [hb]
    simp only [pure_bind]
    have : q.length + 1 = (q ++ [x]).length := by simp
    rw [this]
    exact h
theorem need_line_ok (p : List Int) (hp : PegsOk 41 p) (hz : p.length ≤ 1000) : fn_need_line [.dat (tI p)] = pure (.dat .none) := by
  obtain ⟨a, b, c, h⟩ := need_line_loop p hp hz [] p .no .no .no rfl
  simp only [List.length_nil, List.replicate_zero] at h
  have : den_need_line [.val (.dat (tI p)), .no, .no, .no, .no, .no] = pure (.nx [.val (.dat (tI p)), .val (.dat (.list (List.replicate p.length (.bool true)))), a, b, c, .val (.dat .none)]) := by
    unfold den_need_line
    simp [enumD_eq]
    rw [h]
    simp [frz, first_false_none]
  simp only [fn_need_line, runFn_def]
  simp [this]

theorem sum_ints (xs : List Int) : g_sum [.dat (.list (xs.map .int))] = some (.dat (.int xs.sum)) := by
  show (intsD (xs.map .int)).map _ = _
  have : intsD (xs.map .int) = some xs := by
    induction xs with
    | nil => rfl
    | cons x xs ih => rw [List.map_cons, intsD, ih]; rfl
  rw [this]
  rfl
theorem sum_cast (xs : List Nat) : (xs.map fun (n : Nat) => (n : Int)).sum = ((xs.sum : Nat) : Int) := by
  induction xs with
  | nil => rfl
  | cons x xs ih => simp [ih]
theorem value_eq (p : List Int) (hp : PegsOk 41 p) (hz : p.length ≤ 1000) : fn_line_value [.dat (tI p)] = pure (.dat (.int (valI p : Int))) := by
  have h1 := need_line_ok p hp hz
  have hc := nLc_map (fi := iSeq (eV 0)) (t := gN 1) (ft := bYes) (fe := eF fn_line_worth (aCons (eV 1) (aNil))) (vs := [1]) (ρ := [.val (.dat (tI p)), .no])
    p (fun x => .dat (.int x)) (fun _ => true) (fun x => .int ((fw x.toNat : Nat) : Int)) (fun x => [.val (.dat (tI p)), .val (.dat (.int x))])
    (by simp only [iSeq_def, eV_def, List.getElem?_cons_zero, pure_bind, seqD_t, List.map_map]; rfl) (by unfold SZ; omega) (fun _ _ => rfl) (fun _ _ => rfl)
    (fun x hx _ => by
      have hb := hp.lo x hx
      have := worth_eq x.toNat (by omega)
      rw [show ((x.toNat : Nat) : Int) = x by omega] at this
      simp only [eF_def, aCons_def, aNil_def, eV_def, List.getElem?_cons_succ, List.getElem?_cons_zero, pure_bind, bind_assoc, this])
  rw [List.filter_eq_self.mpr fun _ _ => rfl] at hc
  have hm : p.map (fun x => PyData.int ((fw x.toNat : Nat) : Int)) = ((p.map fun x => fw x.toNat).map fun (n : Nat) => (n : Int)).map .int := by rw [List.map_map, List.map_map]; rfl
  rw [hm] at hc
  have hs := sum_ints ((p.map fun x => fw x.toNat).map fun (n : Nat) => (n : Int))
  rw [sum_cast] at hs
  have hv : (((p.map fun x => fw x.toNat).sum : Nat) : Int) = (valI p : Int) := rfl
  rw [hv] at hs
  unfold fn_line_value den_line_value
  simp only [runFn_def, List.length_cons, List.length_nil, Nat.zero_add, Nat.reduceAdd, if_true, List.map_cons, List.map_nil, Nat.reduceSub, List.replicate, List.cons_append, List.nil_append, sSeq_def, sEx_def, sRet_def, eF_def, eN_def, aCons_def, aNil_def, eV_def, eFresh_def, List.getElem?_cons_succ, List.getElem?_cons_zero, pure_bind, bind_assoc, h1, hc, owD_lst, hs, lft_some]
def dn : Nat → List Nat
  | 0 => []
  | m + 1 => m :: dn m
abbrev bodyLL : En → M Fl := sIf (bE (e2 opLe (eF fn_line_worth (aCons (eV 3) (aNil))) (eV 1))) (sSeq (sSet 1 (e2 opSub (eV 1) (eF fn_line_worth (aCons (eV 3) (aNil))))) (sApp 2 (eV 3))) (sNil)
theorem least_loop (v : SV) : ∀ (m r : Nat) (f : List Int) (z : SV), m ≤ 42 → f.length + m ≤ 1000 → ∃ r' z', forL (gN 3) bodyLL ((dn m).map fun (k : Nat) => .dat (.int (k : Int))) [v, .val (.dat (.int (r : Int))), .own (.lst (f.map .int)), z] = pure (.nx [v, r', .own (.lst ((f ++ (gr m r).map fun (k : Nat) => (k : Int)).map .int)), z'])
  | 0, r, f, z, _, _ => ⟨_, z, by rw [gr, List.map_nil, List.append_nil]; rfl⟩
  | m + 1, r, f, z, hm, hz => by
    have hw := worth_eq m (by omega)
    rw [dn, List.map_cons, forL_cons]
    have hle : opLe (.dat (.int (fw m : Int))) (.dat (.int (r : Int))) = some (dB (decide ((fw m : Int) ≤ (r : Int)))) := opLe_i _ _
    by_cases hc : fw m ≤ r
    · obtain ⟨r', z', h⟩ := least_loop v m (r - fw m) (f ++ [(m : Int)]) (.val (.dat (.int (m : Int)))) (by omega) (by simp; omega)
      refine ⟨r', z', ?_⟩
      rw [decide_eq_true (by omega : (fw m : Int) ≤ (r : Int))] at hle
      have hb : bodyLL [v, .val (.dat (.int (r : Int))), .own (.lst (f.map .int)), .val (.dat (.int (m : Int)))] = pure (.nx [v, .val (.dat (.int ((r - fw m : Nat) : Int))), .own (.lst ((f ++ [(m : Int)]).map .int)), .val (.dat (.int (m : Int)))]) := by
        have hsub : (r : Int) - (fw m : Int) = ((r - fw m : Nat) : Int) := by omega
        have hsz : (f.map PyData.int).length < SZ := by rw [List.length_map]; unfold SZ; omega
        simp only [bodyLL, sIf_def, bE_def, e2_def, eF_def, aCons_def, aNil_def, eV_def, List.getElem?_cons_succ, List.getElem?_cons_zero, pure_bind, bind_assoc, hw, hle, lft_some, asB_dB, if_true, sSeq_def, sSet_def, opSub_i, hsub, List.set_cons_succ, List.set_cons_zero, sApp_def, hsz, List.map_append, List.map_cons, List.map_nil]
      rw [gr, if_pos hc]
      show (lft (gN 3 (.dat (.int (m : Int))) [v, .val (.dat (.int (r : Int))), .own (.lst (f.map .int)), z]) >>= _) = _
      simp only [gN, List.set_cons_succ, List.set_cons_zero, lft_some, pure_bind, hb, h, List.map_cons, List.append_assoc, List.cons_append, List.nil_append]
    · obtain ⟨r', z', h⟩ := least_loop v m r f (.val (.dat (.int (m : Int)))) (by omega) (by omega)
      refine ⟨r', z', ?_⟩
      rw [decide_eq_false (by omega : ¬ (fw m : Int) ≤ (r : Int))] at hle
      have hb : bodyLL [v, .val (.dat (.int (r : Int))), .own (.lst (f.map .int)), .val (.dat (.int (m : Int)))] = pure (.nx [v, .val (.dat (.int (r : Int))), .own (.lst (f.map .int)), .val (.dat (.int (m : Int)))]) := by
        simp only [bodyLL, sIf_def, bE_def, e2_def, eF_def, aCons_def, aNil_def, eV_def, List.getElem?_cons_succ, List.getElem?_cons_zero, pure_bind, bind_assoc, hw, hle, lft_some, asB_dB, Bool.false_eq_true, if_false, sNil_def]
      rw [gr, if_neg hc]
      show (lft (gN 3 (.dat (.int (m : Int))) [v, .val (.dat (.int (r : Int))), .own (.lst (f.map .int)), z]) >>= _) = _
      simp only [gN, List.set_cons_succ, List.set_cons_zero, lft_some, pure_bind, hb, h]
theorem down42 : downD 41 42 = (dn 42).map fun (k : Nat) => .dat (.int (k : Int)) := by
  unfold downD
  rfl
theorem least_eq (v : Nat) : fn_least_line [.dat (.int (v : Int))] = pure (.dat (tI (setd v))) := by
  obtain ⟨r', z', h⟩ := least_loop (.val (.dat (.int (v : Int)))) 42 v [] .no (by decide) (by decide)
  rw [← down42] at h
  have hi : ∀ ρ : En, iRangeDn (aCons (e2 opAdd (eC (.dat (.int 40))) (eC (.dat (.int 1)))) (aCons (e1 opNeg (eC (.dat (.int 1)))) (aCons (e1 opNeg (eC (.dat (.int 1)))) (aNil)))) ρ = pure (downD 41 42) := fun ρ => rfl
  have hrev : opRev (.dat (.list ((([] : List Int) ++ (gr 42 v).map fun (k : Nat) => (k : Int)).map .int))) = some (.dat (.list ((setd v).map .int))) := by
    show some (D.dat (.list ((([] : List Int) ++ (gr 42 v).map fun (k : Nat) => (k : Int)).map .int).reverse)) = _
    unfold setd
    rw [List.nil_append, List.map_reverse]
  have q : den_least_line [.val (.dat (.int (v : Int))), .no, .no, .no] = pure (.rt (.dat (tI (setd v)))) := by
    unfold den_least_line
    have q1 : sParEN 1 2 (eV 0) (nLst aNil) [.val (.dat (.int (v : Int))), .no, .no, .no] = pure (.nx [.val (.dat (.int (v : Int))), .val (.dat (.int (v : Int))), .own (.lst (([] : List Int).map .int)), .no]) := rfl
    rw [seq_nx q1]
    have q2 : sFor (iRangeDn (aCons (e2 opAdd (eC (.dat (.int 40))) (eC (.dat (.int 1)))) (aCons (e1 opNeg (eC (.dat (.int 1)))) (aCons (e1 opNeg (eC (.dat (.int 1)))) (aNil))))) (gN 3) bodyLL [.val (.dat (.int (v : Int))), .val (.dat (.int (v : Int))), .own (.lst (([] : List Int).map .int)), .no] = pure (.nx [.val (.dat (.int (v : Int))), r', .own (.lst ((([] : List Int) ++ (gr 42 v).map fun (k : Nat) => (k : Int)).map .int)), z']) := by
      rw [sFor_def, hi, pure_bind]
      exact h
    rw [seq_nx q2]
    have hf : ∀ o : List PyData, frz 2 [.val (.dat (.int (v : Int))), r', .own (.lst o), z'] = [.val (.dat (.int (v : Int))), r', .val (.dat (.list o)), z'] := fun _ => rfl
    simp only [sFrz_def, hf, sRet_def, eN_def, aCons_def, aNil_def, e1_def, eV_def, List.getElem?_cons_succ, List.getElem?_cons_zero, pure_bind, bind_assoc, hrev, lft_some, g_tuple_l]
  unfold fn_least_line
  simp only [runFn_def, List.length_cons, List.length_nil, Nat.zero_add, Nat.reduceAdd, if_true, List.map_cons, List.map_nil, Nat.reduceSub, List.replicate, List.cons_append, List.nil_append, q, pure_bind]
theorem settled_eq (p : List Int) (hp : PegsOk 41 p) (hz : p.length ≤ 1000) : fn_settled [.dat (tI p)] = pure (.dat (tI (setd (valI p)))) := by
  have h1 := value_eq p hp hz
  have h2 := least_eq (valI p)
  unfold fn_settled den_settled
  simp only [runFn_def, List.length_cons, List.length_nil, Nat.zero_add, Nat.reduceAdd, if_true, List.map_cons, List.map_nil, Nat.reduceSub, List.replicate, List.append_nil, sRet_def, eF_def, aCons_def, aNil_def, eV_def, List.getElem?_cons_succ, List.getElem?_cons_zero, pure_bind, bind_assoc, h1, h2]
theorem many_eq (p : List Int) (hp : PegsOk 41 p) (hz : p.length ≤ 1000) : fn_many_leaps [.dat (tI p)] = pure (.dat (.int ((p.length : Int) - ((setd (valI p)).length : Int)))) := by
  have h1 := settled_eq p hp hz
  unfold fn_many_leaps den_many_leaps
  simp only [runFn_def, List.length_cons, List.length_nil, Nat.zero_add, Nat.reduceAdd, if_true, List.map_cons, List.map_nil, Nat.reduceSub, List.replicate, List.append_nil, sRet_def, e2_def, eN_def, eF_def, aCons_def, aNil_def, eV_def, List.getElem?_cons_succ, List.getElem?_cons_zero, pure_bind, bind_assoc, h1, g_len_t, List.length_map, lft_some, opSub_i]
theorem meet_eq (p q : List Int) (hp : PegsOk 41 p) (hq : PegsOk 41 q) (hz : p.length ≤ 1000) (hy : q.length ≤ 1000) : fn_do_meet [.dat (tI p), .dat (tI q)] = pure (dB (decide (valI p = valI q))) := by
  have h1 := value_eq p hp hz
  have h2 := value_eq q hq hy
  have h3 : decide ((valI p : Int) = (valI q : Int)) = decide (valI p = valI q) := decide_eq_decide.mpr (by omega)
  unfold fn_do_meet den_do_meet
  simp only [runFn_def, List.length_cons, List.length_nil, Nat.zero_add, Nat.reduceAdd, if_true, List.map_cons, List.map_nil, Nat.reduceSub, List.replicate, List.append_nil, sRet_def, e2_def, eF_def, aCons_def, aNil_def, eV_def, List.getElem?_cons_succ, List.getElem?_cons_zero, pure_bind, bind_assoc, h1, h2, opEq_i, h3, lft_some]

theorem able_lc (p : List Int) (hz : p.length ≤ 1000) (h j : Nat) (ρ : En) (hj : j < ρ.length) (hne : h ≠ j) (hp : ρ[h]? = some (.val (.dat (tI p)))) :
    nLc (iSeq (eV h)) (gN j) (bAnd (bE (e2 opIn (e2 opAdd (eV j) (eC (.dat (.int 1)))) (eV h))) (bE (e2 opNotIn (e2 opAdd (eV j) (eC (.dat (.int 2)))) (eV h)))) (eV j) [j] ρ = pure (.lst ((ableI p).map .int)) := by
  have hw : ∀ x : D, ((wipD ρ [j]).set j (.val x))[j]? = some (.val x) ∧ ((wipD ρ [j]).set j (.val x))[h]? = some (.val (.dat (tI p))) := fun x => by
    unfold wipD wipD
    refine ⟨by rw [List.getElem?_set_self (by simpa using hj)], ?_⟩
    rw [List.getElem?_set_ne (Ne.symm hne), List.getElem?_set_ne (Ne.symm hne), hp]
  exact nLc_map (fi := iSeq (eV h)) (t := gN j) (ft := bAnd (bE (e2 opIn (e2 opAdd (eV j) (eC (.dat (.int 1)))) (eV h))) (bE (e2 opNotIn (e2 opAdd (eV j) (eC (.dat (.int 2)))) (eV h)))) (fe := eV j) (vs := [j]) (ρ := ρ)
    p (fun x => .dat (.int x)) (fun k => decide (k + 1 ∈ p) && decide (k + 2 ∉ p)) .int (fun x => (wipD ρ [j]).set j (.val (.dat (.int x))))
    (by simp only [iSeq_def, eV_def, hp, pure_bind, seqD_t, List.map_map]; rfl) (by unfold SZ; omega) (fun _ _ => rfl)
    (fun x _ => by
      have h1 := opIn_it p (x + 1)
      have h2 := opNotIn_it p (x + 2)
      simp only [bAnd_def, bE_def, e2_def, eV_def, eC_def, (hw _).1, (hw _).2, pure_bind, bind_assoc, opAdd_i, lft_some, h1, h2, asB_dB]
      cases decide (x + 1 ∈ p) <;> rfl)
    (fun x _ _ => by simp only [eV_def, (hw _).1])
theorem leaps_eq (p : List Int) (hp : PegsOk 41 p) (hz : p.length ≤ 1000) : fn_line_leaps [.dat (tI p)] = pure (.dat (tI (ableI p))) := by
  have h1 := need_line_ok p hp hz
  have hc := able_lc p hz 0 1 [.val (.dat (tI p)), .no] (by simp) (by decide) rfl
  unfold fn_line_leaps den_line_leaps
  simp only [runFn_def, List.length_cons, List.length_nil, Nat.zero_add, Nat.reduceAdd, if_true, List.map_cons, List.map_nil, Nat.reduceSub, List.replicate, List.cons_append, List.nil_append, sSeq_def, sEx_def, sRet_def, eF_def, eN_def, aCons_def, aNil_def, eV_def, eFresh_def, List.getElem?_cons_succ, List.getElem?_cons_zero, pure_bind, bind_assoc, h1, hc, owD_lst, g_tuple_l, lft_some]
theorem after_eq (p : List Int) (k : Int) (hz : p.length ≤ 1000) : fn_line_after [.dat (tI p), .dat (.int k)] = pure (.dat (tI (doneL p (ln k)))) := by
  have ht : gTupD [.dat (.int k), .dat (.int (k + 1))] = some (.dat (tI [k, k + 1])) := rfl
  have hc := nLc_map (fi := iSeq (eV 0)) (t := gN 2) (ft := bE (e2 opNotIn (eV 2) (eN gTupD (aCons (eV 1) (aCons (e2 opAdd (eV 1) (eC (.dat (.int 1)))) (aNil)))))) (fe := eV 2) (vs := [2]) (ρ := [.val (.dat (tI p)), .val (.dat (.int k)), .no])
    p (fun x => .dat (.int x)) (fun x => decide (x ∉ [k, k + 1])) .int (fun x => [.val (.dat (tI p)), .val (.dat (.int k)), .val (.dat (.int x))])
    (by simp only [iSeq_def, eV_def, List.getElem?_cons_zero, pure_bind, seqD_t, List.map_map]; rfl) (by unfold SZ; omega) (fun _ _ => rfl)
    (fun x _ => by
      have h2 := opNotIn_it [k, k + 1] x
      simp only [bE_def, e2_def, eN_def, aCons_def, aNil_def, eV_def, eC_def, List.getElem?_cons_succ, List.getElem?_cons_zero, pure_bind, bind_assoc, opAdd_i, lft_some, ht, h2, asB_dB])
    (fun x _ _ => rfl)
  have hfz : (p.filter fun x => decide (x ∉ [k, k + 1])).length ≤ 1000 := Nat.le_trans (List.length_filter_le _ _) hz
  have hadd : opAdd (.dat (.list ((p.filter fun x => decide (x ∉ [k, k + 1])).map .int))) (.dat (.list [.int (k + 2)])) = some (.dat (.list ((p.filter (fun x => decide (x ∉ [k, k + 1])) ++ [k + 2]).map .int))) := by
    rw [opAdd_ll _ _ (by simp [SZ] at *; omega), List.map_append]
    rfl
  have hs := g_sorted_i (p.filter (fun x => decide (x ∉ [k, k + 1])) ++ [k + 2]) (by simp [SZ] at *; omega)
  unfold fn_line_after den_line_after
  simp only [runFn_def, List.length_cons, List.length_nil, Nat.zero_add, Nat.reduceAdd, if_true, List.map_cons, List.map_nil, Nat.reduceSub, List.replicate, List.cons_append, List.nil_append, sRet_def, e2_def, eN_def, aCons_def, aNil_def, eV_def, eC_def, eFresh_def, List.getElem?_cons_succ, List.getElem?_cons_zero, pure_bind, bind_assoc, hc, owD_lst, opAdd_i, lft_some, gLstD1, hadd, hs, g_tuple_l]
  rfl
def lastK (p : List Int) : Int := ((ableI p).getLast?).getD 0
theorem lastK_some {p : List Int} (h : ableI p ≠ []) : (ableI p).getLast? = some (lastK p) ∧ CanL p (lastK p) := by
  cases e : (ableI p).getLast? with
  | none => exact absurd (List.getLast?_eq_none_iff.mp e) h
  | some k =>
    unfold lastK
    rw [e]
    exact ⟨rfl, ableI_mem.mp (List.mem_of_getLast? e)⟩
theorem ix_last {xs : List Int} {k : Int} (h : xs.getLast? = some k) : opIx (.dat (.list (xs.map .int))) (.dat (.int (-1))) = some (.dat (.int k)) := by
  show (atI (xs.map PyData.int) (-1)).map D.dat = _
  rw [atI_neg1, List.getLast?_map, h]
  rfl
def plays : List Int → Nat → List Int
  | _, 0 => []
  | h, n + 1 => lastK h :: plays (doneL h (ln (lastK h))) n
theorem plays_len : ∀ (n : Nat) (h : List Int), (plays h n).length = n
  | 0, _ => rfl
  | n + 1, h => by rw [plays, List.length_cons, plays_len n]
/-- a standing with more pegs than the settled one is not dead -/
theorem Ply.more {v : Nat} (hv : v < 144) {h : List Int} (hp : Ply v h) {n : Nat} (e : h.length = (setd v).length + (n + 1)) : ableI h ≠ [] ∧ Ply v (doneL h (ln (lastK h))) ∧ (doneL h (ln (lastK h))).length = (setd v).length + n := by
  have hne : ableI h ≠ [] := fun z => by
    have := hp.dead (able_nil z)
    rw [this] at e
    omega
  obtain ⟨_, h2, h3⟩ := hp.leap hv (lastK_some hne).2
  exact ⟨hne, h2, by omega⟩
abbrev bodySe : En → M Fl := sSeq (sSet 4 (eIx (eFresh (nLc (iSeq (eV 2)) (gN 5) (bAnd (bE (e2 opIn (e2 opAdd (eV 5) (eC (.dat (.int 1)))) (eV 2))) (bE (e2 opNotIn (e2 opAdd (eV 5) (eC (.dat (.int 2)))) (eV 2)))) (eV 5) [5])) (e1 opNeg (eC (.dat (.int 1)))))) (sSeq (sApp 1 (eV 4)) (sSet 2 (eF fn_line_after (aCons (eV 2) (aCons (eV 4) (aNil))))))
theorem settling_loop {v : Nat} (hv : v < 144) (s0 : SV) : ∀ (ds : List D) (h f : List Int) (s3 s4 s5 : SV), Ply v h → h.length = (setd v).length + ds.length → f.length + ds.length ≤ 1000 → ∃ t3 t4 t5, forL (gN 3) bodySe ds [s0, .own (.lst (f.map .int)), .val (.dat (tI h)), s3, s4, s5] = pure (.nx [s0, .own (.lst ((f ++ plays h ds.length).map .int)), .val (.dat (tI (setd v))), t3, t4, t5])
  | [], h, f, s3, s4, s5, hp, e, _ => by
    have := (Ply.ends hv h.length h rfl hp).2.2 (by simpa using e.symm)
    exact ⟨s3, s4, s5, by rw [this]; simp [plays]⟩
  | d :: ds, h, f, s3, s4, s5, hp, e, hf => by
    obtain ⟨hne, hp2, e2⟩ := hp.more hv (n := ds.length) e
    have hz := pegs_len hp.ok (by decide)
    obtain ⟨t3, t4, t5, hl⟩ := settling_loop hv s0 ds (doneL h (ln (lastK h))) (f ++ [lastK h]) (.val d) (.val (.dat (.int (lastK h)))) s5 hp2 e2 (by simp at hf ⊢; omega)
    refine ⟨t3, t4, t5, ?_⟩
    have hc := able_lc h (by omega) 2 5 [s0, .own (.lst (f.map .int)), .val (.dat (tI h)), .val d, s4, s5] (by simp) (by decide) rfl
    have hx := ix_last (lastK_some hne).1
    have ha := after_eq h (lastK h) (by omega)
    have hsz : (f.map PyData.int).length < SZ := by rw [List.length_map]; simp at hf; unfold SZ; omega
    have hb : bodySe [s0, .own (.lst (f.map .int)), .val (.dat (tI h)), .val d, s4, s5] = pure (.nx [s0, .own (.lst ((f ++ [lastK h]).map .int)), .val (.dat (tI (doneL h (ln (lastK h))))), .val d, .val (.dat (.int (lastK h))), s5]) := by
      unfold bodySe
      simp only [sSeq_def, sSet_def, eIx_def, eFresh_def, e1_def, eC_def, hc, pure_bind, bind_assoc, owD_lst, opNeg_i, lft_some, ixM_dat, hx, List.set_cons_succ, List.set_cons_zero, sApp_def, eV_def, eF_def, aCons_def, aNil_def, List.getElem?_cons_succ, List.getElem?_cons_zero, hsz, if_true, ha, List.map_append, List.map_cons, List.map_nil]
    rw [forL_cons]
    show (lft (some [s0, .own (.lst (f.map .int)), .val (.dat (tI h)), .val d, s4, s5]) >>= _) = _
    simp only [lft_some, pure_bind, hb, hl, plays, List.length_cons, List.append_assoc, List.cons_append, List.nil_append]
theorem settling_eq {v : Nat} (hv : v < 144) (p : List Int) (hp : Ply v p) : fn_settling [.dat (tI p)] = pure (.dat (tI (plays p (p.length - (setd v).length)))) := by
  have hz := pegs_len hp.ok (by decide)
  have h41 : PegsOk 41 p := ok_up hp.ok (by decide)
  have h1 := need_line_ok p h41 (by omega)
  have h2 := many_eq p h41 (by omega)
  rw [hp.val] at h2
  have hle := (Ply.ends hv p.length p rfl hp).2.1
  have e0 : (p.length : Int) - ((setd v).length : Int) = ((p.length - (setd v).length : Nat) : Int) := by omega
  rw [e0] at h2
  obtain ⟨t3, t4, t5, hl⟩ := settling_loop hv (.val (.dat (tI p))) (rangeD 0 (p.length - (setd v).length)) p [] .no .no .no hp (by rw [rangeD_eq]; simp; omega) (by rw [rangeD_eq]; simp; omega)
  have hrl : (rangeD 0 (p.length - (setd v).length)).length = p.length - (setd v).length := by rw [rangeD_eq]; simp
  rw [hrl, List.nil_append] at hl
  have q : den_settling [.val (.dat (tI p)), .no, .no, .no, .no, .no] = pure (.rt (.dat (tI (plays p (p.length - (setd v).length))))) := by
    unfold den_settling
    have q0 : sEx (eF fn_need_line (aCons (eV 0) (aNil))) [.val (.dat (tI p)), .no, .no, .no, .no, .no] = pure (.nx [.val (.dat (tI p)), .no, .no, .no, .no, .no]) := by
      simp only [sEx_def, eF_def, aCons_def, aNil_def, eV_def, List.getElem?_cons_zero, pure_bind, bind_assoc, h1]
    rw [seq_nx q0]
    have q1 : sParNE 1 2 (nLst (aNil)) (eV 0) [.val (.dat (tI p)), .no, .no, .no, .no, .no] = pure (.nx [.val (.dat (tI p)), .own (.lst (([] : List Int).map .int)), .val (.dat (tI p)), .no, .no, .no]) := rfl
    rw [seq_nx q1]
    have q2 : sFor (iRange1 (aCons (eF fn_many_leaps (aCons (eV 0) (aNil))) (aNil))) (gN 3) bodySe [.val (.dat (tI p)), .own (.lst (([] : List Int).map .int)), .val (.dat (tI p)), .no, .no, .no] = pure (.nx [.val (.dat (tI p)), .own (.lst ((plays p (p.length - (setd v).length)).map .int)), .val (.dat (tI (setd v))), t3, t4, t5]) := by
      simp only [sFor_def, iRange1_def, eF_def, aCons_def, aNil_def, eV_def, List.getElem?_cons_zero, pure_bind, bind_assoc, h2, inLine_ok (i := ((p.length - (setd v).length : Nat) : Int)) (by omega) (by omega), if_true, Int.toNat_natCast, hl]
    rw [seq_nx q2]
    have hf : ∀ (o : List PyData) (a b c d : SV), frz 1 [.val (.dat (tI p)), .own (.lst o), a, b, c, d] = [.val (.dat (tI p)), .val (.dat (.list o)), a, b, c, d] := fun _ _ _ _ _ => rfl
    simp only [sFrz_def, hf, sRet_def, eN_def, aCons_def, aNil_def, eV_def, List.getElem?_cons_succ, List.getElem?_cons_zero, pure_bind, bind_assoc, lft_some, g_tuple_l]
  unfold fn_settling
  simp only [runFn_def, List.length_cons, List.length_nil, Nat.zero_add, Nat.reduceAdd, if_true, List.map_cons, List.map_nil, Nat.reduceSub, List.replicate, List.cons_append, List.nil_append, q, pure_bind]

/-! ### the ends of all plays -/
abbrev ePair (q : List Int) (t : Int) : PyData := .tuple [tI q, .int t]
def keyE (q : List Int) (t : Int) : NestedKey := .tup [keyI q, .num t]
theorem keyOf_E (q : List Int) (t : Int) : DL.keyOf (ePair q t) = some (keyE q t) := by
  show (keysOf [tI q, .int t]).map NestedKey.tup = _
  rw [keysOf, keyOf_I]
  rfl
theorem data_E (q : List Int) (t : Int) : (keyE q t).data = ePair q t := (NS.data_of_key (ePair q t) (keyE q t) (keyOf_E q t)).symm
theorem keysOf_E (q : List Int) (t : Int) : ∀ n : Nat, keysOf (List.replicate n (ePair q t)) = some (List.replicate n (keyE q t))
  | 0 => rfl
  | n + 1 => by
    rw [List.replicate_succ, keysOf, keyOf_E, keysOf_E q t n]
    rfl
theorem dd_rep {α : Type} [DecidableEq α] (k : α) (n : Nat) : NS.dd (List.replicate (n + 1) k) = [k] := by
  have h1 := NS.nodup_dd (List.replicate (n + 1) k)
  have h2 : ∀ x ∈ NS.dd (List.replicate (n + 1) k), x = k := fun x hx => (List.mem_replicate.mp (NS.mem_dd.mp hx)).2
  have h3 : k ∈ NS.dd (List.replicate (n + 1) k) := NS.mem_dd.mpr (List.mem_replicate.mpr ⟨by omega, rfl⟩)
  have h4 := NS.short h1 (m := [k]) fun x hx => by rw [h2 x hx]; exact List.mem_cons_self
  cases e : NS.dd (List.replicate (n + 1) k) with
  | nil => rw [e] at h3; cases h3
  | cons x t =>
    rw [e] at h4 h2
    cases t with
    | nil => rw [h2 x List.mem_cons_self]
    | cons y t => simp at h4
theorem sortSet_E (q : List Int) (t : Int) (n : Nat) : opSortSet (.dat (.list (List.replicate (n + 1) (ePair q t)))) = some (.dat (.list [ePair q t])) := by
  have dep : PyData.depthAll (q.map .int) = 0 := W.depth_ints q
  have h2 : (ePair q t).depth = 2 := by
    show max (PyData.depthAll (q.map .int) + 1) (max 0 0) + 1 = 2
    rw [dep]
    rfl
  have kd : (keyE q t).depth ≤ 8 := by
    have : ∀ p : List Int, NestedKey.depthAll (p.map .num) = 0 := by
      intro p
      induction p with
      | nil => rfl
      | cons x p ih => rw [List.map_cons, NestedKey.depthAll, ih]; rfl
    show max (NestedKey.depthAll (q.map .num) + 1) (max 0 0) + 1 ≤ 8
    rw [this]
    decide
  have kn : NS.num (keyE q t) = true := by
    show (NS.num (keyI q) && (true && true)) = true
    rw [num_I]
    rfl
  have ok : setOk (List.replicate (n + 1) (keyE q t)) = true := by
    unfold setOk
    rw [dd_rep, List.map_cons, List.map_nil, data_E, Bool.and_eq_true, Bool.and_eq_true]
    refine ⟨⟨?_, rfl⟩, ?_⟩
    · rw [List.all_eq_true]
      intro k hk
      rw [(List.mem_replicate.mp hk).2]
      simp [kn, kd]
      rfl
    · unfold sortOk
      simp only [Bool.and_eq_true, Bool.or_eq_true]
      refine ⟨⟨⟨rfl, decide_eq_true (by rw [PyData.depthAll, h2]; decide)⟩, ?_⟩, .inl ?_⟩
      · rw [List.all_eq_true]
        intro x hx
        rw [List.all_eq_true]
        intro y hy
        rw [List.mem_singleton.mp hx, List.mem_singleton.mp hy]
        show (W.alikeAll (q.map .int) (q.map .int) && (true && true)) = true
        rw [W.alike_ints]
        rfl
      · rw [List.all_eq_true]
        intro x hx
        rw [List.mem_singleton.mp hx]
  unfold opSortSet
  dsimp only
  rw [keysOf_E]
  show (if setOk (List.replicate (n + 1) (keyE q t)) = true then _ else _) = _
  rw [if_pos ok, dd_rep, List.map_cons, List.map_nil, data_E]
  unfold sortD
  simp
theorem len12 {p : List Int} (hp : PegsOk 12 p) : p.length ≤ 12 := by
  have := NS.short (up_nodup hp.up) (m := (List.range 12).map fun (i : Nat) => (i : Int)) fun x hx => by
    have := hp.lo x hx
    exact List.mem_map.mpr ⟨x.toNat, List.mem_range.mpr (by omega), by omega⟩
  simpa using this
abbrev bodyHe : En → M Fl := sSeq (sSet 6 (eFresh (nLc (iSeq (eV 5)) (gN 7) (bAnd (bE (e2 opIn (e2 opAdd (eV 7) (eC (.dat (.int 1)))) (eV 5))) (bE (e2 opNotIn (e2 opAdd (eV 7) (eC (.dat (.int 2)))) (eV 5)))) (eV 7) [7]))) (sSeq (sIf (bE (e2 opEq (eV 6) (eN gLstD (aNil)))) (sSet 1 (e2 opAdd (eV 1) (eN gLstD (aCons (eN gTupD (aCons (eV 5) (aCons (eV 3) (aNil)))) (aNil))))) (sNil)) (sSet 4 (e2 opAdd (eV 4) (eFresh (nLc (iSeq (eV 6)) (gN 7) (bYes) (eN g_tuple (aCons (eN g_sorted (aCons (e2 opAdd (eFresh (nLc (iSeq (eV 5)) (gN 8) (bAnd (bE (e2 opNe (eV 8) (eV 7))) (bE (e2 opNe (eV 8) (e2 opAdd (eV 7) (eC (.dat (.int 1))))))) (eV 8) [8])) (eN gLstD (aCons (e2 opAdd (eV 7) (eC (.dat (.int 2)))) (aNil)))) (aNil))) (aNil))) [7])))))
abbrev bodyTu : En → M Fl := sSeq (sSet 4 (eN gLstD (aNil))) (sSeq (sFor (iSeq (eV 2)) (gN 5) bodyHe) (sSet 2 (e1 opSortSet (eV 4))))
def nxL (q : List Int) : List (List Int) := (ableI q).map fun k => doneL q (ln k)
abbrev envE (s0 s2 s3 : SV) (E : PyData) (m : Nat) (fo : List (List Int)) (s5 s6 s7 s8 : SV) : En := [s0, .val (.dat (.list (List.replicate m E))), s2, s3, .val (.dat (.list (fo.map tI))), s5, s6, s7, s8]
theorem opEq_lnil (xs : List Int) : opEq (.dat (.list (xs.map .int))) (.dat (.list [])) = some (dB (decide (xs = []))) := opEq_t (α := List Int) (by decide) xs []
theorem nx_lc (q : List Int) (hz : q.length ≤ 12) (s0 s1 s2 s3 s4 s7 s8 : SV) :
    nLc (iSeq (eV 6)) (gN 7) (bYes) (eN g_tuple (aCons (eN g_sorted (aCons (e2 opAdd (eFresh (nLc (iSeq (eV 5)) (gN 8) (bAnd (bE (e2 opNe (eV 8) (eV 7))) (bE (e2 opNe (eV 8) (e2 opAdd (eV 7) (eC (.dat (.int 1))))))) (eV 8) [8])) (eN gLstD (aCons (e2 opAdd (eV 7) (eC (.dat (.int 2)))) (aNil)))) (aNil))) (aNil))) [7]
      [s0, s1, s2, s3, s4, .val (.dat (tI q)), .val (.dat (.list ((ableI q).map .int))), s7, s8] = pure (.lst ((nxL q).map tI)) := by
  have haz : (ableI q).length ≤ 12 := Nat.le_trans (List.length_filter_le _ _) hz
  have h := nLc_map (fi := iSeq (eV 6)) (t := gN 7) (ft := bYes) (fe := eN g_tuple (aCons (eN g_sorted (aCons (e2 opAdd (eFresh (nLc (iSeq (eV 5)) (gN 8) (bAnd (bE (e2 opNe (eV 8) (eV 7))) (bE (e2 opNe (eV 8) (e2 opAdd (eV 7) (eC (.dat (.int 1))))))) (eV 8) [8])) (eN gLstD (aCons (e2 opAdd (eV 7) (eC (.dat (.int 2)))) (aNil)))) (aNil))) (aNil))) (vs := [7]) (ρ := [s0, s1, s2, s3, s4, .val (.dat (tI q)), .val (.dat (.list ((ableI q).map .int))), s7, s8])
    (ableI q) (fun k => .dat (.int k)) (fun _ => true) (fun k => tI (doneL q (ln k))) (fun k => [s0, s1, s2, s3, s4, .val (.dat (tI q)), .val (.dat (.list ((ableI q).map .int))), .val (.dat (.int k)), s8])
    (by simp only [iSeq_def, eV_def, List.getElem?_cons_succ, List.getElem?_cons_zero, pure_bind, List.map_map]; rfl) (by unfold SZ; omega) (fun _ _ => rfl) (fun _ _ => rfl)
    (fun k _ _ => by
      have hc := nLc_map (fi := iSeq (eV 5)) (t := gN 8) (ft := bAnd (bE (e2 opNe (eV 8) (eV 7))) (bE (e2 opNe (eV 8) (e2 opAdd (eV 7) (eC (.dat (.int 1))))))) (fe := eV 8) (vs := [8]) (ρ := [s0, s1, s2, s3, s4, .val (.dat (tI q)), .val (.dat (.list ((ableI q).map .int))), .val (.dat (.int k)), s8])
        q (fun x => .dat (.int x)) (fun x => decide (x ∉ [k, k + 1])) .int (fun x => [s0, s1, s2, s3, s4, .val (.dat (tI q)), .val (.dat (.list ((ableI q).map .int))), .val (.dat (.int k)), .val (.dat (.int x))])
        (by simp only [iSeq_def, eV_def, List.getElem?_cons_succ, List.getElem?_cons_zero, pure_bind, seqD_t, List.map_map]; rfl) (by unfold SZ; omega) (fun _ _ => rfl)
        (fun x _ => by
          simp only [bAnd_def, bE_def, e2_def, eV_def, eC_def, List.getElem?_cons_succ, List.getElem?_cons_zero, pure_bind, bind_assoc, opAdd_i, lft_some, opNe_i, asB_dB]
          by_cases h1 : x = k
          · subst h1
            simp
          · by_cases h2 : x = k + 1
            · subst h2
              simp
            · simp [h1, h2])
        (fun x _ _ => rfl)
      have hfz : (q.filter fun x => decide (x ∉ [k, k + 1])).length ≤ 12 := Nat.le_trans (List.length_filter_le _ _) hz
      have hadd : opAdd (.dat (.list ((q.filter fun x => decide (x ∉ [k, k + 1])).map .int))) (.dat (.list [.int (k + 2)])) = some (.dat (.list ((q.filter (fun x => decide (x ∉ [k, k + 1])) ++ [k + 2]).map .int))) := by
        rw [opAdd_ll _ _ (by simp [SZ] at *; omega), List.map_append]
        rfl
      have hs := g_sorted_i (q.filter (fun x => decide (x ∉ [k, k + 1])) ++ [k + 2]) (by simp [SZ] at *; omega)
      simp only [eN_def, aCons_def, aNil_def, e2_def, eFresh_def, hc, eV_def, eC_def, List.getElem?_cons_succ, List.getElem?_cons_zero, pure_bind, bind_assoc, owD_lst, opAdd_i, lft_some, gLstD1, hadd, hs, g_tuple_l]
      rfl)
  rw [List.filter_eq_self.mpr fun _ _ => rfl] at h
  rw [h]
  unfold nxL
  rw [List.map_map]
  rfl
theorem here_loop {v : Nat} (hv : v < 144) {N t : Nat} (s0 s2 : SV) : ∀ (qs : List (List Int)) (m : Nat) (fo : List (List Int)) (s5 s6 s7 s8 : SV), (∀ q ∈ qs, Ply v q ∧ q.length + t = N) → m + qs.length ≤ 100000 → fo.length + qs.length * 12 ≤ 100000 →
    ∃ m' t5 t6 t7 t8, forL (gN 5) bodyHe (qs.map fun q => .dat (tI q)) (envE s0 s2 (.val (.dat (.int (t : Int)))) (ePair (setd v) ((N : Int) - ((setd v).length : Int))) m fo s5 s6 s7 s8) = pure (.nx (envE s0 s2 (.val (.dat (.int (t : Int)))) (ePair (setd v) ((N : Int) - ((setd v).length : Int))) m' (fo ++ qs.flatMap nxL) t5 t6 t7 t8)) ∧ m ≤ m' ∧ m' ≤ m + qs.length ∧ (m' = m → ∀ q ∈ qs, ableI q ≠ [])
  | [], m, fo, s5, s6, s7, s8, _, _, _ => ⟨m, s5, s6, s7, s8, by rw [List.flatMap_nil, List.append_nil]; rfl, Nat.le_refl _, by simp, fun _ q h => (nomatch h)⟩
  | q :: qs, m, fo, s5, s6, s7, s8, hq, hm, hf => by
    obtain ⟨hp, hl⟩ := hq q List.mem_cons_self
    have hz12 : q.length ≤ 12 := len12 hp.ok
    have hnz : (nxL q).length ≤ 12 := by
      unfold nxL
      rw [List.length_map]
      exact Nat.le_trans (List.length_filter_le _ _) hz12
    have hms : (q :: qs).length * 12 = qs.length * 12 + 12 := by rw [List.length_cons, Nat.succ_mul]
    rw [List.length_cons] at hm
    have hc := able_lc q (by omega) 5 7 (envE s0 s2 (.val (.dat (.int (t : Int)))) (ePair (setd v) ((N : Int) - ((setd v).length : Int))) m fo (.val (.dat (tI q))) s6 s7 s8) (by simp) (by decide) rfl
    have q1 : ∀ m, sSet 6 (eFresh (nLc (iSeq (eV 5)) (gN 7) (bAnd (bE (e2 opIn (e2 opAdd (eV 7) (eC (.dat (.int 1)))) (eV 5))) (bE (e2 opNotIn (e2 opAdd (eV 7) (eC (.dat (.int 2)))) (eV 5)))) (eV 7) [7])) (envE s0 s2 (.val (.dat (.int (t : Int)))) (ePair (setd v) ((N : Int) - ((setd v).length : Int))) m fo (.val (.dat (tI q))) s6 s7 s8) = pure (.nx (envE s0 s2 (.val (.dat (.int (t : Int)))) (ePair (setd v) ((N : Int) - ((setd v).length : Int))) m fo (.val (.dat (tI q))) (.val (.dat (.list ((ableI q).map .int)))) s7 s8)) := fun m => by
      have hc := able_lc q (by omega) 5 7 (envE s0 s2 (.val (.dat (.int (t : Int)))) (ePair (setd v) ((N : Int) - ((setd v).length : Int))) m fo (.val (.dat (tI q))) s6 s7 s8) (by simp) (by decide) rfl
      simp only [sSet_def, eFresh_def, hc, pure_bind, bind_assoc, owD_lst, List.set_cons_succ, List.set_cons_zero]
    have q3 : ∀ m, sSet 4 (e2 opAdd (eV 4) (eFresh (nLc (iSeq (eV 6)) (gN 7) (bYes) (eN g_tuple (aCons (eN g_sorted (aCons (e2 opAdd (eFresh (nLc (iSeq (eV 5)) (gN 8) (bAnd (bE (e2 opNe (eV 8) (eV 7))) (bE (e2 opNe (eV 8) (e2 opAdd (eV 7) (eC (.dat (.int 1))))))) (eV 8) [8])) (eN gLstD (aCons (e2 opAdd (eV 7) (eC (.dat (.int 2)))) (aNil)))) (aNil))) (aNil))) [7]))) (envE s0 s2 (.val (.dat (.int (t : Int)))) (ePair (setd v) ((N : Int) - ((setd v).length : Int))) m fo (.val (.dat (tI q))) (.val (.dat (.list ((ableI q).map .int)))) s7 s8) = pure (.nx (envE s0 s2 (.val (.dat (.int (t : Int)))) (ePair (setd v) ((N : Int) - ((setd v).length : Int))) m (fo ++ nxL q) (.val (.dat (tI q))) (.val (.dat (.list ((ableI q).map .int)))) s7 s8)) := fun m => by
      have hn := nx_lc q hz12 s0 (.val (.dat (.list (List.replicate m (ePair (setd v) ((N : Int) - ((setd v).length : Int))))))) s2 (.val (.dat (.int (t : Int)))) (.val (.dat (.list (fo.map tI)))) s7 s8
      have hadd : opAdd (.dat (.list (fo.map tI))) (.dat (.list ((nxL q).map tI))) = some (.dat (.list ((fo ++ nxL q).map tI))) := by
        rw [opAdd_ll _ _ (by simp [SZ]; omega), List.map_append]
      simp only [sSet_def, e2_def, eV_def, eFresh_def, hn, List.getElem?_cons_succ, List.getElem?_cons_zero, pure_bind, bind_assoc, owD_lst, hadd, lft_some, List.set_cons_succ, List.set_cons_zero]
    by_cases hd : ableI q = []
    · have e := hp.dead (able_nil hd)
      have q2 : sIf (bE (e2 opEq (eV 6) (eN gLstD (aNil)))) (sSet 1 (e2 opAdd (eV 1) (eN gLstD (aCons (eN gTupD (aCons (eV 5) (aCons (eV 3) (aNil)))) (aNil))))) (sNil) (envE s0 s2 (.val (.dat (.int (t : Int)))) (ePair (setd v) ((N : Int) - ((setd v).length : Int))) m fo (.val (.dat (tI q))) (.val (.dat (.list ((ableI q).map .int)))) s7 s8) = pure (.nx (envE s0 s2 (.val (.dat (.int (t : Int)))) (ePair (setd v) ((N : Int) - ((setd v).length : Int))) (m + 1) fo (.val (.dat (tI q))) (.val (.dat (.list ((ableI q).map .int)))) s7 s8)) := by
        have h1 := opEq_lnil (ableI q)
        rw [decide_eq_true hd] at h1
        have ht : (t : Int) = (N : Int) - ((setd v).length : Int) := by rw [← e]; omega
        have h2 : gTupD [.dat (tI q), .dat (.int (t : Int))] = some (.dat (ePair (setd v) ((N : Int) - ((setd v).length : Int)))) := by
          rw [ht, e]
          rfl
        have hadd : opAdd (.dat (.list (List.replicate m (ePair (setd v) ((N : Int) - ((setd v).length : Int)))))) (.dat (.list [ePair (setd v) ((N : Int) - ((setd v).length : Int))])) = some (.dat (.list (List.replicate (m + 1) (ePair (setd v) ((N : Int) - ((setd v).length : Int)))))) := by
          rw [opAdd_ll _ _ (by simp [SZ]; omega), List.replicate_succ']
        simp only [sIf_def, bE_def, e2_def, eV_def, eN_def, aCons_def, aNil_def, List.getElem?_cons_succ, List.getElem?_cons_zero, pure_bind, bind_assoc, gLstD0, h1, lft_some, asB_dB, if_true, sSet_def, h2, gLstD1, hadd, List.set_cons_succ, List.set_cons_zero]
      obtain ⟨m', t5, t6, t7, t8, hl2, l1, l2, l3⟩ := here_loop (t := t) hv s0 s2 qs (m + 1) (fo ++ nxL q) (.val (.dat (tI q))) (.val (.dat (.list ((ableI q).map .int)))) s7 s8 (fun y hy => hq y (List.mem_cons_of_mem _ hy)) (by omega) (by rw [List.length_append]; omega)
      refine ⟨m', t5, t6, t7, t8, ?_, by omega, by rw [List.length_cons]; omega, fun e => by omega⟩
      rw [List.map_cons, forL_cons]
      show (lft (some (envE s0 s2 (.val (.dat (.int (t : Int)))) (ePair (setd v) ((N : Int) - ((setd v).length : Int))) m fo (.val (.dat (tI q))) s6 s7 s8)) >>= _) = _
      have hb : bodyHe (envE s0 s2 (.val (.dat (.int (t : Int)))) (ePair (setd v) ((N : Int) - ((setd v).length : Int))) m fo (.val (.dat (tI q))) s6 s7 s8) = pure (.nx (envE s0 s2 (.val (.dat (.int (t : Int)))) (ePair (setd v) ((N : Int) - ((setd v).length : Int))) (m + 1) (fo ++ nxL q) (.val (.dat (tI q))) (.val (.dat (.list ((ableI q).map .int)))) s7 s8)) := (seq_nx (q1 m)).trans ((seq_nx q2).trans (q3 (m + 1)))
      simp only [lft_some, pure_bind, hb, hl2, List.flatMap_cons, List.append_assoc]
    · have q2 : sIf (bE (e2 opEq (eV 6) (eN gLstD (aNil)))) (sSet 1 (e2 opAdd (eV 1) (eN gLstD (aCons (eN gTupD (aCons (eV 5) (aCons (eV 3) (aNil)))) (aNil))))) (sNil) (envE s0 s2 (.val (.dat (.int (t : Int)))) (ePair (setd v) ((N : Int) - ((setd v).length : Int))) m fo (.val (.dat (tI q))) (.val (.dat (.list ((ableI q).map .int)))) s7 s8) = pure (.nx (envE s0 s2 (.val (.dat (.int (t : Int)))) (ePair (setd v) ((N : Int) - ((setd v).length : Int))) m fo (.val (.dat (tI q))) (.val (.dat (.list ((ableI q).map .int)))) s7 s8)) := by
        have h1 := opEq_lnil (ableI q)
        rw [decide_eq_false hd] at h1
        simp only [sIf_def, bE_def, e2_def, eV_def, eN_def, aNil_def, List.getElem?_cons_succ, List.getElem?_cons_zero, pure_bind, bind_assoc, gLstD0, h1, lft_some, asB_dB, Bool.false_eq_true, if_false, sNil_def]
      obtain ⟨m', t5, t6, t7, t8, hl2, l1, l2, l3⟩ := here_loop (t := t) hv s0 s2 qs m (fo ++ nxL q) (.val (.dat (tI q))) (.val (.dat (.list ((ableI q).map .int)))) s7 s8 (fun y hy => hq y (List.mem_cons_of_mem _ hy)) (by omega) (by rw [List.length_append]; omega)
      refine ⟨m', t5, t6, t7, t8, ?_, l1, by rw [List.length_cons]; omega, fun e y hy => ?_⟩
      · rw [List.map_cons, forL_cons]
        show (lft (some (envE s0 s2 (.val (.dat (.int (t : Int)))) (ePair (setd v) ((N : Int) - ((setd v).length : Int))) m fo (.val (.dat (tI q))) s6 s7 s8)) >>= _) = _
        have hb : bodyHe (envE s0 s2 (.val (.dat (.int (t : Int)))) (ePair (setd v) ((N : Int) - ((setd v).length : Int))) m fo (.val (.dat (tI q))) s6 s7 s8) = pure (.nx (envE s0 s2 (.val (.dat (.int (t : Int)))) (ePair (setd v) ((N : Int) - ((setd v).length : Int))) m (fo ++ nxL q) (.val (.dat (tI q))) (.val (.dat (.list ((ableI q).map .int)))) s7 s8)) := (seq_nx (q1 m)).trans ((seq_nx q2).trans (q3 m))
        simp only [lft_some, pure_bind, hb, hl2, List.flatMap_cons, List.append_assoc]
      · rcases List.mem_cons.mp hy with e2 | hy
        · rw [e2]; exact hd
        · exact l3 e y hy

theorem nxL_ok {v : Nat} (hv : v < 144) {q : List Int} (hp : Ply v q) {r : List Int} (h : r ∈ nxL q) : Ply v r ∧ r.length + 1 = q.length ∧ r ≠ [] := by
  obtain ⟨k, hk, rfl⟩ := List.mem_map.mp h
  obtain ⟨_, a, b⟩ := hp.leap hv (ableI_mem.mp hk)
  refine ⟨a, b, fun e => ?_⟩
  have : k + 2 ∈ doneL q (ln k) := mem_done.mpr (.inr rfl)
  rw [e] at this
  cases this
theorem turn_loop {v : Nat} (hv : v < 144) {N : Nat} (hN : N ≤ 12) (s0 : SV) : ∀ (j t m : Nat) (L : List (List Int)) (s3 s4 s5 s6 s7 s8 : SV), t + j = N + 1 → (∀ q ∈ L, Ply v q ∧ q.length + t = N) → L.length ≤ 306 → m ≤ 306 * t → (0 < m ∨ L ≠ []) →
    ∃ m' t2 t3 t4 t5 t6 t7 t8, forL (gN 3) bodyTu ((List.range' t j).map fun (i : Nat) => .dat (.int (i : Int))) [s0, .val (.dat (.list (List.replicate m (ePair (setd v) ((N : Int) - ((setd v).length : Int)))))), .val (.dat (.list (L.map tI))), s3, s4, s5, s6, s7, s8] = pure (.nx [s0, .val (.dat (.list (List.replicate m' (ePair (setd v) ((N : Int) - ((setd v).length : Int)))))), t2, t3, t4, t5, t6, t7, t8]) ∧ 0 < m'
  | 0, t, m, L, s3, s4, s5, s6, s7, s8, ht, hL, _, _, h0 => by
    refine ⟨m, _, s3, s4, s5, s6, s7, s8, rfl, ?_⟩
    rcases h0 with h | h
    · exact h
    · obtain ⟨q, r, e⟩ := List.exists_cons_of_ne_nil h
      have := (hL q (by rw [e]; exact List.mem_cons_self)).2
      omega
  | j + 1, t, m, L, s3, s4, s5, s6, s7, s8, ht, hL, hz, hm, h0 => by
    obtain ⟨m1, t5, t6, t7, t8, hh, l1, l2, l3⟩ := here_loop (N := N) (t := t) hv s0 (.val (.dat (.list (L.map tI)))) L m [] s5 s6 s7 s8 hL (by omega) (by simp; omega)
    rw [List.nil_append] at hh
    have hfo : ∀ r ∈ L.flatMap nxL, Ply v r ∧ r.length + (t + 1) = N ∧ r ≠ [] := fun r hr => by
      obtain ⟨q, hq, hr⟩ := List.mem_flatMap.mp hr
      obtain ⟨a, b⟩ := hL q hq
      obtain ⟨c, d, e⟩ := nxL_ok hv a hr
      exact ⟨c, by omega, e⟩
    have hfew : (NS.dd (L.flatMap nxL)).length ≤ 306 := few_ply hv (N - (t + 1)) (by omega) _ fun r hr => ⟨(hfo r hr).1, by have := (hfo r hr).2.1; omega⟩
    obtain ⟨rs, hs, hmem, hlen⟩ := sortSet_I (L.flatMap nxL) (fun r hr => (hfo r hr).2.2) hfew
    have hne : 0 < m1 ∨ rs ≠ [] := by
      by_cases hm1 : 0 < m1
      · exact .inl hm1
      · right
        have e0 : m1 = m := by omega
        have hL0 : L ≠ [] := by
          rcases h0 with h | h
          · omega
          · exact h
        obtain ⟨q, r, e⟩ := List.exists_cons_of_ne_nil hL0
        have hq : q ∈ L := by rw [e]; exact List.mem_cons_self
        obtain ⟨k, ks, ek⟩ := List.exists_cons_of_ne_nil (l3 e0 q hq)
        have h1 : doneL q (ln k) ∈ rs := (hmem _).mpr (List.mem_flatMap.mpr ⟨q, hq, List.mem_map.mpr ⟨k, by rw [ek]; exact List.mem_cons_self, rfl⟩⟩)
        intro z
        rw [z] at h1
        cases h1
    obtain ⟨m', t2, u3, u4, u5, u6, u7, u8, hl, hpos⟩ := turn_loop hv hN s0 j (t + 1) m1 rs (.val (.dat (.int (t : Int)))) (.val (.dat (.list ((L.flatMap nxL).map tI)))) t5 t6 t7 t8 (by omega) (fun r hr => by
      have := hfo r ((hmem r).mp hr)
      exact ⟨this.1, this.2.1⟩) hlen (by omega) hne
    refine ⟨m', t2, u3, u4, u5, u6, u7, u8, ?_, hpos⟩
    have hb : bodyTu [s0, .val (.dat (.list (List.replicate m (ePair (setd v) ((N : Int) - ((setd v).length : Int)))))), .val (.dat (.list (L.map tI))), .val (.dat (.int (t : Int))), s4, s5, s6, s7, s8] = pure (.nx [s0, .val (.dat (.list (List.replicate m1 (ePair (setd v) ((N : Int) - ((setd v).length : Int)))))), .val (.dat (.list (rs.map tI))), .val (.dat (.int (t : Int))), .val (.dat (.list ((L.flatMap nxL).map tI))), t5, t6, t7, t8]) := by
      have q1 : sSet 4 (eN gLstD (aNil)) [s0, .val (.dat (.list (List.replicate m (ePair (setd v) ((N : Int) - ((setd v).length : Int)))))), .val (.dat (.list (L.map tI))), .val (.dat (.int (t : Int))), s4, s5, s6, s7, s8] = pure (.nx (envE s0 (.val (.dat (.list (L.map tI)))) (.val (.dat (.int (t : Int)))) (ePair (setd v) ((N : Int) - ((setd v).length : Int))) m [] s5 s6 s7 s8)) := rfl
      have q2 : sFor (iSeq (eV 2)) (gN 5) bodyHe (envE s0 (.val (.dat (.list (L.map tI)))) (.val (.dat (.int (t : Int)))) (ePair (setd v) ((N : Int) - ((setd v).length : Int))) m [] s5 s6 s7 s8) = pure (.nx (envE s0 (.val (.dat (.list (L.map tI)))) (.val (.dat (.int (t : Int)))) (ePair (setd v) ((N : Int) - ((setd v).length : Int))) m1 (L.flatMap nxL) t5 t6 t7 t8)) := by
        have hi : iSeq (eV 2) (envE s0 (.val (.dat (.list (L.map tI)))) (.val (.dat (.int (t : Int)))) (ePair (setd v) ((N : Int) - ((setd v).length : Int))) m [] s5 s6 s7 s8) = pure (L.map fun q => .dat (tI q)) := by
          simp only [iSeq_def, eV_def, List.getElem?_cons_succ, List.getElem?_cons_zero, pure_bind, List.map_map]
          rfl
        rw [sFor_def, hi, pure_bind]
        exact hh
      have q3 : sSet 2 (e1 opSortSet (eV 4)) (envE s0 (.val (.dat (.list (L.map tI)))) (.val (.dat (.int (t : Int)))) (ePair (setd v) ((N : Int) - ((setd v).length : Int))) m1 (L.flatMap nxL) t5 t6 t7 t8) = pure (.nx [s0, .val (.dat (.list (List.replicate m1 (ePair (setd v) ((N : Int) - ((setd v).length : Int)))))), .val (.dat (.list (rs.map tI))), .val (.dat (.int (t : Int))), .val (.dat (.list ((L.flatMap nxL).map tI))), t5, t6, t7, t8]) := by
        simp only [sSet_def, e1_def, eV_def, List.getElem?_cons_succ, List.getElem?_cons_zero, pure_bind, bind_assoc, hs, lft_some, List.set_cons_succ, List.set_cons_zero]
      exact (seq_nx q1).trans ((seq_nx q2).trans q3)
    rw [List.range'_succ, List.map_cons, forL_cons]
    show (lft (some [s0, .val (.dat (.list (List.replicate m (ePair (setd v) ((N : Int) - ((setd v).length : Int)))))), .val (.dat (.list (L.map tI))), .val (.dat (.int (t : Int))), s4, s5, s6, s7, s8]) >>= _) = _
    simp only [lft_some, pure_bind, hb, hl]
theorem ends_eq {v : Nat} (hv : v < 144) (p : List Int) (hp : Ply v p) : fn__law_ends [.dat (tI p)] = pure (.dat (.list [ePair (setd v) ((p.length : Int) - ((setd v).length : Int))])) := by
  have hN := len12 hp.ok
  obtain ⟨m', t2, t3, t4, t5, t6, t7, t8, hl, hpos⟩ := turn_loop hv hN (.val (.dat (tI p))) (p.length + 1) 0 0 [p] .no .no .no .no .no .no (by omega) (fun q hq => by rw [List.mem_singleton.mp hq]; exact ⟨hp, by omega⟩) (by simp) (by omega) (.inr (by simp))
  obtain ⟨n, rfl⟩ : ∃ n, m' = n + 1 := ⟨m' - 1, by omega⟩
  have hs := sortSet_E (setd v) ((p.length : Int) - ((setd v).length : Int)) n
  have q : den__law_ends [.val (.dat (tI p)), .no, .no, .no, .no, .no, .no, .no, .no] = pure (.rt (.dat (.list [ePair (setd v) ((p.length : Int) - ((setd v).length : Int))]))) := by
    unfold den__law_ends
    have q1 : sParEE 1 2 (eN gLstD (aNil)) (eN gLstD (aCons (eV 0) (aNil))) [.val (.dat (tI p)), .no, .no, .no, .no, .no, .no, .no, .no] = pure (.nx [.val (.dat (tI p)), .val (.dat (.list (List.replicate 0 (ePair (setd v) ((p.length : Int) - ((setd v).length : Int)))))), .val (.dat (.list (([p] : List (List Int)).map tI))), .no, .no, .no, .no, .no, .no]) := rfl
    rw [seq_nx q1]
    have q2 : sFor (iRange1 (aCons (e2 opAdd (eN g_len (aCons (eV 0) (aNil))) (eC (.dat (.int 1)))) (aNil))) (gN 3) bodyTu [.val (.dat (tI p)), .val (.dat (.list (List.replicate 0 (ePair (setd v) ((p.length : Int) - ((setd v).length : Int)))))), .val (.dat (.list (([p] : List (List Int)).map tI))), .no, .no, .no, .no, .no, .no] = pure (.nx [.val (.dat (tI p)), .val (.dat (.list (List.replicate (n + 1) (ePair (setd v) ((p.length : Int) - ((setd v).length : Int)))))), t2, t3, t4, t5, t6, t7, t8]) := by
      have e1 : (p.length : Int) + 1 = ((p.length + 1 : Nat) : Int) := by omega
      simp only [sFor_def, iRange1_def, e2_def, eN_def, aCons_def, aNil_def, eV_def, eC_def, List.getElem?_cons_zero, pure_bind, bind_assoc, g_len_t, List.length_map, lft_some, opAdd_i, e1, inLine_ok (i := ((p.length + 1 : Nat) : Int)) (by omega) (by omega), if_true, Int.toNat_natCast, rangeD_eq]
      rw [List.range_eq_range']
      exact hl
    rw [seq_nx q2]
    simp only [sRet_def, e1_def, eV_def, List.getElem?_cons_succ, List.getElem?_cons_zero, pure_bind, hs, lft_some]
  unfold fn__law_ends
  simp only [runFn_def, List.length_cons, List.length_nil, Nat.zero_add, Nat.reduceAdd, if_true, List.map_cons, List.map_nil, Nat.reduceSub, List.replicate, List.cons_append, List.nil_append, q, pure_bind]

theorem same_L (xs : List PyData) (h : DX.reprOk (.list xs) = true) : fn__law_same [.dat (.list xs), .dat (.list xs)] = pure (dB true) := by
  have e : opEq (.dat (.str (PyData.shown (.list xs)))) (.dat (.str (PyData.shown (.list xs)))) = some (dB true) := by
    have h1 : near (.str (PyData.shown (.list xs))) (.str (PyData.shown (.list xs))) = true := rfl
    have h2 : PyData.eqv (.str (PyData.shown (.list xs))) (.str (PyData.shown (.list xs))) = true := by
      show (PyData.shown (.list xs) == PyData.shown (.list xs)) = true
      exact beq_self_eq_true _
    unfold opEq cmpD
    simp only [h1, h2, if_true]
    rfl
  have g : DX.g_reprX [.dat (.list xs)] = some (.dat (.str (PyData.shown (.list xs)))) := if_pos h
  unfold fn__law_same den__law_same
  simp [g, e]
theorem toldAll_nil (cs : List Str) (fr : Xn → M D) : DX.toldAll cs fr [] = pure [] := rfl
theorem toldAll_cons (cs : List Str) (fr : Xn → M D) (fb : En → M D) (fbs : List (En → M D)) (y : PyData) (ys : List PyData) (h : DX.eTold cs fr fb [] = pure (.dat y)) (ht : DX.toldAll cs fr fbs = pure ys) : DX.toldAll cs fr (fb :: fbs) = pure (y :: ys) := by
  unfold DX.toldAll
  rw [h, ht]
  rfl
theorem toldL_of (cs : List Str) (fr : Xn → M D) (fbs : List (En → M D)) (ys : List PyData) (h : DX.toldAll cs fr fbs = pure ys) : DX.toldL cs fr fbs = pure (.dat (.list ys)) := by
  unfold DX.toldL
  rw [h]
  rfl

/-! ### the law's end -/
theorem told_pegs (fb : En → M D) (ρ : En) (k : Int) (h : fb ρ = thr ⟨"BadPegs", [("place", .int k)]⟩) : DX.eTold csX fn__law_refusal fb ρ = pure (.dat (.tuple [.str "BadPegs", .int k])) := by
  funext R
  unfold DX.eTold
  rw [h]
  rfl
theorem need_b1 : fn_need_line [.dat (.list [.int 0])] = thr ⟨"BadPegs", [("place", .int (-1))]⟩ := by
  simp [fn_need_line, den_need_line, DX.sRaise, dB]
theorem need_b2 : fn_need_line [.dat (.tuple [.int 0, .int 0])] = thr ⟨"BadPegs", [("place", .int 1)]⟩ := by rfl
theorem need_b3 : fn_need_line [.dat (.tuple [.int 41])] = thr ⟨"BadPegs", [("place", .int 0)]⟩ := by rfl
theorem need_b4 : fn_need_line [.dat (.tuple [.int (-1)])] = thr ⟨"BadPegs", [("place", .int 0)]⟩ := by rfl
theorem st_end (ρ : En) : st4 ρ = pure (.rt (dB true)) := by
  have f1 : eF fn_settled (aCons (eN gLstD (aCons (eC (.dat (.int 0))) (aNil))) (aNil)) [] = thr ⟨"BadPegs", [("place", .int (-1))]⟩ := by
    have h0 : fn_line_value [.dat (.list [.int 0])] = thr ⟨"BadPegs", [("place", .int (-1))]⟩ := by
      simp [fn_line_value, den_line_value, need_b1]
    have h : fn_settled [.dat (.list [.int 0])] = thr ⟨"BadPegs", [("place", .int (-1))]⟩ := by
      simp [fn_settled, den_settled, h0]
    simp only [eF_def, eN_def, aCons_def, aNil_def, eC_def, pure_bind, bind_assoc, gLstD1, lft_some, h]
  have f2 : eF fn_line_value (aCons (eN gTupD (aCons (eC (.dat (.int 0))) (aCons (eC (.dat (.int 0))) (aNil)))) (aNil)) [] = thr ⟨"BadPegs", [("place", .int 1)]⟩ := by
    have h : fn_line_value [.dat (.tuple [.int 0, .int 0])] = thr ⟨"BadPegs", [("place", .int 1)]⟩ := by
      simp [fn_line_value, den_line_value, need_b2]
    simp only [eF_def, eN_def, aCons_def, aNil_def, eC_def, pure_bind, bind_assoc, gTupD2, lft_some, h]
  have g1 : ∀ x : PyData, gTupD [.dat x] = some (.dat (.tuple [x])) := fun _ => rfl
  have f3 : eF fn_settling (aCons (eN gTupD (aCons (eC (.dat (.int 41))) (aNil))) (aNil)) [] = thr ⟨"BadPegs", [("place", .int 0)]⟩ := by
    have h : fn_settling [.dat (.tuple [.int 41])] = thr ⟨"BadPegs", [("place", .int 0)]⟩ := by
      simp [fn_settling, den_settling, need_b3]
    simp only [eF_def, eN_def, aCons_def, aNil_def, eC_def, pure_bind, bind_assoc, g1, lft_some, h]
  have f4 : eF fn_line_leaps (aCons (eN gTupD (aCons (e1 opNeg (eC (.dat (.int 1)))) (aNil))) (aNil)) [] = thr ⟨"BadPegs", [("place", .int 0)]⟩ := by
    have h : fn_line_leaps [.dat (.tuple [.int (-1)])] = thr ⟨"BadPegs", [("place", .int 0)]⟩ := by
      simp [fn_line_leaps, den_line_leaps, need_b4]
    simp only [eF_def, eN_def, aCons_def, aNil_def, e1_def, eC_def, pure_bind, bind_assoc, opNeg_i, g1, lft_some, h]
  have h1 : DX.toldL csX fn__law_refusal [eF fn_settled (aCons (eN gLstD (aCons (eC (.dat (.int 0))) (aNil))) (aNil)), eF fn_line_value (aCons (eN gTupD (aCons (eC (.dat (.int 0))) (aCons (eC (.dat (.int 0))) (aNil)))) (aNil)), eF fn_settling (aCons (eN gTupD (aCons (eC (.dat (.int 41))) (aNil))) (aNil)), eF fn_line_leaps (aCons (eN gTupD (aCons (e1 opNeg (eC (.dat (.int 1)))) (aNil))) (aNil))] = pure (.dat (.list [.tuple [.str "BadPegs", .int (-1)], .tuple [.str "BadPegs", .int 1], .tuple [.str "BadPegs", .int 0], .tuple [.str "BadPegs", .int 0]])) :=
    toldL_of _ _ _ _ (toldAll_cons _ _ _ _ _ _ (told_pegs _ _ _ f1) (toldAll_cons _ _ _ _ _ _ (told_pegs _ _ _ f2) (toldAll_cons _ _ _ _ _ _ (told_pegs _ _ _ f3) (toldAll_cons _ _ _ _ _ _ (told_pegs _ _ _ f4) rfl))))
  have h2 := same_L [.tuple [.str "BadPegs", .int (-1)], .tuple [.str "BadPegs", .int 1], .tuple [.str "BadPegs", .int 0], .tuple [.str "BadPegs", .int 0]] (by decide +kernel)
  have h3 : gLstD [.dat (.tuple [.str "BadPegs", .int (-1)]), .dat (.tuple [.str "BadPegs", .int 1]), .dat (.tuple [.str "BadPegs", .int 0]), .dat (.tuple [.str "BadPegs", .int 0])] = some (.dat (.list [.tuple [.str "BadPegs", .int (-1)], .tuple [.str "BadPegs", .int 1], .tuple [.str "BadPegs", .int 0], .tuple [.str "BadPegs", .int 0]])) := rfl
  unfold st4
  simp only [sRet_def, eF_def, aCons_def, aNil_def, eN_def, eC_def, e1_def, opNeg_i, pure_bind, bind_assoc, h1, gTupD2, lft_some, h3, h2]

/-! ### the law -/
abbrev wsD : D := .dat (.list ((List.range 22).map fun (i : Nat) => .int (fw i : Int)))
abbrev envX (a : Addr) (s3 s4 s5 s6 s7 s8 s9 s10 s11 s12 s13 s14 s15 : SV) : En := [.no, .val (.row a), .val wsD, s3, s4, s5, s6, s7, s8, s9, s10, s11, s12, s13, s14, s15]
abbrev fwL (n : Nat) : PyData := .list ((List.range n).map fun (i : Nat) => .int (fw i : Int))
theorem fw_ix1 (n : Nat) : opIx (.dat (fwL (n + 2))) (.dat (.int (-1))) = some (.dat (.int (fw (n + 1) : Int))) := by
  show (atI ((List.range (n + 2)).map fun (i : Nat) => PyData.int (fw i : Int)) (-1)).map D.dat = _
  rw [atI_neg1, List.getLast?_map, List.range_succ]
  simp
theorem fw_ix2 (n : Nat) : opIx (.dat (fwL (n + 2))) (.dat (.int (-2))) = some (.dat (.int (fw n : Int))) := by
  show (atI ((List.range (n + 2)).map fun (i : Nat) => PyData.int (fw i : Int)) (-2)).map D.dat = _
  have : atI ((List.range (n + 2)).map fun (i : Nat) => PyData.int (fw i : Int)) (-2) = some (.int (fw n : Int)) := by
    unfold atI
    have hl : ((List.range (n + 2)).map fun (i : Nat) => PyData.int (fw i : Int)).length = n + 2 := by simp
    simp only [hl]
    have hx : ixN (n + 2) (-2) = some n := by
      unfold ixN
      rw [if_neg (by omega), if_pos (by omega)]
      congr 1
      omega
    rw [hx, Option.bind_some, List.getElem?_map, List.getElem?_range (by omega)]
    rfl
  rw [this]
  rfl
abbrev bodyWs : En → M Fl := sSet 2 (e2 opAdd (eV 2) (eN gLstD (aCons (e2 opAdd (eIx (eV 2) (e1 opNeg (eC (.dat (.int 1))))) (eIx (eV 2) (e1 opNeg (eC (.dat (.int 2)))))) (aNil))))
abbrev envW (a : Addr) (n : Nat) (z : SV) : En := [.no, .val (.row a), .val (.dat (fwL n)), z, .no, .no, .no, .no, .no, .no, .no, .no, .no, .no, .no, .no]
theorem worths_loop (a : Addr) : ∀ (j s : Nat) (z : SV), s + j ≤ 100 → ∃ z', forL (gN 3) bodyWs ((List.range' s j).map fun (i : Nat) => .dat (.int (i : Int))) (envW a (s + 2) z) = pure (.nx (envW a (s + j + 2) z'))
  | 0, s, z, _ => ⟨z, rfl⟩
  | j + 1, s, z, h => by
    obtain ⟨z', hl⟩ := worths_loop a j (s + 1) (.val (.dat (.int (s : Int)))) (by omega)
    refine ⟨z', ?_⟩
    have hb : bodyWs (envW a (s + 2) (.val (.dat (.int (s : Int))))) = pure (.nx (envW a (s + 1 + 2) (.val (.dat (.int (s : Int)))))) := by
      have e3 : (fw (s + 1) : Int) + (fw s : Int) = (fw (s + 2) : Int) := by
        have : fw (s + 2) = fw s + fw (s + 1) := by rw [fw]
        omega
      have hadd : opAdd (.dat (fwL (s + 2))) (.dat (.list [.int (fw (s + 2) : Int)])) = some (.dat (fwL (s + 1 + 2))) := by
        rw [opAdd_ll _ _ (by simp [SZ]; omega)]
        show some (D.dat (.list _)) = some (D.dat (.list ((List.range (s + 2 + 1)).map fun (i : Nat) => PyData.int (fw i : Int))))
        rw [List.range_succ (n := s + 2), List.map_append]
        rfl
      have h1 := fw_ix1 s
      have h2 := fw_ix2 s
      simp only [bodyWs, sSet_def, e2_def, e1_def, eIx_def, eN_def, aCons_def, aNil_def, eV_def, eC_def, List.getElem?_cons_succ, List.getElem?_cons_zero, pure_bind, bind_assoc, opNeg_i, lft_some, ixM_dat, h1, h2, opAdd_i, e3, gLstD1, hadd, List.set_cons_succ, List.set_cons_zero]
    rw [List.range'_succ, List.map_cons, forL_cons]
    show (lft (some (envW a (s + 2) (.val (.dat (.int (s : Int)))))) >>= _) = _
    simp only [lft_some, pure_bind, hb, hl]
    rw [show s + 1 + j + 2 = s + (j + 1) + 2 by omega]
theorem worths_ok (a : Addr) : ∃ s3, st2 [.no, .val (.row a), .val (.dat (.list [.int 1, .int 2])), .no, .no, .no, .no, .no, .no, .no, .no, .no, .no, .no, .no, .no] = pure (.nx (envX a s3 .no .no .no .no .no .no .no .no .no .no .no .no)) := by
  obtain ⟨z', h⟩ := worths_loop a 20 0 .no (by decide)
  refine ⟨z', ?_⟩
  have hi : ∀ ρ : En, iRange1 (aCons (eC (.dat (.int 20))) (aNil)) ρ = pure ((List.range' 0 20).map fun (i : Nat) => .dat (.int (i : Int))) := fun _ => rfl
  have h' : forL (gN 3) bodyWs ((List.range' 0 20).map fun (i : Nat) => .dat (.int (i : Int))) [.no, .val (.row a), .val (.dat (.list [.int 1, .int 2])), .no, .no, .no, .no, .no, .no, .no, .no, .no, .no, .no, .no, .no] = pure (.nx (envW a 22 z')) := h
  unfold st2
  rw [sFor_def, hi, pure_bind]
  exact h'
theorem draw9 (a : Addr) (i : Nat) (ρ : En) (hl : ρ.length = 16) (h1 : ρ[1]? = some (.val (.row a))) (R : RS) (hR : RowInv a R) : Ter (sSet i (eN g_tuple (aCons (eFresh (nLc (iRange1 (aCons (eC (.dat (.int 9))) (aNil))) (gN 3) (bE (e2 opGt (eF fn__law_taken (aCons (eV 1) (aCons (eC (.dat (.int 3))) (aNil)))) (eC (.dat (.int 0))))) (eV 3) [3])) (aNil))) ρ) R fun fl R' => (∃ p, fl = .nx (ρ.set i (.val (.dat (tI p)))) ∧ PegsOk 9 p) ∧ RowInv a R' := by
  have hw : ∀ x : D, ((wipD ρ [3]).set 3 (.val x))[3]? = some (.val x) ∧ ((wipD ρ [3]).set 3 (.val x))[1]? = some (.val (.row a)) := fun x => by
    unfold wipD wipD
    refine ⟨by rw [List.getElem?_set_self (by simp [hl])], ?_⟩
    rw [List.getElem?_set_ne (by decide), List.getElem?_set_ne (by decide), h1]
  have hc := nLc_ter (fi := iRange1 (aCons (eC (.dat (.int 9))) (aNil))) (t := gN 3) (ft := bE (e2 opGt (eF fn__law_taken (aCons (eV 1) (aCons (eC (.dat (.int 3))) (aNil)))) (eC (.dat (.int 0))))) (fe := eV 3) (vs := [3]) (ρ := ρ) (I := RowInv a) (R := R)
    (List.range 9) (fun (i : Nat) => .dat (.int (i : Int))) (fun (i : Nat) => .int (i : Int)) (fun (i : Nat) => (wipD ρ [3]).set 3 (.val (.dat (.int (i : Int))))) hR
    rfl (by decide) (fun x _ => rfl)
    (fun x _ R hR => by
      simp only [bE_def, e2_def, eF_def, aCons_def, aNil_def, eV_def, eC_def, (hw _).1, (hw _).2, pure_bind, bind_assoc]
      refine Ter.bind ((taken_ok a 3 (by decide) (by decide) R hR).imp fun d R1 ⟨k, e, k0, k1, hR1⟩ => ?_)
      subst e
      simp only [opGt_i, lft_some, pure_bind, asB_dB]
      exact Ter.pure hR1)
    (fun x _ => by simp only [eV_def, (hw _).1])
  simp only [sSet_def, eN_def, aCons_def, aNil_def, eFresh_def, bind_assoc, pure_bind]
  refine Ter.bind (hc.imp fun o R1 ⟨⟨zs, z1, z2⟩, hR1⟩ => ?_)
  subst z2
  simp only [owD_lst, g_tuple_l, lft_some, pure_bind]
  refine Ter.pure ⟨⟨zs.map fun (i : Nat) => (i : Int), by unfold tI; rw [List.map_map]; rfl, ⟨fun x hx => ?_, ?_⟩⟩, hR1⟩
  · obtain ⟨i, hi, rfl⟩ := List.mem_map.mp hx
    have := List.mem_range.mp (z1.subset hi)
    omega
  · rw [List.pairwise_map]
    exact (List.Pairwise.sublist z1 List.pairwise_lt_range).imp fun {a b} h => by omega
theorem ply_of {p : List Int} (h : PegsOk 9 p) : Ply (valI p) p ∧ valI p < 144 := ⟨⟨ok_up h (by decide), rfl⟩, allS_val p (allS_iff.mpr h)⟩
theorem al_tI (n : Nat) {p : List Int} (h : PegsOk 12 p) : Al (n + 1) (tI p) := al_int n p (by have := len12 h; omega)
theorem replay_loop {v : Nat} (hv : v < 144) (a : Addr) (s3 s4 s5 s6 s7 s8 s9 s10 s14 s15 : SV) : ∀ (n : Nat) (h : List Int) (s12 s13 : SV), Ply v h → h.length = (setd v).length + n →
    ∃ t12 t13, forL (gN 12) bodyst3_11 ((plays h n).map fun k => .dat (.int k)) (envX a s3 s4 s5 s6 s7 s8 s9 s10 (.val (.dat (tI h))) s12 s13 s14 s15) = pure (.nx (envX a s3 s4 s5 s6 s7 s8 s9 s10 (.val (.dat (tI (setd v)))) t12 t13 s14 s15))
  | 0, h, s12, s13, hp, e => by
    have := (Ply.ends hv h.length h rfl hp).2.2 (by omega)
    exact ⟨s12, s13, by rw [← this]; rfl⟩
  | n + 1, h, s12, s13, hp, e => by
    obtain ⟨hne, hp2, e2⟩ := hp.more hv e
    have hz := len12 hp.ok
    obtain ⟨t12, t13, hl⟩ := replay_loop hv a s3 s4 s5 s6 s7 s8 s9 s10 s14 s15 n (doneL h (ln (lastK h))) (.val (.dat (.int (lastK h)))) (.val (.dat (.list ((ableI h).map .int)))) hp2 e2
    refine ⟨t12, t13, ?_⟩
    rw [plays, List.map_cons, forL_cons]
    show (lft (some (envX a s3 s4 s5 s6 s7 s8 s9 s10 (.val (.dat (tI h))) (.val (.dat (.int (lastK h)))) s13 s14 s15)) >>= _) = _
    have hc := able_lc h (by omega) 11 3 (envX a s3 s4 s5 s6 s7 s8 s9 s10 (.val (.dat (tI h))) (.val (.dat (.int (lastK h)))) s13 s14 s15) (by simp) (by decide) rfl
    have hx := ix_last (lastK_some hne).1
    have ha := after_eq h (lastK h) (by omega)
    have h1 := opEq_lnil (ableI h)
    rw [decide_eq_false hne] at h1
    have h2 := opNe_i (lastK h) (lastK h)
    rw [decide_eq_false (by simp)] at h2
    have hb : bodyst3_11 (envX a s3 s4 s5 s6 s7 s8 s9 s10 (.val (.dat (tI h))) (.val (.dat (.int (lastK h)))) s13 s14 s15) = pure (.nx (envX a s3 s4 s5 s6 s7 s8 s9 s10 (.val (.dat (tI (doneL h (ln (lastK h)))))) (.val (.dat (.int (lastK h)))) (.val (.dat (.list ((ableI h).map .int)))) s14 s15)) := by
      have q1 : st3_11_1 (envX a s3 s4 s5 s6 s7 s8 s9 s10 (.val (.dat (tI h))) (.val (.dat (.int (lastK h)))) s13 s14 s15) = pure (.nx (envX a s3 s4 s5 s6 s7 s8 s9 s10 (.val (.dat (tI h))) (.val (.dat (.int (lastK h)))) (.val (.dat (.list ((ableI h).map .int)))) s14 s15)) := by
        unfold st3_11_1
        simp only [sSet_def, eFresh_def, hc, pure_bind, bind_assoc, owD_lst, List.set_cons_succ, List.set_cons_zero]
      have q2 : st3_11_2 (envX a s3 s4 s5 s6 s7 s8 s9 s10 (.val (.dat (tI h))) (.val (.dat (.int (lastK h)))) (.val (.dat (.list ((ableI h).map .int)))) s14 s15) = pure (.nx (envX a s3 s4 s5 s6 s7 s8 s9 s10 (.val (.dat (tI h))) (.val (.dat (.int (lastK h)))) (.val (.dat (.list ((ableI h).map .int)))) s14 s15)) := by
        unfold st3_11_2
        refine chk0 ?_
        simp only [bOr_def, bE_def, e2_def, e1_def, eIx_def, eV_def, eC_def, eN_def, aNil_def, List.getElem?_cons_succ, List.getElem?_cons_zero, pure_bind, bind_assoc, gLstD0, lft_some, h1, asB_dB, Bool.false_eq_true, if_false, opNeg_i, ixM_dat, hx, h2]
      have q3 : st3_11_3 (envX a s3 s4 s5 s6 s7 s8 s9 s10 (.val (.dat (tI h))) (.val (.dat (.int (lastK h)))) (.val (.dat (.list ((ableI h).map .int)))) s14 s15) = pure (.nx (envX a s3 s4 s5 s6 s7 s8 s9 s10 (.val (.dat (tI (doneL h (ln (lastK h)))))) (.val (.dat (.int (lastK h)))) (.val (.dat (.list ((ableI h).map .int)))) s14 s15)) := by
        unfold st3_11_3
        simp only [sSet_def, eF_def, aCons_def, aNil_def, eV_def, List.getElem?_cons_succ, List.getElem?_cons_zero, pure_bind, bind_assoc, ha, List.set_cons_succ, List.set_cons_zero]
      exact (seq_nx q1).trans ((seq_nx q2).trans q3)
    simp only [lft_some, pure_bind, hb, hl]

theorem ep_ix0 (q : List Int) (t : Int) : opIx (.dat (ePair q t)) (.dat (.int 0)) = some (.dat (tI q)) := rfl
theorem l1_ix0 (x : PyData) : opIx (.dat (.list [x])) (.dat (.int 0)) = some (.dat x) := rfl
theorem opEq_tI (p q : List Int) : opEq (.dat (tI p)) (.dat (tI q)) = some (dB (decide (p = q))) := by
  have := opEq_t (α := W.Tup Int) (by decide) ⟨p⟩ ⟨q⟩
  have e : decide ((⟨p⟩ : W.Tup Int) = ⟨q⟩) = decide (p = q) := decide_eq_decide.mpr ⟨fun h => by injection h, fun h => by rw [h]⟩
  rw [e] at this
  exact this
theorem fwL_ix (k : Nat) (hk : k < 22) : opIx wsD (.dat (.int (k : Int))) = some (.dat (.int (fw k : Int))) := by
  rw [opIx_ln, List.getElem?_map, List.getElem?_range hk]
  rfl
theorem turn_ok (a : Addr) (s3 s4 s5 s6 s7 s8 s9 s10 s11 s12 s13 s14 s15 : SV) (R : RS) (hR : RowInv a R) : Ter (bodyst3 (envX a s3 s4 s5 s6 s7 s8 s9 s10 s11 s12 s13 s14 s15)) R fun fl R' => (∃ t3 t5 t6 t7 t8 t9 t10 t11 t12 t13, fl = .nx (envX a t3 s4 t5 t6 t7 t8 t9 t10 t11 t12 t13 s14 s15)) ∧ RowInv a R' := by
  unfold bodyst3
  refine seq_ter ?_
  unfold st3_1
  refine (draw9 a 5 (envX a s3 s4 s5 s6 s7 s8 s9 s10 s11 s12 s13 s14 s15) rfl rfl R hR).imp fun fl R1 ⟨⟨p, e, hp9⟩, hR1⟩ => ⟨_, e, ?_⟩
  refine seq_ter ?_
  unfold st3_2
  refine (draw9 a 6 (List.set (envX a s3 s4 s5 s6 s7 s8 s9 s10 s11 s12 s13 s14 s15) 5 (.val (.dat (tI p)))) rfl rfl R1 hR1).imp fun fl R2 ⟨⟨o, e, ho9⟩, hR2⟩ => ⟨_, e, ?_⟩
  rw [show List.set (List.set (envX a s3 s4 s5 s6 s7 s8 s9 s10 s11 s12 s13 s14 s15) 5 (.val (.dat (tI p)))) 6 (.val (.dat (tI o))) = envX a s3 s4 (.val (.dat (tI p))) (.val (.dat (tI o))) s7 s8 s9 s10 s11 s12 s13 s14 s15 from rfl]
  obtain ⟨hp, hv⟩ := ply_of hp9
  obtain ⟨ho, hw⟩ := ply_of ho9
  have p41 : PegsOk 41 p := ok_up hp9 (by decide)
  have o41 : PegsOk 41 o := ok_up ho9 (by decide)
  have pz := len12 hp.ok
  have oz := len12 ho.ok
  have hZ := (Ply.ends hv p.length p rfl hp)
  have hY := (Ply.ends hw o.length o rfl ho)
  have q3 : st3_3 (envX a s3 s4 (.val (.dat (tI p))) (.val (.dat (tI o))) s7 s8 s9 s10 s11 s12 s13 s14 s15) = pure (.nx (envX a s3 s4 (.val (.dat (tI p))) (.val (.dat (tI o))) (.val (.dat (.list [ePair (setd (valI p)) ((p.length : Int) - ((setd (valI p)).length : Int))]))) (.val (.dat (.list [ePair (setd (valI o)) ((o.length : Int) - ((setd (valI o)).length : Int))]))) s9 s10 s11 s12 s13 s14 s15)) := by
    have h1 := ends_eq hv p hp
    have h2 := ends_eq hw o ho
    unfold st3_3
    simp only [sParEE_def, eF_def, aCons_def, aNil_def, eV_def, List.getElem?_cons_succ, List.getElem?_cons_zero, pure_bind, bind_assoc, h1, h2, List.set_cons_succ, List.set_cons_zero]
  rw [seq_nx q3]
  generalize hE7 : (SV.val (D.dat (PyData.list [ePair (setd (valI p)) ((p.length : Int) - ((setd (valI p)).length : Int))]))) = E7
  generalize hE8 : (SV.val (D.dat (PyData.list [ePair (setd (valI o)) ((o.length : Int) - ((setd (valI o)).length : Int))]))) = E8
  have q4 : st3_4 (envX a s3 s4 (.val (.dat (tI p))) (.val (.dat (tI o))) E7 E8 s9 s10 s11 s12 s13 s14 s15) = pure (.nx (envX a s3 s4 (.val (.dat (tI p))) (.val (.dat (tI o))) E7 E8 s9 s10 s11 s12 s13 s14 s15)) := by
    subst hE7
    have h1 := settled_eq p p41 (by omega)
    have h2 := many_eq p p41 (by omega)
    have h3 : g_len [.dat (.list [ePair (setd (valI p)) ((p.length : Int) - ((setd (valI p)).length : Int))])] = some (.dat (.int 1)) := rfl
    have h4 : opNe (.dat (.int 1)) (.dat (.int 1)) = some (dB false) := by
      have := opNe_i 1 1
      rw [decide_eq_false (by decide)] at this
      exact this
    have hal : fn__law_alike [.dat (ePair (setd (valI p)) ((p.length : Int) - ((setd (valI p)).length : Int))), .dat (ePair (setd (valI p)) ((p.length : Int) - ((setd (valI p)).length : Int)))] = pure (dB true) := alike_ok _ (al2 (al_tI 5 hZ.1.ok) (.int _ _))
    have h5 : gTupD [.dat (tI (setd (valI p))), .dat (.int ((p.length : Int) - ((setd (valI p)).length : Int)))] = some (.dat (ePair (setd (valI p)) ((p.length : Int) - ((setd (valI p)).length : Int)))) := rfl
    unfold st3_4
    refine chk0 ?_
    simp only [bOr_def, bNot_def, bE_def, e2_def, eN_def, eF_def, eIx_def, aCons_def, aNil_def, eV_def, eC_def, List.getElem?_cons_succ, List.getElem?_cons_zero, pure_bind, bind_assoc, h3, h4, lft_some, asB_dB, Bool.false_eq_true, if_false, h1, h2, h5, ixM_dat, l1_ix0, hal, Bool.not_true]
  rw [seq_nx q4]
  have q5 : st3_5 (envX a s3 s4 (.val (.dat (tI p))) (.val (.dat (tI o))) E7 E8 s9 s10 s11 s12 s13 s14 s15) = pure (.nx (envX a s3 s4 (.val (.dat (tI p))) (.val (.dat (tI o))) E7 E8 (.val (.dat (.int (valI p : Int)))) s10 s11 s12 s13 s14 s15)) := by
    have hc := nLc_map (fi := iSeq (eV 5)) (t := gN 3) (ft := bYes) (fe := eIx (eV 2) (eV 3)) (vs := [3]) (ρ := envX a s3 s4 (.val (.dat (tI p))) (.val (.dat (tI o))) E7 E8 s9 s10 s11 s12 s13 s14 s15)
      p (fun x => .dat (.int x)) (fun _ => true) (fun x => .int ((fw x.toNat : Nat) : Int)) (fun x => envX a (.val (.dat (.int x))) s4 (.val (.dat (tI p))) (.val (.dat (tI o))) E7 E8 s9 s10 s11 s12 s13 s14 s15)
      (by simp only [iSeq_def, eV_def, List.getElem?_cons_succ, List.getElem?_cons_zero, pure_bind, seqD_t, List.map_map]; rfl) (by unfold SZ; omega) (fun _ _ => rfl) (fun _ _ => rfl)
      (fun x hx _ => by
        have hb := hp9.lo x hx
        have := fwL_ix x.toNat (by omega)
        rw [show ((x.toNat : Nat) : Int) = x by omega] at this
        simp only [eIx_def, eV_def, List.getElem?_cons_succ, List.getElem?_cons_zero, pure_bind, ixM_dat, this, lft_some])
    rw [List.filter_eq_self.mpr fun _ _ => rfl] at hc
    have hm : p.map (fun x => PyData.int ((fw x.toNat : Nat) : Int)) = ((p.map fun x => fw x.toNat).map fun (n : Nat) => (n : Int)).map .int := by rw [List.map_map, List.map_map]; rfl
    rw [hm] at hc
    have hs := sum_ints ((p.map fun x => fw x.toNat).map fun (n : Nat) => (n : Int))
    rw [sum_cast] at hs
    have hvv : (((p.map fun x => fw x.toNat).sum : Nat) : Int) = (valI p : Int) := rfl
    rw [hvv] at hs
    unfold st3_5
    simp only [sSet_def, eN_def, aCons_def, aNil_def, eFresh_def, hc, pure_bind, bind_assoc, owD_lst, hs, lft_some, List.set_cons_succ, List.set_cons_zero]
  rw [seq_nx q5]
  have q6 : st3_6 (envX a s3 s4 (.val (.dat (tI p))) (.val (.dat (tI o))) E7 E8 (.val (.dat (.int (valI p : Int)))) s10 s11 s12 s13 s14 s15) = pure (.nx (envX a s3 s4 (.val (.dat (tI p))) (.val (.dat (tI o))) E7 E8 (.val (.dat (.int (valI p : Int)))) s10 s11 s12 s13 s14 s15)) := by
    subst hE7
    have h1 := value_eq p p41 (by omega)
    have h2 := least_eq (valI p)
    have h3 := worth_eq 7 (by decide)
    have h4 := fwL_ix 7 (by decide)
    have hal : fn__law_alike [.dat (.tuple [.int (valI p : Int), tI (setd (valI p)), .int (fw 7 : Int)]), .dat (.tuple [.int (valI p : Int), tI (setd (valI p)), .int (fw 7 : Int)])] = pure (dB true) := alike_ok _ (.tup 6 _ (by simp) fun x hx => by
      rcases List.mem_cons.mp hx with rfl | hx
      · exact .int _ _
      rcases List.mem_cons.mp hx with rfl | hx
      · exact al_tI 5 hZ.1.ok
      rw [List.mem_singleton.mp hx]
      exact .int _ _)
    have c7 : ((7 : Nat) : Int) = 7 := rfl
    rw [c7] at h3 h4
    unfold st3_6
    refine chk ?_
    simp only [bE_def, eN_def, eF_def, eIx_def, aCons_def, aNil_def, eV_def, eC_def, List.getElem?_cons_succ, List.getElem?_cons_zero, pure_bind, bind_assoc, h1, h2, h3, gTupD3, lft_some, ixM_dat, l1_ix0, ep_ix0, h4, hal, asB_dB]
  rw [seq_nx q6]
  have q7 : st3_7 (envX a s3 s4 (.val (.dat (tI p))) (.val (.dat (tI o))) E7 E8 (.val (.dat (.int (valI p : Int)))) s10 s11 s12 s13 s14 s15) = pure (.nx (envX a s3 s4 (.val (.dat (tI p))) (.val (.dat (tI o))) E7 E8 (.val (.dat (.int (valI p : Int)))) s10 s11 s12 s13 s14 s15)) := by
    subst hE7 hE8
    have h1 := meet_eq p o p41 o41 (by omega) (by omega)
    have h2 := opEq_tI (setd (valI p)) (setd (valI o))
    have h3 : decide (setd (valI p) = setd (valI o)) = decide (valI p = valI o) := decide_eq_decide.mpr ⟨fun h => by
      have := hZ.1.val
      rw [h, hY.1.val] at this
      exact this.symm, fun h => by rw [h]⟩
    rw [h3] at h2
    have hal : fn__law_alike [dB (decide (valI p = valI o)), dB (decide (valI p = valI o))] = pure (dB true) := alike_ok _ (.bl _ _)
    unfold st3_7
    refine chk ?_
    simp only [bE_def, eF_def, e2_def, eIx_def, aCons_def, aNil_def, eV_def, eC_def, List.getElem?_cons_succ, List.getElem?_cons_zero, pure_bind, bind_assoc, h1, lft_some, ixM_dat, l1_ix0, ep_ix0, h2, hal, asB_dB]
  rw [seq_nx q7]
  have q8 : st3_8 (envX a s3 s4 (.val (.dat (tI p))) (.val (.dat (tI o))) E7 E8 (.val (.dat (.int (valI p : Int)))) s10 s11 s12 s13 s14 s15) = pure (.nx (envX a s3 s4 (.val (.dat (tI p))) (.val (.dat (tI o))) E7 E8 (.val (.dat (.int (valI p : Int)))) (.val (.dat (tI (ableI p)))) s11 s12 s13 s14 s15)) := by
    have hc := able_lc p (by omega) 5 3 (envX a s3 s4 (.val (.dat (tI p))) (.val (.dat (tI o))) E7 E8 (.val (.dat (.int (valI p : Int)))) s10 s11 s12 s13 s14 s15) (by simp) (by decide) rfl
    unfold st3_8
    simp only [sSet_def, eN_def, aCons_def, aNil_def, eFresh_def, hc, pure_bind, bind_assoc, owD_lst, g_tuple_l, lft_some, List.set_cons_succ, List.set_cons_zero]
  rw [seq_nx q8]
  have q9 : st3_9 (envX a s3 s4 (.val (.dat (tI p))) (.val (.dat (tI o))) E7 E8 (.val (.dat (.int (valI p : Int)))) (.val (.dat (tI (ableI p)))) s11 s12 s13 s14 s15) = pure (.nx (envX a s3 s4 (.val (.dat (tI p))) (.val (.dat (tI o))) E7 E8 (.val (.dat (.int (valI p : Int)))) (.val (.dat (tI (ableI p)))) s11 s12 s13 s14 s15)) := by
    have h1 := leaps_eq p p41 (by omega)
    have haz : (ableI p).length ≤ 12 := Nat.le_trans (List.length_filter_le _ _) pz
    have hal : fn__law_alike [.dat (tI (ableI p)), .dat (tI (ableI p))] = pure (dB true) := alike_ok _ (al_int 6 _ (by omega))
    unfold st3_9
    refine chk ?_
    simp only [bE_def, eF_def, aCons_def, aNil_def, eV_def, List.getElem?_cons_succ, List.getElem?_cons_zero, pure_bind, bind_assoc, h1, hal, lft_some, asB_dB]
  rw [seq_nx q9]
  have q10 : st3_10 (envX a s3 s4 (.val (.dat (tI p))) (.val (.dat (tI o))) E7 E8 (.val (.dat (.int (valI p : Int)))) (.val (.dat (tI (ableI p)))) s11 s12 s13 s14 s15) = pure (.nx (envX a s3 s4 (.val (.dat (tI p))) (.val (.dat (tI o))) E7 E8 (.val (.dat (.int (valI p : Int)))) (.val (.dat (tI (ableI p)))) (.val (.dat (tI p))) s12 s13 s14 s15)) := rfl
  rw [seq_nx q10]
  obtain ⟨t12, t13, hl⟩ := replay_loop hv a s3 s4 (.val (.dat (tI p))) (.val (.dat (tI o))) E7 E8 (.val (.dat (.int (valI p : Int)))) (.val (.dat (tI (ableI p)))) s14 s15 (p.length - (setd (valI p)).length) p s12 s13 hp (by have := hZ.2.1; omega)
  have q11 : st3_11 (envX a s3 s4 (.val (.dat (tI p))) (.val (.dat (tI o))) E7 E8 (.val (.dat (.int (valI p : Int)))) (.val (.dat (tI (ableI p)))) (.val (.dat (tI p))) s12 s13 s14 s15) = pure (.nx (envX a s3 s4 (.val (.dat (tI p))) (.val (.dat (tI o))) E7 E8 (.val (.dat (.int (valI p : Int)))) (.val (.dat (tI (ableI p)))) (.val (.dat (tI (setd (valI p))))) t12 t13 s14 s15)) := by
    have h1 := settling_eq hv p hp
    have hi : iSeq (eF fn_settling (aCons (eV 5) (aNil))) (envX a s3 s4 (.val (.dat (tI p))) (.val (.dat (tI o))) E7 E8 (.val (.dat (.int (valI p : Int)))) (.val (.dat (tI (ableI p)))) (.val (.dat (tI p))) s12 s13 s14 s15) = pure ((plays p (p.length - (setd (valI p)).length)).map fun k => .dat (.int k)) := by
      simp only [iSeq_def, eF_def, aCons_def, aNil_def, eV_def, List.getElem?_cons_succ, List.getElem?_cons_zero, pure_bind, bind_assoc, h1, seqD_t, List.map_map]
      rfl
    unfold st3_11
    rw [sFor_def, hi, pure_bind]
    exact hl
  rw [seq_nx q11]
  have q12 : st3_12 (envX a s3 s4 (.val (.dat (tI p))) (.val (.dat (tI o))) E7 E8 (.val (.dat (.int (valI p : Int)))) (.val (.dat (tI (ableI p)))) (.val (.dat (tI (setd (valI p))))) t12 t13 s14 s15) = pure (.nx (envX a s3 s4 (.val (.dat (tI p))) (.val (.dat (tI o))) E7 E8 (.val (.dat (.int (valI p : Int)))) (.val (.dat (tI (ableI p)))) (.val (.dat (tI (setd (valI p))))) t12 t13 s14 s15)) := by
    subst hE7
    have h1 := opNe_tI (setd (valI p))
    unfold st3_12
    refine chk0 ?_
    simp only [bE_def, e2_def, eIx_def, eV_def, eC_def, List.getElem?_cons_succ, List.getElem?_cons_zero, pure_bind, bind_assoc, ixM_dat, l1_ix0, lft_some, ep_ix0, h1, asB_dB]
  exact Ter.eq q12 ⟨⟨_, _, _, _, _, _, _, _, _, _, rfl⟩, hR2⟩
theorem law_all (ns : List Int) (a sc : Addr) : ∃ R', den_law (.no :: .val (.row a) :: List.replicate 14 .no) (some ⟨a, sc, ns, 0, 25018, 0⟩) = some (.val (.rt (dB true)), R') := by
  have hR : RowInv a (some ⟨a, sc, ns, 0, 25018, 0⟩) := ⟨_, rfl, rfl, by show (0 : Int) ≤ 0; decide, by show (0 : Int) ≤ 25018; decide, by show (25018 : Int) < 2147483648; decide, by show (0 : Int) ≤ 0; decide⟩
  have h : Ter (den_law (.no :: .val (.row a) :: List.replicate 14 .no)) (some ⟨a, sc, ns, 0, 25018, 0⟩) fun fl _ => fl = .rt (dB true) := by
    rw [law_den]
    show Ter (bodyLaw [.no, .val (.row a), .no, .no, .no, .no, .no, .no, .no, .no, .no, .no, .no, .no, .no, .no]) _ _
    unfold bodyLaw
    have q1 : st1 [.no, .val (.row a), .no, .no, .no, .no, .no, .no, .no, .no, .no, .no, .no, .no, .no, .no] = pure (.nx [.no, .val (.row a), .val (.dat (.list [.int 1, .int 2])), .no, .no, .no, .no, .no, .no, .no, .no, .no, .no, .no, .no, .no]) := rfl
    rw [seq_nx q1]
    obtain ⟨s3, q2⟩ := worths_ok a
    rw [seq_nx q2]
    refine seq_ter ?_
    unfold st3
    simp only [sFor_def, iRange1_def, aCons_def, aNil_def, eC_def, pure_bind, inLine_ok (i := 6) (by decide) (by decide), if_true, bind_assoc]
    refine (forL_ter (fun _ ρ R => (∃ t3 t4 t5 t6 t7 t8 t9 t10 t11 t12 t13, ρ = envX a t3 t4 t5 t6 t7 t8 t9 t10 t11 t12 t13 .no .no) ∧ RowInv a R) _ 0 _ _ ⟨⟨s3, .no, .no, .no, .no, .no, .no, .no, .no, .no, .no, rfl⟩, hR⟩ (fun i d hd ρ R hI => ?_)).imp fun fl R1 ⟨ρ2, e, _⟩ => ?_
    · obtain ⟨⟨t3, t4, t5, t6, t7, t8, t9, t10, t11, t12, t13, rfl⟩, hR⟩ := hI
      refine ⟨_, rfl, (turn_ok a t3 (.val d) t5 t6 t7 t8 t9 t10 t11 t12 t13 .no .no R hR).imp fun fl R' ⟨⟨u3, u5, u6, u7, u8, u9, u10, u11, u12, u13, e⟩, hR'⟩ => ⟨_, e, ⟨_, _, _, _, _, _, _, _, _, _, _, rfl⟩, hR'⟩⟩
    · subst e
      exact ⟨_, rfl, Ter.eq (st_end _) rfl⟩
  obtain ⟨fl, R', e, e2⟩ := h
  subst e2
  exact ⟨R', e⟩

/-! ### the head -/
theorem fun_of {K : PySem.W.Frag} {x qual : Str} {st : Stmt} {f : Addr} {fd : FuncData} (F : FunD K x qual (defArgs st) (defBody st) (defScope st) [] [] f fd) : Fun K x qual st f fd := by
  obtain ⟨oc, od, dV, kV, doc, pm, an, cdv, ct, osl, h1, h2, h3, hD, hK⟩ := F.ex
  rcases hD with ⟨_, e⟩ | ⟨e, _⟩
  · subst e
    exact ⟨⟨oc, od, kV, doc, pm, an, cdv, ct, osl, h1, h2, h3⟩, F.kp⟩
  · exact absurd rfl e
theorem shut {P : Program} {w : World} {K : PySem.W.Frag} {mg : Str → Option Value} {base : Heap} {k : Nat} {f : Addr} {fd : FuncData} {ps : List Str} {sp : Sp} (F : DX.FnG P w K mg base (L2.CX P w) k f fd ps sp) : DX.FnG P w K mg base CX0 k f fd ps (fun vs H Q E => sp vs H Q E ∧ ∀ c d H1, ¬ E c d H1) :=
  ⟨fun vs H Q E h => F.len vs H Q E h.1, fun A outer s H args us vs Q E hG hr he hb hv h => codeAny_mono (F.run A outer s H args us vs Q E hG hr he hb hv h.1) fun r s2 hq => by
    cases r with
    | ok fl => cases fl <;> exact hq
    | error e =>
      obtain ⟨a, B, H1, cls, d, _, _, _, _, _, _, _, z⟩ := (show L2.CX P w outer H s E e s2 from hq)
      exact absurd z (h.2 _ _ _)⟩
def dd_is_number : He.DefD := ⟨("is_number", none), "is_number", "is_number", defArgs s_is_number, defBody s_is_number, defScope s_is_number, [], []⟩
def dd_first_false : He.DefD := ⟨("first_false", none), "first_false", "first_false", defArgs s_first_false, defBody s_first_false, defScope s_first_false, [], []⟩
def dd_need_line : He.DefD := ⟨("need_line", none), "need_line", "need_line", defArgs s_need_line, defBody s_need_line, defScope s_need_line, [], []⟩
def dd_line_worth : He.DefD := ⟨("line_worth", none), "line_worth", "line_worth", defArgs s_line_worth, defBody s_line_worth, defScope s_line_worth, [], []⟩
def dd_line_value : He.DefD := ⟨("line_value", none), "line_value", "line_value", defArgs s_line_value, defBody s_line_value, defScope s_line_value, [], []⟩
def dd_least_line : He.DefD := ⟨("least_line", none), "least_line", "least_line", defArgs s_least_line, defBody s_least_line, defScope s_least_line, [], []⟩
def dd_settled : He.DefD := ⟨("settled", none), "settled", "settled", defArgs s_settled, defBody s_settled, defScope s_settled, [], []⟩
def dd_line_leaps : He.DefD := ⟨("line_leaps", none), "line_leaps", "line_leaps", defArgs s_line_leaps, defBody s_line_leaps, defScope s_line_leaps, [], []⟩
def dd_line_after : He.DefD := ⟨("line_after", none), "line_after", "line_after", defArgs s_line_after, defBody s_line_after, defScope s_line_after, [], []⟩
def dd_many_leaps : He.DefD := ⟨("many_leaps", none), "many_leaps", "many_leaps", defArgs s_many_leaps, defBody s_many_leaps, defScope s_many_leaps, [], []⟩
def dd_settling : He.DefD := ⟨("settling", none), "settling", "settling", defArgs s_settling, defBody s_settling, defScope s_settling, [], []⟩
def dd_do_meet : He.DefD := ⟨("do_meet", none), "do_meet", "do_meet", defArgs s_do_meet, defBody s_do_meet, defScope s_do_meet, [], []⟩
def dd__law_taken : He.DefD := ⟨("_law_taken", none), "_law_taken", "_law_taken", defArgs s__law_taken, defBody s__law_taken, defScope s__law_taken, [], []⟩
def dd__law_alike : He.DefD := ⟨("_law_alike", none), "_law_alike", "_law_alike", defArgs s__law_alike, defBody s__law_alike, defScope s__law_alike, [], []⟩
def dd__law_same : He.DefD := ⟨("_law_same", none), "_law_same", "_law_same", defArgs s__law_same, defBody s__law_same, defScope s__law_same, [], []⟩
def dd__law_refusal : He.DefD := ⟨("_law_refusal", none), "_law_refusal", "_law_refusal", defArgs s__law_refusal, defBody s__law_refusal, defScope s__law_refusal, [], []⟩
def dd__law_told : He.DefD := ⟨("_law_told", none), "_law_told", "_law_told", defArgs s__law_told, defBody s__law_told, defScope s__law_told, [], []⟩
def dd__law_ends : He.DefD := ⟨("_law_ends", none), "_law_ends", "_law_ends", defArgs s__law_ends, defBody s__law_ends, defScope s__law_ends, [], []⟩
def dd_law : He.DefD := ⟨("law", none), "law", "law", defArgs s_law, defBody s_law, defScope s_law, [], []⟩
def fnH : List He.DefD := [dd_is_number, dd_first_false, dd_need_line, dd_line_worth, dd_line_value, dd_least_line, dd_settled, dd_line_leaps, dd_line_after, dd_many_leaps, dd_settling, dd_do_meet, dd__law_taken, dd__law_alike, dd__law_same, dd__law_refusal, dd__law_told, dd__law_ends, dd_law]
def faH : List He.Fa := [.glo "is_number", .glo "first_false", .glo "need_line", .glo "line_worth", .glo "line_value", .glo "least_line", .glo "settled", .glo "line_leaps", .glo "line_after", .glo "many_leaps", .glo "settling", .glo "do_meet", .glo "_law_taken", .glo "_law_alike", .glo "_law_same", .glo "_law_refusal", .glo "_law_told", .glo "_law_ends", .glo "law", .free "ValueError", .free "bool", .free "enumerate", .free "int", .free "isinstance", .free "len", .free "list", .free "range", .free "repr", .free "set", .free "sorted", .free "str", .free "sum", .free "super", .free "tuple", .int "MOST_LINE" 40]
abbrev rowH : PySem.W.OpenRow := PySem.W.OpenLaw.row PySem.Challenge.rw_leaptover_k17_whole_lines_that_settle
def tfH : List He.Defn := [("law", none)]
def exH (K : PySem.W.Frag) : Bool := tabsU tfH K && (DX.refB K csX kindsX fldsX && (DX.exB P K ed_BadPegs && true))
def xsH : List DX.ExD := [ed_BadPegs]
abbrev hookH : PySem.W.Hook := DX.hookY 5 faH fnH tfH exH xsH
def obH (s : PySem.W.SharedT) : He.AlX × List He.FnW := DX.obsY 5 faH fnH tfH exH xsH (HandSHeadRun.getT s)
theorem obH_eq (s : PySem.W.SharedT) : obH s = hookH.obs s.abs := DX.obsY_eq (HandSHeadRun.getT_eq s)
def looseH : List Str := [("is_number" : Str), ("first_false" : Str), ("LeapError" : Str), ("BadBoard" : Str), ("BadPegs" : Str), ("BadLeap" : Str), ("BadNumber" : Str), ("BadWorth" : Str), ("BadSet" : Str), ("BadRow" : Str), ("Unlike" : Str), ("BadText" : Str), ("MOST_LINE" : Str), ("need_line" : Str), ("line_worth" : Str), ("line_value" : Str), ("settled" : Str), ("line_leaps" : Str), ("line_after" : Str), ("settling" : Str), ("many_leaps" : Str), ("do_meet" : Str), ("least_line" : Str), ("_law_taken" : Str), ("_law_alike" : Str), ("_law_same" : Str), ("_law_told" : Str), ("_law_refusal" : Str), ("_law_ends" : Str)]
set_option maxHeartbeats 0 in
theorem runH (w : World) : HandSHeadRun.RunEq rowH (PySem.W.view rowH.prog [33]) hookH obH 4000 looseH w := by
  intro os
  kernel_rfl
theorem hdH {K : PySem.W.Frag} {h base : Heap} {mg : Str → Option Value} (X : K.In h) (G : h.Ns mainGlobals mg) (c : He.SaysD faH fnH K) (me : exH K = true) (q : ∀ (i : Nat) (d : DX.ExD), xsH[i]? = some d → DX.fnQ K d.x = d.val) (hd : ∀ p ∈ tfH, PySem.W.codeHdIn K (He.cT K p).1 (He.cT K p).2 = true) (TB : ∀ p ∈ tfH.map (He.cT K), LamX.TabB base mg p.1 p.2) : Hd K mg base where
  rf := (DX.refB_ok X G (He.ba (He.ba me).2).1).1
  lt := (DX.refB_ok X G (He.ba (He.ba me).2).1).2
  x_BadPegs := DX.exB_ok X G (He.ba (He.ba (He.ba me).2).2).1 (q 0 ed_BadPegs rfl)
  m_ValueError := He.free_ok X G (c.fact 19 (f := .free "ValueError") rfl)
  m_bool := He.free_ok X G (c.fact 20 (f := .free "bool") rfl)
  m_enumerate := He.free_ok X G (c.fact 21 (f := .free "enumerate") rfl)
  m_int := He.free_ok X G (c.fact 22 (f := .free "int") rfl)
  m_isinstance := He.free_ok X G (c.fact 23 (f := .free "isinstance") rfl)
  m_len := He.free_ok X G (c.fact 24 (f := .free "len") rfl)
  m_list := He.free_ok X G (c.fact 25 (f := .free "list") rfl)
  m_range := He.free_ok X G (c.fact 26 (f := .free "range") rfl)
  m_repr := He.free_ok X G (c.fact 27 (f := .free "repr") rfl)
  m_set := He.free_ok X G (c.fact 28 (f := .free "set") rfl)
  m_sorted := He.free_ok X G (c.fact 29 (f := .free "sorted") rfl)
  m_str := He.free_ok X G (c.fact 30 (f := .free "str") rfl)
  m_sum := He.free_ok X G (c.fact 31 (f := .free "sum") rfl)
  m_super := He.free_ok X G (c.fact 32 (f := .free "super") rfl)
  m_tuple := He.free_ok X G (c.fact 33 (f := .free "tuple") rfl)
  c_MOST_LINE := He.int_ok X G (c.fact 34 (f := .int "MOST_LINE" 40) rfl)
  f_is_number := by
    obtain ⟨fd, F⟩ := c.def_ 0 (d := dd_is_number) rfl
    exact ⟨_, fd, He.glo_ok X G (c.fact 0 (f := .glo "is_number") rfl), fun_of (st := s_is_number) F, FunD.bindsN (ps := ["value"]) F fun _ _ _ _ _ _ us hl => match us, hl with | [_], _ => rfl⟩
  f_first_false := by
    obtain ⟨fd, F⟩ := c.def_ 1 (d := dd_first_false) rfl
    exact ⟨_, fd, He.glo_ok X G (c.fact 1 (f := .glo "first_false") rfl), fun_of (st := s_first_false) F, FunD.bindsN (ps := ["marks"]) F fun _ _ _ _ _ _ us hl => match us, hl with | [_], _ => rfl⟩
  f_need_line := by
    obtain ⟨fd, F⟩ := c.def_ 2 (d := dd_need_line) rfl
    exact ⟨_, fd, He.glo_ok X G (c.fact 2 (f := .glo "need_line") rfl), fun_of (st := s_need_line) F, FunD.bindsN (ps := ["pegs"]) F fun _ _ _ _ _ _ us hl => match us, hl with | [_], _ => rfl⟩
  f_line_worth := by
    obtain ⟨fd, F⟩ := c.def_ 3 (d := dd_line_worth) rfl
    exact ⟨_, fd, He.glo_ok X G (c.fact 3 (f := .glo "line_worth") rfl), fun_of (st := s_line_worth) F, FunD.bindsN (ps := ["place"]) F fun _ _ _ _ _ _ us hl => match us, hl with | [_], _ => rfl⟩
  f_line_value := by
    obtain ⟨fd, F⟩ := c.def_ 4 (d := dd_line_value) rfl
    exact ⟨_, fd, He.glo_ok X G (c.fact 4 (f := .glo "line_value") rfl), fun_of (st := s_line_value) F, FunD.bindsN (ps := ["pegs"]) F fun _ _ _ _ _ _ us hl => match us, hl with | [_], _ => rfl⟩
  f_least_line := by
    obtain ⟨fd, F⟩ := c.def_ 5 (d := dd_least_line) rfl
    exact ⟨_, fd, He.glo_ok X G (c.fact 5 (f := .glo "least_line") rfl), fun_of (st := s_least_line) F, FunD.bindsN (ps := ["value"]) F fun _ _ _ _ _ _ us hl => match us, hl with | [_], _ => rfl⟩
  f_settled := by
    obtain ⟨fd, F⟩ := c.def_ 6 (d := dd_settled) rfl
    exact ⟨_, fd, He.glo_ok X G (c.fact 6 (f := .glo "settled") rfl), fun_of (st := s_settled) F, FunD.bindsN (ps := ["pegs"]) F fun _ _ _ _ _ _ us hl => match us, hl with | [_], _ => rfl⟩
  f_line_leaps := by
    obtain ⟨fd, F⟩ := c.def_ 7 (d := dd_line_leaps) rfl
    exact ⟨_, fd, He.glo_ok X G (c.fact 7 (f := .glo "line_leaps") rfl), fun_of (st := s_line_leaps) F, FunD.bindsN (ps := ["pegs"]) F fun _ _ _ _ _ _ us hl => match us, hl with | [_], _ => rfl⟩
  f_line_after := by
    obtain ⟨fd, F⟩ := c.def_ 8 (d := dd_line_after) rfl
    exact ⟨_, fd, He.glo_ok X G (c.fact 8 (f := .glo "line_after") rfl), fun_of (st := s_line_after) F, FunD.bindsN (ps := ["pegs", "place"]) F fun _ _ _ _ _ _ us hl => match us, hl with | [_, _], _ => rfl⟩
  f_many_leaps := by
    obtain ⟨fd, F⟩ := c.def_ 9 (d := dd_many_leaps) rfl
    exact ⟨_, fd, He.glo_ok X G (c.fact 9 (f := .glo "many_leaps") rfl), fun_of (st := s_many_leaps) F, FunD.bindsN (ps := ["pegs"]) F fun _ _ _ _ _ _ us hl => match us, hl with | [_], _ => rfl⟩
  f_settling := by
    obtain ⟨fd, F⟩ := c.def_ 10 (d := dd_settling) rfl
    exact ⟨_, fd, He.glo_ok X G (c.fact 10 (f := .glo "settling") rfl), fun_of (st := s_settling) F, FunD.bindsN (ps := ["pegs"]) F fun _ _ _ _ _ _ us hl => match us, hl with | [_], _ => rfl⟩
  f_do_meet := by
    obtain ⟨fd, F⟩ := c.def_ 11 (d := dd_do_meet) rfl
    exact ⟨_, fd, He.glo_ok X G (c.fact 11 (f := .glo "do_meet") rfl), fun_of (st := s_do_meet) F, FunD.bindsN (ps := ["pegs", "other"]) F fun _ _ _ _ _ _ us hl => match us, hl with | [_, _], _ => rfl⟩
  f__law_taken := by
    obtain ⟨fd, F⟩ := c.def_ 12 (d := dd__law_taken) rfl
    exact ⟨_, fd, He.glo_ok X G (c.fact 12 (f := .glo "_law_taken") rfl), fun_of (st := s__law_taken) F, FunD.bindsN (ps := ["row", "amount"]) F fun _ _ _ _ _ _ us hl => match us, hl with | [_, _], _ => rfl⟩
  f__law_alike := by
    obtain ⟨fd, F⟩ := c.def_ 13 (d := dd__law_alike) rfl
    exact ⟨_, fd, He.glo_ok X G (c.fact 13 (f := .glo "_law_alike") rfl), fun_of (st := s__law_alike) F, FunD.bindsN (ps := ["found", "due"]) F fun _ _ _ _ _ _ us hl => match us, hl with | [_, _], _ => rfl⟩
  f__law_same := by
    obtain ⟨fd, F⟩ := c.def_ 14 (d := dd__law_same) rfl
    exact ⟨_, fd, He.glo_ok X G (c.fact 14 (f := .glo "_law_same") rfl), fun_of (st := s__law_same) F, FunD.bindsN (ps := ["found", "due"]) F fun _ _ _ _ _ _ us hl => match us, hl with | [_, _], _ => rfl⟩
  f__law_refusal := by
    obtain ⟨fd, F⟩ := c.def_ 15 (d := dd__law_refusal) rfl
    exact ⟨_, fd, He.glo_ok X G (c.fact 15 (f := .glo "_law_refusal") rfl), fun_of (st := s__law_refusal) F, FunD.bindsN (ps := ["e"]) F fun _ _ _ _ _ _ us hl => match us, hl with | [_], _ => rfl⟩
  f__law_told := by
    obtain ⟨fd, F⟩ := c.def_ 16 (d := dd__law_told) rfl
    exact ⟨_, fd, He.glo_ok X G (c.fact 16 (f := .glo "_law_told") rfl), fun_of (st := s__law_told) F, FunD.bindsN (ps := ["call"]) F fun _ _ _ _ _ _ us hl => match us, hl with | [_], _ => rfl⟩
  f__law_ends := by
    obtain ⟨fd, F⟩ := c.def_ 17 (d := dd__law_ends) rfl
    exact ⟨_, fd, He.glo_ok X G (c.fact 17 (f := .glo "_law_ends") rfl), fun_of (st := s__law_ends) F, FunD.bindsN (ps := ["pegs"]) F fun _ _ _ _ _ _ us hl => match us, hl with | [_], _ => rfl⟩
  f_law := by
    obtain ⟨fd, F⟩ := c.def_ 18 (d := dd_law) rfl
    exact ⟨_, fd, He.glo_ok X G (c.fact 18 (f := .glo "law") rfl), fun_of (st := s_law) F, FunD.bindsN (ps := ["script"]) F fun _ _ _ _ _ _ us hl => match us, hl with | [_], _ => rfl⟩
  t_law := fun f fd hm F => by
    have hg := He.glo_ok X G (c.fact 18 (f := .glo "law") rfl)
    rw [hm] at hg
    cases hg
    exact tab_at F (hd _ (by decide)) (TB _ (List.mem_map.mpr ⟨("law", none), by decide, rfl⟩)) (by decide)
theorem bindL {K : PySem.W.Frag} (c : He.SaysD faH fnH K) : ∃ fd, Fun K "law" "law" s_law (He.fAd K ("law", none)) fd ∧ ∀ (s : Shared) (u : Value), BindsTo s fd ⟨[u], []⟩ [("script", u)] := by
  obtain ⟨fd, F⟩ := c.def_ 18 (d := dd_law) rfl
  have b := FunD.bindsA (ps := ["script"]) F fun _ _ _ _ _ _ us hl => match us, hl with | [_], _ => rfl
  exact ⟨fd, fun_of (st := s_law) F, fun s v => b s [v] rfl⟩

theorem endH {w : World} {K : PySem.W.Frag} {h : Heap} {mg : Str → Option Value} {fa : Addr} (X : K.In h) (G : h.Ns mainGlobals mg) (hmg : mg "law" = some (.ref fa)) (cy : DX.SaysY faH fnH tfH exH xsH w h K) :
    ∃ K : PySem.W.Frag, K.In h ∧ DX.LawAtG PySem.Challenge.rw_leaptover_k17_whole_lines_that_settle w K L2.CX0 10 63 "script" mg fa h := by
  have cx := cy.1
  have c : He.SaysD faH fnH K := congrArg Prod.fst cx.t
  obtain ⟨fd, F, hb⟩ := bindL c
  have hcs : ∀ p ∈ tfH.map (He.cT K), ∃ d ∈ tfH, p = He.cT K d := fun p hp => let ⟨d, h1, h2⟩ := List.mem_map.mp hp; ⟨d, h1, h2.symm⟩
  refine ⟨K, X, fd, tfH.map (He.cT K), fun vs H Q E => spLaw K (fun _ => True) vs H Q E ∧ ∀ c d H1, ¬ E c d H1, fun p hp => ?_, fun p hp => ?_, fun p hp => ?_, hb, fun H a ns hl _ hT hS => ⟨spLaw_of (He.ba cx.more).1 (cx.out) hl hS hT fun _ => rfl, fun _ _ _ h => h⟩, fun base _ _ TB => ?_⟩
  · obtain ⟨d, h1, rfl⟩ := hcs p hp
    exact cx.empty d h1
  · obtain ⟨d, h1, rfl⟩ := hcs p hp
    exact cx.out d h1
  · obtain ⟨d, h1, rfl⟩ := hcs p hp
    exact PySem.W.codeHd_of_K X (cx.hd d h1)
  have T := hdH X G c cx.more (fun i d hd => cy.fn hd) cx.hd TB
  obtain ⟨f2, fd2, e2, F2, _, h2⟩ := ok_law (w := w) (base := base) T (fun _ => True) fun ns a sc _ _ => law_all ns a sc
  have ef : f2 = fa := by
    rw [hmg] at e2
    cases e2
    rfl
  subst ef
  have e3 : He.fAd K ("law", none) = f2 := by
    have := He.glo_ok X G (c.fact 18 (f := .glo "law") rfl)
    rw [hmg] at this
    cases this
    rfl
  rw [e3] at F
  have : fd2 = fd := by
    obtain ⟨oc, od, kV, doc, pm, an, cdv, ct, osl, h1, lk, _⟩ := F.ex
    obtain ⟨oc', od', kV', doc', pm', an', cdv', ct', osl', h1', lk', _⟩ := F2.ex
    rw [lk] at lk'
    cases lk'
    rfl
  subst this
  exact shut h2

end LT

open PySem PySem.W PySem.Calls PyProof.Rows
theorem PySem.Challenge.cw_leaptover_k17_whole_lines_that_settle_holds : PySem.Challenge.rw_leaptover_k17_whole_lines_that_settle.Holds := by
  w_on; o_law
  refine HandSHeadRun.head_any (r := OpenLaw.row PySem.Challenge.rw_leaptover_k17_whole_lines_that_settle) (q := view (OpenLaw.row PySem.Challenge.rw_leaptover_k17_whole_lines_that_settle).prog [33]) (H := LT.hookH) (ob := LT.obH) (M := 4000) (loose := LT.looseH) (d := HandSHeadRun.topDef (OpenLaw.row PySem.Challenge.rw_leaptover_k17_whole_lines_that_settle).prog 33) (kwd := []) LT.obH_eq
    (by kernel_rfl) (fun s => by kernel_rfl) LT.runH (by kernel_rfl) (by kernel_rfl) (by kernel_rfl) (by rfl) (by first | assumption | decide +kernel) (by decide +kernel) ⟨rfl, rfl, rfl, rfl, rfl, by decide +kernel⟩ ?hw ?hc
  case hw => w_witness2
  case hc =>
    refine DX.walk_ofG (l := PySem.Challenge.rw_leaptover_k17_whole_lines_that_settle) (n := 63) (k := 10) (x := "script") (CX := fun _ => L2.CX0) rfl (by decide) (by kernel_rfl) ⟨rfl, by decide, by decide⟩ ?F (fun _ _ _ _ _ z => z)
    intro w mg fa h Y G hmg0
    obtain ⟨K, KX, c⟩ := Y
    have hmg : mg ("law" : PySem.Str) = some (.ref fa) := by
      have e : (HandSHeadRun.topDef (OpenLaw.row PySem.Challenge.rw_leaptover_k17_whole_lines_that_settle).prog 33).name = ("law" : PySem.Str) := by kernel_rfl
      rw [← e]
      exact hmg0
    exact LT.endH KX G hmg c

