import PyProof.Rows.All
import Wide.All
import OpenK.AllK
import Wide.FinOn
import HandS.ForMost
import HandS.Lambda
import KE.KDflt
import HandS.TupAny
import HandS.Wide
import HandS.IsInst
import HandS.Style
import HandS.SortInts
import HandS.NoneIn
import HandS.SetFor
import HandS.Strs
import KE.GoesMore
import HandS.CallLocal
import KE.KUnpack
import PyProof.CollectIter
import KE.KDictPairs
import KE.KDictList
import KE.SortData
import HandS.Sort
import HandS.Defaults
import HandS.TryOnly
import KE.DataMinMax
import HandS.DictTup
import HandS.Iter
import KE.KDictWalk
import HandS.Deep
import HandS.Exc
import HandS.ExcOwn
import HandS.ExcInit
import HandS.WordsExc
import HandS.ExcField
import KE.KExcIs
import KE.DataFind
import HandS.Evl
import HandS.EndTab
import HandS.Flow
import PySem.Challenge.RW_hushnotice_k02_hours
set_option Elab.async false
set_option linter.all false
set_option maxRecDepth 100000
set_option autoImplicit false
/-! A small language of states behind the hand layer: data, cells, slots, and what they say of the tracked heap. -/
namespace Yi
open PySem L2
/-- data: tuples and settled lists stand by their items; ref n is the n-th cell; lk the script; fn a def at an address -/
inductive D where
  | non | bl (b : Bool) | int (i : Int) | str (s : Str)
  | tp (b : Bool) (ds : List D) | fl (ds : List D) | lk (ns : List Int) | ref (n : Nat) | fn (n : Nat) | ty (n : String)
  /-- the n-th lambda, made in the frame at t; .. of a frame that is gone, its names' values -/
  | clo (n : Nat) (t : Nat) | dcl (n : Nat) (ds : List D)
/-- a tuple -/
abbrev D.tup (ds : List D) : D := .tp false ds
/-- a tuple that tuple() made of a list: a plain object -/
abbrev D.pt (ds : List D) : D := .tp true ds
inductive Cell where
  | lst (ds : List D) | dk (kvs : List (Key × D)) | dt (kvs : List (List Key × D)) | ins (c : Nat) (fs : List (Str × D)) | lk (kvs : List (Key × D))
/-- a value: data, or a new object that nobody else holds -/
inductive VV where
  | d (x : D) | own (c : Cell)
abbrev Slt := List (Option VV)
abbrev Sto := List Cell
/-- the object at b is just o -/
def pinO (o : Obj) (b : Addr) : HO := .ext fun h => h.get? b = some o
/-- a lambda of the text: its maker's scope and names; the default of its one parameter -/
structure LamD where
  qual : Str
  ps : Arguments
  body : Expr
  sc : Scope
  ms : Scope
  N : List Str
  df : Option Int
abbrev mkCells (l : LamD) (t : Addr) : List (Str × Addr) := cellsFrom (t + 1) l.ms.names []
abbrev lamObj (l : LamD) (t : Addr) (dV doc pm ctv : Value) (c' : Addr) : Obj := PySem.W.kdv_obj "<lambda>" l.qual l.ps (.expr l.body) l.sc (cloFrom (mkCells l t) l.sc.names []) dV doc pm c' ctv
/-- what the text tells: the written part, the classes -/
structure Gm where
  K : PySem.W.Frag
  cl : Nat → Addr
  fn : Nat → Addr
  /-- classes of exceptions; tables of code objects, with the name that these bear -/
  xc : Nat → Addr := fun _ => 0
  tb : List (Addr × Str) := []
  lm : Nat → Option LamD := fun _ => none
/-- no table -/
def NT (o : HO) : Prop := ∀ ps, o ≠ .tbl ps
/-- a table, as it stands; its code objects are settled -/
def TabF (F H : Hp) (P : Addr) (q : Str) : Prop := F P = none ∧ ∃ ps : Array Value, H P = some (.tbl ps) ∧ PySem.TriplesOk ps.toList ∧ ∀ (pos : Pos) (cv : Value), PySem.codeAmong pos ps.toList = some cv → ∃ c, cv = .ref c ∧ F c = some (LamX.CodeO c q)
theorem TabF.wr {F F' H : Hp} {P C : Addr} {q : Str} {o : HO} (t : TabF F H P q) (e : ∀ a u, F a = some u → F' a = some u) (h : ∀ ps, H C ≠ some (.tbl ps)) (n : (∃ ps, H P = some (.tbl ps)) → F P = none → F' P = none := by exact fun _ z => z) : TabF F' (upd H C o) P q := by
  obtain ⟨h0, ps, h1, h2, h3⟩ := t
  refine ⟨n ⟨ps, h1⟩ h0, ps, ?_, h2, fun pos cv hc => ?_⟩
  · rw [upd_ne (a := C) (b := P) fun z => h ps (by rw [← z]; exact h1)]
    exact h1
  · obtain ⟨c, e1, e2⟩ := h3 pos cv hc
    exact ⟨c, e1, e _ _ e2⟩
theorem TabF.fx {F F' H : Hp} {P : Addr} {q : Str} (t : TabF F H P q) (e : ∀ a u, F a = some u → F' a = some u) (n : (∃ ps, H P = some (.tbl ps)) → F P = none → F' P = none) : TabF F' H P q := by
  obtain ⟨h0, ps, h1, h2, h3⟩ := t
  exact ⟨n ⟨ps, h1⟩ h0, ps, h1, h2, fun pos cv hc => let ⟨c, e1, e2⟩ := h3 pos cv hc; ⟨c, e1, e _ _ e2⟩⟩
abbrev Pre (a b : List Addr) : Prop := a <+: b
/-- an empty tuple that stood there from the start -/
def PlE (K : PySem.W.Frag) (a : Addr) : Prop := ∃ (o : Obj) (n : Nat), K.lookup a = some o ∧ o.cls = .type "tuple" ∧ o.dict = none ∧ o.data = .seq #[] n
def TPk (K : PySem.W.Frag) (F : Hp) : Bool → List D → Addr → List V → Prop
  | true, _, a, vs => ∃ o : Obj, F a = some (.frz o (.tup vs)) ∧ o.dict = none
  | false, ds, a, vs => F a = some (.tup vs) ∨ (ds = [] ∧ PlE K a)
theorem TPk.ex {K : PySem.W.Frag} {F F' : Hp} {ds : List D} {a : Addr} {vs : List V} (e : ∀ a o, F a = some o → F' a = some o) : ∀ {b : Bool}, TPk K F b ds a vs → TPk K F' b ds a vs
  | true, ⟨o, h1, h2⟩ => ⟨o, e _ _ h1, h2⟩
  | false, h => h.imp (e _ _) id
def DfV (F : Hp) : Option Int → Value → Prop
  | none, dV => dV = .none
  | some k, dV => ∃ a, dV = .ref a ∧ F a = some (.tup [.int k])
/-- a lambda's object -/
def CloV (F : Hp) (l : LamD) (t : Addr) (v : V) : Prop := ∃ (f c' : Addr) (dV doc pm ctv : Value), v = .ref f ∧ F f = some (pinO (lamObj l t dV doc pm ctv c') f) ∧ F c' = some (LamX.CodeO c' l.qual) ∧ DfV F l.df dV
/-- its maker's cells, settled -/
def CelF (F : Hp) (l : LamD) (t : Addr) (vs : List V) : Prop :=
  (∀ y c, (mkCells l t).lookup y = some c → ∃ o v, F c = some (pinO o c) ∧ o.data = .cell v) ∧
    ∀ (i : Nat) (y : Str) (v : V), l.N[i]? = some y → vs[i]? = some v → l.ms.names.lookup y = some .cell → ∃ c o u, (mkCells l t).lookup y = some c ∧ F c = some (pinO o c) ∧ o.data = .cell (some u) ∧ RelV v u
theorem DfV.ex {F F' : Hp} (e : ∀ a o, F a = some o → F' a = some o) : ∀ {d : Option Int} {v : Value}, DfV F d v → DfV F' d v
  | none, _, h => h
  | some _, _, ⟨a, h1, h2⟩ => ⟨a, h1, e _ _ h2⟩
theorem CloV.ex {F F' : Hp} {l : LamD} {t : Addr} {v : V} (e : ∀ a o, F a = some o → F' a = some o) : CloV F l t v → CloV F' l t v := fun ⟨f, c', dV, doc, pm, ctv, h1, h2, h3, h4⟩ => ⟨f, c', dV, doc, pm, ctv, h1, e _ _ h2, e _ _ h3, h4.ex e⟩
theorem CelF.ex {F F' : Hp} {l : LamD} {t : Addr} {vs : List V} (e : ∀ a o, F a = some o → F' a = some o) : CelF F l t vs → CelF F' l t vs := fun ⟨h1, h2⟩ =>
  ⟨fun y c q => let ⟨o, v, e1, e2⟩ := h1 y c q; ⟨o, v, e _ _ e1, e2⟩, fun i y v q1 q2 q3 => let ⟨c, o, u, e1, e2, e3⟩ := h2 i y v q1 q2 q3; ⟨c, o, u, e1, e _ _ e2, e3⟩⟩
section
variable (G : Gm)
mutual
def RD (F : Hp) (ι : List Addr) : D → V → Prop
  | .non, v => v = .non
  | .bl b, v => v = .bl b
  | .int i, v => v = .int i
  | .str s, v => v = .str s
  | .tp b ds, v => ∃ a vs, v = .ref a ∧ SqT G.K F a vs ∧ TPk G.K F b ds a vs ∧ RDs F ι ds vs
  | .fl ds, v => ∃ a vs, v = .ref a ∧ F a = some (.lst vs) ∧ RDs F ι ds vs
  | .lk ns, v => ∃ a, v = .ref a ∧ SqL G.K F a (ns.map V.int)
  | .ref n, v => ∃ a, v = .ref a ∧ ι[n]? = some a
  | .fn n, v => v = .ref (G.fn n)
  | .ty n, v => v = .ty n
  | .clo n t, v => ∃ l, G.lm n = some l ∧ CloV F l t v
  | .dcl n ds, v => ∃ l t vs, G.lm n = some l ∧ CloV F l t v ∧ CelF F l t vs ∧ RDs F ι ds vs
def RDs (F : Hp) (ι : List Addr) : List D → List V → Prop
  | [], vs => vs = []
  | d :: ds, vs => ∃ v r, vs = v :: r ∧ RD F ι d v ∧ RDs F ι ds r
end
def RKs {κ : Type} (F : Hp) (ι : List Addr) : List (κ × D) → List (κ × V) → Prop
  | [], kv => kv = []
  | (k, d) :: r, kv => ∃ v r', kv = (k, v) :: r' ∧ RD G F ι d v ∧ RKs F ι r r'
def RC (F : Hp) (ι : List Addr) : Cell → HO → Prop
  | .lst ds, o => ∃ vs, o = .lst vs ∧ RDs G F ι ds vs
  | .dk kvs, o => ∃ kv, o = .dK kv ∧ RKs G F ι kvs kv
  | .dt kvs, o => ∃ kv, o = .dT kv ∧ RKs G F ι kvs kv
  | .ins c fs, o => ∃ dx kv, o = .ins (G.cl c) dx kv ∧ RKs G F ι fs kv
  | .lk kvs, o => ∃ ob kv, o = .frz ob (.dK kv) ∧ RKs G F ι kvs kv
end
section
variable {G : Gm} {F F' H H' : Hp} {ι ι' : List Addr}
theorem pre_get {a b : List Addr} (h : Pre a b) {n : Nat} {x : Addr} (e : a[n]? = some x) : b[n]? = some x := by
  obtain ⟨t, rfl⟩ := h
  have hn := (List.getElem?_eq_some_iff.mp e).1
  rw [List.getElem?_append_left hn]
  exact e
theorem rd_ex {a : Addr} {u : HO} (e : Same F F') (h : Rd F a u) : Rd F' a u := by
  rcases h with h | ⟨o, h⟩
  · exact .inl (e _ _ h)
  · exact .inr ⟨o, e _ _ h⟩
theorem sqt_ex {K : PySem.W.Frag} {a : Addr} {xs : List V} (e : Same F F') (h : SqT K F a xs) : SqT K F' a xs := h.elim (fun z => .inl (rd_ex e z)) .inr
theorem sql_ex {K : PySem.W.Frag} {a : Addr} {xs : List V} (e : Same F F') (h : SqL K F a xs) : SqL K F' a xs := h.elim (fun z => .inl (rd_ex e z)) .inr
mutual
theorem RD.mono (e : Same F F') (p : Pre ι ι') : ∀ {d : D} {v : V}, RD G F ι d v → RD G F' ι' d v
  | .non, _, h => by simp only [RD] at h ⊢; exact h
  | .bl _, _, h => by simp only [RD] at h ⊢; exact h
  | .int _, _, h => by simp only [RD] at h ⊢; exact h
  | .str _, _, h => by simp only [RD] at h ⊢; exact h
  | .tp b ds, _, h => by
    simp only [RD] at h ⊢
    obtain ⟨a, vs, h1, h2, h3, h4⟩ := h
    exact ⟨a, vs, h1, sqt_ex e h2, h3.ex e, RDs.mono e p h4⟩
  | .fl ds, _, h => by
    simp only [RD] at h ⊢
    obtain ⟨a, vs, h1, h2, h4⟩ := h
    exact ⟨a, vs, h1, e _ _ h2, RDs.mono e p h4⟩
  | .lk ns, _, h => by
    simp only [RD] at h ⊢
    obtain ⟨a, h1, h2⟩ := h
    exact ⟨a, h1, sql_ex e h2⟩
  | .ref n, _, h => by
    simp only [RD] at h ⊢
    obtain ⟨a, h1, h2⟩ := h
    exact ⟨a, h1, pre_get p h2⟩
  | .fn _, _, h => by simp only [RD] at h ⊢; exact h
  | .ty _, _, h => by simp only [RD] at h ⊢; exact h
  | .clo _ _, _, h => by
    simp only [RD] at h ⊢
    obtain ⟨l, h1, h2⟩ := h
    exact ⟨l, h1, h2.ex e⟩
  | .dcl _ ds, _, h => by
    simp only [RD] at h ⊢
    obtain ⟨l, t, vs, h1, h2, h3, h4⟩ := h
    exact ⟨l, t, vs, h1, h2.ex e, h3.ex e, RDs.mono e p h4⟩
theorem RDs.mono (e : Same F F') (p : Pre ι ι') : ∀ {ds : List D} {vs : List V}, RDs G F ι ds vs → RDs G F' ι' ds vs
  | [], _, h => by simp only [RDs] at h ⊢; exact h
  | d :: ds, _, h => by
    simp only [RDs] at h ⊢
    obtain ⟨v, r, h1, h2, h3⟩ := h
    exact ⟨v, r, h1, RD.mono e p h2, RDs.mono e p h3⟩
end
theorem RKs.mono {κ : Type} (e : Same F F') (p : Pre ι ι') : ∀ {kvs : List (κ × D)} {kv : List (κ × V)}, RKs G F ι kvs kv → RKs G F' ι' kvs kv
  | [], _, h => h
  | (k, d) :: r, _, ⟨v, r', h1, h2, h3⟩ => ⟨v, r', h1, h2.mono e p, RKs.mono e p h3⟩
theorem RC.mono (e : Same F F') (p : Pre ι ι') {c : Cell} {o : HO} (h : RC G F ι c o) : RC G F' ι' c o := by
  cases c with
  | lst ds => obtain ⟨vs, h1, h2⟩ := h; exact ⟨vs, h1, h2.mono e p⟩
  | dk kvs => obtain ⟨vs, h1, h2⟩ := h; exact ⟨vs, h1, h2.mono e p⟩
  | dt kvs => obtain ⟨vs, h1, h2⟩ := h; exact ⟨vs, h1, h2.mono e p⟩
  | ins c fs => obtain ⟨dx, vs, h1, h2⟩ := h; exact ⟨dx, vs, h1, h2.mono e p⟩
  | lk kvs => obtain ⟨dx, vs, h1, h2⟩ := h; exact ⟨dx, vs, h1, h2.mono e p⟩
theorem RC.nt {c : Cell} {o : HO} (h : RC G F ι c o) : NT o := fun ps z => by
  subst z
  cases c with
  | lst ds => obtain ⟨vs, h1, _⟩ := h; cases h1
  | dk kvs => obtain ⟨vs, h1, _⟩ := h; cases h1
  | dt kvs => obtain ⟨vs, h1, _⟩ := h; cases h1
  | ins c fs => obtain ⟨dx, vs, h1, _⟩ := h; cases h1
  | lk kvs => obtain ⟨dx, vs, h1, _⟩ := h; cases h1
theorem RC.noT {c : Cell} {o : HO} {H : Hp} {a : Addr} (h : RC G F ι c o) (e : H a = some o) : ∀ ps, H a ≠ some (.tbl ps) := fun ps z => h.nt ps (Option.some.inj (e.symm.trans z))
theorem rds_nil {vs : List V} : RDs G F ι [] vs ↔ vs = [] := by simp only [RDs]
theorem rds_cons {d : D} {ds : List D} {vs : List V} : RDs G F ι (d :: ds) vs ↔ ∃ v r, vs = v :: r ∧ RD G F ι d v ∧ RDs G F ι ds r := by simp only [RDs]
theorem RDs.len : ∀ {ds : List D} {vs : List V}, RDs G F ι ds vs → ds.length = vs.length
  | [], _, h => by rw [rds_nil] at h; subst h; rfl
  | d :: ds, _, h => by
    obtain ⟨v, r, rfl, _, h3⟩ := rds_cons.mp h
    exact congrArg Nat.succ h3.len
theorem RDs.get : ∀ {ds : List D} {vs : List V}, RDs G F ι ds vs → ∀ {i : Nat} {d : D}, ds[i]? = some d → ∃ v, vs[i]? = some v ∧ RD G F ι d v
  | [], _, _, i, d, e => by simp at e
  | x :: ds, _, h, 0, d, e => by
    obtain ⟨v, r, rfl, h2, _⟩ := rds_cons.mp h
    have e' : x = d := by simpa using e
    subst e'
    exact ⟨v, rfl, h2⟩
  | x :: ds, _, h, i + 1, d, e => by
    obtain ⟨v, r, rfl, _, h3⟩ := rds_cons.mp h
    obtain ⟨w, q1, q2⟩ := h3.get (i := i) (d := d) (by simpa using e)
    exact ⟨w, by simpa using q1, q2⟩
theorem RDs.getV : ∀ {ds : List D} {vs : List V}, RDs G F ι ds vs → ∀ {i : Nat} {v : V}, vs[i]? = some v → ∃ d, ds[i]? = some d ∧ RD G F ι d v
  | [], _, h, i, d, e => by rw [rds_nil] at h; subst h; simp at e
  | x :: ds, _, h, 0, d, e => by
    obtain ⟨v, r, rfl, h2, _⟩ := rds_cons.mp h
    have e' : v = d := by simpa using e
    subst e'
    exact ⟨x, rfl, h2⟩
  | x :: ds, _, h, i + 1, d, e => by
    obtain ⟨v, r, rfl, _, h3⟩ := rds_cons.mp h
    obtain ⟨w, q1, q2⟩ := h3.getV (i := i) (v := d) (by simpa using e)
    exact ⟨w, by simpa using q1, q2⟩
theorem RDs.app : ∀ {ds es : List D} {vs ws : List V}, RDs G F ι ds vs → RDs G F ι es ws → RDs G F ι (ds ++ es) (vs ++ ws)
  | [], _, _, _, h, k => by rw [rds_nil] at h; subst h; exact k
  | d :: ds, _, _, _, h, k => by
    obtain ⟨v, r, rfl, h2, h3⟩ := rds_cons.mp h
    exact rds_cons.mpr ⟨v, _, rfl, h2, h3.app k⟩
theorem RDs.one {d : D} {v : V} (h : RD G F ι d v) : RDs G F ι [d] [v] := rds_cons.mpr ⟨v, [], rfl, h, rds_nil.mpr rfl⟩
theorem RDs.take : ∀ {ds : List D} {vs : List V} (n : Nat), RDs G F ι ds vs → RDs G F ι (ds.take n) (vs.take n)
  | _, _, 0, _ => by rw [List.take_zero, List.take_zero]; exact rds_nil.mpr rfl
  | [], _, n + 1, h => by rw [rds_nil] at h; subst h; rw [List.take_nil, List.take_nil]; exact rds_nil.mpr rfl
  | d :: ds, _, n + 1, h => by
    obtain ⟨v, r, rfl, h2, h3⟩ := rds_cons.mp h
    rw [List.take_succ_cons, List.take_succ_cons]
    exact rds_cons.mpr ⟨v, _, rfl, h2, h3.take n⟩
theorem RDs.drop : ∀ {ds : List D} {vs : List V} (n : Nat), RDs G F ι ds vs → RDs G F ι (ds.drop n) (vs.drop n)
  | _, _, 0, h => by rw [List.drop_zero, List.drop_zero]; exact h
  | [], _, n + 1, h => by rw [rds_nil] at h; subst h; rw [List.drop_nil, List.drop_nil]; exact rds_nil.mpr rfl
  | d :: ds, _, n + 1, h => by
    obtain ⟨v, r, rfl, h2, h3⟩ := rds_cons.mp h
    rw [List.drop_succ_cons, List.drop_succ_cons]
    exact h3.drop n
theorem RDs.set {d : D} {v : V} (hd : RD G F ι d v) : ∀ {ds : List D} {vs : List V} (n : Nat), RDs G F ι ds vs → RDs G F ι (ds.set n d) (vs.set n v)
  | [], _, _, h => by rw [rds_nil] at h; subst h; exact rds_nil.mpr rfl
  | x :: ds, _, 0, h => by
    obtain ⟨w, r, rfl, _, h3⟩ := rds_cons.mp h
    exact rds_cons.mpr ⟨v, r, rfl, hd, h3⟩
  | x :: ds, _, n + 1, h => by
    obtain ⟨w, r, rfl, h2, h3⟩ := rds_cons.mp h
    exact rds_cons.mpr ⟨w, _, rfl, h2, h3.set hd n⟩
theorem RDs.erase : ∀ {ds : List D} {vs : List V} (n : Nat), RDs G F ι ds vs → RDs G F ι (ds.eraseIdx n) (vs.eraseIdx n)
  | [], _, _, h => by rw [rds_nil] at h; subst h; exact rds_nil.mpr rfl
  | x :: ds, _, 0, h => by
    obtain ⟨w, r, rfl, _, h3⟩ := rds_cons.mp h
    exact h3
  | x :: ds, _, n + 1, h => by
    obtain ⟨w, r, rfl, h2, h3⟩ := rds_cons.mp h
    exact rds_cons.mpr ⟨w, _, rfl, h2, h3.erase n⟩
theorem RDs.rep {d : D} {v : V} (hd : RD G F ι d v) : ∀ n : Nat, RDs G F ι (List.replicate n d) (List.replicate n v)
  | 0 => rds_nil.mpr rfl
  | n + 1 => rds_cons.mpr ⟨v, _, rfl, hd, RDs.rep hd n⟩
theorem RDs.rev {ds : List D} {vs : List V} (h : RDs G F ι ds vs) : RDs G F ι ds.reverse vs.reverse := by
  induction ds generalizing vs with
  | nil => rw [rds_nil] at h; subst h; exact rds_nil.mpr rfl
  | cons d ds ih =>
    obtain ⟨v, r, rfl, h2, h3⟩ := rds_cons.mp h
    rw [List.reverse_cons, List.reverse_cons]
    exact (ih h3).app (RDs.one h2)
theorem rds_ints : ∀ {ns : List Int} {vs : List V}, RDs G F ι (ns.map D.int) vs ↔ vs = ns.map V.int
  | [], vs => rds_nil
  | n :: ns, vs => by
    rw [List.map_cons, List.map_cons, rds_cons]
    constructor
    · rintro ⟨v, r, rfl, h2, h3⟩
      simp only [RD] at h2
      rw [h2, rds_ints.mp h3]
    · rintro rfl
      exact ⟨_, _, rfl, by simp only [RD], rds_ints.mpr rfl⟩
theorem rds_strs : ∀ {ns : List Str} {vs : List V}, RDs G F ι (ns.map D.str) vs ↔ vs = ns.map V.str
  | [], vs => rds_nil
  | n :: ns, vs => by
    rw [List.map_cons, List.map_cons, rds_cons]
    constructor
    · rintro ⟨v, r, rfl, h2, h3⟩
      simp only [RD] at h2
      rw [h2, rds_strs.mp h3]
    · rintro rfl
      exact ⟨_, _, rfl, by simp only [RD], rds_strs.mpr rfl⟩
theorem rds_bls : ∀ {ns : List Bool} {vs : List V}, RDs G F ι (ns.map D.bl) vs ↔ vs = ns.map V.bl
  | [], vs => rds_nil
  | n :: ns, vs => by
    rw [List.map_cons, List.map_cons, rds_cons]
    constructor
    · rintro ⟨v, r, rfl, h2, h3⟩
      simp only [RD] at h2
      rw [h2, rds_bls.mp h3]
    · rintro rfl
      exact ⟨_, _, rfl, by simp only [RD], rds_bls.mpr rfl⟩
/-! ### the state -/
structure Rep (G : Gm) (F : Hp) (ι : List Addr) (S : Sto) (H : Hp) : Prop where
  ex : Same F H
  cell : ∀ (n : Nat) (c : Cell), S[n]? = some c → ∃ a o, ι[n]? = some a ∧ H a = some o ∧ RC G F ι c o
  len : ι.length = S.length
  nd : ι.Nodup
  sep : ∀ a ∈ ι, F a = none
  tb : ∀ p ∈ G.tb, TabF F H p.1 p.2
def OwnA (ρ : Slt) (σ : St) (a : Addr) : Prop := ∃ (i : Nat) (c : Cell), ρ[i]? = some (some (.own c)) ∧ σ[i]? = some (some (.ref a))
def NoO (_ : Addr) : Prop := False
structure Sls (G : Gm) (F : Hp) (ι : List Addr) (ρ : Slt) (σ : St) (H : Hp) : Prop where
  len : ρ.length = σ.length
  val : ∀ (i : Nat) (d : D), ρ[i]? = some (some (.d d)) → ∃ v, σ[i]? = some (some v) ∧ RD G F ι d v
  own : ∀ (i : Nat) (c : Cell), ρ[i]? = some (some (.own c)) → ∃ a o, σ[i]? = some (some (.ref a)) ∧ H a = some o ∧ RC G F ι c o ∧ F a = none ∧ a ∉ ι
  osep : ∀ (i j : Nat) (ci cj : Cell) (a : Addr), ρ[i]? = some (some (.own ci)) → ρ[j]? = some (some (.own cj)) → σ[i]? = some (some (.ref a)) → σ[j]? = some (some (.ref a)) → i = j
structure Sta (G : Gm) (F : Hp) (ι : List Addr) (S : Sto) (ρ : Slt) (σ : St) (H : Hp) : Prop where
  rep : Rep G F ι S H
  sl : Sls G F ι ρ σ H
/-- what a step leaves: O, O' the addresses that the frame alone holds -/
structure Stp (F : Hp) (ι : List Addr) (O : Addr → Prop) (H : Hp) (F' : Hp) (ι' : List Addr) (O' : Addr → Prop) (H' : Hp) : Prop where
  exF : Same F F'
  pre : Pre ι ι'
  fr : ∀ a o, H a = some o → a ∉ ι → ¬ O a → NT o → H' a = some o
  nF : ∀ a, F' a ≠ none → F a ≠ none ∨ H a = none ∨ O a
  nI : ∀ a, a ∈ ι' → a ∈ ι ∨ H a = none ∨ O a
  nO : ∀ a, O' a → O a ∨ H a = none
  dom : ∀ a, H a ≠ none → H' a ≠ none
  fz : ∀ a ob u, H a = some (.frz ob u) → H' a = some (.frz ob u)
theorem pre_mem {a b : List Addr} (h : Pre a b) {x : Addr} (e : x ∈ a) : x ∈ b := by
  obtain ⟨t, rfl⟩ := h
  exact List.mem_append_left _ e
theorem Stp.refl {O : Addr → Prop} : Stp F ι O H F ι O H :=
  ⟨Same.refl _, List.prefix_refl _, fun _ _ h _ _ _ => h, fun _ h => .inl h, fun _ h => .inl h, fun _ h => .inl h, fun _ h => h, fun _ _ _ h => h⟩
theorem Stp.trans {F1 F2 H1 H2 : Hp} {ι1 ι2 : List Addr} {O O1 O2 : Addr → Prop} (a : Stp F ι O H F1 ι1 O1 H1) (b : Stp F1 ι1 O1 H1 F2 ι2 O2 H2) : Stp F ι O H F2 ι2 O2 H2 where
  exF := a.exF.trans b.exF
  pre := a.pre.trans b.pre
  fr := fun x o h n1 n2 nt => by
    have hne : H x ≠ none := by rw [h]; exact fun z => by cases z
    refine b.fr x o (a.fr x o h n1 n2 nt) (fun z => ?_) (fun z => ?_) nt
    · rcases a.nI x z with q | q | q
      · exact n1 q
      · exact hne q
      · exact n2 q
    · rcases a.nO x z with q | q
      · exact n2 q
      · exact hne q
  nF := fun x h => by
    rcases b.nF x h with q | q | q
    · exact a.nF x q
    · exact .inr (.inl (Classical.byContradiction fun z => a.dom x z q))
    · rcases a.nO x q with r | r
      · exact .inr (.inr r)
      · exact .inr (.inl r)
  nI := fun x h => by
    rcases b.nI x h with q | q | q
    · exact a.nI x q
    · exact .inr (.inl (Classical.byContradiction fun z => a.dom x z q))
    · rcases a.nO x q with r | r
      · exact .inr (.inr r)
      · exact .inr (.inl r)
  nO := fun x h => by
    rcases b.nO x h with q | q
    · exact a.nO x q
    · exact .inr (Classical.byContradiction fun z => a.dom x z q)
  dom := fun x h => b.dom x (a.dom x h)
  fz := fun x ob u h => b.fz x ob u (a.fz x ob u h)
/-- fewer are held behind -/
theorem Stp.less {O O' O2 : Addr → Prop} {F1 H1 : Hp} {ι1 : List Addr} (a : Stp F ι O H F1 ι1 O' H1) (h : ∀ x, O2 x → O' x) : Stp F ι O H F1 ι1 O2 H1 :=
  ⟨a.exF, a.pre, a.fr, a.nF, a.nI, fun x q => a.nO x (h x q), a.dom, a.fz⟩
/-- the addresses told as held ahead may be more -/
theorem Stp.more {O O' O2 : Addr → Prop} {F1 H1 : Hp} {ι1 : List Addr} (a : Stp F ι O H F1 ι1 O' H1) (h : ∀ x, O x → O2 x) : Stp F ι O2 H F1 ι1 O' H1 :=
  ⟨a.exF, a.pre, fun x o q n1 n2 nt => a.fr x o q n1 (fun z => n2 (h x z)) nt, fun x q => (a.nF x q).imp_right (Or.imp_right (h x)), fun x q => (a.nI x q).imp_right (Or.imp_right (h x)), fun x q => (a.nO x q).imp_left (h x), a.dom, a.fz⟩
/-- a call (or what keeps the frame's own objects) lies behind a state with slots -/
theorem Sta.after {S S' : Sto} {ρ : Slt} {σ : St} (s : Sta G F ι S ρ σ H) (r : Rep G F' ι' S' H') (p : Stp F ι NoO H F' ι' NoO H') :
    Sta G F' ι' S' ρ σ H' ∧ Stp F ι (OwnA ρ σ) H F' ι' (OwnA ρ σ) H' := by
  refine ⟨⟨r, s.sl.len, fun i d h => ?_, fun i c h => ?_, s.sl.osep⟩, ⟨p.exF, p.pre, fun a o h n1 _ nt => p.fr a o h n1 (fun z => z) nt, fun a h => ?_, fun a h => ?_, fun a h => .inl h, p.dom, p.fz⟩⟩
  · obtain ⟨v, h1, h2⟩ := s.sl.val i d h
    exact ⟨v, h1, h2.mono p.exF p.pre⟩
  · obtain ⟨a, o, h1, h2, h3, h4, h5⟩ := s.sl.own i c h
    have hne : H a ≠ none := by rw [h2]; exact fun z => by cases z
    refine ⟨a, o, h1, p.fr a o h2 h5 (fun z => z) h3.nt, h3.mono p.exF p.pre, ?_, fun z => ?_⟩
    · refine Classical.byContradiction fun z => ?_
      rcases p.nF a z with q | q | q
      · exact q h4
      · exact hne q
      · exact q
    · rcases p.nI a z with q | q | q
      · exact h5 q
      · exact hne q
      · exact q
  · rcases p.nF a h with q | q | q
    · exact .inl q
    · exact .inr (.inl q)
    · exact q.elim
  · rcases p.nI a h with q | q | q
    · exact .inl q
    · exact .inr (.inl q)
    · exact q.elim
/-- a new settled object -/
theorem Rep.newF {S : Sto} {p : Addr} {o : HO} (r : Rep G F ι S H) (hp : H p = none) : Rep G (upd F p o) ι S (upd H p o) ∧ Stp F ι NoO H (upd F p o) ι NoO (upd H p o) := by
  have nF : F p = none := by
    cases q : F p with
    | none => rfl
    | some u => have := r.ex _ _ q; rw [hp] at this; cases this
  have eF : Same F (upd F p o) := fun b u h => by rw [upd_ne (ne_of_none h nF)]; exact h
  have eH : Same H (upd H p o) := fun b u h => by rw [upd_ne (ne_of_none h hp)]; exact h
  refine ⟨⟨fun b u h => ?_, fun n c h => ?_, r.len, r.nd, fun a h => ?_, fun p' hp' => (r.tb p' hp').wr eF (fun ps z => by rw [hp] at z; cases z) fun ⟨ps, hq⟩ z => by rw [upd_ne fun y => by rw [y, hp] at hq; cases hq]; exact z⟩, eF, List.prefix_refl _, fun a u h _ _ _ => eH _ _ h, fun a h => ?_, fun a h => .inl h, fun a h => .inl h, fun a h => ?_, fun a _ _ h => eH _ _ h⟩
  · by_cases hb : b = p
    · subst hb; rw [upd_same] at h ⊢; exact h
    · rw [upd_ne hb] at h ⊢; exact r.ex _ _ h
  · obtain ⟨a, u, h1, h2, h3⟩ := r.cell n c h
    exact ⟨a, u, h1, eH _ _ h2, h3.mono eF (List.prefix_refl _)⟩
  · have hne : a ≠ p := fun z => by
      subst z
      obtain ⟨n, hn⟩ := List.getElem?_of_mem h
      have hl : n < S.length := by rw [← r.len]; exact (List.getElem?_eq_some_iff.mp hn).1
      obtain ⟨b, u, h1, h2, _⟩ := r.cell n S[n] (List.getElem?_eq_getElem hl)
      rw [hn] at h1; cases h1
      rw [hp] at h2; cases h2
    rw [upd_ne hne]; exact r.sep a h
  · by_cases ha : a = p
    · subst ha; exact .inr (.inl hp)
    · rw [upd_ne ha] at h; exact .inl h
  · by_cases ha : a = p
    · subst ha; rw [upd_same]; exact fun z => by cases z
    · rw [upd_ne ha]; exact h
theorem Rep.live {S : Sto} {a : Addr} (r : Rep G F ι S H) (h : a ∈ ι) : ∃ (n : Nat) (c : Cell) (o : HO), ι[n]? = some a ∧ S[n]? = some c ∧ H a = some o ∧ RC G F ι c o := by
  obtain ⟨n, hn⟩ := List.getElem?_of_mem h
  have hl : n < S.length := by rw [← r.len]; exact (List.getElem?_eq_some_iff.mp hn).1
  obtain ⟨b, u, h1, h2, h3⟩ := r.cell n S[n] (List.getElem?_eq_getElem hl)
  rw [hn] at h1; cases h1
  exact ⟨n, S[n], u, hn, List.getElem?_eq_getElem hl, h2, h3⟩
theorem Rep.noF {S : Sto} {p : Addr} (r : Rep G F ι S H) (hp : H p = none) : F p = none := by
  cases q : F p with
  | none => rfl
  | some u => have := r.ex _ _ q; rw [hp] at this; cases this
theorem Rep.noI {S : Sto} {p : Addr} (r : Rep G F ι S H) (hp : H p = none) : p ∉ ι := fun h => by
  obtain ⟨_, _, _, _, _, h3, _⟩ := r.live h
  rw [hp] at h3; cases h3
/-- a new object that is not settled -/
theorem Rep.newO {S : Sto} {p : Addr} {o : HO} (r : Rep G F ι S H) (hp : H p = none) : Rep G F ι S (upd H p o) ∧ Stp F ι NoO H F ι NoO (upd H p o) := by
  have eH : Same H (upd H p o) := fun b u h => by rw [upd_ne (ne_of_none h hp)]; exact h
  refine ⟨⟨fun b u h => eH _ _ (r.ex _ _ h), fun n c h => ?_, r.len, r.nd, r.sep, fun p' hp' => (r.tb p' hp').wr (Same.refl _) fun ps z => by rw [hp] at z; cases z⟩, Same.refl _, List.prefix_refl _, fun a u h _ _ _ => eH _ _ h, fun a h => .inl h, fun a h => .inl h, fun a h => .inl h, fun a h => ?_, fun a _ _ h => eH _ _ h⟩
  · obtain ⟨a, u, h1, h2, h3⟩ := r.cell n c h
    exact ⟨a, u, h1, eH _ _ h2, h3⟩
  · by_cases ha : a = p
    · subst ha; rw [upd_same]; exact fun z => by cases z
    · rw [upd_ne ha]; exact h
def Cell.lkd : Cell → Bool
  | .lk _ => true
  | _ => false
theorem RC.notFrz {c : Cell} {ob : Obj} {u : HO} (h : RC G F ι c (.frz ob u)) : c.lkd = true := by
  cases c with
  | lk kvs => rfl
  | lst ds => obtain ⟨vs, h1, _⟩ := h; cases h1
  | dk ds => obtain ⟨vs, h1, _⟩ := h; cases h1
  | dt ds => obtain ⟨vs, h1, _⟩ := h; cases h1
  | ins c ds => obtain ⟨_, vs, h1, _⟩ := h; cases h1
/-- a cell is changed -/
theorem Rep.put {S : Sto} {n : Nat} {a : Addr} {c0 c' : Cell} {o' : HO} (r : Rep G F ι S H) (hn : ι[n]? = some a) (h0 : S[n]? = some c0) (hl0 : c0.lkd = false) (hc : RC G F ι c' o') : Rep G F ι (S.set n c') (upd H a o') ∧ Stp F ι NoO H F ι NoO (upd H a o') := by
  have hm : a ∈ ι := List.mem_of_getElem? hn
  have nF : F a = none := r.sep a hm
  obtain ⟨k, c, o, h1, h2, h3, h4⟩ := r.live hm
  refine ⟨⟨fun b u h => ?_, fun m d h => ?_, by rw [List.length_set]; exact r.len, r.nd, r.sep, fun p' hp' => (r.tb p' hp').wr (Same.refl _) (h4.noT h3)⟩, Same.refl _, List.prefix_refl _, fun b u h n1 _ _ => ?_, fun a h => .inl h, fun a h => .inl h, fun a h => .inl h, fun b h => ?_, fun b ob u h => ?_⟩
  · rw [upd_ne (ne_of_none h nF)]; exact r.ex _ _ h
  · by_cases hm' : m = n
    · subst hm'
      have hl : m < S.length := by rw [← r.len]; exact (List.getElem?_eq_some_iff.mp hn).1
      rw [List.getElem?_set_self hl] at h
      cases h
      exact ⟨a, o', hn, upd_same, hc⟩
    · rw [List.getElem?_set_ne (Ne.symm hm')] at h
      obtain ⟨b, u, q1, q2, q3⟩ := r.cell m d h
      have hb : b ≠ a := fun z => by
        subst z
        obtain ⟨l1, e1⟩ := List.getElem?_eq_some_iff.mp q1
        obtain ⟨l2, e2⟩ := List.getElem?_eq_some_iff.mp hn
        exact hm' ((List.getElem_inj r.nd).mp (e1.trans e2.symm))
      exact ⟨b, u, q1, by rw [upd_ne hb]; exact q2, q3⟩
  · have hb : b ≠ a := fun z => n1 (z ▸ hm)
    rw [upd_ne hb]; exact h
  · by_cases hb : b = a
    · subst hb; rw [upd_same]; exact fun z => by cases z
    · rw [upd_ne hb]; exact h
  · have hb : b ≠ a := fun z => by
      subst z
      obtain ⟨q, o, e1, e2, e3⟩ := r.cell n c0 h0
      rw [hn] at e1
      cases e1
      rw [h] at e2
      cases e2
      rw [e3.notFrz] at hl0
      cases hl0
    rw [upd_ne hb]; exact h
/-- what nobody else holds becomes a cell -/
theorem Rep.box {S : Sto} {a : Addr} {c : Cell} {o : HO} (r : Rep G F ι S H) (h1 : H a = some o) (h2 : RC G F ι c o) (h3 : F a = none) (h4 : a ∉ ι) : Rep G F (ι ++ [a]) (S ++ [c]) H := by
  have p : Pre ι (ι ++ [a]) := List.prefix_append _ _
  refine ⟨r.ex, fun n d h => ?_, by simp [r.len], ?_, fun b hb => ?_, r.tb⟩
  · by_cases hn : n < S.length
    · rw [List.getElem?_append_left hn] at h
      obtain ⟨b, u, q1, q2, q3⟩ := r.cell n d h
      exact ⟨b, u, pre_get p q1, q2, q3.mono (Same.refl _) p⟩
    · have e : n = S.length := by
        have := (List.getElem?_eq_some_iff.mp h).1
        simp at this
        omega
      subst e
      rw [List.getElem?_append_right (Nat.le_refl _), Nat.sub_self] at h
      have h' : c = d := by simpa using h
      subst h'
      refine ⟨a, o, ?_, h1, h2.mono (Same.refl _) p⟩
      rw [← r.len, List.getElem?_append_right (Nat.le_refl _), Nat.sub_self]
      rfl
  · rw [List.nodup_append]
    refine ⟨r.nd, by simp, fun x hx y hy => ?_⟩
    have : y = a := by simpa using hy
    subst this
    exact fun z => h4 (z ▸ hx)
  · rcases List.mem_append.mp hb with q | q
    · exact r.sep b q
    · have : b = a := by simpa using q
      subst this
      exact h3
/-- .. is settled -/
theorem Rep.settle {S : Sto} {a : Addr} {o : HO} (r : Rep G F ι S H) (h1 : H a = some o) (h3 : F a = none) (h4 : a ∉ ι) (nt : NT o := by intro ps z; cases z) : Rep G (upd F a o) ι S H := by
  have eF : Same F (upd F a o) := fun b u h => by rw [upd_ne (ne_of_none h h3)]; exact h
  refine ⟨fun b u h => ?_, fun n d h => ?_, r.len, r.nd, fun b hb => ?_, fun p hp => (r.tb p hp).fx eF fun ⟨ps, hq⟩ z => by rw [upd_ne fun y => by rw [y, h1] at hq; exact nt _ (Option.some.inj hq)]; exact z⟩
  · by_cases hb : b = a
    · subst hb; rw [upd_same] at h; cases h; exact h1
    · rw [upd_ne hb] at h; exact r.ex _ _ h
  · obtain ⟨b, u, q1, q2, q3⟩ := r.cell n d h
    exact ⟨b, u, q1, q2, q3.mono eF (List.prefix_refl _)⟩
  · rw [upd_ne fun z => h4 (by rw [← z]; exact hb)]
    exact r.sep b hb
theorem same_upd {p : Addr} {o : HO} (h : F p = none) : Same F (upd F p o) := fun b u q => by rw [upd_ne (ne_of_none q h)]; exact q
end
end Yi
/-! Readings and what they mean over states: judgements, basic expressions, statements. -/
namespace Yi
open PySem L2
abbrev EM := Slt → Sto → Option (VV × Sto)
abbrev DM := Slt → Sto → Option (D × Sto)
abbrev BM := Slt → Sto → Option (Bool × Sto)
abbrev AM := Slt → Sto → Option (List D × Sto)
inductive Fl where
  | nx | bk | ct | rt (v : VV)
abbrev SM := Slt → Sto → Option (Fl × Slt × Sto)
abbrev TM := D → Slt → Option Slt
def RV (G : Gm) (F : Hp) (ι : List Addr) (O : Addr → Prop) (H0 H : Hp) : VV → V → Prop
  | .d x, v => RD G F ι x v
  | .own c, v => ∃ a o, v = .ref a ∧ H a = some o ∧ RC G F ι c o ∧ F a = none ∧ a ∉ ι ∧ (O a ∨ H0 a = none)
abbrev Stx (F : Hp) (ι : List Addr) (H F' : Hp) (ι' : List Addr) (H' : Hp) : Prop := Stp F ι NoO H F' ι' NoO H'
def SndV (G : Gm) (t : TE) (m : EM) : Prop := ∀ {F : Hp} {ι : List Addr} {S : Sto} {ρ : Slt} {σ : St} {H : Hp} {w : VV} {S' : Sto}, Sta G F ι S ρ σ H → m ρ S = some (w, S') → ∀ Q : VK,
  (∀ F' ι' H' v, Sta G F' ι' S' ρ σ H' → Stx F ι H F' ι' H' → RV G F' ι' NoO H H' w v → Q v H') → t σ H Q
def SndD (G : Gm) (t : TE) (m : DM) : Prop := ∀ {F : Hp} {ι : List Addr} {S : Sto} {ρ : Slt} {σ : St} {H : Hp} {d : D} {S' : Sto}, Sta G F ι S ρ σ H → m ρ S = some (d, S') → ∀ Q : VK,
  (∀ F' ι' H' v, Sta G F' ι' S' ρ σ H' → Stx F ι H F' ι' H' → RD G F' ι' d v → Q v H') → t σ H Q
def SndT (G : Gm) (t : TT) (m : BM) : Prop := ∀ {F : Hp} {ι : List Addr} {S : Sto} {ρ : Slt} {σ : St} {H : Hp} {b : Bool} {S' : Sto}, Sta G F ι S ρ σ H → m ρ S = some (b, S') → ∀ Q : Bool → Hp → Prop,
  (∀ F' ι' H', Sta G F' ι' S' ρ σ H' → Stx F ι H F' ι' H' → Q b H') → t σ H Q
def SndA (G : Gm) (t : TA) (m : AM) : Prop := ∀ {F : Hp} {ι : List Addr} {S : Sto} {ρ : Slt} {σ : St} {H : Hp} {ds : List D} {S' : Sto}, Sta G F ι S ρ σ H → m ρ S = some (ds, S') → ∀ Q : List V → Hp → Prop,
  (∀ F' ι' H' vs, Sta G F' ι' S' ρ σ H' → Stx F ι H F' ι' H' → RDs G F' ι' ds vs → Q vs H') → t σ H Q
/-- what is wanted at a statement's end, as its flow says -/
def EndW (G : Gm) (F : Hp) (ι : List Addr) (O : Addr → Prop) (H : Hp) (D : Ends) (ρ' : Slt) (S' : Sto) : Fl → Prop
  | .nx => ∀ F' ι' σ' H', Sta G F' ι' S' ρ' σ' H' → Stp F ι O H F' ι' (OwnA ρ' σ') H' → D.nx σ' H'
  | .bk => ∀ F' ι' σ' H', Sta G F' ι' S' ρ' σ' H' → Stp F ι O H F' ι' (OwnA ρ' σ') H' → D.bk σ' H'
  | .ct => ∀ F' ι' σ' H', Sta G F' ι' S' ρ' σ' H' → Stp F ι O H F' ι' (OwnA ρ' σ') H' → D.ct σ' H'
  | .rt w => ∀ F' ι' H' v, Rep G F' ι' S' H' → Stp F ι O H F' ι' NoO H' → RV G F' ι' O H H' w v → D.rt v H'
def SndS (G : Gm) (t : TS) (m : SM) : Prop := ∀ {F : Hp} {ι : List Addr} {S : Sto} {ρ : Slt} {σ : St} {H : Hp} {f : Fl} {ρ' : Slt} {S' : Sto}, Sta G F ι S ρ σ H → m ρ S = some (f, ρ', S') → ∀ D : Ends,
  EndW G F ι (OwnA ρ σ) H D ρ' S' f → t D σ H
section
variable {G : Gm} {F F' H H' : Hp} {ι ι' : List Addr} {S S' : Sto} {ρ ρ' : Slt} {σ σ' : St} {ta tb tc te : TE} {ma mb mc me : EM} {tt tu : TT} {mt mu : BM} {t1 t2 : TS} {m1 m2 : SM} {W : Ends}
theorem Stp.own {O O' : Addr → Prop} (p : Stp F ι NoO H F' ι' NoO H') (h : ∀ x, O' x → O x) : Stp F ι O H F' ι' O' H' :=
  ⟨p.exF, p.pre, fun a o q n _ nt => p.fr a o q n (fun z => z) nt, fun a q => (p.nF a q).imp_right (Or.imp_right fun z => z.elim), fun a q => (p.nI a q).imp_right (Or.imp_right fun z => z.elim), fun a q => .inl (h a q), p.dom, p.fz⟩
/-! ### operands are settled -/
def eD (m : EM) : DM := fun ρ S => (m ρ S).bind fun p => match p.1 with
  | .d x => some (x, p.2)
  | .own (.lst ds) => some (.fl ds, p.2)
  | _ => none
theorem none_noO {a : Addr} : NoO a ∨ H a = none ↔ H a = none := ⟨fun h => h.elim (fun z => z.elim) id, .inr⟩
theorem snd_d (h : SndV G te me) : SndD G te (eD me) := by
  intro F ι S ρ σ H d S' s e Q k
  unfold eD at e
  obtain ⟨⟨w, S1⟩, e1, e2⟩ := Option.bind_eq_some_iff.mp e
  refine h s e1 Q fun F' ι' H' v s' p r => ?_
  match w, e2 with
  | .d x, e2 => cases e2; exact k F' ι' H' v s' p r
  | .own (.lst ds), e2 =>
    cases e2
    obtain ⟨a, o, rfl, h1, ⟨vs, rfl, h2⟩, h3, h4, h5⟩ := r
    have h6 : H a = none := none_noO.mp h5
    have q : Rep G (upd F' a (.lst vs)) ι' _ H' := s'.rep.settle h1 h3 h4
    have p2 : Stx F ι H (upd F' a (.lst vs)) ι' H' :=
      ⟨p.exF.trans (same_upd h3), p.pre, p.fr, fun b hb => by
        by_cases z : b = a
        · subst z; exact .inr (.inl h6)
        · rw [upd_ne z] at hb; exact p.nF b hb, p.nI, p.nO, p.dom, p.fz⟩
    refine k _ ι' H' _ (s.after q p2).1 p2 ?_
    simp only [RD]
    exact ⟨a, vs, rfl, upd_same, h2.mono (same_upd h3) (List.prefix_refl _)⟩
/-- a value that is data -/
def eV (m : DM) : EM := fun ρ S => (m ρ S).map fun p => (.d p.1, p.2)
theorem snd_v {md : DM} (h : SndD G te md) : SndV G te (eV md) := by
  intro F ι S ρ σ H w S' s e Q k
  unfold eV at e
  obtain ⟨⟨d, S1⟩, e1, e2⟩ := Option.map_eq_some_iff.mp e
  cases e2
  exact h s e1 Q fun F' ι' H' v s' p r => k F' ι' H' v s' p r
/-- a new list, told to be a cell -/
def eBox (m : EM) : EM := fun ρ S => (m ρ S).bind fun p => match p.1 with
  | .own c => some (.d (.ref p.2.length), p.2 ++ [c])
  | .d _ => none
theorem snd_box (h : SndV G te me) : SndV G te (eBox me) := by
  intro F ι S ρ σ H d S' s e Q k
  unfold eBox at e
  obtain ⟨⟨w, S1⟩, e1, e2⟩ := Option.bind_eq_some_iff.mp e
  refine h s e1 Q fun F' ι' H' v s' p r => ?_
  match w, e2 with
  | .own c, e2 =>
    cases e2
    obtain ⟨a, o, rfl, h1, h2, h3, h4, h5⟩ := r
    have h6 : H a = none := none_noO.mp h5
    have q := s'.rep.box h1 h2 h3 h4
    have p2 : Stx F ι H F' (ι' ++ [a]) H' :=
      ⟨p.exF, p.pre.trans (List.prefix_append _ _), p.fr, p.nF, fun b hb => by
        rcases List.mem_append.mp hb with z | z
        · exact p.nI b z
        · have : b = a := by simpa using z
          subst this
          exact .inr (.inl h6), p.nO, p.dom, p.fz⟩
    refine k F' _ H' _ (s.after q p2).1 p2 ?_
    simp only [RV, RD]
    exact ⟨a, rfl, by rw [← s'.rep.len, List.getElem?_append_right (Nat.le_refl _), Nat.sub_self]; rfl⟩
/-! ### names and constants -/
def eNm (i : Nat) : EM := fun ρ S => match ρ[i]? with
  | some (some (.d d)) => some (.d d, S)
  | _ => none
theorem snd_nm (i : Nat) : SndV G (tVar i) (eNm i) := by
  intro F ι S ρ σ H w S' s e Q k
  unfold eNm at e
  split at e
  · rename_i d hd
    cases e
    obtain ⟨v, h1, h2⟩ := s.sl.val i d hd
    exact ⟨v, h1, k F ι H v s .refl h2⟩
  · cases e
def eC (d : D) : EM := fun _ S => some (.d d, S)
theorem snd_c {d : D} {v : V} (h : ∀ F ι, RD G F ι d v) : SndV G (tC v) (eC d) := by
  intro F ι S ρ σ H w S' s e Q k
  cases e
  exact k F ι H v s .refl (h F ι)
theorem snd_int {i : Int} : SndV G (tC (.int i)) (eC (.int i)) := snd_c fun F ι => by simp only [RD]
theorem snd_str {i : Str} : SndV G (tC (.str i)) (eC (.str i)) := snd_c fun F ι => by simp only [RD]
theorem snd_bl {i : Bool} : SndV G (tC (.bl i)) (eC (.bl i)) := snd_c fun F ι => by simp only [RD]
theorem snd_non : SndV G (tC .non) (eC .non) := snd_c fun F ι => by simp only [RD]
theorem snd_ty {n : String} : SndV G (tC (.ty n)) (eC (.ty n)) := snd_c fun F ι => by simp only [RD]
theorem snd_fn {n : Nat} : SndV G (tC (.ref (G.fn n))) (eC (.fn n)) := snd_c fun F ι => by simp only [RD]
/-! ### operations by values -/
def SndR2 (G : Gm) (r : R2) (f : D → D → Sto → Option VV) : Prop := ∀ {F : Hp} {ι : List Addr} {S : Sto} {H : Hp} {x y : D} {vx vy : V} {w : VV}, Rep G F ι S H → RD G F ι x vx → RD G F ι y vy → f x y S = some w → ∀ Q : VK,
  (∀ F' H' v, Rep G F' ι S H' → Stx F ι H F' ι H' → RV G F' ι NoO H H' w v → Q v H') → r vx vy H Q
def SndR1 (G : Gm) (r : V → Hp → VK → Prop) (f : D → Sto → Option VV) : Prop := ∀ {F : Hp} {ι : List Addr} {S : Sto} {H : Hp} {x : D} {vx : V} {w : VV}, Rep G F ι S H → RD G F ι x vx → f x S = some w → ∀ Q : VK,
  (∀ F' H' v, Rep G F' ι S H' → Stx F ι H F' ι H' → RV G F' ι NoO H H' w v → Q v H') → r vx H Q
def SndRL (G : Gm) (r : List V → Hp → VK → Prop) (f : List D → Sto → Option VV) : Prop := ∀ {F : Hp} {ι : List Addr} {S : Sto} {H : Hp} {xs : List D} {vs : List V} {w : VV}, Rep G F ι S H → RDs G F ι xs vs → f xs S = some w → ∀ Q : VK,
  (∀ F' H' v, Rep G F' ι S H' → Stx F ι H F' ι H' → RV G F' ι NoO H H' w v → Q v H') → r vs H Q
def eOp (f : D → D → Sto → Option VV) (a b : EM) : EM := fun ρ S => (eD a ρ S).bind fun p => (eD b ρ p.2).bind fun q => (f p.1 q.1 q.2).map fun w => (w, q.2)
theorem RV.back {w : VV} {v : V} {H0 H1 : Hp} (h : RV G F ι NoO H1 H w v) (d : ∀ a, H1 a = none → H0 a = none) : RV G F ι NoO H0 H w v := by
  cases w with
  | d x => exact h
  | own c =>
    obtain ⟨a, o, h1, h2, h3, h4, h5, h6⟩ := h
    exact ⟨a, o, h1, h2, h3, h4, h5, .inr (d a (none_noO.mp h6))⟩
theorem Stp.back {O O' : Addr → Prop} (p : Stp F ι O H F' ι' O' H') : ∀ a, H' a = none → H a = none := fun a h => Classical.byContradiction fun z => p.dom a z h
theorem snd_op {r : R2} {f : D → D → Sto → Option VV} (hr : SndR2 G r f) (ha : SndV G ta ma) (hb : SndV G tb mb) : SndV G (tOp r ta tb) (eOp f ma mb) := by
  intro F ι S ρ σ H w S' s e Q k
  unfold eOp at e
  obtain ⟨⟨x, S1⟩, e1, e⟩ := Option.bind_eq_some_iff.mp e
  obtain ⟨⟨y, S2⟩, e2, e⟩ := Option.bind_eq_some_iff.mp e
  obtain ⟨w', e3, e⟩ := Option.map_eq_some_iff.mp e
  cases e
  refine snd_d ha s e1 _ fun F1 ι1 H1 vx s1 p1 rx => ?_
  refine snd_d hb s1 e2 _ fun F2 ι2 H2 vy s2 p2 ry => ?_
  refine hr s2.rep (rx.mono p2.exF p2.pre) ry e3 Q fun F3 H3 v r3 p3 rv => ?_
  exact k F3 ι2 H3 v (s2.after r3 p3).1 ((p1.trans p2).trans p3) (rv.back (p1.trans p2).back)
def eUn (f : D → Sto → Option VV) (a : EM) : EM := fun ρ S => (eD a ρ S).bind fun p => (f p.1 p.2).map fun w => (w, p.2)
theorem snd_un {r : V → Hp → VK → Prop} {f : D → Sto → Option VV} (hr : SndR1 G r f) (ha : SndV G ta ma) : SndV G (tUn r ta) (eUn f ma) := by
  intro F ι S ρ σ H w S' s e Q k
  unfold eUn at e
  obtain ⟨⟨x, S1⟩, e1, e⟩ := Option.bind_eq_some_iff.mp e
  obtain ⟨w', e3, e⟩ := Option.map_eq_some_iff.mp e
  cases e
  refine snd_d ha s e1 _ fun F1 ι1 H1 vx s1 p1 rx => ?_
  exact hr s1.rep rx e3 Q fun F3 H3 v r3 p3 rv => k F3 ι1 H3 v (s1.after r3 p3).1 (p1.trans p3) (rv.back p1.back)
/-- argument lists -/
def aNil : AM := fun _ S => some ([], S)
def aCons (a : EM) (r : AM) : AM := fun ρ S => (eD a ρ S).bind fun p => (r ρ p.2).map fun q => (p.1 :: q.1, q.2)
theorem snd_nil : SndA G tNil aNil := by
  intro F ι S ρ σ H ds S' s e Q k
  cases e
  exact k F ι H [] s .refl (rds_nil.mpr rfl)
theorem snd_cons {tr : TA} {mr : AM} (ha : SndV G ta ma) (hr : SndA G tr mr) : SndA G (tCons ta tr) (aCons ma mr) := by
  intro F ι S ρ σ H ds S' s e Q k
  unfold aCons at e
  obtain ⟨⟨x, S1⟩, e1, e⟩ := Option.bind_eq_some_iff.mp e
  obtain ⟨⟨r, S2⟩, e2, e⟩ := Option.map_eq_some_iff.mp e
  cases e
  refine snd_d ha s e1 _ fun F1 ι1 H1 vx s1 p1 rx => ?_
  refine hr s1 e2 _ fun F2 ι2 H2 vs s2 p2 rs => ?_
  exact k F2 ι2 H2 _ s2 (p1.trans p2) (rds_cons.mpr ⟨_, _, rfl, rx.mono p2.exF p2.pre, rs⟩)
def szOk (n : Nat) : Bool := decide (n ≤ 1000000)
theorem szOk_le {n : Nat} (h : szOk n = true) : n ≤ sizeLine := by
  have := of_decide_eq_true (show decide (n ≤ 1000000) = true from h)
  rw [sizeLine_eq]; omega
theorem szOk_lt {n : Nat} (h : szOk n = true) : n < sizeLine := by
  have := of_decide_eq_true (show decide (n ≤ 1000000) = true from h)
  rw [sizeLine_eq]; omega
/-- a tuple, a list displayed -/
def eTup (a : AM) : EM := fun ρ S => (a ρ S).bind fun p => if szOk p.1.length then some (.d (.tup p.1), p.2) else none
def eLst (a : AM) : EM := fun ρ S => (a ρ S).bind fun p => if szOk p.1.length then some (.own (.lst p.1), p.2) else none
theorem snd_tup {t : TA} {m : AM} (h : SndA G t m) : SndV G (tTup t) (eTup m) := by
  intro F ι S ρ σ H w S' s e Q k
  unfold eTup at e
  obtain ⟨⟨ds, S1⟩, e1, e⟩ := Option.bind_eq_some_iff.mp e
  dsimp only at e
  split at e
  · rename_i hz
    cases e
    refine h s e1 _ fun F1 ι1 H1 vs s1 p1 rs => ?_
    refine ⟨by rw [← rs.len]; exact szOk_le hz, fun p hp => ?_⟩
    obtain ⟨r2, p2⟩ := s1.rep.newF (o := .tup vs) hp
    refine k _ ι1 _ _ (s1.after r2 p2).1 (p1.trans p2) ?_
    simp only [RV, RD]
    exact ⟨p, vs, rfl, SqT.of upd_same, .inl upd_same, rs.mono p2.exF p2.pre⟩
  · cases e
theorem snd_lst {t : TA} {m : AM} (h : SndA G t m) : SndV G (tLst t) (eLst m) := by
  intro F ι S ρ σ H w S' s e Q k
  unfold eLst at e
  obtain ⟨⟨ds, S1⟩, e1, e⟩ := Option.bind_eq_some_iff.mp e
  dsimp only at e
  split at e
  · rename_i hz
    cases e
    refine h s e1 _ fun F1 ι1 H1 vs s1 p1 rs => ?_
    refine ⟨by rw [← rs.len]; exact szOk_le hz, fun p hp => ?_⟩
    obtain ⟨r2, p2⟩ := s1.rep.newO (o := .lst vs) hp
    refine k _ ι1 _ _ (s1.after r2 p2).1 (p1.trans p2) ?_
    exact ⟨p, _, rfl, upd_same, ⟨vs, rfl, rs⟩, s1.rep.noF hp, s1.rep.noI hp, .inr (p1.back p hp)⟩
  · cases e
/-- a built-in's call -/
def eCB (f : List D → Sto → Option VV) (a : AM) : EM := fun ρ S => (a ρ S).bind fun p => (f p.1 p.2).map fun w => (w, p.2)
theorem snd_cb {r : List V → Hp → VK → Prop} {f : List D → Sto → Option VV} {t : TA} {m : AM} (hr : SndRL G r f) (h : SndA G t m) : SndV G (tCB r t) (eCB f m) := by
  intro F ι S ρ σ H w S' s e Q k
  unfold eCB at e
  obtain ⟨⟨ds, S1⟩, e1, e⟩ := Option.bind_eq_some_iff.mp e
  obtain ⟨w', e3, e⟩ := Option.map_eq_some_iff.mp e
  cases e
  refine h s e1 _ fun F1 ι1 H1 vs s1 p1 rs => ?_
  exact hr s1.rep rs e3 Q fun F3 H3 v r3 p3 rv => k F3 ι1 H3 v (s1.after r3 p3).1 (p1.trans p3) (rv.back p1.back)
/-! ### tests -/
def bV (m : EM) : BM := fun ρ S => (eD m ρ S).bind fun p => match p.1 with
  | .bl b => some (b, p.2)
  | _ => none
theorem snd_test (h : SndV G te me) : SndT G (tTest te) (bV me) := by
  intro F ι S ρ σ H b S' s e Q k
  unfold bV at e
  obtain ⟨⟨d, S1⟩, e1, e⟩ := Option.bind_eq_some_iff.mp e
  match d, e with
  | .bl c, e =>
    cases e
    refine snd_d h s e1 _ fun F1 ι1 H1 v s1 p1 r => ?_
    simp only [RD] at r
    exact ⟨b, r, k F1 ι1 H1 s1 p1⟩
theorem snd_tB (h : SndV G te me) : SndT G (tB te) (bV me) := by
  intro F ι S ρ σ H b S' s e Q k
  unfold bV at e
  obtain ⟨⟨d, S1⟩, e1, e⟩ := Option.bind_eq_some_iff.mp e
  match d, e with
  | .bl c, e =>
    cases e
    refine snd_d h s e1 _ fun F1 ι1 H1 v s1 p1 r => ?_
    simp only [RD] at r
    exact ⟨b, r, k F1 ι1 H1 s1 p1⟩
def bAnd (a b : BM) : BM := fun ρ S => (a ρ S).bind fun p => if p.1 = true then b ρ p.2 else some (false, p.2)
def bOr (a b : BM) : BM := fun ρ S => (a ρ S).bind fun p => if p.1 = true then some (true, p.2) else b ρ p.2
def bNot (a : BM) : BM := fun ρ S => (a ρ S).map fun p => (!p.1, p.2)
theorem snd_and (h1 : SndT G tt mt) (h2 : SndT G tu mu) : SndT G (tAnd tt tu) (bAnd mt mu) := by
  intro F ι S ρ σ H b S' s e Q k
  unfold bAnd at e
  obtain ⟨⟨c, S1⟩, e1, e⟩ := Option.bind_eq_some_iff.mp e
  refine h1 s e1 _ fun F1 ι1 H1 s1 p1 => ?_
  cases c with
  | true => exact h2 s1 e _ fun F2 ι2 H2 s2 p2 => k F2 ι2 H2 s2 (p1.trans p2)
  | false => cases e; exact k F1 ι1 H1 s1 p1
theorem snd_or (h1 : SndT G tt mt) (h2 : SndT G tu mu) : SndT G (tOr tt tu) (bOr mt mu) := by
  intro F ι S ρ σ H b S' s e Q k
  unfold bOr at e
  obtain ⟨⟨c, S1⟩, e1, e⟩ := Option.bind_eq_some_iff.mp e
  refine h1 s e1 _ fun F1 ι1 H1 s1 p1 => ?_
  cases c with
  | true => cases e; exact k F1 ι1 H1 s1 p1
  | false => exact h2 s1 e _ fun F2 ι2 H2 s2 p2 => k F2 ι2 H2 s2 (p1.trans p2)
theorem snd_not (h1 : SndT G tt mt) : SndT G (tNot tt) (bNot mt) := by
  intro F ι S ρ σ H b S' s e Q k
  unfold bNot at e
  obtain ⟨⟨c, S1⟩, e1, e⟩ := Option.map_eq_some_iff.mp e
  cases e
  exact h1 s e1 _ fun F1 ι1 H1 s1 p1 => k F1 ι1 H1 s1 p1
/-- and, or, not as values; the conditional -/
def eAnd (a b : EM) : EM := fun ρ S => (bV a ρ S).bind fun p => if p.1 = true then eV (eD b) ρ p.2 else some (.d (.bl false), p.2)
def eOr (a b : EM) : EM := fun ρ S => (bV a ρ S).bind fun p => if p.1 = true then some (.d (.bl true), p.2) else eV (eD b) ρ p.2
def eNot (a : EM) : EM := fun ρ S => (bV a ρ S).map fun p => (.d (.bl (!p.1)), p.2)
theorem bV_some {b : Bool} {S' : Sto} (e : bV me ρ S = some (b, S')) : eD me ρ S = some (.bl b, S') := by
  unfold bV at e
  obtain ⟨⟨d, S1⟩, e1, e⟩ := Option.bind_eq_some_iff.mp e
  match d, e with
  | .bl c, e => cases e; exact e1
theorem snd_andV (h1 : SndV G ta ma) (h2 : SndV G tb mb) : SndV G (tAndV ta tb) (eAnd ma mb) := by
  intro F ι S ρ σ H w S' s e Q k
  unfold eAnd at e
  obtain ⟨⟨c, S1⟩, e1, e⟩ := Option.bind_eq_some_iff.mp e
  refine snd_d h1 s (bV_some e1) _ fun F1 ι1 H1 v s1 p1 r => ?_
  simp only [RD] at r
  refine ⟨c, r, ?_⟩
  cases c with
  | true => exact snd_v (snd_d h2) s1 e _ fun F2 ι2 H2 v2 s2 p2 r2 => k F2 ι2 H2 v2 s2 (p1.trans p2) (r2.back p1.back)
  | false => cases e; exact k F1 ι1 H1 _ s1 p1 (by simp only [RV, RD])
theorem snd_orV (h1 : SndV G ta ma) (h2 : SndV G tb mb) : SndV G (tOrV ta tb) (eOr ma mb) := by
  intro F ι S ρ σ H w S' s e Q k
  unfold eOr at e
  obtain ⟨⟨c, S1⟩, e1, e⟩ := Option.bind_eq_some_iff.mp e
  refine snd_d h1 s (bV_some e1) _ fun F1 ι1 H1 v s1 p1 r => ?_
  simp only [RD] at r
  refine ⟨c, r, ?_⟩
  cases c with
  | false => exact snd_v (snd_d h2) s1 e _ fun F2 ι2 H2 v2 s2 p2 r2 => k F2 ι2 H2 v2 s2 (p1.trans p2) (r2.back p1.back)
  | true => cases e; exact k F1 ι1 H1 _ s1 p1 (by simp only [RV, RD])
theorem snd_notV (h1 : SndV G ta ma) : SndV G (tNotV ta) (eNot ma) := by
  intro F ι S ρ σ H w S' s e Q k
  unfold eNot at e
  obtain ⟨⟨c, S1⟩, e1, e⟩ := Option.map_eq_some_iff.mp e
  cases e
  refine snd_d h1 s (bV_some e1) _ fun F1 ι1 H1 v s1 p1 r => ?_
  simp only [RD] at r
  exact ⟨c, r, k F1 ι1 H1 _ s1 p1 (by simp only [RV, RD])⟩
def eIf (c : BM) (a b : EM) : EM := fun ρ S => (c ρ S).bind fun p => if p.1 = true then a ρ p.2 else b ρ p.2
theorem snd_if (hc : SndT G tt mt) (h1 : SndV G ta ma) (h2 : SndV G tb mb) : SndV G (tIf tt ta tb) (eIf mt ma mb) := by
  intro F ι S ρ σ H w S' s e Q k
  unfold eIf at e
  obtain ⟨⟨c, S1⟩, e1, e⟩ := Option.bind_eq_some_iff.mp e
  refine hc s e1 _ fun F1 ι1 H1 s1 p1 => ?_
  cases c with
  | true => exact h1 s1 e _ fun F2 ι2 H2 v2 s2 p2 r2 => k F2 ι2 H2 v2 s2 (p1.trans p2) (r2.back p1.back)
  | false => exact h2 s1 e _ fun F2 ι2 H2 v2 s2 p2 r2 => k F2 ι2 H2 v2 s2 (p1.trans p2) (r2.back p1.back)
/-- a op1 b op2 c -/
def eChain (f g : D → D → Sto → Option VV) (a b c : EM) : EM := fun ρ S => (eD a ρ S).bind fun p => (eD b ρ p.2).bind fun q => (f p.1 q.1 q.2).bind fun w => match w with
  | .d (.bl true) => (eD c ρ q.2).bind fun u => (g q.1 u.1 u.2).bind fun w => match w with
    | .d x => some (.d x, u.2)
    | .own _ => none
  | .d (.bl false) => some (.d (.bl false), q.2)
  | _ => none
theorem snd_chain {r r' : R2} {f g : D → D → Sto → Option VV} (hr : SndR2 G r f) (hr' : SndR2 G r' g) (ha : SndV G ta ma) (hb : SndV G tb mb) (hc : SndV G tc mc) : SndV G (tChain r r' ta tb tc) (eChain f g ma mb mc) := by
  intro F ι S ρ σ H w S' s e Q k
  unfold eChain at e
  obtain ⟨⟨x, S1⟩, e1, e⟩ := Option.bind_eq_some_iff.mp e
  obtain ⟨⟨y, S2⟩, e2, e⟩ := Option.bind_eq_some_iff.mp e
  obtain ⟨w', e3, e⟩ := Option.bind_eq_some_iff.mp e
  refine snd_d ha s e1 _ fun F1 ι1 H1 vx s1 p1 rx => ?_
  refine snd_d hb s1 e2 _ fun F2 ι2 H2 vy s2 p2 ry => ?_
  refine hr s2.rep (rx.mono p2.exF p2.pre) ry e3 _ fun F3 H3 v r3 p3 rv => ?_
  match w', e with
  | .d (.bl true), e =>
    simp only [RV, RD] at rv
    refine ⟨true, rv, ?_⟩
    rw [if_pos rfl]
    obtain ⟨⟨z, S4⟩, e4, e⟩ := Option.bind_eq_some_iff.mp e
    obtain ⟨w2, e5, e⟩ := Option.bind_eq_some_iff.mp e
    refine snd_d hc (s2.after r3 p3).1 e4 _ fun F4 ι4 H4 vz s4 p4 rz => ?_
    have pp := (p3.trans p4)
    refine hr' s4.rep (ry.mono pp.exF pp.pre) rz e5 Q fun F5 H5 v5 r5 p5 rv5 => ?_
    match w2, e with
    | .d x, e =>
      cases e
      exact k F5 ι4 H5 v5 (s4.after r5 p5).1 (((p1.trans p2).trans pp).trans p5) rv5
  | .d (.bl false), e =>
    cases e
    simp only [RV, RD] at rv
    refine ⟨false, rv, ?_⟩
    rw [if_neg Bool.false_ne_true]
    exact k F3 ι2 H3 _ (s2.after r3 p3).1 ((p1.trans p2).trans p3) (by simp only [RV, RD])
/-! ### statements -/
theorem EndW.later {F1 H1 : Hp} {ι1 : List Addr} {O O1 : Addr → Prop} {f : Fl} (p : Stp F ι O H F1 ι1 O1 H1) (h : EndW G F ι O H W ρ' S' f) : EndW G F1 ι1 O1 H1 W ρ' S' f := by
  cases f with
  | nx => exact fun F' ι' σ' H' s q => h F' ι' σ' H' s (p.trans q)
  | bk => exact fun F' ι' σ' H' s q => h F' ι' σ' H' s (p.trans q)
  | ct => exact fun F' ι' σ' H' s q => h F' ι' σ' H' s (p.trans q)
  | rt w =>
    refine fun F' ι' H' v r q rv => h F' ι' H' v r (p.trans q) ?_
    cases w with
    | d x => exact rv
    | own c =>
      obtain ⟨a, o, h1, h2, h3, h4, h5, h6⟩ := rv
      refine ⟨a, o, h1, h2, h3, h4, h5, ?_⟩
      rcases h6 with z | z
      · exact p.nO a z
      · exact .inr (p.back a z)
def sNext : SM := fun ρ S => some (.nx, ρ, S)
def sSeq (a b : SM) : SM := fun ρ S => (a ρ S).bind fun p => match p.1 with
  | .nx => b p.2.1 p.2.2
  | f => some (f, p.2.1, p.2.2)
theorem snd_next : SndS G tNext sNext := by
  intro F ι S ρ σ H f ρ' S' s e W k
  cases e
  exact k F ι σ H s .refl
theorem snd_seq (h1 : SndS G t1 m1) (h2 : SndS G t2 m2) : SndS G (tSeq t1 t2) (sSeq m1 m2) := by
  intro F ι S ρ σ H f ρ' S' s e W k
  unfold sSeq at e
  obtain ⟨⟨g, ρ1, S1⟩, e1, e⟩ := Option.bind_eq_some_iff.mp e
  refine h1 s e1 _ ?_
  cases g with
  | nx => exact fun F1 ι1 σ1 H1 s1 p1 => h2 s1 e W (k.later p1)
  | bk => cases e; exact k
  | ct => cases e; exact k
  | rt w => cases e; exact k
def sIf (c : BM) (a b : SM) : SM := fun ρ S => (c ρ S).bind fun p => if p.1 = true then a ρ p.2 else b ρ p.2
theorem stx_own {O : Addr → Prop} (p : Stx F ι H F' ι' H') : Stp F ι O H F' ι' O H' := p.own fun _ h => h
theorem snd_ifS (hc : SndT G tt mt) (h1 : SndS G t1 m1) (h2 : SndS G t2 m2) : SndS G (tIfS tt t1 t2) (sIf mt m1 m2) := by
  intro F ι S ρ σ H f ρ' S' s e W k
  unfold sIf at e
  obtain ⟨⟨c, S1⟩, e1, e⟩ := Option.bind_eq_some_iff.mp e
  refine hc s e1 _ fun F1 ι1 H1 s1 p1 => ?_
  cases c with
  | true => exact h1 s1 e W (k.later (stx_own p1))
  | false => exact h2 s1 e W (k.later (stx_own p1))
def sBreak : SM := fun ρ S => some (.bk, ρ, S)
def sCont : SM := fun ρ S => some (.ct, ρ, S)
theorem snd_break : SndS G tBreak sBreak := by
  intro F ι S ρ σ H f ρ' S' s e W k
  cases e
  exact k F ι σ H s .refl
theorem snd_cont : SndS G tCont sCont := by
  intro F ι S ρ σ H f ρ' S' s e W k
  cases e
  exact k F ι σ H s .refl
def sNever : SM := fun _ _ => none
theorem snd_never : SndS G tNever sNever := by
  intro F ι S ρ σ H f ρ' S' s e W k
  cases e
def sExpr (m : EM) : SM := fun ρ S => (m ρ S).map fun p => (.nx, ρ, p.2)
theorem snd_expr (h : SndV G te me) : SndS G (tDrop te) (sExpr me) := by
  intro F ι S ρ σ H f ρ' S' s e W k
  unfold sExpr at e
  obtain ⟨⟨w, S1⟩, e1, e⟩ := Option.map_eq_some_iff.mp e
  cases e
  exact h s e1 _ fun F1 ι1 H1 v s1 p1 r => k F1 ι1 σ H1 s1 (stx_own p1)
def sRet (m : EM) : SM := fun ρ S => (m ρ S).map fun p => (.rt p.1, ρ, p.2)
theorem RV.up {w : VV} {v : V} {O : Addr → Prop} {H0 : Hp} (h : RV G F ι NoO H0 H w v) : RV G F ι O H0 H w v := by
  cases w with
  | d x => exact h
  | own c =>
    obtain ⟨a, o, h1, h2, h3, h4, h5, h6⟩ := h
    exact ⟨a, o, h1, h2, h3, h4, h5, .inr (none_noO.mp h6)⟩
theorem snd_ret (h : SndV G te me) : SndS G (tRet te) (sRet me) := by
  intro F ι S ρ σ H f ρ' S' s e W k
  unfold sRet at e
  obtain ⟨⟨w, S1⟩, e1, e⟩ := Option.map_eq_some_iff.mp e
  cases e
  exact h s e1 _ fun F1 ι1 H1 v s1 p1 r => k F1 ι1 H1 v s1.rep (p1.own fun _ z => z.elim) r.up
/-- return x, where the frame alone holds x -/
def sRetO (i : Nat) : SM := fun ρ S => match ρ[i]? with
  | some (some (.own c)) => some (.rt (.own c), ρ, S)
  | _ => none
theorem snd_retO (i : Nat) : SndS G (tRet (tVar i)) (sRetO i) := by
  intro F ι S ρ σ H f ρ' S' s e W k
  unfold sRetO at e
  split at e
  · rename_i c hc
    cases e
    obtain ⟨a, o, h1, h2, h3, h4, h5⟩ := s.sl.own i c hc
    refine ⟨.ref a, h1, k F ι H _ s.rep (Stp.refl.less fun _ z => z.elim) ⟨a, o, rfl, h2, h3, h4, h5, .inl ⟨i, c, hc, h1⟩⟩⟩
  · cases e
def sRetN : SM := fun ρ S => some (.rt (.d .non), ρ, S)
theorem snd_retN : SndS G tRetN sRetN := by
  intro F ι S ρ σ H f ρ' S' s e W k
  cases e
  exact k F ι H .non s.rep (Stp.refl.less fun _ z => z.elim) (by simp only [RV, RD])
/-! ### slots -/
theorem set_get {α : Type} {l : List α} {i j : Nat} {x y : α} (h : (l.set i x)[j]? = some y) : (j = i ∧ y = x) ∨ (j ≠ i ∧ l[j]? = some y) := by
  by_cases e : j = i
  · subst e
    have hl : j < l.length := by
      have := (List.getElem?_eq_some_iff.mp h).1
      rwa [List.length_set] at this
    rw [List.getElem?_set_self hl] at h
    cases h
    exact .inl ⟨rfl, rfl⟩
  · rw [List.getElem?_set_ne (Ne.symm e)] at h
    exact .inr ⟨e, h⟩
/-- a value goes to a slot -/
theorem Sta.set {i : Nat} {w : VV} {v : V} {O : Addr → Prop} {H0 : Hp} (s : Sta G F ι S ρ σ H) (r : RV G F ι NoO H0 H w v) (hn : ∀ a, H0 a = none → ¬ OwnA ρ σ a) :
    Sta G F ι S (ρ.set i (some w)) (σ.set i (some v)) H ∧ (∀ a, OwnA (ρ.set i (some w)) (σ.set i (some v)) a → OwnA ρ σ a ∨ H0 a = none) := by
  have hlen : i < ρ.length ↔ i < σ.length := by rw [s.sl.len]
  refine ⟨⟨s.rep, by rw [List.length_set, List.length_set]; exact s.sl.len, fun j d h => ?_, fun j c h => ?_, fun j k cj ck a h1 h2 h3 h4 => ?_⟩, ?_⟩
  · rcases set_get h with ⟨rfl, e⟩ | ⟨e, h⟩
    · have hl : j < σ.length := by
        have := (List.getElem?_eq_some_iff.mp h).1
        rw [List.length_set] at this
        exact hlen.mp this
      cases w with
      | d x =>
        cases e
        exact ⟨v, List.getElem?_set_self hl, r⟩
      | own c => cases e
    · obtain ⟨u, h1, h2⟩ := s.sl.val j d h
      exact ⟨u, by rw [List.getElem?_set_ne (Ne.symm e)]; exact h1, h2⟩
  · rcases set_get h with ⟨rfl, e⟩ | ⟨e, h⟩
    · have hl : j < σ.length := by
        have := (List.getElem?_eq_some_iff.mp h).1
        rw [List.length_set] at this
        exact hlen.mp this
      cases w with
      | d x => cases e
      | own c' =>
        cases e
        obtain ⟨a, o, rfl, h2, h3, h4, h5, _⟩ := r
        exact ⟨a, o, List.getElem?_set_self hl, h2, h3, h4, h5⟩
    · obtain ⟨a, o, h1, h2⟩ := s.sl.own j c h
      exact ⟨a, o, by rw [List.getElem?_set_ne (Ne.symm e)]; exact h1, h2⟩
  · have other : ∀ {j : Nat} {cj : Cell}, j ≠ i → (ρ.set i (some w))[j]? = some (some (.own cj)) → ρ[j]? = some (some (.own cj)) := fun {j cj} hj h => by
      rw [List.getElem?_set_ne (Ne.symm hj)] at h; exact h
    have otherσ : ∀ {j : Nat}, j ≠ i → (σ.set i (some v))[j]? = some (some (.ref a)) → σ[j]? = some (some (.ref a)) := fun {j} hj h => by
      rw [List.getElem?_set_ne (Ne.symm hj)] at h; exact h
    have clash : ∀ {j k : Nat} {cj ck : Cell}, j = i → k ≠ i → (ρ.set i (some w))[j]? = some (some (.own cj)) → (σ.set i (some v))[j]? = some (some (.ref a)) → ρ[k]? = some (some (.own ck)) → σ[k]? = some (some (.ref a)) → False := fun {j k cj ck} hj hk e1 e2 e3 e4 => by
      subst hj
      rcases set_get e1 with ⟨_, q⟩ | ⟨q, _⟩
      · rcases set_get e2 with ⟨_, q2⟩ | ⟨q2, _⟩
        · cases q
          cases q2
          obtain ⟨b, o, hb, _, _, _, _, h6⟩ := r
          cases hb
          exact hn _ (none_noO.mp h6) ⟨k, ck, e3, e4⟩
        · exact q2 rfl
      · exact q rfl
    by_cases hj : j = i
    · by_cases hk : k = i
      · exact hj.trans hk.symm
      · exact (clash hj hk h1 h3 (other hk h2) (otherσ hk h4)).elim
    · by_cases hk : k = i
      · exact (clash hk hj h2 h4 (other hj h1) (otherσ hj h3)).elim
      · exact s.sl.osep j k cj ck a (other hj h1) (other hk h2) (otherσ hj h3) (otherσ hk h4)
  · rintro a ⟨j, c, h1, h2⟩
    rcases set_get h1 with ⟨rfl, e⟩ | ⟨e, h1⟩
    · cases w with
      | d x => cases e
      | own c' =>
        obtain ⟨b, o, rfl, _, _, _, _, h6⟩ := r
        rcases set_get h2 with ⟨_, q⟩ | ⟨q, _⟩
        · cases q
          exact .inr (none_noO.mp h6)
        · exact (q rfl).elim
    · rw [List.getElem?_set_ne (Ne.symm e)] at h2
      exact .inl ⟨j, c, h1, h2⟩
/-- what is new was held by nobody -/
theorem Sta.notOwn (s : Sta G F ι S ρ σ H) {a : Addr} (h : H a = none) : ¬ OwnA ρ σ a := by
  rintro ⟨i, c, h1, h2⟩
  obtain ⟨b, o, q1, q2, _⟩ := s.sl.own i c h1
  rw [h2] at q1
  cases q1
  rw [h] at q2
  cases q2
def sSet (i : Nat) (m : EM) : SM := fun ρ S => (m ρ S).map fun p => (.nx, ρ.set i (some p.1), p.2)
theorem snd_set {i : Nat} (h : SndV G te me) : SndS G (tAsg te (gName i)) (sSet i me) := by
  intro F ι S ρ σ H f ρ' S' s e W k
  unfold sSet at e
  obtain ⟨⟨w, S1⟩, e1, e⟩ := Option.map_eq_some_iff.mp e
  cases e
  refine h s e1 _ fun F1 ι1 H1 v s1 p1 r => ?_
  obtain ⟨s2, h2⟩ := s1.set (i := i) (O := NoO) (H0 := H) r fun a ha => s.notOwn ha
  refine k F1 ι1 _ H1 s2 ?_
  have q : Stp F ι (OwnA ρ σ) H F1 ι1 (OwnA ρ σ) H1 := stx_own p1
  exact ⟨q.exF, q.pre, q.fr, q.nF, q.nI, fun a ha => (h2 a ha).imp_left fun z => z, q.dom, q.fz⟩
/-- targets: names, tuples of names (slots vs) -/
def Only (vs : List Nat) (σ σ' : St) : Prop := σ'.length = σ.length ∧ ∀ i, i ∉ vs → σ'[i]? = σ[i]?
def SndG (G : Gm) (g : TG) (m : TM) (vs : List Nat) : Prop := ∀ {F : Hp} {ι : List Addr} {S : Sto} {ρ : Slt} {σ : St} {H : Hp} {d : D} {v : V} {ρ' : Slt}, Sta G F ι S ρ σ H → RD G F ι d v → m d ρ = some ρ' → ∀ Q : St → Hp → Prop,
  (∀ σ', Sta G F ι S ρ' σ' H → (∀ a, OwnA ρ' σ' a → OwnA ρ σ a) → Only vs σ σ' → Q σ' H) → g v σ H Q
abbrev TMs := List D → Slt → Option Slt
def SndGs (G : Gm) (g : TGs) (m : TMs) (vs : List Nat) : Prop := ∀ {F : Hp} {ι : List Addr} {S : Sto} {ρ : Slt} {σ : St} {H : Hp} {ds : List D} {xs : List V} {ρ' : Slt}, Sta G F ι S ρ σ H → RDs G F ι ds xs → m ds ρ = some ρ' → ∀ Q : St → Hp → Prop,
  (∀ σ', Sta G F ι S ρ' σ' H → (∀ a, OwnA ρ' σ' a → OwnA ρ σ a) → Only vs σ σ' → Q σ' H) → g xs σ H Q
def gNm (i : Nat) : TM := fun d ρ => some (ρ.set i (some (.d d)))
theorem Only.refl {vs : List Nat} : Only vs σ σ := ⟨rfl, fun _ _ => rfl⟩
theorem Only.trans {vs ws : List Nat} {σ1 σ2 : St} (a : Only vs σ σ1) (b : Only ws σ1 σ2) : Only (vs ++ ws) σ σ2 :=
  ⟨b.1.trans a.1, fun i h => (b.2 i fun z => h (List.mem_append_right _ z)).trans (a.2 i fun z => h (List.mem_append_left _ z))⟩
theorem snd_gname {i : Nat} : SndG G (gName i) (gNm i) [i] := by
  intro F ι S ρ σ H d v ρ' s r e Q k
  cases e
  obtain ⟨s2, h2⟩ := s.set (i := i) (w := .d d) (v := v) (O := NoO) (H0 := H) r fun a ha => s.notOwn ha
  refine k _ s2 (fun a h => ?_) ⟨List.length_set, fun j h => List.getElem?_set_ne (fun z => h (by simp [z]))⟩
  obtain ⟨j, c, h1, h3⟩ := h
  rcases set_get h1 with ⟨_, q⟩ | ⟨q, h1⟩
  · cases q
  · rw [List.getElem?_set_ne (Ne.symm q)] at h3
    exact ⟨j, c, h1, h3⟩
def gsNil : TMs := fun ds ρ => match ds with
  | [] => some ρ
  | _ :: _ => none
def gsCons (g : TM) (r : TMs) : TMs := fun ds ρ => match ds with
  | [] => none
  | d :: ds => (g d ρ).bind fun p => r ds p
theorem snd_gnil : SndGs G gNil gsNil [] := by
  intro F ι S ρ σ H ds vs ρ' s r e Q k
  cases ds with
  | nil =>
    cases e
    exact ⟨rds_nil.mp r, k σ s (fun _ h => h) .refl⟩
  | cons => cases e
theorem snd_gcons {t : TG} {u : TGs} {m : TM} {n : TMs} {vs ws : List Nat} (h1 : SndG G t m vs) (h2 : SndGs G u n ws) : SndGs G (gCons t u) (gsCons m n) (vs ++ ws) := by
  intro F ι S ρ σ H ds xs ρ' s r e Q k
  cases ds with
  | nil => cases e
  | cons d ds =>
    obtain ⟨v, vr, rfl, r1, r2⟩ := rds_cons.mp r
    obtain ⟨ρ1, e1, e⟩ := Option.bind_eq_some_iff.mp (show ((m d ρ).bind fun p => n ds p) = some ρ' from e)
    exact ⟨v, vr, rfl, h1 s r1 e1 _ fun σ1 s1 o1 p1 => h2 s1 r2 e Q fun σ2 s2 o2 p2 => k σ2 s2 (fun a h => o1 a (o2 a h)) (p1.trans p2)⟩
def gT (n : Nat) (g : TMs) : TM := fun d ρ => match d with
  | .tp _ ds => if ds.length = n then g ds ρ else none
  | _ => none
theorem snd_gtup {n : Nat} {t : TGs} {m : TMs} {vs : List Nat} (h : SndGs G t m vs) : SndG G (gTup G.K n t) (gT n m) vs := by
  intro F ι S ρ σ H d v ρ' s r e Q k
  cases d with
  | tp b ds =>
    simp only [RD] at r
    obtain ⟨a, vs, rfl, h1, h2, h3⟩ := r
    unfold gT at e
    dsimp only at e
    split at e
    · rename_i hl
      exact ⟨a, vs, rfl, sqt_ex s.rep.ex h1, h3.len ▸ hl, h s h3 e Q k⟩
    · cases e
  | _ => cases e
def sAsg (g : TM) (m : EM) : SM := fun ρ S => (eD m ρ S).bind fun p => (g p.1 ρ).map fun q => (.nx, q, p.2)
theorem Stp.same {O O' : Addr → Prop} (h : ∀ a, O' a → O a) : Stp F ι O H F ι O' H := Stp.refl.less h
theorem snd_asg {g : TG} {mg : TM} {vs : List Nat} (h : SndV G te me) (hg : SndG G g mg vs) : SndS G (tAsg te g) (sAsg mg me) := by
  intro F ι S ρ σ H f ρ' S' s e W k
  unfold sAsg at e
  obtain ⟨⟨d, S1⟩, e1, e⟩ := Option.bind_eq_some_iff.mp e
  obtain ⟨ρ2, e2, e⟩ := Option.map_eq_some_iff.mp e
  cases e
  refine snd_d h s e1 _ fun F1 ι1 H1 v s1 p1 r => ?_
  exact hg s1 r e2 _ fun σ2 s2 o2 _ => k F1 ι1 σ2 H1 s2 ((stx_own p1).trans (Stp.same o2))
/-- a list that the frame alone holds is settled; becomes a cell; is let go -/
def sFrz (i : Nat) (m : SM) : SM := fun ρ S => match ρ[i]? with
  | some (some (.own (.lst ds))) => m (ρ.set i (some (.d (.fl ds)))) S
  | _ => none
def sBox (i : Nat) (m : SM) : SM := fun ρ S => match ρ[i]? with
  | some (some (.own c)) => m (ρ.set i (some (.d (.ref S.length)))) (S ++ [c])
  | _ => none
theorem Sta.reslot {i : Nat} {c : Cell} {a : Addr} {d : D} (s : Sta G F ι S ρ σ H) (hi : ρ[i]? = some (some (.own c))) (hσ : σ[i]? = some (some (.ref a))) (r : Rep G F' ι' S' H) (e : Same F F') (p : Pre ι ι')
    (rd : RD G F' ι' d (.ref a)) (nF : ∀ b, F' b ≠ none → F b ≠ none ∨ b = a) (nI : ∀ b, b ∈ ι' → b ∈ ι ∨ b = a) :
    Sta G F' ι' S' (ρ.set i (some (.d d))) σ H ∧ Stp F ι (OwnA ρ σ) H F' ι' (OwnA (ρ.set i (some (.d d))) σ) H := by
  have hO : OwnA ρ σ a := ⟨i, c, hi, hσ⟩
  refine ⟨⟨r, by rw [List.length_set]; exact s.sl.len, fun j x h => ?_, fun j x h => ?_, fun j k cj ck b h1 h2 h3 h4 => ?_⟩, e, p, fun b o h _ _ _ => h, fun b h => ?_, fun b h => ?_, fun b h => ?_, fun b h => h, fun b _ _ h => h⟩
  · rcases set_get h with ⟨rfl, q⟩ | ⟨q, h⟩
    · cases q
      exact ⟨_, hσ, rd⟩
    · obtain ⟨u, h1, h2⟩ := s.sl.val j x h
      exact ⟨u, h1, h2.mono e p⟩
  · rcases set_get h with ⟨rfl, q⟩ | ⟨q, h⟩
    · cases q
    · obtain ⟨b, o, h1, h2, h3, h4, h5⟩ := s.sl.own j x h
      have hb : b ≠ a := fun z => q (s.sl.osep j i x c a h hi (by rw [← z]; exact h1) hσ)
      refine ⟨b, o, h1, h2, h3.mono e p, ?_, fun z => ?_⟩
      · refine Classical.byContradiction fun z => ?_
        rcases nF b z with y | y
        · exact y h4
        · exact hb y
      · rcases nI b z with y | y
        · exact h5 y
        · exact hb y
  · rcases set_get h1 with ⟨_, q⟩ | ⟨q1, h1⟩
    · cases q
    · rcases set_get h2 with ⟨_, q⟩ | ⟨q2, h2⟩
      · cases q
      · exact s.sl.osep j k cj ck b h1 h2 h3 h4
  · rcases nF b h with y | y
    · exact .inl y
    · exact .inr (.inr (y ▸ hO))
  · rcases nI b h with y | y
    · exact .inl y
    · exact .inr (.inr (y ▸ hO))
  · obtain ⟨j, x, h1, h2⟩ := h
    rcases set_get h1 with ⟨_, q⟩ | ⟨_, h1⟩
    · cases q
    · exact .inl ⟨j, x, h1, h2⟩
theorem snd_frz {t : TS} {m : SM} (i : Nat) (h : SndS G t m) : SndS G t (sFrz i m) := by
  intro F ι S ρ σ H f ρ' S' s e W k
  unfold sFrz at e
  split at e
  · rename_i ds hi
    obtain ⟨a, o, h1, h2, ⟨vs, rfl, h3⟩, h4, h5⟩ := s.sl.own i _ hi
    obtain ⟨s1, p1⟩ := s.reslot (d := .fl ds) hi h1 (s.rep.settle h2 h4 h5) (same_upd h4) (List.prefix_refl _) (by simp only [RD]; exact ⟨a, vs, rfl, upd_same, h3.mono (same_upd h4) (List.prefix_refl _)⟩)
      (fun b hb => by by_cases z : b = a; exact .inr z; exact .inl (by rw [upd_ne z] at hb; exact hb)) (fun b hb => .inl hb)
    exact h s1 e W (k.later p1)
  · cases e
theorem snd_boxS {t : TS} {m : SM} (i : Nat) (h : SndS G t m) : SndS G t (sBox i m) := by
  intro F ι S ρ σ H f ρ' S' s e W k
  unfold sBox at e
  split at e
  · rename_i c hi
    obtain ⟨a, o, h1, h2, h3, h4, h5⟩ := s.sl.own i _ hi
    obtain ⟨s1, p1⟩ := s.reslot (d := .ref S.length) hi h1 (s.rep.box h2 h3 h4 h5) (Same.refl _) (List.prefix_append _ _) (by simp only [RD]; exact ⟨a, rfl, by rw [← s.rep.len, List.getElem?_append_right (Nat.le_refl _), Nat.sub_self]; rfl⟩)
      (fun b hb => .inl hb) (fun b hb => (List.mem_append.mp hb).imp_right fun z => by simpa using z)
    exact h s1 e W (k.later p1)
  · cases e
end
end Yi
/-! Defs, calls, fields, loops, comprehensions over states. -/
namespace Yi
open PySem L2
abbrev Den := List D → Sto → Option (VV × Sto)
/-- a def's meaning from its body's: n slots, np parameters -/
def den (n np : Nat) (m : SM) : Den := fun ds S => if ds.length = np then (m (ds.map (fun d => some (.d d)) ++ List.replicate (n - ds.length) none) S).bind fun p => match p.1 with
  | .nx => some (.d .non, p.2.2)
  | .rt v => some (v, p.2.2)
  | _ => none
  else none
def spI (G : Gm) (np : Nat) (f : Den) : Sp := fun vs H Q _ => vs.length = np ∧ ∃ F ι S ds w S', Rep G F ι S H ∧ RDs G F ι ds vs ∧ f ds S = some (w, S') ∧
  ∀ F' ι' H' v, Rep G F' ι' S' H' → Stx F ι H F' ι' H' → RV G F' ι' NoO H H' w v → Q v H'
section
variable {G : Gm} {F F' H H' : Hp} {ι ι' : List Addr} {S S' : Sto} {ρ ρ' : Slt} {σ σ' : St} {ta tb tc te : TE} {ma mb mc me : EM} {tt tu : TT} {mt mu : BM} {t1 t2 : TS} {m1 m2 : SM}
theorem start_sta {N : List Str} {ds : List D} {vs : List V} (r : Rep G F ι S H) (h : RDs G F ι ds vs) : Sta G F ι S (ds.map (fun d => some (.d d)) ++ List.replicate (N.length - ds.length) none) (L2.start N vs) H ∧ ∀ a, ¬ OwnA (ds.map (fun d => some (VV.d d)) ++ List.replicate (N.length - ds.length) none) (L2.start N vs) a := by
  have hl := h.len
  have no : ∀ (i : Nat) (c : Cell), ¬ (ds.map (fun d => some (VV.d d)) ++ List.replicate (N.length - ds.length) none)[i]? = some (some (.own c)) := fun i c e => by
    by_cases hi : i < ds.length
    · rw [List.getElem?_append_left (by simpa using hi), List.getElem?_map, List.getElem?_eq_getElem hi] at e
      cases e
    · rw [List.getElem?_append_right (by simpa using hi), List.getElem?_replicate] at e
      split at e <;> cases e
  refine ⟨⟨r, ?_, fun i d e => ?_, fun i c e => (no i c e).elim, fun i j ci cj a e1 => (no i ci e1).elim⟩, fun a ⟨i, c, e, _⟩ => no i c e⟩
  · unfold L2.start
    simp only [List.length_append, List.length_map, List.length_replicate]
    omega
  · by_cases hi : i < ds.length
    · rw [List.getElem?_append_left (by simpa using hi), List.getElem?_map, List.getElem?_eq_getElem hi] at e
      cases e
      obtain ⟨v, h1, h2⟩ := h.get (List.getElem?_eq_getElem hi)
      refine ⟨v, ?_, h2⟩
      unfold L2.start
      rw [List.getElem?_append_left (by simpa [← hl] using hi), List.getElem?_map, h1]
      rfl
    · rw [List.getElem?_append_right (by simpa using hi), List.getElem?_replicate] at e
      split at e <;> cases e
/-- a body's reading, at the parameters' values -/
theorem body_I {N : List Str} {np : Nat} {t : TS} {m : SM} (h : SndS G t m) {vs : List V} {Q : VK} {E : XK} (p : spI G np (den N.length np m) vs H Q E) : t { nx := fun _ H' => Q .non H', rt := Q } (L2.start N vs) H := by
  obtain ⟨_, F, ι, S, ds, w, S', r, rs, e, k⟩ := p
  unfold den at e
  split at e
  · obtain ⟨⟨f, ρ', S1⟩, e1, e⟩ := Option.bind_eq_some_iff.mp e
    obtain ⟨s, no⟩ := start_sta (N := N) r rs
    refine h s e1 _ ?_
    have nn : ∀ {F' : Hp} {ι' : List Addr} {H' : Hp} {O' : Addr → Prop}, Stp F ι (OwnA (ds.map (fun d => some (VV.d d)) ++ List.replicate (N.length - ds.length) none) (L2.start N vs)) H F' ι' O' H' → Stx F ι H F' ι' H' := fun p =>
      ⟨p.exF, p.pre, fun a o h1 h2 _ nt => p.fr a o h1 h2 (no a) nt, fun a h1 => (p.nF a h1).imp_right (Or.imp_right fun z => (no a z).elim), fun a h1 => (p.nI a h1).imp_right (Or.imp_right fun z => (no a z).elim), fun _ z => z.elim, p.dom, p.fz⟩
    cases f with
    | nx =>
      cases e
      exact fun F' ι' σ' H' s' p' => k F' ι' H' _ s'.rep (nn p') (by simp only [RV, RD])
    | rt v =>
      cases e
      refine fun F' ι' H' u r' p' rv => k F' ι' H' u r' (nn p') ?_
      cases w with
      | d x => exact rv
      | own c =>
        obtain ⟨a, o, h1, h2, h3, h4, h5, h6⟩ := rv
        exact ⟨a, o, h1, h2, h3, h4, h5, .inr (h6.elim (fun z => (no a z).elim) id)⟩
    | bk => cases e
    | ct => cases e
  · cases e
/-! ### calls -/
def eCall (f : Den) (a : AM) (dds : List D) : EM := fun ρ S => (a ρ S).bind fun p => f (p.1 ++ dds) p.2
theorem snd_call {f : Den} {np : Nat} {t : TA} {m : AM} {dvs : List V} {dds : List D} {E : XK} (h : SndA G t m) (hd : ∀ F ι, RDs G F ι dds dvs) (hn : ∀ ds S w S', f ds S = some (w, S') → ds.length = np) : SndV G (tCall (spI G np f) dvs E t) (eCall f m dds) := by
  intro F ι S ρ σ H w S' s e Q k
  unfold eCall at e
  obtain ⟨⟨ds, S1⟩, e1, e⟩ := Option.bind_eq_some_iff.mp e
  refine h s e1 _ fun F1 ι1 H1 vs s1 p1 rs => ?_
  have rs2 := rs.app (hd F1 ι1)
  exact ⟨by rw [← rs2.len]; exact hn _ _ _ _ e, F1, ι1, S1, _, w, S', s1.rep, rs2, e, fun F' ι' H' v r' p' rv => k F' ι' H' v (s1.after r' p').1 (p1.trans p') (rv.back p1.back)⟩
theorem den_len {n np : Nat} {m : SM} : ∀ (ds : List D) (S : Sto) (w : VV) (S' : Sto), den n np m ds S = some (w, S') → ds.length = np := fun ds S w S' e => by
  unfold den at e
  split at e
  · assumption
  · cases e
/-- keywords: gD, gV put the values in the parameters' order -/
def eCallK (f : Den) (gD : List D → List D → List D) (a b : AM) : EM := fun ρ S => (a ρ S).bind fun p => (b ρ p.2).bind fun q => f (gD p.1 q.1) q.2
theorem snd_callK {f : Den} {np : Nat} {t tk : TA} {m mk : AM} {gV : List V → List V → List V} {gD : List D → List D → List D} {E : XK} (h : SndA G t m) (hk : SndA G tk mk) (hg : ∀ F ι ds es vs zs, RDs G F ι ds vs → RDs G F ι es zs → RDs G F ι (gD ds es) (gV vs zs))
    (hn : ∀ ds S w S', f ds S = some (w, S') → ds.length = np) : SndV G (tCallK (spI G np f) gV E t tk) (eCallK f gD m mk) := by
  intro F ι S ρ σ H w S' s e Q k
  unfold eCallK at e
  obtain ⟨⟨ds, S1⟩, e1, e⟩ := Option.bind_eq_some_iff.mp e
  obtain ⟨⟨es, S2⟩, e2, e⟩ := Option.bind_eq_some_iff.mp e
  refine h s e1 _ fun F1 ι1 H1 vs s1 p1 rs => ?_
  refine hk s1 e2 _ fun F2 ι2 H2 zs s2 p2 rz => ?_
  have rs2 := hg F2 ι2 _ _ _ _ (rs.mono p2.exF p2.pre) rz
  have pp := p1.trans p2
  exact ⟨by rw [← rs2.len]; exact hn _ _ _ _ e, F2, ι2, S2, _, w, S', s2.rep, rs2, e, fun F' ι' H' v r' p' rv => k F' ι' H' v (s2.after r' p').1 (pp.trans p') (rv.back pp.back)⟩
/-! ### instances -/
def lkp {κ β : Type} [DecidableEq κ] (k : κ) : List (κ × β) → Option β
  | [] => none
  | (j, d) :: r => if k = j then some d else lkp k r
def putD (f : Str) (d : D) : List (Str × D) → List (Str × D)
  | [] => [(f, d)]
  | (g, x) :: r => if g = f then (g, d) :: r else (g, x) :: putD f d r
theorem rks_lkp {f : Str} : ∀ {fs : List (Str × D)} {kv : List (Str × V)}, RKs G F ι fs kv → (∀ d, lkp f fs = some d → ∃ v, kv.lookup f = some v ∧ RD G F ι d v) ∧ (lkp f fs = none → kv.lookup f = none)
  | [], kv, h => by
    cases (show kv = [] from h)
    exact ⟨fun d e => by simp [lkp] at e, fun _ => rfl⟩
  | (g, x) :: r, kv, h => by
    obtain ⟨v, r', rfl, h1, h2⟩ := h
    obtain ⟨i1, i2⟩ := rks_lkp (f := f) h2
    unfold lkp
    by_cases e : f = g
    · subst e
      rw [if_pos rfl]
      exact ⟨fun d q => ⟨v, by simp [List.lookup], by cases q; exact h1⟩, fun q => by cases q⟩
    · have hb : (f == g) = false := beq_eq_false_iff_ne.mpr e
      rw [if_neg e]
      refine ⟨fun d q => ?_, fun q => ?_⟩
      · obtain ⟨u, q1, q2⟩ := i1 d q
        exact ⟨u, by simp [List.lookup, hb, q1], q2⟩
      · simp [List.lookup, hb, i2 q]
theorem rks_put {f : Str} {d : D} {v : V} (hd : RD G F ι d v) : ∀ {fs : List (Str × D)} {kv : List (Str × V)}, RKs G F ι fs kv → RKs G F ι (putD f d fs) (putF f v kv)
  | [], kv, h => by
    cases (show kv = [] from h)
    exact ⟨v, [], rfl, hd, rfl⟩
  | (g, x) :: r, kv, h => by
    obtain ⟨u, r', rfl, h1, h2⟩ := h
    unfold putD putF
    by_cases e : g = f
    · rw [if_pos e, if_pos e]
      exact ⟨v, r', rfl, hd, h2⟩
    · rw [if_neg e, if_neg e]
      exact ⟨u, _, rfl, h1, rks_put hd h2⟩
theorem rks_len {κ : Type} : ∀ {fs : List (κ × D)} {kv : List (κ × V)}, RKs G F ι fs kv → fs.length = kv.length
  | [], kv, h => by cases (show kv = [] from h); rfl
  | (g, x) :: r, kv, h => by
    obtain ⟨u, r', rfl, h1, h2⟩ := h
    exact congrArg Nat.succ (rks_len h2)
/-- what a class c must have for the attribute f -/
structure FldOk (G : Gm) (c : Nat) (f : Str) : Prop where
  cl : Cls G.K (G.cl c)
  na : NoAttr G.K (G.cl c) f
def insAt (c : Nat) (d : D) (S : Sto) : Option (Nat × List (Str × D)) := match d with
  | .ref n => match S[n]? with
    | some (.ins c' fs) => if c' = c then some (n, fs) else none
    | _ => none
  | _ => none
theorem insAt_some {c : Nat} {d : D} {n : Nat} {fs : List (Str × D)} (h : insAt c d S = some (n, fs)) : d = .ref n ∧ S[n]? = some (.ins c fs) := by
  unfold insAt at h
  split at h
  · split at h
    · rename_i m c' gs e
      split at h
      · rename_i hc
        cases h
        exact ⟨rfl, by rw [e, hc]⟩
      · cases h
    · cases h
  · cases h
theorem ins_get {c : Nat} {d : D} {n : Nat} {fs : List (Str × D)} {v : V} (r : Rep G F ι S H) (h : insAt c d S = some (n, fs)) (rd : RD G F ι d v) : ∃ a dx kv, v = .ref a ∧ ι[n]? = some a ∧ H a = some (.ins (G.cl c) dx kv) ∧ RKs G F ι fs kv := by
  obtain ⟨rfl, h'⟩ := insAt_some h
  obtain ⟨a, o, h1, h2, dx, kv, rfl, h3⟩ := r.cell n _ h'
  simp only [RD] at rd
  obtain ⟨b, rfl, q⟩ := rd
  rw [h1] at q
  cases q
  exact ⟨_, dx, kv, rfl, h1, h2, h3⟩
def eFld (c : Nat) (f : Str) (m : EM) : EM := fun ρ S => (eD m ρ S).bind fun p => (insAt c p.1 p.2).bind fun q => (lkp f q.2).map fun d => (.d d, p.2)
theorem snd_fld {c : Nat} {f : Str} (ok : FldOk G c f) (h : SndV G te me) : SndV G (tFld G.K te f) (eFld c f me) := by
  intro F ι S ρ σ H w S' s e Q k
  unfold eFld at e
  obtain ⟨⟨x, S1⟩, e1, e⟩ := Option.bind_eq_some_iff.mp e
  obtain ⟨⟨n, fs⟩, e2, e⟩ := Option.bind_eq_some_iff.mp e
  obtain ⟨d, e3, e⟩ := Option.map_eq_some_iff.mp e
  cases e
  refine snd_d h s e1 _ fun F1 ι1 H1 v s1 p1 r => ?_
  obtain ⟨a, dx, kv, rfl, _, h2, h3⟩ := ins_get s1.rep e2 r
  obtain ⟨u, q1, q2⟩ := (rks_lkp h3).1 d e3
  exact ⟨a, _, dx, kv, u, rfl, h2, ok.cl, ok.na, q1, k F1 ι1 H1 u s1 p1 q2⟩
def sFldS (c : Nat) (f : Str) (mo mv : EM) : SM := fun ρ S => (eD mv ρ S).bind fun p => (eD mo ρ p.2).bind fun q => (insAt c q.1 q.2).bind fun u => if u.2.length < 999 then some (.nx, ρ, q.2.set u.1 (.ins c (putD f p.1 u.2))) else none
theorem snd_fldS {c : Nat} {f : Str} {to tv : TE} {mo mv : EM} (ok : FldOk G c f) (ho : SndV G to mo) (hv : SndV G tv mv) : SndS G (sFld G.K to tv f) (sFldS c f mo mv) := by
  intro F ι S ρ σ H fl ρ' S' s e W k
  unfold sFldS at e
  obtain ⟨⟨y, S1⟩, e1, e⟩ := Option.bind_eq_some_iff.mp e
  obtain ⟨⟨x, S2⟩, e2, e⟩ := Option.bind_eq_some_iff.mp e
  obtain ⟨⟨n, fs⟩, e3, e⟩ := Option.bind_eq_some_iff.mp e
  dsimp only at e
  split at e
  · rename_i hz
    cases e
    refine snd_d hv s e1 _ fun F1 ι1 H1 vy s1 p1 ry => ?_
    refine snd_d ho s1 e2 _ fun F2 ι2 H2 vx s2 p2 rx => ?_
    obtain ⟨a, dx, kv, rfl, h1, h2, h3⟩ := ins_get s2.rep e3 rx
    have rc : RC G F2 ι2 (.ins c (putD f y fs)) (.ins (G.cl c) dx (putF f vy kv)) := ⟨dx, _, rfl, rks_put (ry.mono p2.exF p2.pre) h3⟩
    obtain ⟨r3, p3⟩ := s2.rep.put h1 (insAt_some e3).2 rfl rc
    refine ⟨a, _, dx, kv, rfl, h2, ok.cl, ok.na, by rw [← rks_len h3]; omega, ?_⟩
    exact k F2 ι2 σ _ (s2.after r3 p3).1 (stx_own ((p1.trans p2).trans p3))
  · cases e
/-- o.f op= e, where the operation on values leaves the store -/
def sFldA (c : Nat) (f : Str) (g : D → D → Sto → Option VV) (mo mv : EM) : SM := fun ρ S => (eD mo ρ S).bind fun p => (insAt c p.1 p.2).bind fun u => (lkp f u.2).bind fun x => (eD mv ρ p.2).bind fun q => (g x q.1 q.2).bind fun w => match w with
  | .d z => (insAt c p.1 q.2).bind fun u2 => if u2.2.length < 999 then some (.nx, ρ, q.2.set u2.1 (.ins c (putD f z u2.2))) else none
  | .own _ => none
theorem snd_fldA {c : Nat} {f : Str} {to tv : TE} {mo mv : EM} {rd : V → V → Hp → VK → Prop} {g : D → D → Sto → Option VV} (ok : FldOk G c f) (ho : SndV G to mo) (hv : SndV G tv mv) (hg : SndR2 G rd g) : SndS G (sFldAug G.K to tv rd f) (sFldA c f g mo mv) := by
  intro F ι S ρ σ H fl ρ' S' s e W k
  unfold sFldA at e
  obtain ⟨⟨o, S1⟩, e1, e⟩ := Option.bind_eq_some_iff.mp e
  obtain ⟨⟨n, fs⟩, e2, e⟩ := Option.bind_eq_some_iff.mp e
  obtain ⟨x, e3, e⟩ := Option.bind_eq_some_iff.mp e
  obtain ⟨⟨y, S2⟩, e4, e⟩ := Option.bind_eq_some_iff.mp e
  obtain ⟨w, e5, e⟩ := Option.bind_eq_some_iff.mp e
  match w, e with
  | .d z, e =>
    obtain ⟨⟨n2, fs2⟩, e6, e⟩ := Option.bind_eq_some_iff.mp e
    dsimp only at e
    split at e
    · rename_i hz
      cases e
      refine snd_d ho s e1 _ fun F1 ι1 H1 vo s1 p1 ro => ?_
      obtain ⟨a, dx, kv, rfl, h1, h2, h3⟩ := ins_get s1.rep e2 ro
      obtain ⟨vx, q1, q2⟩ := (rks_lkp h3).1 x e3
      refine ⟨a, _, dx, kv, vx, rfl, h2, ok.cl, ok.na, q1, ?_⟩
      refine snd_d hv s1 e4 _ fun F2 ι2 H2 vy s2 p2 ry => ?_
      refine hg s2.rep (q2.mono p2.exF p2.pre) ry e5 _ fun F3 H3 vz r3 p3 rz => ?_
      have pp := p2.trans p3
      obtain ⟨a', dx', kv', ea, h1', h2', h3'⟩ := ins_get r3 e6 (ro.mono pp.exF pp.pre)
      cases ea
      have rc : RC G F3 ι2 (.ins c (putD f z fs2)) (.ins (G.cl c) dx' (putF f vz kv')) := ⟨dx', _, rfl, rks_put rz h3'⟩
      obtain ⟨r4, p4⟩ := r3.put h1' (insAt_some e6).2 rfl rc
      refine ⟨dx', kv', h2', by rw [← rks_len h3']; omega, ?_⟩
      exact k F3 ι2 σ _ (s1.after r4 (pp.trans p4)).1 (stx_own ((p1.trans pp).trans p4))
    · cases e
def eMeth (c : Nat) (m : Str) (f : Den) (mo : EM) (a : AM) (dds : List D) : EM := fun ρ S => (eD mo ρ S).bind fun p => (insAt c p.1 p.2).bind fun u => if (lkp m u.2).isNone = true then (a ρ p.2).bind fun q => f (p.1 :: (q.1 ++ dds)) q.2 else none
theorem snd_meth {c : Nat} {m : Str} {f : Den} {np : Nat} {to : TE} {mo : EM} {t : TA} {a : AM} {dvs : List V} {dds : List D} {E : XK} (ho : SndV G to mo) (h : SndA G t a) (hd : ∀ F ι, RDs G F ι dds dvs) (hn : ∀ ds S w S', f ds S = some (w, S') → ds.length = np) :
    SndV G (tMeth (G.cl c) m (spI G np f) dvs E to t) (eMeth c m f mo a dds) := by
  intro F ι S ρ σ H w S' s e Q k
  unfold eMeth at e
  obtain ⟨⟨o, S1⟩, e1, e⟩ := Option.bind_eq_some_iff.mp e
  obtain ⟨⟨n, fs⟩, e2, e⟩ := Option.bind_eq_some_iff.mp e
  dsimp only at e
  split at e
  · rename_i hl
    obtain ⟨⟨ds, S2⟩, e3, e⟩ := Option.bind_eq_some_iff.mp e
    refine snd_d ho s e1 _ fun F1 ι1 H1 vo s1 p1 ro => ?_
    obtain ⟨b, dx, kv, rfl, h1, h2, h3⟩ := ins_get s1.rep e2 ro
    refine ⟨b, dx, kv, rfl, h2, (rks_lkp h3).2 (Option.isNone_iff_eq_none.mp hl), ?_⟩
    refine h s1 e3 _ fun F2 ι2 H2 vs s2 p2 rs => ?_
    have rs2 : RDs G F2 ι2 (o :: (ds ++ dds)) (.ref b :: (vs ++ dvs)) := rds_cons.mpr ⟨_, _, rfl, ro.mono p2.exF p2.pre, rs.app (hd F2 ι2)⟩
    have pp := p1.trans p2
    exact ⟨by rw [← rs2.len]; exact hn _ _ _ _ e, F2, ι2, S2, _, w, S', s2.rep, rs2, e, fun F' ι' H' v r' p' rv => k F' ι' H' v (s2.after r' p').1 (pp.trans p') (rv.back pp.back)⟩
  · cases e
def eMake (c : Nat) (f : Den) (a : AM) (dds : List D) : EM := fun ρ S => (a ρ S).bind fun p => (f (.ref p.2.length :: (p.1 ++ dds)) (p.2 ++ [.ins c []])).bind fun q => match q.1 with
  | .d .non => some (.d (.ref p.2.length), q.2)
  | _ => none
theorem snd_make {c : Nat} {f : Den} {np : Nat} {t : TA} {a : AM} {dvs : List V} {dds : List D} {E : XK} (h : SndA G t a) (hd : ∀ F ι, RDs G F ι dds dvs) (hn : ∀ ds S w S', f ds S = some (w, S') → ds.length = np) :
    SndV G (tMake (G.cl c) (spI G np f) dvs E t) (eMake c f a dds) := by
  intro F ι S ρ σ H w S' s e Q k
  unfold eMake at e
  obtain ⟨⟨ds, S1⟩, e1, e⟩ := Option.bind_eq_some_iff.mp e
  obtain ⟨⟨u, S2⟩, e2, e⟩ := Option.bind_eq_some_iff.mp e
  match u, e with
  | .d .non, e =>
    cases e
    refine h s e1 _ fun F1 ι1 H1 vs s1 p1 rs x dx hx hdx hne => ?_
    obtain ⟨r2, p2⟩ := s1.rep.newO (o := .own x) hdx
    have hx2 : upd H1 dx (.own x) x = none := by rw [upd_ne (Ne.symm hne)]; exact hx
    obtain ⟨r3, p3⟩ := r2.newO (o := .ins (G.cl c) dx []) hx2
    have hF : F1 x = none := s1.rep.noF hx
    have hI : x ∉ ι1 := s1.rep.noI hx
    have r4 := r3.box (c := .ins c []) upd_same ⟨dx, [], rfl, rfl⟩ hF hI
    have p4 : Stx F1 ι1 H1 F1 (ι1 ++ [x]) (upd (upd H1 dx (.own x)) x (.ins (G.cl c) dx [])) := by
      have pp := p2.trans p3
      exact ⟨pp.exF, List.prefix_append _ _, pp.fr, pp.nF, fun b hb => by
        rcases List.mem_append.mp hb with z | z
        · exact .inl z
        · have : b = x := by simpa using z
          subst this
          exact .inr (.inl hx), pp.nO, pp.dom, pp.fz⟩
    have rx : RD G F1 (ι1 ++ [x]) (.ref S1.length) (.ref x) := by
      simp only [RD]
      exact ⟨x, rfl, by rw [← s1.rep.len, List.getElem?_append_right (Nat.le_refl _), Nat.sub_self]; rfl⟩
    have rs2 : RDs G F1 (ι1 ++ [x]) (.ref S1.length :: (ds ++ dds)) (.ref x :: (vs ++ dvs)) := rds_cons.mpr ⟨_, _, rfl, rx, (rs.mono (Same.refl _) (List.prefix_append _ _)).app (hd _ _)⟩
    refine ⟨by rw [← rs2.len]; exact hn _ _ _ _ e2, F1, ι1 ++ [x], _, _, _, _, r4, rs2, e2, fun F' ι' H' v r' p' rv => ?_⟩
    simp only [RV, RD] at rv
    have pp := p4.trans p'
    exact ⟨rv, k F' ι' H' _ (s1.after r' pp).1 (p1.trans pp) (rx.mono p'.exF p'.pre)⟩
/-! ### for -/
def ItL (G : Gm) (F : Hp) (ι : List Addr) (H : Hp) (J : It) (items : List D) : Prop := ∀ {F1 : Hp} {ι1 : List Addr} {S1 : Sto} {H1 : Hp}, Same F F1 → Pre ι ι1 → (∀ a ob u, H a = some (.frz ob u) → H1 a = some (.frz ob u)) → Rep G F1 ι1 S1 H1 → ∀ i : Nat,
  (∀ d, items[i]? = some d → J.go i H1 ∧ ∀ x H2, J.yld i H1 x H2 → ∃ F2, Rep G F2 ι1 S1 H2 ∧ Stx F1 ι1 H1 F2 ι1 H2 ∧ RD G F2 ι1 d x) ∧ (items.length ≤ i → J.stop i H1)
def SndI (G : Gm) (wi : TI) (m : AM) : Prop := ∀ {F : Hp} {ι : List Addr} {S : Sto} {ρ : Slt} {σ : St} {H : Hp} {ds : List D} {S' : Sto}, Sta G F ι S ρ σ H → m ρ S = some (ds, S') → ∀ R : It → Hp → Prop,
  (∀ F' ι' H' J, Sta G F' ι' S' ρ σ H' → Stx F ι H F' ι' H' → ItL G F' ι' H' J ds → R J H') → wi σ H R
def forL (g : TM) (b : SM) : List D → SM
  | [], ρ, S => some (.nx, ρ, S)
  | d :: r, ρ, S => (g d ρ).bind fun ρ1 => (b ρ1 S).bind fun p => match p.1 with
    | .nx => forL g b r p.2.1 p.2.2
    | .ct => forL g b r p.2.1 p.2.2
    | .bk => some (.nx, p.2.1, p.2.2)
    | .rt v => some (.rt v, p.2.1, p.2.2)
def sFor (i : AM) (g : TM) (b : SM) : SM := fun ρ S => (i ρ S).bind fun p => forL g b p.1 ρ p.2
theorem snd_for {wi : TI} {mi : AM} {g : TG} {mg : TM} {vs : List Nat} {tb : TS} {mb : SM} (hi : SndI G wi mi) (hg : SndG G g mg vs) (hb : SndS G tb mb) : SndS G (tFor wi g tb) (sFor mi mg mb) := by
  intro F ι S ρ σ H fl ρ' S' s e W k
  unfold sFor at e
  obtain ⟨⟨items, S1⟩, e1, e⟩ := Option.bind_eq_some_iff.mp e
  dsimp only at e
  refine hi s e1 _ fun F1 ι1 H1 J s1 p1 hJ => ?_
  have k1 := k.later (stx_own (O := OwnA ρ σ) p1)
  refine ⟨fun i m σ2 H2 => m = items.length - i ∧ i ≤ items.length ∧ ∃ F2 ι2 S2 ρ2, Sta G F2 ι2 S2 ρ2 σ2 H2 ∧ Stp F1 ι1 (OwnA ρ σ) H1 F2 ι2 (OwnA ρ2 σ2) H2 ∧ forL mg mb (items.drop i) ρ2 S2 = some (fl, ρ', S'), ⟨items.length, by simp, Nat.zero_le _, F1, ι1, S1, ρ, s1, .refl, by simpa using e⟩, ?_⟩
  rintro i m σ2 H2 ⟨rfl, hle, F2, ι2, S2, ρ2, s2, p2, e2⟩
  obtain ⟨j1, j2⟩ := hJ p2.exF p2.pre p2.fz s2.rep i
  by_cases hlt : i < items.length
  · have ed : items.drop i = items[i] :: items.drop (i + 1) := List.drop_eq_getElem_cons hlt
    rw [ed] at e2
    obtain ⟨ρ3, e3, e2⟩ := Option.bind_eq_some_iff.mp (show ((mg items[i] ρ2).bind fun ρ1 => (mb ρ1 S2).bind fun p => match p.1 with
      | .nx => forL mg mb (items.drop (i + 1)) p.2.1 p.2.2
      | .ct => forL mg mb (items.drop (i + 1)) p.2.1 p.2.2
      | .bk => some (.nx, p.2.1, p.2.2)
      | .rt v => some (.rt v, p.2.1, p.2.2)) = some (fl, ρ', S') from e2)
    obtain ⟨⟨f4, ρ4, S4⟩, e4, e2⟩ := Option.bind_eq_some_iff.mp e2
    obtain ⟨go, yl⟩ := j1 items[i] (List.getElem?_eq_getElem hlt)
    refine .inr ⟨go, fun σ' H' => ∃ F2 ι2 S2 ρ2, Sta G F2 ι2 S2 ρ2 σ' H' ∧ Stp F1 ι1 (OwnA ρ σ) H1 F2 ι2 (OwnA ρ2 σ') H' ∧ forL mg mb (items.drop (i + 1)) ρ2 S2 = some (fl, ρ', S'), fun σ' H' h => ⟨items.length - (i + 1), by omega, rfl, hlt, h⟩, fun x H3 y => ?_⟩
    obtain ⟨F3, r3, p3, rd⟩ := yl x H3 y
    have s3 := (s2.after r3 p3).1
    have pp : Stp F1 ι1 (OwnA ρ σ) H1 F3 ι2 (OwnA ρ2 σ2) H3 := p2.trans (stx_own p3)
    refine hg s3 rd e3 _ fun σ4 s4 o4 _ => ?_
    have p4 : Stp F1 ι1 (OwnA ρ σ) H1 F3 ι2 (OwnA ρ3 σ4) H3 := pp.trans (Stp.same o4)
    refine hb s4 e4 _ ?_
    cases f4 with
    | nx => exact fun F5 ι5 σ5 H5 s5 p5 => ⟨F5, ι5, S4, ρ4, s5, p4.trans p5, e2⟩
    | ct => exact fun F5 ι5 σ5 H5 s5 p5 => ⟨F5, ι5, S4, ρ4, s5, p4.trans p5, e2⟩
    | bk => cases e2; exact fun F5 ι5 σ5 H5 s5 p5 => k1 F5 ι5 σ5 H5 s5 (p4.trans p5)
    | rt v => cases e2; exact k1.later p4
  · have ei : i = items.length := by omega
    subst ei
    rw [List.drop_length] at e2
    cases e2
    exact .inl ⟨j2 (Nat.le_refl _), k1 F2 ι2 σ2 H2 s2 p2⟩
/-! ### while -/
def whL (c : BM) (b : SM) : Nat → SM
  | 0, _, _ => none
  | n + 1, ρ, S => (c ρ S).bind fun q => if q.1 = true then (b ρ q.2).bind fun p => match p.1 with
    | .nx => whL c b n p.2.1 p.2.2
    | .ct => whL c b n p.2.1 p.2.2
    | .bk => some (.nx, p.2.1, p.2.2)
    | .rt v => some (.rt v, p.2.1, p.2.2)
    else some (.nx, ρ, q.2)
theorem snd_while {tb : TS} {mb : SM} (n : Nat) (hc : SndT G tt mt) (hb : SndS G tb mb) : SndS G (tWhile tt tb) (whL mt mb n) := by
  intro F ι S ρ σ H fl ρ' S' s e W k
  refine ⟨fun m σ2 H2 => ∃ F2 ι2 S2 ρ2, Sta G F2 ι2 S2 ρ2 σ2 H2 ∧ Stp F ι (OwnA ρ σ) H F2 ι2 (OwnA ρ2 σ2) H2 ∧ whL mt mb m ρ2 S2 = some (fl, ρ', S'), ⟨n, F, ι, S, ρ, s, .refl, e⟩, ?_⟩
  rintro m σ2 H2 ⟨F2, ι2, S2, ρ2, s2, p2, e2⟩
  cases m with
  | zero => cases e2
  | succ m =>
    obtain ⟨⟨b, S3⟩, e3, e2⟩ := Option.bind_eq_some_iff.mp (show ((mt ρ2 S2).bind fun q => if q.1 = true then (mb ρ2 q.2).bind fun p => match p.1 with
      | .nx => whL mt mb m p.2.1 p.2.2
      | .ct => whL mt mb m p.2.1 p.2.2
      | .bk => some (.nx, p.2.1, p.2.2)
      | .rt v => some (.rt v, p.2.1, p.2.2)
      else some (.nx, ρ2, q.2)) = some (fl, ρ', S') from e2)
    refine hc s2 e3 _ fun F3 ι3 H3 s3 p3 => ?_
    have p4 : Stp F ι (OwnA ρ σ) H F3 ι3 (OwnA ρ2 σ2) H3 := p2.trans (stx_own p3)
    cases b with
    | true =>
      rw [if_pos rfl]
      obtain ⟨⟨f4, ρ4, S4⟩, e4, e2⟩ := Option.bind_eq_some_iff.mp (show ((mb ρ2 S3).bind _) = some (fl, ρ', S') from e2)
      refine ⟨fun σ' H' => ∃ F2 ι2 S2 ρ2, Sta G F2 ι2 S2 ρ2 σ' H' ∧ Stp F ι (OwnA ρ σ) H F2 ι2 (OwnA ρ2 σ') H' ∧ whL mt mb m ρ2 S2 = some (fl, ρ', S'), fun σ' H' h => ⟨m, Nat.lt_succ_self m, h⟩, ?_⟩
      refine hb s3 e4 _ ?_
      cases f4 with
      | nx => exact fun F5 ι5 σ5 H5 s5 p5 => ⟨F5, ι5, S4, ρ4, s5, p4.trans p5, e2⟩
      | ct => exact fun F5 ι5 σ5 H5 s5 p5 => ⟨F5, ι5, S4, ρ4, s5, p4.trans p5, e2⟩
      | bk => cases e2; exact fun F5 ι5 σ5 H5 s5 p5 => k F5 ι5 σ5 H5 s5 (p4.trans p5)
      | rt v => cases e2; exact k.later p4
    | false =>
      rw [if_neg Bool.false_ne_true]
      cases e2
      exact k F3 ι3 σ2 H3 s3 p4
/-! ### comprehensions -/
def wipeS (ρ : Slt) : List Nat → Slt
  | [] => ρ
  | v :: vs => (wipeS ρ vs).set v none
theorem wipeS_len : ∀ vs : List Nat, (wipeS ρ vs).length = ρ.length
  | [] => rfl
  | v :: vs => by unfold wipeS; rw [List.length_set, wipeS_len vs]
theorem wipeS_some {i : Nat} {x : VV} : ∀ {vs : List Nat}, (wipeS ρ vs)[i]? = some (some x) → ρ[i]? = some (some x) ∧ i ∉ vs
  | [], h => ⟨h, by simp⟩
  | v :: vs, h => by
    unfold wipeS at h
    rcases set_get h with ⟨_, q⟩ | ⟨q, h⟩
    · cases q
    · obtain ⟨h1, h2⟩ := wipeS_some h
      exact ⟨h1, by simp [q, h2]⟩
theorem Sta.wipe {vs : List Nat} (s : Sta G F ι S ρ σ H) : Sta G F ι S (wipeS ρ vs) (wipe σ vs) H := by
  have up : ∀ {i : Nat}, i ∉ vs → (L2.wipe σ vs)[i]? = σ[i]? := fun h => wipe_out h
  refine ⟨s.rep, by rw [wipeS_len, wipe_length]; exact s.sl.len, fun i d h => ?_, fun i c h => ?_, fun i j ci cj a h1 h2 h3 h4 => ?_⟩
  · obtain ⟨h1, h2⟩ := wipeS_some h
    obtain ⟨v, q1, q2⟩ := s.sl.val i d h1
    exact ⟨v, by rw [up h2]; exact q1, q2⟩
  · obtain ⟨h1, h2⟩ := wipeS_some h
    obtain ⟨a, o, q1, q2⟩ := s.sl.own i c h1
    exact ⟨a, o, by rw [up h2]; exact q1, q2⟩
  · obtain ⟨q1, q2⟩ := wipeS_some h1
    obtain ⟨q3, q4⟩ := wipeS_some h2
    rw [up q2] at h3
    rw [up q4] at h4
    exact s.sl.osep i j ci cj a q1 q3 h3 h4
theorem wipe_get {σ : St} {i : Nat} : ∀ {vs : List Nat}, i ∈ vs → (L2.wipe σ vs)[i]? = if i < σ.length then some none else none
  | [], h => by simp at h
  | v :: vs, h => by
    unfold L2.wipe
    by_cases e : i = v
    · subst e
      by_cases hl : i < σ.length
      · rw [List.getElem?_set_self (by rw [wipe_length]; exact hl), if_pos hl]
      · rw [if_neg hl, List.getElem?_eq_none_iff]
        rw [List.length_set, wipe_length]
        omega
    · rw [List.getElem?_set_ne (Ne.symm e)]
      rcases List.mem_cons.mp h with z | z
      · exact absurd z e
      · exact wipe_get z
theorem wipe_only {vs ws : List Nat} (h : Only ws (L2.wipe σ vs) σ') (hs : ∀ i ∈ ws, i ∈ vs) : L2.wipe σ' vs = L2.wipe σ vs := by
  apply List.ext_getElem?
  intro i
  have hl : σ'.length = σ.length := by rw [h.1, wipe_length]
  by_cases hi : i ∈ vs
  · rw [wipe_get hi, wipe_get hi, hl]
  · rw [wipe_out hi, wipe_out hi, h.2 i (fun z => hi (hs i z)), wipe_out hi]
def compL (g : TM) (c : BM) (m : EM) (ρ : Slt) : List D → List D → Sto → Option (List D × Sto)
  | [], ys, S => some (ys, S)
  | d :: r, ys, S => (g d ρ).bind fun ρ1 => (c ρ1 S).bind fun p => if p.1 = true then (eD m ρ1 p.2).bind fun q => if szOk ys.length then compL g c m ρ r (ys ++ [q.1]) q.2 else none else compL g c m ρ r ys p.2
def eLc (i : AM) (g : TM) (c : BM) (m : EM) (vs : List Nat) : EM := fun ρ S => (i ρ S).bind fun p => (compL g c m (wipeS ρ vs) p.1 [] p.2).map fun q => (.own (.lst q.1), q.2)
def bYes : BM := fun _ S => some (true, S)
theorem snd_yes : SndT G tYes bYes := by
  intro F ι S ρ σ H b S' s e Q k
  cases e
  exact k F ι H s .refl
theorem snd_lc {wi : TI} {mi : AM} {g : TG} {mg : TM} {ws vs : List Nat} (hi : SndI G wi mi) (hg : SndG G g mg ws) (ht : SndT G tt mt) (he : SndV G te me) (hw : ∀ i ∈ ws, i ∈ vs) : SndV G (tLc wi g tt te vs) (eLc mi mg mt me vs) := by
  intro F ι S ρ σ H w S' s e Q k
  unfold eLc at e
  obtain ⟨⟨items, S1⟩, e1, e⟩ := Option.bind_eq_some_iff.mp e
  obtain ⟨⟨ys, S2⟩, e2, e⟩ := Option.map_eq_some_iff.mp e
  cases e
  refine hi s e1 _ fun F1 ι1 H1 J s1 p1 hJ => fun C hC => ?_
  have n1 : F1 C = none := s1.rep.noF hC
  have n2 : C ∉ ι1 := s1.rep.noI hC
  obtain ⟨r0, q0⟩ := s1.rep.newO (o := .lst []) hC
  refine ⟨fun i m H2 => m = items.length - i ∧ i ≤ items.length ∧ ∃ F2 ι2 S3 acc zs, Rep G F2 ι2 S3 H2 ∧ Stx F1 ι1 H1 F2 ι2 H2 ∧ H2 C = some (.lst acc) ∧ RDs G F2 ι2 zs acc ∧ F2 C = none ∧ C ∉ ι2 ∧ compL mg mt me (wipeS ρ vs) (items.drop i) zs S3 = some (ys, S2),
    ⟨items.length, by simp, Nat.zero_le _, F1, ι1, S1, [], [], r0, q0, upd_same, rds_nil.mpr rfl, n1, n2, by simpa using e2⟩, ?_⟩
  rintro i m H2 ⟨rfl, hle, F2, ι2, S3, acc, zs, r2, p2, hc, rz, c1, c2, e3⟩
  obtain ⟨j1, j2⟩ := hJ p2.exF p2.pre p2.fz r2 i
  by_cases hlt : i < items.length
  · have ed : items.drop i = items[i] :: items.drop (i + 1) := List.drop_eq_getElem_cons hlt
    rw [ed] at e3
    obtain ⟨ρ3, e4, e3⟩ := Option.bind_eq_some_iff.mp (show ((mg items[i] (wipeS ρ vs)).bind fun ρ1 => (mt ρ1 S3).bind fun p => if p.1 = true then (eD me ρ1 p.2).bind fun q => if szOk zs.length then compL mg mt me (wipeS ρ vs) (items.drop (i + 1)) (zs ++ [q.1]) q.2 else none else compL mg mt me (wipeS ρ vs) (items.drop (i + 1)) zs p.2) = some (ys, S2) from e3)
    obtain ⟨⟨b, S4⟩, e5, e3⟩ := Option.bind_eq_some_iff.mp e3
    obtain ⟨go, yl⟩ := j1 items[i] (List.getElem?_eq_getElem hlt)
    refine .inr ⟨go, fun H' => ∃ F2 ι2 S3 acc zs, Rep G F2 ι2 S3 H' ∧ Stx F1 ι1 H1 F2 ι2 H' ∧ H' C = some (.lst acc) ∧ RDs G F2 ι2 zs acc ∧ F2 C = none ∧ C ∉ ι2 ∧ compL mg mt me (wipeS ρ vs) (items.drop (i + 1)) zs S3 = some (ys, S2), fun H' h => ⟨items.length - (i + 1), by omega, rfl, hlt, h⟩, fun x H3 y => ?_⟩
    obtain ⟨F3, r3, p3, rd⟩ := yl x H3 y
    -- what is kept of the list that grows
    have keepC : ∀ {Fa : Hp} {ιa : List Addr} {Ha : Hp} {Fb : Hp} {ιb : List Addr} {Hb : Hp} {xs : List V}, Stx Fa ιa Ha Fb ιb Hb → Ha C = some (.lst xs) → Fa C = none → C ∉ ιa → Hb C = some (.lst xs) ∧ Fb C = none ∧ C ∉ ιb := fun {Fa ιa Ha Fb ιb Hb xs} p h1 h2 h3 => by
      have hne : Ha C ≠ none := by rw [h1]; exact fun z => by cases z
      refine ⟨p.fr C _ h1 h3 (fun z => z) (fun _ z => nomatch z), ?_, fun z => ?_⟩
      · refine Classical.byContradiction fun z => ?_
        rcases p.nF C z with q | q | q
        · exact q h2
        · exact hne q
        · exact q
      · rcases p.nI C z with q | q | q
        · exact h3 q
        · exact hne q
        · exact q
    have s3 : Sta G F3 ι2 S3 ρ σ H3 := (s1.after r3 (p2.trans p3)).1
    obtain ⟨hc3, c3, d3⟩ := keepC p3 hc c1 c2
    refine hg (s3.wipe (vs := vs)) rd e4 _ fun σ4 s4 o4 on4 => ⟨wipe_only on4 hw, ?_⟩
    refine ht s4 e5 _ fun F5 ι5 H5 s5 p5 => ?_
    obtain ⟨hc5, c5, d5⟩ := keepC p5 hc3 c3 d3
    cases b with
    | true =>
      rw [if_pos rfl]
      dsimp only at e3
      rw [if_pos rfl] at e3
      obtain ⟨⟨yd, S6⟩, e6, e3⟩ := Option.bind_eq_some_iff.mp e3
      dsimp only at e3
      split at e3
      · rename_i hz
        refine snd_d he s5 e6 _ fun F6 ι6 H6 v6 s6 p6 r6 => ?_
        obtain ⟨hc6, c6, d6⟩ := keepC p6 hc5 c5 d5
        have pp := ((p2.trans p3).trans p5).trans p6
        have rz6 : RDs G F6 ι6 zs acc := rz.mono ((p3.trans p5).trans p6).exF ((p3.trans p5).trans p6).pre
        refine ⟨acc, hc6, by rw [← rz6.len]; exact szOk_lt hz, F6, ι6, S6, acc ++ [v6], zs ++ [yd], ?_, ?_, upd_same, rz6.app (RDs.one r6), c6, d6, e3⟩
        · refine ⟨fun a o h => ?_, fun n c h => ?_, s6.rep.len, s6.rep.nd, s6.rep.sep, fun p hp => (s6.rep.tb p hp).wr (Same.refl _) fun ps z => by rw [hc6] at z; cases z⟩
          · rw [upd_ne (ne_of_none h c6)]; exact s6.rep.ex a o h
          · obtain ⟨a, o, q1, q2, q3⟩ := s6.rep.cell n c h
            exact ⟨a, o, q1, by rw [upd_ne fun z => d6 (by rw [← z]; exact List.mem_of_getElem? q1)]; exact q2, q3⟩
        · refine ⟨pp.exF, pp.pre, fun a o h1 h2 h3 h4 => ?_, pp.nF, pp.nI, fun _ z => z.elim, fun a h => ?_, fun a ob u h => ?_⟩
          · rw [upd_ne (ne_of_none h1 hC)]; exact pp.fr a o h1 h2 h3 h4
          · by_cases ha : a = C
            · subst ha; rw [upd_same]; exact fun z => by cases z
            · rw [upd_ne ha]; exact pp.dom a h
          · rw [upd_ne (ne_of_none h hC)]; exact pp.fz a ob u h
      · cases e3
    | false =>
      rw [if_neg Bool.false_ne_true]
      dsimp only at e3
      rw [if_neg Bool.false_ne_true] at e3
      exact ⟨F5, ι5, S4, acc, zs, s5.rep, (p2.trans p3).trans p5, hc5, rz.mono (p3.trans p5).exF (p3.trans p5).pre, c5, d5, e3⟩
  · have ei : i = items.length := by omega
    subst ei
    rw [List.drop_length] at e3
    cases e3
    refine .inl ⟨j2 (Nat.le_refl _), ?_⟩
    have pp := p1.trans p2
    exact k F2 ι2 H2 _ (s.after r2 pp).1 pp ⟨C, _, rfl, hc, ⟨acc, rfl, rz⟩, c1, c2, .inr (p1.back C hC)⟩
end
end Yi
/-! Operations by values, over states. -/
namespace Yi
open PySem L2
section
variable {G : Gm} {F F' H H' : Hp} {ι ι' : List Addr} {S S' : Sto} {ρ ρ' : Slt} {σ σ' : St} {ta tb tc te : TE} {ma mb mc me : EM} {tt tu : TT} {mt mu : BM}
/-! ### what a sequence holds -/
def lstD : D → Sto → Option (List D)
  | .fl ds, _ => some ds
  | .ref n, S => match S[n]? with
    | some (.lst ds) => some ds
    | _ => none
  | _, _ => none
def seqD : D → Sto → Option (List D)
  | .tp _ ds, _ => some ds
  | .lk ns, _ => some (ns.map .int)
  | x, S => lstD x S
theorem lst_get {x : D} {ds : List D} {v : V} (r : Rep G F ι S H) (rd : RD G F ι x v) (h : lstD x S = some ds) : ∃ a vs, v = .ref a ∧ H a = some (.lst vs) ∧ RDs G F ι ds vs := by
  cases x with
  | fl es =>
    cases h
    simp only [RD] at rd
    obtain ⟨a, vs, e, h1, h2⟩ := rd
    exact ⟨a, vs, e, r.ex _ _ h1, h2⟩
  | ref n =>
    simp only [lstD] at h
    split at h
    · rename_i es e
      cases h
      obtain ⟨a, o, h1, h2, vs, rfl, h3⟩ := r.cell n _ e
      simp only [RD] at rd
      obtain ⟨b, rfl, q⟩ := rd
      rw [h1] at q
      cases q
      exact ⟨_, vs, rfl, h2, h3⟩
    · cases h
  | _ => cases h
theorem seq_get {x : D} {ds : List D} {v : V} (r : Rep G F ι S H) (rd : RD G F ι x v) (h : seqD x S = some ds) : ∃ a vs, v = .ref a ∧ (SqL G.K H a vs ∨ SqT G.K H a vs) ∧ RDs G F ι ds vs := by
  unfold seqD at h
  split at h
  · cases h
    simp only [RD] at rd
    obtain ⟨a, vs, e, h1, _, h2⟩ := rd
    exact ⟨a, vs, e, .inr (sqt_ex r.ex h1), h2⟩
  · cases h
    simp only [RD] at rd
    obtain ⟨a, e, h1⟩ := rd
    exact ⟨a, _, e, .inl (sql_ex r.ex h1), rds_ints.mpr rfl⟩
  · obtain ⟨a, vs, e, h1, h2⟩ := lst_get r rd h
    exact ⟨a, vs, e, .inl (SqL.of h1), h2⟩
theorem tup_get {b : Bool} {ds : List D} {v : V} (r : Rep G F ι S H) (rd : RD G F ι (.tp b ds) v) : ∃ a vs, v = .ref a ∧ SqT G.K H a vs ∧ TPk G.K H b ds a vs ∧ RDs G F ι ds vs := by
  simp only [RD] at rd
  obtain ⟨a, vs, e, h1, h3, h2⟩ := rd
  exact ⟨a, vs, e, sqt_ex r.ex h1, h3.ex r.ex, h2⟩
/-! ### ints -/
def intR (f : Int → Int → Option D) : D → D → Sto → Option VV := fun x y _ => match x, y with
  | .int i, .int j => (f i j).map .d
  | _, _ => none
theorem snd_rI {C : Int → Int → Prop} {g : Int → Int → V} {f : Int → Int → Option D} (h : ∀ i j d, f i j = some d → C i j ∧ ∀ F ι, RD G F ι d (g i j)) : SndR2 G (rI C g) (intR f) := by
  intro F ι S H x y vx vy w r rx ry e Q k
  unfold intR at e
  split at e
  · rename_i i j
    obtain ⟨d, e1, e⟩ := Option.map_eq_some_iff.mp e
    cases e
    obtain ⟨h1, h2⟩ := h i j d e1
    simp only [RD] at rx ry
    exact ⟨i, j, rx, ry, h1, k F H _ r .refl (h2 F ι)⟩
  · cases e
theorem snd_rI0 {g : Int → Int → V} {f : Int → Int → D} (h : ∀ i j, ∀ F ι, RD G F ι (f i j) (g i j)) : SndR2 G (rI0 g) (intR fun i j => some (f i j)) := by
  intro F ι S H x y vx vy w r rx ry e Q k
  unfold intR at e
  split at e
  · rename_i i j
    cases e
    simp only [RD] at rx ry
    exact ⟨i, j, rx, ry, k F H _ r .refl (h i j F ι)⟩
  · cases e
def fSub : D → D → Sto → Option VV := intR fun i j => some (.int (i - j))
def fLt : D → D → Sto → Option VV := intR fun i j => some (.bl (decide (i < j)))
def fLe : D → D → Sto → Option VV := intR fun i j => some (.bl (decide (i ≤ j)))
def fGt : D → D → Sto → Option VV := intR fun i j => some (.bl (decide (j < i)))
def fGe : D → D → Sto → Option VV := intR fun i j => some (.bl (decide (j ≤ i)))
theorem snd_sub : SndR2 G (rI0 fun i j => .int (i - j)) fSub := snd_rI0 fun i j F ι => by simp only [RD]
theorem snd_lt : SndR2 G (rI0 fun i j => .bl (decide (i < j))) fLt := snd_rI0 fun i j F ι => by simp only [RD]
theorem snd_le : SndR2 G (rI0 fun i j => .bl (decide (i ≤ j))) fLe := snd_rI0 fun i j F ι => by simp only [RD]
theorem snd_gt : SndR2 G (rI0 fun i j => .bl (decide (j < i))) fGt := snd_rI0 fun i j F ι => by simp only [RD]
theorem snd_ge : SndR2 G (rI0 fun i j => .bl (decide (j ≤ i))) fGe := snd_rI0 fun i j F ι => by simp only [RD]
def fDiv : D → D → Sto → Option VV := intR fun i j => if 0 < j ∧ j < 2 ^ 80 then some (.int (i / j)) else none
def fMod : D → D → Sto → Option VV := intR fun i j => if 0 < j then some (.int (i % j)) else none
def fPow : D → D → Sto → Option VV := intR fun i j => if 0 ≤ j ∧ j ≤ 100 ∧ i.natAbs < 2 ^ 60 then some (.int (i ^ j.toNat)) else none
theorem snd_div : SndR2 G (rI CDivW fun i j => .int (i / j)) fDiv := snd_rI fun i j d e => by
  split at e
  · rename_i h
    cases e
    refine ⟨wide_div (b := 80) h.1 ?_ (by decide) (by decide), fun F ι => by simp only [RD]⟩
    have h2 : j < 2 ^ 80 := h.2
    have h1 : 0 < j := h.1
    omega
  · cases e
theorem snd_mod : SndR2 G (rI (fun _ j => 0 < j) fun i j => .int (i % j)) fMod := snd_rI fun i j d e => by
  split at e
  · rename_i h
    cases e
    exact ⟨h, fun F ι => by simp only [RD]⟩
  · cases e
theorem snd_pow : SndR2 G (rI CPow fun i j => .int (i ^ j.toNat)) fPow := snd_rI fun i j d e => by
  split at e
  · rename_i h
    cases e
    exact ⟨⟨h.1, by omega, by omega⟩, fun F ι => by simp only [RD]⟩
  · cases e
def fNeg : D → Sto → Option VV := fun x _ => match x with
  | .int i => some (.d (.int (-i)))
  | _ => none
theorem snd_neg : SndR1 G (rU fun i => .int (-i)) fNeg := by
  intro F ι S H x vx w r rx e Q k
  unfold fNeg at e
  split at e
  · rename_i i
    cases e
    simp only [RD] at rx
    exact ⟨i, rx, k F H _ r .refl (by simp only [RV, RD])⟩
  · cases e
/-! ### + of anything, * -/
theorem SndR2.or1 {r r' : R2} {f : D → D → Sto → Option VV} (h : SndR2 G r f) : SndR2 G (fun x y H Q => r x y H Q ∨ r' x y H Q) f := by
  intro F ι S H x y vx vy w q rx ry e Q k
  exact .inl (h q rx ry e Q k)
def rAddA (K : PySem.W.Frag) : R2 := fun x y H Q => rI0 (fun i j => .int (i + j)) x y H Q ∨ (rCat x y H Q ∨ (rCatA K x y H Q ∨ ∃ i j, x = .str i ∧ y = .str j ∧ i.length + j.length ≤ sizeLine ∧ Q (.str (i ++ j)) H))
theorem op_addA {X : Cx} : OpR X (binaryOp .Add) (rAddA X.K) := op_add.or (op_cat.or (op_catA.or op_add_str))
def fAdd : D → D → Sto → Option VV := fun x y S => match x, y with
  | .int i, .int j => some (.d (.int (i + j)))
  | .str a, .str b => if szOk (a.length + b.length) then some (.d (.str (a ++ b))) else none
  | .tp p a, .tp q b => if szOk (a.length + b.length) then some (.d (.tp (if a.isEmpty then q else p && b.isEmpty) (a ++ b))) else none
  | x, y => (lstD x S).bind fun a => (lstD y S).bind fun b => if szOk (a.length + b.length) then some (.own (.lst (a ++ b))) else none
theorem snd_add : SndR2 G (rAddA G.K) fAdd := by
  intro F ι S H x y vx vy w r rx ry e Q k
  unfold fAdd at e
  split at e
  · rename_i i j
    cases e
    simp only [RD] at rx ry
    exact .inl ⟨i, j, rx, ry, k F H _ r .refl (by simp only [RV, RD])⟩
  · rename_i a b
    split at e
    · rename_i hz
      cases e
      simp only [RD] at rx ry
      exact .inr (.inr (.inr ⟨a, b, rx, ry, szOk_le hz, k F H _ r .refl (by simp only [RV, RD])⟩))
    · cases e
  · rename_i b1 a b2 b
    split at e
    · rename_i hz
      cases e
      obtain ⟨p, xs, rfl, h1, h2, h3⟩ := tup_get r rx
      obtain ⟨q, ys, rfl, g1, g2, g3⟩ := tup_get r ry
      have l1 := h3.len
      have l2 := g3.len
      refine .inr (.inr (.inl ⟨p, q, xs, ys, rfl, rfl, h1, g1, by rw [← l1, ← l2]; exact szOk_le hz, fun ex => ?_, fun nx ey => ?_, fun nx ny t ht => ?_⟩))
      · subst ex
        have ea : a = [] := List.eq_nil_of_length_eq_zero l1
        subst ea
        exact k F H _ r .refl ry
      · subst ey
        have eb : b = [] := List.eq_nil_of_length_eq_zero l2
        subst eb
        have na : a.isEmpty = false := by
          cases a with
          | nil => exact absurd (List.eq_nil_of_length_eq_zero (show xs.length = 0 from l1.symm)) nx
          | cons _ _ => rfl
        refine k F H _ r .refl ?_
        simp only [RV, na, Bool.false_eq_true, if_false, List.isEmpty_nil, Bool.and_true, List.append_nil]
        exact rx
      · obtain ⟨r2, p2⟩ := r.newF (o := .tup (xs ++ ys)) ht
        refine k _ _ _ r2 p2 ?_
        have na : a.isEmpty = false := by
          cases a with
          | nil => exact absurd (List.eq_nil_of_length_eq_zero (show xs.length = 0 from l1.symm)) nx
          | cons _ _ => rfl
        have nb : b.isEmpty = false := by
          cases b with
          | nil => exact absurd (List.eq_nil_of_length_eq_zero (show ys.length = 0 from l2.symm)) ny
          | cons _ _ => rfl
        simp only [RV, na, nb, Bool.false_eq_true, if_false, Bool.and_false, RD]
        exact ⟨t, _, rfl, SqT.of upd_same, .inl upd_same, (h3.app g3).mono p2.exF p2.pre⟩
    · cases e
  · obtain ⟨a, e1, e⟩ := Option.bind_eq_some_iff.mp e
    obtain ⟨b, e2, e⟩ := Option.bind_eq_some_iff.mp e
    split at e
    · rename_i hz
      cases e
      obtain ⟨p, xs, rfl, h1, h3⟩ := lst_get r rx e1
      obtain ⟨q, ys, rfl, g1, g3⟩ := lst_get r ry e2
      refine .inr (.inl ⟨p, q, xs, ys, rfl, rfl, h1, g1, by rw [← h3.len, ← g3.len]; exact szOk_le hz, fun t ht => ?_⟩)
      obtain ⟨r2, p2⟩ := r.newO (o := .lst (xs ++ ys)) ht
      exact k _ _ _ r2 p2 ⟨t, _, rfl, upd_same, ⟨_, rfl, h3.app g3⟩, r.noF ht, r.noI ht, .inr ht⟩
    · cases e
def rMulA : R2 := fun x y H Q => rI CMul (fun i j => .int (i * j)) x y H Q ∨ rRep x y H Q
theorem op_mulA {X : Cx} : OpR X (binaryOp .Mult) rMulA := op_mul.or op_rep
def smallI (i : Int) : Bool := decide (-(2 ^ 63) ≤ i) && decide (i < 2 ^ 63)
theorem smallI_iff {i : Int} (h : smallI i = true) : -(2 ^ 63) ≤ i ∧ i < 2 ^ 63 := by
  unfold smallI at h
  rw [Bool.and_eq_true] at h
  exact ⟨of_decide_eq_true h.1, of_decide_eq_true h.2⟩
def fMul : D → D → Sto → Option VV := fun x y S => match x, y with
  | .int i, .int j => if smallI i || smallI j then some (.d (.int (i * j))) else none
  | x, .int k => (lstD x S).bind fun a => if smallI k && szOk (a.length * k.toNat) then some (.own (.lst (List.replicate k.toNat a).flatten)) else none
  | _, _ => none
theorem RDs.repl {ds : List D} {vs : List V} (h : RDs G F ι ds vs) : ∀ n : Nat, RDs G F ι (List.replicate n ds).flatten (List.replicate n vs).flatten
  | 0 => by simp only [List.replicate_zero, List.flatten_nil]; exact rds_nil.mpr rfl
  | n + 1 => by
    rw [List.replicate_succ, List.replicate_succ, List.flatten_cons, List.flatten_cons]
    exact h.app (h.repl n)
theorem snd_mul : SndR2 G rMulA fMul := by
  intro F ι S H x y vx vy w r rx ry e Q k
  unfold fMul at e
  split at e
  · rename_i i j
    split at e
    · rename_i hz
      cases e
      simp only [RD] at rx ry
      refine .inl ⟨i, j, rx, ry, ?_, k F H _ r .refl (by simp only [RV, RD])⟩
      rcases Bool.or_eq_true_iff.mp hz with z | z
      · have := smallI_iff z
        exact .inl ⟨by omega, by omega⟩
      · have := smallI_iff z
        exact .inr ⟨by omega, by omega⟩
    · cases e
  · rename_i i _
    obtain ⟨a, e1, e⟩ := Option.bind_eq_some_iff.mp e
    split at e
    · rename_i hz
      cases e
      obtain ⟨z1, z2⟩ := Bool.and_eq_true_iff.mp hz
      obtain ⟨p, xs, rfl, h1, h3⟩ := lst_get r rx e1
      simp only [RD] at ry
      have := smallI_iff z1
      refine .inr ⟨p, i, xs, rfl, ry, h1, this.1, this.2, by rw [← h3.len]; exact szOk_le z2, fun t ht => ?_⟩
      obtain ⟨r2, p2⟩ := r.newO (o := .lst (List.replicate i.toNat xs).flatten) ht
      exact k _ _ _ r2 p2 ⟨t, _, rfl, upd_same, ⟨_, rfl, h3.repl _⟩, r.noF ht, r.noI ht, .inr ht⟩
    · cases e
  · cases e
/-! ### is None -/
def isNon : D → Bool
  | .non => true
  | _ => false
theorem isNon_of {x : D} {v : V} (h : RD G F ι x v) : isNon x = decide (v = .non) := by
  cases x <;> simp only [RD] at h <;> first
    | (obtain ⟨a, _, f, _, _, _, _, _, rfl, _⟩ := h; simp [isNon])
    | (obtain ⟨a, _, _, _, ⟨f, _, _, _, _, _, rfl, _⟩, _⟩ := h; simp [isNon])
    | (subst h; simp [isNon])
    | (obtain ⟨a, vs, rfl, _⟩ := h; simp [isNon])
    | (obtain ⟨a, rfl, _⟩ := h; simp [isNon])
def fIsN : D → D → Sto → Option VV := fun x y _ => match y with
  | .non => some (.d (.bl (isNon x)))
  | _ => none
def fNotN : D → D → Sto → Option VV := fun x y _ => match y with
  | .non => some (.d (.bl (!isNon x)))
  | _ => none
theorem snd_isN : SndR2 G (fun x y H Q => y = .non ∧ Q (.bl (decide (x = .non))) H) fIsN := by
  intro F ι S H x y vx vy w r rx ry e Q k
  unfold fIsN at e
  split at e
  · cases e
    simp only [RD] at ry
    exact ⟨ry, k F H _ r .refl (by rw [isNon_of rx]; simp only [RV, RD])⟩
  · cases e
theorem snd_notN : SndR2 G (fun x y H Q => y = .non ∧ Q (.bl (!decide (x = .non))) H) fNotN := by
  intro F ι S H x y vx vy w r rx ry e Q k
  unfold fNotN at e
  split at e
  · cases e
    simp only [RD] at ry
    exact ⟨ry, k F H _ r .refl (by rw [isNon_of rx]; simp only [RV, RD])⟩
  · cases e
/-! ### == of data -/
mutual
def pyD : Nat → Sto → D → Option PyData
  | _, _, .non => some .none
  | _, _, .bl b => some (.bool b)
  | _, _, .int i => some (.int i)
  | _, _, .str x => some (.str x)
  | n + 1, S, .tp _ ds => (pyDs n S ds).map .tuple
  | n + 1, S, .fl ds => (pyDs n S ds).map .list
  | n + 1, S, .ref k => match S[k]? with
    | some (.lst ds) => (pyDs n S ds).map .list
    | _ => none
  | _, _, _ => none
def pyDs : Nat → Sto → List D → Option (List PyData)
  | _, _, [] => some []
  | n, S, d :: ds => (pyD n S d).bind fun x => (pyDs n S ds).map fun xs => x :: xs
end
mutual
theorem pyD_dp (r : Rep G F ι S H) : ∀ (n : Nat) {x : D} {v : V} {p : PyData}, RD G F ι x v → pyD n S x = some p → Dp G.K H v p
  | n, .non, v, p, h, e => by simp only [RD] at h; simp only [pyD] at e; cases e; subst h; exact .non
  | n, .bl b, v, p, h, e => by simp only [RD] at h; simp only [pyD] at e; cases e; subst h; exact .bl b
  | n, .int i, v, p, h, e => by simp only [RD] at h; simp only [pyD] at e; cases e; subst h; exact .int i
  | n, .str i, v, p, h, e => by simp only [RD] at h; simp only [pyD] at e; cases e; subst h; exact .str i
  | 0, .tp _ ds, v, p, h, e => by simp only [pyD] at e; cases e
  | n + 1, .tp _ ds, v, p, h, e => by
    simp only [pyD] at e
    obtain ⟨ps, e1, rfl⟩ := Option.map_eq_some_iff.mp e
    obtain ⟨a, vs, rfl, h1, _, h3⟩ := tup_get r h
    exact .tup h1 (pyDs_dp r n h3 e1)
  | 0, .fl ds, v, p, h, e => by simp only [pyD] at e; cases e
  | n + 1, .fl ds, v, p, h, e => by
    simp only [pyD] at e
    obtain ⟨ps, e1, rfl⟩ := Option.map_eq_some_iff.mp e
    obtain ⟨a, vs, rfl, h1, h3⟩ := lst_get (x := .fl ds) r h rfl
    exact .lst (SqL.of h1) (pyDs_dp r n h3 e1)
  | 0, .ref k, v, p, h, e => by simp only [pyD] at e; cases e
  | n + 1, .ref k, v, p, h, e => by
    simp only [pyD] at e
    split at e
    · rename_i ds q
      obtain ⟨ps, e1, rfl⟩ := Option.map_eq_some_iff.mp e
      obtain ⟨a, vs, rfl, h1, h3⟩ := lst_get (x := .ref k) (ds := ds) r h (by simp only [lstD]; rw [q])
      exact .lst (SqL.of h1) (pyDs_dp r n h3 e1)
    · cases e
  | n, .lk ns, v, p, h, e => by cases n <;> simp only [pyD] at e <;> cases e
  | n, .fn a, v, p, h, e => by cases n <;> simp only [pyD] at e <;> cases e
  | n, .ty a, v, p, h, e => by cases n <;> simp only [pyD] at e <;> cases e
  | n, .clo a _, v, p, h, e => by cases n <;> simp only [pyD] at e <;> cases e
  | n, .dcl a _, v, p, h, e => by cases n <;> simp only [pyD] at e <;> cases e
theorem pyDs_dp (r : Rep G F ι S H) : ∀ (n : Nat) {xs : List D} {vs : List V} {ps : List PyData}, RDs G F ι xs vs → pyDs n S xs = some ps → DpAll G.K H vs ps
  | n, [], vs, ps, h, e => by rw [rds_nil] at h; subst h; simp only [pyDs] at e; cases e; exact .nil
  | n, d :: ds, vs, ps, h, e => by
    obtain ⟨v, r', rfl, h1, h2⟩ := rds_cons.mp h
    simp only [pyDs] at e
    obtain ⟨p, e1, e⟩ := Option.bind_eq_some_iff.mp e
    obtain ⟨qs, e2, rfl⟩ := Option.map_eq_some_iff.mp e
    exact .cons (pyD_dp r n h1 e1) (pyDs_dp r n h2 e2)
end
def eqD (x y : D) (S : Sto) : Option Bool := (pyD 12 S x).bind fun p => (pyD 12 S y).bind fun q => if SeqAt.shaped p && SeqAt.shaped q then some (PyData.eqv p q) else none
def fEq : D → D → Sto → Option VV := fun x y S => (eqD x y S).map fun b => .d (.bl b)
def fNe : D → D → Sto → Option VV := fun x y S => (eqD x y S).map fun b => .d (.bl (!b))
theorem snd_eq : SndR2 G (rEqD G.K) fEq := by
  intro F ι S H x y vx vy w r rx ry e Q k
  unfold fEq eqD at e
  obtain ⟨b, e0, rfl⟩ := Option.map_eq_some_iff.mp e
  obtain ⟨p, e1, e⟩ := Option.bind_eq_some_iff.mp e0
  obtain ⟨q, e2, e⟩ := Option.bind_eq_some_iff.mp e
  split at e
  · rename_i hs
    cases e
    obtain ⟨s1, s2⟩ := Bool.and_eq_true_iff.mp hs
    exact ⟨p, q, pyD_dp r _ rx e1, pyD_dp r _ ry e2, s1, s2, k F H _ r .refl (by simp only [RV, RD])⟩
  · cases e
theorem snd_ne : SndR2 G (rNeD G.K) fNe := by
  intro F ι S H x y vx vy w r rx ry e Q k
  unfold fNe eqD at e
  obtain ⟨b, e0, rfl⟩ := Option.map_eq_some_iff.mp e
  obtain ⟨p, e1, e⟩ := Option.bind_eq_some_iff.mp e0
  obtain ⟨q, e2, e⟩ := Option.bind_eq_some_iff.mp e
  split at e
  · rename_i hs
    cases e
    obtain ⟨s1, s2⟩ := Bool.and_eq_true_iff.mp hs
    exact ⟨p, q, pyD_dp r _ rx e1, pyD_dp r _ ry e2, s1, s2, k F H _ r .refl (by simp only [RV, RD])⟩
  · cases e
/-! ### in, of flat things -/
def flatD : D → Bool
  | .non => true | .bl _ => true | .int _ => true | .str _ => true | _ => false
def eqF : D → D → Bool
  | .non, .non => true
  | .bl a, .bl b => a == b
  | .bl a, .int b => (if a then 1 else 0) == b
  | .int a, .bl b => a == (if b then 1 else 0)
  | .int a, .int b => a == b
  | .str a, .str b => a == b
  | _, _ => false
theorem flat_of {x : D} {v : V} (h : RD G F ι x v) (f : flatD x = true) : flatV v = true := by
  cases x <;> simp only [RD] at h <;> first | (subst h; rfl) | cases f
theorem eqF_of {x y : D} {v u : V} (h : RD G F ι x v) (h' : RD G F ι y u) (f : flatD x = true) (f' : flatD y = true) : eqV v u = eqF x y := by
  cases x <;> simp only [RD] at h <;> first | (subst h) | cases f
  all_goals (cases y <;> simp only [RD] at h' <;> first | (subst h'; rfl) | cases f')
def inF (x : D) (ys : List D) : Bool := ys.any fun y => eqF y x
theorem inF_of {x : D} {v : V} (h : RD G F ι x v) (f : flatD x = true) : ∀ {ys : List D} {us : List V}, RDs G F ι ys us → ys.all flatD = true → us.all flatV = true ∧ inV v us = inF x ys
  | [], us, hs, _ => by rw [rds_nil] at hs; subst hs; exact ⟨rfl, rfl⟩
  | y :: ys, us, hs, g => by
    obtain ⟨u, r, rfl, h1, h2⟩ := rds_cons.mp hs
    obtain ⟨g1, g2⟩ := Bool.and_eq_true_iff.mp (show (flatD y && ys.all flatD) = true from g)
    obtain ⟨i1, i2⟩ := inF_of h f h2 g2
    refine ⟨?_, ?_⟩
    · rw [List.all_cons, flat_of h1 g1, i1]
      rfl
    · show (eqV u v || inV v r) = (eqF y x || inF x ys)
      rw [i2, eqF_of h1 h g1 f]
def fIn (neg : Bool) : D → D → Sto → Option VV := fun x y S => (seqD y S).bind fun ys => if flatD x && ys.all flatD then some (.d (.bl (if neg then !inF x ys else inF x ys))) else none
theorem snd_in {neg : Bool} : SndR2 G (rIn G.K neg) (fIn neg) := by
  intro F ι S H x y vx vy w r rx ry e Q k
  unfold fIn at e
  obtain ⟨ys, e1, e⟩ := Option.bind_eq_some_iff.mp e
  split at e
  · rename_i hs
    cases e
    obtain ⟨f1, f2⟩ := Bool.and_eq_true_iff.mp hs
    obtain ⟨a, us, rfl, h1, h2⟩ := seq_get r ry e1
    obtain ⟨i1, i2⟩ := inF_of rx f1 h2 f2
    refine ⟨a, us, rfl, h1, flat_of rx f1, i1, k F H _ r .refl ?_⟩
    rw [i2]
    simp only [RV, RD]
  · cases e
/-- a sign in a text -/
def fInS (neg : Bool) : D → D → Sto → Option VV := fun x y _ => match x, y with
  | .str ⟨cs⟩, .str z => match cs.toList with
    | [c] => some (.d (.bl (if neg then !decide (c ∈ z.cps.toList) else decide (c ∈ z.cps.toList))))
    | _ => none
  | _, _ => none
theorem snd_inS : SndR2 G (fun x y H Q => ∃ (c : Nat) (z : Str), x = .str ⟨#[c]⟩ ∧ y = .str z ∧ Q (.bl (decide (c ∈ z.cps.toList))) H) (fInS false) := by
  intro F ι S H x y vx vy w r rx ry e Q k
  unfold fInS at e
  split at e
  · rename_i cs z
    split at e
    · rename_i c hc
      cases e
      simp only [RD] at rx ry
      have e2 : cs = #[c] := by
        apply Array.ext'
        rw [hc]
      subst e2
      exact ⟨c, z, rx, ry, k F H _ r .refl (by simp only [RV, RD]; rfl)⟩
    · cases e
  · cases e
/-! ### places and slices -/
def fIx : D → D → Sto → Option VV := fun x y S => match x, y with
  | .str z, .int i => if szOk z.length then (atI z.cps.toList i).map fun c => .d (.str ⟨#[c]⟩) else none
  | x, .int i => (seqD x S).bind fun ds => (atI ds i).map .d
  | _, _ => none
theorem atI_of {ds : List D} {vs : List V} {i : Int} {d : D} (h : RDs G F ι ds vs) (e : atI ds i = some d) : ∃ v, atI vs i = some v ∧ RD G F ι d v := by
  unfold atI at e ⊢
  obtain ⟨j, e1, e2⟩ := Option.bind_eq_some_iff.mp e
  obtain ⟨v, q1, q2⟩ := h.get e2
  exact ⟨v, by rw [← h.len, e1]; exact q1, q2⟩
theorem snd_ix : SndR2 G (rIx G.K) fIx := by
  intro F ι S H x y vx vy w r rx ry e Q k
  unfold fIx at e
  split at e
  · rename_i z i
    split at e
    · rename_i hz
      obtain ⟨c, e1, rfl⟩ := Option.map_eq_some_iff.mp e
      simp only [RD] at rx ry
      exact .inr (.inr ⟨z, i, c, rx, ry, szOk_le hz, e1, k F H _ r .refl (by simp only [RV, RD])⟩)
    · cases e
  · rename_i i _
    obtain ⟨ds, e1, e⟩ := Option.bind_eq_some_iff.mp e
    obtain ⟨d, e2, rfl⟩ := Option.map_eq_some_iff.mp e
    obtain ⟨a, vs, rfl, h1, h2⟩ := seq_get r rx e1
    obtain ⟨v, q1, q2⟩ := atI_of h2 e2
    simp only [RD] at ry
    rcases h1 with h1 | h1
    · exact .inl ⟨a, vs, i, v, rfl, ry, h1, q1, k F H _ r .refl q2⟩
    · exact .inr (.inl ⟨a, vs, i, v, rfl, ry, h1, q1, k F H _ r .refl q2⟩)
  · cases e
def SndO (G : Gm) (t : TO) (m : Slt → Sto → Option (Option Int × Sto)) : Prop := ∀ {F : Hp} {ι : List Addr} {S : Sto} {ρ : Slt} {σ : St} {H : Hp} {o : Option Int} {S' : Sto}, Sta G F ι S ρ σ H → m ρ S = some (o, S') → ∀ Q : Option Int → Hp → Prop,
  (∀ F' ι' H', Sta G F' ι' S' ρ σ H' → Stx F ι H F' ι' H' → Q o H') → t σ H Q
def oNo : Slt → Sto → Option (Option Int × Sto) := fun _ S => some (none, S)
def oPart (m : EM) : Slt → Sto → Option (Option Int × Sto) := fun ρ S => (eD m ρ S).bind fun p => match p.1 with
  | .int i => some (some i, p.2)
  | _ => none
theorem snd_oNo : SndO G tNoPart oNo := by
  intro F ι S ρ σ H o S' s e Q k
  cases e
  exact k F ι H s .refl
theorem snd_oPart (h : SndV G te me) : SndO G (tPart te) (oPart me) := by
  intro F ι S ρ σ H o S' s e Q k
  unfold oPart at e
  obtain ⟨⟨d, S1⟩, e1, e⟩ := Option.bind_eq_some_iff.mp e
  match d, e with
  | .int i, e =>
    cases e
    refine snd_d h s e1 _ fun F1 ι1 H1 v s1 p1 r => ?_
    simp only [RD] at r
    exact ⟨i, r, k F1 ι1 H1 s1 p1⟩
def cutL {α : Type} (xs : List α) (lo hi : Option Int) : List α := (xs.drop (HT.sIx xs.length 0 lo)).take (HT.sIx xs.length xs.length hi - HT.sIx xs.length 0 lo)
theorem cutL_rds {ds : List D} {vs : List V} (h : RDs G F ι ds vs) (lo hi : Option Int) : RDs G F ι (cutL ds lo hi) (cutV vs lo hi) := by
  unfold cutL cutV
  rw [← h.len]
  exact (h.drop _).take _
def rSlAny (K : PySem.W.Frag) : V → Option Int → Option Int → Hp → VK → Prop := fun x lo hi H Q => rSlL K x lo hi H Q ∨ (rSlA K x lo hi H Q ∨ rSlS x lo hi H Q)
theorem sl_any {X : Cx} : SlR X (rSlAny X.K) := sl_list.or (sl_tupA.or sl_str)
def fSl (x : D) (lo hi : Option Int) (S : Sto) : Option VV := match x with
  | .str z => if szOk z.length then some (.d (.str (cutS z lo hi))) else none
  | .tp b ds => some (.d (.tp (b && decide (HT.sIx ds.length 0 lo = 0 ∧ HT.sIx ds.length ds.length hi = ds.length)) (cutL ds lo hi)))
  | x => (lstD x S).map fun ds => .own (.lst (cutL ds lo hi))
def eSl (m : EM) (lo hi : Slt → Sto → Option (Option Int × Sto)) : EM := fun ρ S => (eD m ρ S).bind fun p => (lo ρ p.2).bind fun l => (hi ρ l.2).bind fun u => (fSl p.1 l.1 u.1 u.2).map fun w => (w, u.2)
theorem cut_whole {ds : List D} {lo hi : Option Int} (h : HT.sIx ds.length 0 lo = 0 ∧ HT.sIx ds.length ds.length hi = ds.length) : cutL ds lo hi = ds := by
  unfold cutL
  rw [h.1, h.2, List.drop_zero, Nat.sub_zero, List.take_length]
theorem snd_sl {tl th : TO} {ml mh : Slt → Sto → Option (Option Int × Sto)} (he : SndV G te me) (hl : SndO G tl ml) (hh : SndO G th mh) : SndV G (tSl (rSlAny G.K) te tl th) (eSl me ml mh) := by
  intro F ι S ρ σ H w S' s e Q k
  unfold eSl at e
  obtain ⟨⟨x, S1⟩, e1, e⟩ := Option.bind_eq_some_iff.mp e
  obtain ⟨⟨lo, S2⟩, e2, e⟩ := Option.bind_eq_some_iff.mp e
  obtain ⟨⟨hi, S3⟩, e3, e⟩ := Option.bind_eq_some_iff.mp e
  obtain ⟨w', e4, e⟩ := Option.map_eq_some_iff.mp e
  cases e
  refine snd_d he s e1 _ fun F1 ι1 H1 vx s1 p1 rx => ?_
  refine hl s1 e2 _ fun F2 ι2 H2 s2 p2 => ?_
  refine hh s2 e3 _ fun F3 ι3 H3 s3 p3 => ?_
  have pp := (p1.trans p2).trans p3
  have rx3 := rx.mono (p2.trans p3).exF (p2.trans p3).pre
  have r := s3.rep
  dsimp only at e4
  unfold fSl at e4
  split at e4
  · rename_i z
    split at e4
    · rename_i hz
      cases e4
      simp only [RD] at rx3
      exact .inr (.inr ⟨_, rx3, szOk_le hz, k F3 ι3 H3 _ s3 pp (by simp only [RV, RD])⟩)
    · cases e4
  · rename_i ds
    cases e4
    obtain ⟨a, vs, rfl, h1, h2, h3⟩ := tup_get r rx3
    have hl := h3.len
    refine .inr (.inl ⟨a, vs, rfl, h1, fun hw => ?_, fun hw t ht => ?_⟩)
    · rw [← hl] at hw
      exact k F3 ι3 H3 _ s3 pp (by rw [cut_whole hw, decide_eq_true hw, Bool.and_true]; exact rx3)
    · obtain ⟨r2, p4⟩ := r.newF (o := .tup (cutV vs lo hi)) ht
      refine k _ ι3 _ _ (s3.after r2 p4).1 (pp.trans p4) ?_
      rw [← hl] at hw
      rw [decide_eq_false hw, Bool.and_false]
      simp only [RV, RD]
      exact ⟨t, _, rfl, SqT.of upd_same, .inl upd_same, (cutL_rds h3 lo hi).mono p4.exF p4.pre⟩
  · obtain ⟨ds, e5, rfl⟩ := Option.map_eq_some_iff.mp e4
    obtain ⟨a, vs, rfl, h1, h3⟩ := lst_get r rx3 e5
    refine .inl ⟨a, vs, rfl, SqL.of h1, fun t ht => ?_⟩
    obtain ⟨r2, p4⟩ := r.newO (o := .lst (cutV vs lo hi)) ht
    exact k _ ι3 _ _ (s3.after r2 p4).1 (pp.trans p4) ⟨t, _, rfl, upd_same, ⟨_, rfl, cutL_rds h3 lo hi⟩, r.noF ht, r.noI ht, .inr (pp.back t ht)⟩
def eRev (m : EM) : EM := fun ρ S => (eD m ρ S).bind fun p => (lstD p.1 p.2).map fun ds => (.own (.lst ds.reverse), p.2)
theorem snd_rev (he : SndV G te me) : SndV G (tRevL G.K te) (eRev me) := by
  intro F ι S ρ σ H w S' s e Q k
  unfold eRev at e
  obtain ⟨⟨x, S1⟩, e1, e⟩ := Option.bind_eq_some_iff.mp e
  obtain ⟨ds, e2, e⟩ := Option.map_eq_some_iff.mp e
  cases e
  refine snd_d he s e1 _ fun F1 ι1 H1 vx s1 p1 rx => ?_
  obtain ⟨a, vs, rfl, h1, h3⟩ := lst_get s1.rep rx e2
  refine ⟨a, vs, rfl, SqL.of h1, fun t ht => ?_⟩
  obtain ⟨r2, p4⟩ := s1.rep.newO (o := .lst vs.reverse) ht
  exact k _ ι1 _ _ (s1.after r2 p4).1 (p1.trans p4) ⟨t, _, rfl, upd_same, ⟨_, rfl, h3.rev⟩, s1.rep.noF ht, s1.rep.noI ht, .inr (p1.back t ht)⟩
end
end Yi
/-! Dicts, own slots, stores, iterators, built-in calls and methods, over states. -/
namespace Yi
open PySem L2
section
variable {G : Gm} {F F' H H' : Hp} {ι ι' : List Addr} {S S' : Sto} {ρ ρ' : Slt} {σ σ' : St} {ta tb tc te : TE} {ma mb mc me : EM} {tt tu : TT} {mt mu : BM}
/-! ### what a slot alone holds -/
theorem Sta.ownL {i : Nat} {ds : List D} (s : Sta G F ι S ρ σ H) (h : ρ[i]? = some (some (.own (.lst ds)))) : ∃ a vs, σ[i]? = some (some (.ref a)) ∧ H a = some (.lst vs) ∧ RDs G F ι ds vs := by
  obtain ⟨a, o, h1, h2, ⟨vs, rfl, h3⟩, _, _⟩ := s.sl.own i _ h
  exact ⟨a, vs, h1, h2, h3⟩
theorem Sta.putO {i : Nat} {c c' : Cell} {a : Addr} {o' : HO} (s : Sta G F ι S ρ σ H) (h : ρ[i]? = some (some (.own c))) (hl : c.lkd = false) (hσ : σ[i]? = some (some (.ref a))) (hc : RC G F ι c' o') :
    Sta G F ι S (ρ.set i (some (.own c'))) σ (upd H a o') ∧ Stp F ι (OwnA ρ σ) H F ι (OwnA (ρ.set i (some (.own c'))) σ) (upd H a o') := by
  obtain ⟨b, o, e1, h2, h3, h4, h5⟩ := s.sl.own i c h
  rw [hσ] at e1
  cases e1
  have hO : OwnA ρ σ a := ⟨i, c, h, hσ⟩
  have back : ∀ {j : Nat} {w : VV}, (ρ.set i (some (.own c')))[j]? = some (some w) → (j = i ∧ w = .own c') ∨ (j ≠ i ∧ ρ[j]? = some (some w)) := fun {j w} e => by
    rcases set_get e with ⟨q1, q2⟩ | ⟨q1, q2⟩
    · cases q2; exact .inl ⟨q1, rfl⟩
    · exact .inr ⟨q1, q2⟩
  refine ⟨⟨⟨fun b u e => ?_, fun n d e => ?_, s.rep.len, s.rep.nd, s.rep.sep, fun p hp => (s.rep.tb p hp).wr (Same.refl _) (h3.noT h2)⟩, by rw [List.length_set]; exact s.sl.len, fun j d e => ?_, fun j d e => ?_, fun j k cj ck b e1 e2 e3 e4 => ?_⟩,
    Same.refl _, List.prefix_refl _, fun b u e _ n2 _ => ?_, fun _ e => .inl e, fun _ e => .inl e, fun b e => ?_, fun b e => ?_, fun b ob u e => ?_⟩
  · rw [upd_ne (ne_of_none e h4)]; exact s.rep.ex b u e
  · obtain ⟨b, u, q1, q2, q3⟩ := s.rep.cell n d e
    exact ⟨b, u, q1, by rw [upd_ne fun z => h5 (by rw [← z]; exact List.mem_of_getElem? q1)]; exact q2, q3⟩
  · rcases back e with ⟨_, q⟩ | ⟨_, q⟩
    · cases q
    · exact s.sl.val j d q
  · rcases back e with ⟨q1, q⟩ | ⟨q1, q⟩
    · cases q
      subst q1
      exact ⟨a, o', hσ, upd_same, hc, h4, h5⟩
    · obtain ⟨b, u, w1, w2, w3, w4, w5⟩ := s.sl.own j d q
      have hb : b ≠ a := fun z => q1 (s.sl.osep j i d c a q h (by rw [← z]; exact w1) hσ)
      exact ⟨b, u, w1, by rw [upd_ne hb]; exact w2, w3, w4, w5⟩
  · rcases back e1 with ⟨q1, q⟩ | ⟨q1, q⟩
    · rcases back e2 with ⟨q2, _⟩ | ⟨q2, q'⟩
      · exact q1.trans q2.symm
      · subst q1
        exact s.sl.osep j k c ck b h q' e3 e4
    · rcases back e2 with ⟨q2, _⟩ | ⟨q2, q'⟩
      · subst q2
        exact s.sl.osep j k cj c b q h e3 e4
      · exact s.sl.osep j k cj ck b q q' e3 e4
  · rw [upd_ne fun z => n2 (by rw [z]; exact hO)]; exact e
  · obtain ⟨j, d, e1, e2⟩ := e
    rcases back e1 with ⟨q1, _⟩ | ⟨_, q⟩
    · subst q1
      rw [hσ] at e2
      cases e2
      exact .inl hO
    · exact .inl ⟨j, d, q, e2⟩
  · by_cases hb : b = a
    · subst hb; rw [upd_same]; exact fun z => by cases z
    · rw [upd_ne hb]; exact e
  · have hb : b ≠ a := fun z => by
      subst z
      rw [h2] at e
      cases e
      rw [h3.notFrz] at hl
      cases hl
    rw [upd_ne hb]; exact e
def sAppO (i : Nat) (m : EM) : SM := fun ρ S => (eD m ρ S).bind fun p => match ρ[i]? with
  | some (some (.own (.lst ds))) => if szOk ds.length then some (.nx, ρ.set i (some (.own (.lst (ds ++ [p.1])))), p.2) else none
  | _ => none
theorem snd_appO {i : Nat} (h : SndV G te me) : SndS G (tDrop (tBM G.K "list" rAppend (tVar i) (tCons te tNil))) (sAppO i me) := by
  intro F ι S ρ σ H f ρ' S' s e W k
  unfold sAppO at e
  obtain ⟨⟨d, S1⟩, e1, e⟩ := Option.bind_eq_some_iff.mp e
  dsimp only at e
  split at e
  · rename_i ds hi
    split at e
    · rename_i hz
      cases e
      obtain ⟨a, vs, h1, h2, h3⟩ := s.ownL hi
      refine ⟨.ref a, h1, .inl ⟨rfl, _, SqL.of h2⟩, ?_⟩
      refine snd_d h s e1 _ fun F1 ι1 H1 v s1 p1 r => ?_
      obtain ⟨b, ws, q1, q2, q3⟩ := s1.ownL hi
      rw [h1] at q1
      cases q1
      refine ⟨_, ws, v, rfl, rfl, q2, by rw [← q3.len]; exact szOk_lt hz, ?_⟩
      obtain ⟨s2, p2⟩ := s1.putO hi rfl h1 (c' := .lst (ds ++ [d])) (o' := .lst (ws ++ [v])) ⟨_, rfl, q3.app (RDs.one r)⟩
      exact k F1 ι1 σ _ s2 ((stx_own p1).trans p2)
    · cases e
  · cases e
def sExtO (i : Nat) (m : EM) : SM := fun ρ S => (eD m ρ S).bind fun p => match ρ[i]? with
  | some (some (.own (.lst ds))) => (lstD p.1 p.2).bind fun es => if szOk (ds.length + es.length) then some (.nx, ρ.set i (some (.own (.lst (ds ++ es)))), p.2) else none
  | _ => none
theorem set_same {i : Nat} {v : V} (h : σ[i]? = some (some v)) : σ.set i (some v) = σ := by
  apply List.ext_getElem?
  intro j
  by_cases e : j = i
  · subst e
    rw [List.getElem?_set_self (List.getElem?_eq_some_iff.mp h).1, h]
  · rw [List.getElem?_set_ne (Ne.symm e)]
theorem snd_extO {i : Nat} (h : SndV G te me) : SndS G (tAug i te rExt2) (sExtO i me) := by
  intro F ι S ρ σ H f ρ' S' s e W k
  unfold sExtO at e
  obtain ⟨⟨d, S1⟩, e1, e⟩ := Option.bind_eq_some_iff.mp e
  dsimp only at e
  split at e
  · rename_i ds hi
    obtain ⟨es, e2, e⟩ := Option.bind_eq_some_iff.mp e
    split at e
    · rename_i hz
      cases e
      obtain ⟨a, vs, h1, h2, h3⟩ := s.ownL hi
      refine ⟨.ref a, h1, ?_⟩
      refine snd_d h s e1 _ fun F1 ι1 H1 v s1 p1 r => ?_
      obtain ⟨b, ws, q1, q2, q3⟩ := s1.ownL hi
      rw [h1] at q1
      cases q1
      obtain ⟨c, zs, rfl, g1, g2⟩ := lst_get s1.rep r e2
      refine ⟨_, c, ws, zs, rfl, rfl, q2, g1, by rw [← q3.len, ← g2.len]; exact szOk_le hz, ?_⟩
      obtain ⟨s2, p2⟩ := s1.putO hi rfl h1 (c' := .lst (ds ++ es)) (o' := .lst (ws ++ zs)) ⟨_, rfl, q3.app g2⟩
      rw [set_same h1]
      exact k F1 ι1 σ _ s2 ((stx_own p1).trans p2)
    · cases e
  · cases e
/-- name op= e, of data -/
def sAug (i : Nat) (g : D → D → Sto → Option VV) (m : EM) : SM := fun ρ S => match ρ[i]? with
  | some (some (.d x)) => (eD m ρ S).bind fun p => (g x p.1 p.2).bind fun w => match w with
    | .d z => some (.nx, ρ.set i (some (.d z)), p.2)
    | .own _ => none
  | _ => none
theorem snd_aug {i : Nat} {ti : TIp} {g : D → D → Sto → Option VV} (h : SndV G te me) (hg : SndR2 G ti g) : SndS G (tAug i te ti) (sAug i g me) := by
  intro F ι S ρ σ H f ρ' S' s e W k
  unfold sAug at e
  split at e
  · rename_i x hi
    obtain ⟨⟨d, S1⟩, e1, e⟩ := Option.bind_eq_some_iff.mp e
    obtain ⟨w, e2, e⟩ := Option.bind_eq_some_iff.mp e
    match w, e with
    | .d z, e =>
      cases e
      obtain ⟨vx, h1, h2⟩ := s.sl.val i x hi
      refine ⟨vx, h1, ?_⟩
      refine snd_d h s e1 _ fun F1 ι1 H1 v s1 p1 r => ?_
      refine hg s1.rep (h2.mono p1.exF p1.pre) r e2 _ fun F2 H2 vz r2 p2 rz => ?_
      have pp := p1.trans p2
      have s2 := (s1.after r2 p2).1
      obtain ⟨s3, o3⟩ := s2.set (i := i) (w := .d z) (v := vz) (O := NoO) (H0 := H) rz fun a ha => s.notOwn ha
      refine k F2 ι1 _ H2 s3 ?_
      have q : Stp F ι (OwnA ρ σ) H F2 ι1 (OwnA ρ σ) H2 := stx_own pp
      exact ⟨q.exF, q.pre, q.fr, q.nF, q.nI, fun a ha => (o3 a ha).imp_left fun z => z, q.dom, q.fz⟩
  · cases e
def oIx (i : Nat) (m : EM) : EM := fun ρ S => (eD m ρ S).bind fun p => match ρ[i]?, p.1 with
  | some (some (.own (.lst ds))), .int j => (atI ds j).map fun d => (.d d, p.2)
  | _, _ => none
theorem snd_oIx {i : Nat} (h : SndV G te me) : SndV G (tOp (rIx G.K) (tVar i) te) (oIx i me) := by
  intro F ι S ρ σ H w S' s e Q k
  unfold oIx at e
  obtain ⟨⟨x, S1⟩, e1, e⟩ := Option.bind_eq_some_iff.mp e
  dsimp only at e
  split at e
  · rename_i ds j hi
    obtain ⟨d, e2, e⟩ := Option.map_eq_some_iff.mp e
    cases e
    obtain ⟨a, vs, h1, h2, h3⟩ := s.ownL hi
    refine ⟨.ref a, h1, ?_⟩
    refine snd_d h s e1 _ fun F1 ι1 H1 v s1 p1 r => ?_
    obtain ⟨b, ws, q1, q2, q3⟩ := s1.ownL hi
    rw [h1] at q1
    cases q1
    obtain ⟨u, g1, g2⟩ := atI_of q3 e2
    simp only [RD] at r
    exact .inl ⟨_, ws, j, u, rfl, r, SqL.of q2, g1, k F1 ι1 H1 u s1 p1 g2⟩
  · cases e
def oIn (neg : Bool) (m : EM) (i : Nat) : EM := fun ρ S => (eD m ρ S).bind fun p => match ρ[i]? with
  | some (some (.own (.lst ds))) => if flatD p.1 && ds.all flatD then some (.d (.bl (if neg then !inF p.1 ds else inF p.1 ds)), p.2) else none
  | _ => none
theorem snd_oIn {neg : Bool} {i : Nat} (h : SndV G te me) : SndV G (tOp (rIn G.K neg) te (tVar i)) (oIn neg me i) := by
  intro F ι S ρ σ H w S' s e Q k
  unfold oIn at e
  obtain ⟨⟨x, S1⟩, e1, e⟩ := Option.bind_eq_some_iff.mp e
  dsimp only at e
  split at e
  · rename_i ds hi
    split at e
    · rename_i hz
      cases e
      obtain ⟨f1, f2⟩ := Bool.and_eq_true_iff.mp hz
      refine snd_d h s e1 _ fun F1 ι1 H1 v s1 p1 r => ?_
      obtain ⟨b, ws, q1, q2, q3⟩ := s1.ownL hi
      obtain ⟨i1, i2⟩ := inF_of r f1 q3 f2
      refine ⟨.ref b, q1, b, ws, rfl, .inl (SqL.of q2), flat_of r f1, i1, k F1 ι1 H1 _ s1 p1 ?_⟩
      rw [i2]
      simp only [RV, RD]
    · cases e
  · cases e
def oEq (neg : Bool) (i : Nat) (m : EM) : EM := fun ρ S => (eD m ρ S).bind fun p => match ρ[i]? with
  | some (some (.own (.lst ds))) => (eqD (.fl ds) p.1 p.2).map fun b => (.d (.bl (if neg then !b else b)), p.2)
  | _ => none
theorem own_dp {i : Nat} {ds : List D} {x : D} {v : V} {b : Bool} (s : Sta G F ι S ρ σ H) (hi : ρ[i]? = some (some (.own (.lst ds)))) (r : RD G F ι x v) (e : eqD (.fl ds) x S = some b) :
    ∃ a p q, σ[i]? = some (some (.ref a)) ∧ Dp G.K H (.ref a) p ∧ Dp G.K H v q ∧ SeqAt.shaped p = true ∧ SeqAt.shaped q = true ∧ b = PyData.eqv p q := by
  unfold eqD at e
  obtain ⟨p, e1, e⟩ := Option.bind_eq_some_iff.mp e
  obtain ⟨q, e2, e⟩ := Option.bind_eq_some_iff.mp e
  split at e
  · rename_i hs
    cases e
    obtain ⟨s1, s2⟩ := Bool.and_eq_true_iff.mp hs
    obtain ⟨a, ws, q1, q2, q3⟩ := s.ownL hi
    simp only [pyD] at e1
    obtain ⟨ps, e1', rfl⟩ := Option.map_eq_some_iff.mp e1
    exact ⟨a, _, q, q1, .lst (SqL.of q2) (pyDs_dp s.rep _ q3 e1'), pyD_dp s.rep _ r e2, s1, s2, rfl⟩
  · cases e
theorem snd_oEq {i : Nat} (h : SndV G te me) : SndV G (tOp (rEqD G.K) (tVar i) te) (oEq false i me) := by
  intro F ι S ρ σ H w S' s e Q k
  unfold oEq at e
  obtain ⟨⟨x, S1⟩, e1, e⟩ := Option.bind_eq_some_iff.mp e
  dsimp only at e
  split at e
  · rename_i ds hi
    obtain ⟨b, e2, e⟩ := Option.map_eq_some_iff.mp e
    cases e
    obtain ⟨a, vs, h1, _, _⟩ := s.ownL hi
    refine ⟨.ref a, h1, ?_⟩
    refine snd_d h s e1 _ fun F1 ι1 H1 v s1 p1 r => ?_
    obtain ⟨a', p, q, g1, g2, g3, g4, g5, g6⟩ := own_dp s1 hi r e2
    rw [h1] at g1
    cases g1
    subst g6
    exact ⟨p, q, g2, g3, g4, g5, k F1 ι1 H1 _ s1 p1 (by simp only [RV, RD]; rfl)⟩
  · cases e
theorem snd_oNe {i : Nat} (h : SndV G te me) : SndV G (tOp (rNeD G.K) (tVar i) te) (oEq true i me) := by
  intro F ι S ρ σ H w S' s e Q k
  unfold oEq at e
  obtain ⟨⟨x, S1⟩, e1, e⟩ := Option.bind_eq_some_iff.mp e
  dsimp only at e
  split at e
  · rename_i ds hi
    obtain ⟨b, e2, e⟩ := Option.map_eq_some_iff.mp e
    cases e
    obtain ⟨a, vs, h1, _, _⟩ := s.ownL hi
    refine ⟨.ref a, h1, ?_⟩
    refine snd_d h s e1 _ fun F1 ι1 H1 v s1 p1 r => ?_
    obtain ⟨a', p, q, g1, g2, g3, g4, g5, g6⟩ := own_dp s1 hi r e2
    rw [h1] at g1
    cases g1
    subst g6
    exact ⟨p, q, g2, g3, g4, g5, k F1 ι1 H1 _ s1 p1 (by simp only [RV, RD]; rfl)⟩
  · cases e
/-- a, b = e1, e2; with three -/
def sPar (i j : Nat) (a b : EM) : SM := fun ρ S => (a ρ S).bind fun p => (b ρ p.2).map fun q => (.nx, (ρ.set i (some p.1)).set j (some q.1), q.2)
theorem RV.keep {w : VV} {v : V} {H0 H1 : Hp} (h : RV G F ι NoO H0 H w v) (p : Stx F ι H F' ι' H1) : RV G F' ι' NoO H0 H1 w v := by
  cases w with
  | d x => exact RD.mono p.exF p.pre h
  | own c =>
    obtain ⟨a, o, h1, h2, h3, h4, h5, h6⟩ := h
    have hne : H a ≠ none := by rw [h2]; exact fun z => by cases z
    refine ⟨a, o, h1, p.fr a o h2 h5 (fun z => z) h3.nt, h3.mono p.exF p.pre, ?_, fun z => ?_, h6⟩
    · refine Classical.byContradiction fun z => ?_
      rcases p.nF a z with q | q | q
      · exact q h4
      · exact hne q
      · exact q
    · rcases p.nI a z with q | q | q
      · exact h5 q
      · exact hne q
      · exact q
theorem snd_par {i j : Nat} (ha : SndV G ta ma) (hb : SndV G tb mb) : SndS G (tPar i j (tCons ta (tCons tb tNil))) (sPar i j ma mb) := by
  intro F ι S ρ σ H f ρ' S' s e W k
  unfold sPar at e
  obtain ⟨⟨w1, S1⟩, e1, e⟩ := Option.bind_eq_some_iff.mp e
  obtain ⟨⟨w2, S2⟩, e2, e⟩ := Option.map_eq_some_iff.mp e
  cases e
  refine ha s e1 _ fun F1 ι1 H1 v1 s1 p1 r1 => ?_
  refine hb s1 e2 _ fun F2 ι2 H2 v2 s2 p2 r2 => ?_
  refine ⟨v1, v2, rfl, ?_⟩
  obtain ⟨s3, o3⟩ := s1.set (i := i) (O := NoO) (H0 := H) r1 fun a ha => s.notOwn ha
  have s4 := (s3.after s2.rep p2).1
  obtain ⟨s5, o5⟩ := s4.set (i := j) (O := NoO) (H0 := H1) r2 fun a ha => s3.notOwn ha
  refine k F2 ι2 _ H2 s5 ?_
  have q : Stp F ι (OwnA ρ σ) H F2 ι2 (OwnA ρ σ) H2 := stx_own (p1.trans p2)
  refine ⟨q.exF, q.pre, q.fr, q.nF, q.nI, fun a ha => ?_, q.dom, q.fz⟩
  rcases o5 a ha with z | z
  · rcases o3 a z with y | y
    · exact .inl y
    · exact .inr y
  · exact .inr (p1.back a z)
def sPar3 (i j l : Nat) (a b c : EM) : SM := fun ρ S => (a ρ S).bind fun p => (b ρ p.2).bind fun q => (c ρ q.2).map fun u => (.nx, ((ρ.set i (some p.1)).set j (some q.1)).set l (some u.1), u.2)
theorem snd_par3 {i j l : Nat} (ha : SndV G ta ma) (hb : SndV G tb mb) (hc : SndV G tc mc) : SndS G (tPar3 i j l (tCons ta (tCons tb (tCons tc tNil)))) (sPar3 i j l ma mb mc) := by
  intro F ι S ρ σ H f ρ' S' s e W k
  unfold sPar3 at e
  obtain ⟨⟨w1, S1⟩, e1, e⟩ := Option.bind_eq_some_iff.mp e
  obtain ⟨⟨w2, S2⟩, e2, e⟩ := Option.bind_eq_some_iff.mp e
  obtain ⟨⟨w3, S3⟩, e3, e⟩ := Option.map_eq_some_iff.mp e
  cases e
  refine ha s e1 _ fun F1 ι1 H1 v1 s1 p1 r1 => ?_
  refine hb s1 e2 _ fun F2 ι2 H2 v2 s2 p2 r2 => ?_
  refine hc s2 e3 _ fun F3 ι3 H3 v3 s3 p3 r3 => ?_
  refine ⟨v1, v2, v3, rfl, ?_⟩
  obtain ⟨t1, o1⟩ := s1.set (i := i) (O := NoO) (H0 := H) r1 fun a ha => s.notOwn ha
  have t2 := (t1.after s2.rep p2).1
  obtain ⟨t3, o3⟩ := t2.set (i := j) (O := NoO) (H0 := H1) r2 fun a ha => t1.notOwn ha
  have t4 := (t3.after s3.rep p3).1
  obtain ⟨t5, o5⟩ := t4.set (i := l) (O := NoO) (H0 := H2) r3 fun a ha => t3.notOwn ha
  refine k F3 ι3 _ H3 t5 ?_
  have q : Stp F ι (OwnA ρ σ) H F3 ι3 (OwnA ρ σ) H3 := stx_own ((p1.trans p2).trans p3)
  refine ⟨q.exF, q.pre, q.fr, q.nF, q.nI, fun a ha => ?_, q.dom, q.fz⟩
  rcases o5 a ha with z | z
  · rcases o3 a z with y | y
    · rcases o1 a y with x | x
      · exact .inl x
      · exact .inr x
    · exact .inr (p1.back a y)
  · exact .inr ((p1.trans p2).back a z)
/-! ### stores at a place -/
def sSetIx (mo mi mv : EM) : SM := fun ρ S => (eD mv ρ S).bind fun p => (eD mo ρ p.2).bind fun q => (eD mi ρ q.2).bind fun u => match q.1, u.1 with
  | .ref n, .int j => match u.2[n]? with
    | some (.lst ds) => (ixN ds.length j).map fun k => (.nx, ρ, u.2.set n (.lst (ds.set k p.1)))
    | _ => none
  | _, _ => none
theorem snd_setIx {to ti tv : TE} {mo mi mv : EM} (ho : SndV G to mo) (hi : SndV G ti mi) (hv : SndV G tv mv) : SndS G (tAsg tv (gSub to ti rSetL)) (sSetIx mo mi mv) := by
  intro F ι S ρ σ H f ρ' S' s e W k
  unfold sSetIx at e
  obtain ⟨⟨d, S1⟩, e1, e⟩ := Option.bind_eq_some_iff.mp e
  obtain ⟨⟨x, S2⟩, e2, e⟩ := Option.bind_eq_some_iff.mp e
  obtain ⟨⟨y, S3⟩, e3, e⟩ := Option.bind_eq_some_iff.mp e
  match x, y, e with
  | .ref n, .int j, e =>
    dsimp only at e
    split at e
    · rename_i ds hn
      obtain ⟨kk, e4, e⟩ := Option.map_eq_some_iff.mp e
      cases e
      refine snd_d hv s e1 _ fun F1 ι1 H1 v s1 p1 r1 => ?_
      refine snd_d ho s1 e2 _ fun F2 ι2 H2 vx s2 p2 r2 => ?_
      refine snd_d hi s2 e3 _ fun F3 ι3 H3 vy s3 p3 r3 => ?_
      have pp := p2.trans p3
      have r2' := r2.mono p3.exF p3.pre
      obtain ⟨a, o, h1, h2, vs, rfl, h3⟩ := s3.rep.cell n _ hn
      simp only [RD] at r2' r3
      obtain ⟨b, rfl, q⟩ := r2'
      rw [h1] at q
      cases q
      have rc : RC G F3 ι3 (.lst (ds.set kk d)) (.lst (vs.set kk v)) := ⟨_, rfl, h3.set (r1.mono pp.exF pp.pre) kk⟩
      obtain ⟨r4, p4⟩ := s3.rep.put h1 hn rfl rc
      refine ⟨_, vs, j, kk, rfl, r3, h2, by rw [← h3.len]; exact e4, ?_⟩
      exact k F3 ι3 σ _ (s3.after r4 p4).1 (stx_own ((p1.trans pp).trans p4))
    · cases e
end
end Yi
/-! Dicts, methods, iterators, built-in calls, over states. -/
namespace Yi
open PySem L2
section
variable {G : Gm} {F F' H H' : Hp} {ι ι' : List Addr} {S S' : Sto} {ρ ρ' : Slt} {σ σ' : St} {ta tb tc te td ty tx : TE} {ma mb mc me md my mx : EM} {tt tu : TT} {mt mu : BM}
/-! ### dicts -/
section
variable {κ : Type} [DecidableEq κ]
def putKD (kvs : List (κ × D)) (k : κ) (d : D) : List (κ × D) :=
  if (kvs.any fun kv => decide (kv.1 = k)) = true then kvs.map (fun kv => if kv.1 = k then (kv.1, d) else kv) else kvs ++ [(k, d)]
def dropKD (kvs : List (κ × D)) (k : κ) : List (κ × D) := kvs.filter fun kv => decide (kv.1 ≠ k)
theorem rks_val {k : κ} : ∀ {kvs : List (κ × D)} {kv : List (κ × V)}, RKs G F ι kvs kv → (∀ d, lkp k kvs = some d → ∃ v, valV kv k = some v ∧ RD G F ι d v) ∧ (lkp k kvs = none → valV kv k = none)
  | [], kv, h => by
    cases (show kv = [] from h)
    exact ⟨fun d e => by simp [lkp] at e, fun _ => rfl⟩
  | (g, x) :: r, kv, h => by
    obtain ⟨v, r', rfl, h1, h2⟩ := h
    obtain ⟨i1, i2⟩ := rks_val (k := k) h2
    unfold lkp
    by_cases e : k = g
    · subst e
      rw [if_pos rfl, valV_pos rfl]
      exact ⟨fun d q => ⟨v, rfl, by cases q; exact h1⟩, fun q => by cases q⟩
    · rw [if_neg e, valV_neg (fun z => e z.symm)]
      exact ⟨i1, i2⟩
theorem rks_any {p : κ → Bool} : ∀ {kvs : List (κ × D)} {kv : List (κ × V)}, RKs G F ι kvs kv → (kv.any fun q => p q.1) = kvs.any fun q => p q.1
  | [], kv, h => by cases (show kv = [] from h); rfl
  | (g, x) :: r, kv, h => by
    obtain ⟨v, r', rfl, _, h2⟩ := h
    rw [List.any_cons, List.any_cons, rks_any h2]
theorem rks_map {k : κ} {d : D} {v : V} (hd : RD G F ι d v) : ∀ {kvs : List (κ × D)} {kv : List (κ × V)}, RKs G F ι kvs kv → RKs G F ι (kvs.map fun q => if q.1 = k then (q.1, d) else q) (kv.map fun q => if q.1 = k then (q.1, v) else q)
  | [], kv, h => by cases (show kv = [] from h); rfl
  | (g, x) :: r, kv, h => by
    obtain ⟨u, r', rfl, h1, h2⟩ := h
    rw [List.map_cons, List.map_cons]
    by_cases e : g = k
    · rw [if_pos e, if_pos e]
      exact ⟨v, _, rfl, hd, rks_map hd h2⟩
    · rw [if_neg e, if_neg e]
      exact ⟨u, _, rfl, h1, rks_map hd h2⟩
theorem rks_app : ∀ {kvs es : List (κ × D)} {kv ev : List (κ × V)}, RKs G F ι kvs kv → RKs G F ι es ev → RKs G F ι (kvs ++ es) (kv ++ ev)
  | [], _, kv, _, h, q => by cases (show kv = [] from h); exact q
  | (g, x) :: r, _, kv, _, h, q => by
    obtain ⟨u, r', rfl, h1, h2⟩ := h
    exact ⟨u, _, rfl, h1, rks_app h2 q⟩
theorem rks_putK {k : κ} {d : D} {v : V} {kvs : List (κ × D)} {kv : List (κ × V)} (h : RKs G F ι kvs kv) (hd : RD G F ι d v) : RKs G F ι (putKD kvs k d) (putK kv k v) := by
  unfold putKD putK
  rw [rks_any (p := fun q => decide (q = k)) h]
  split
  · exact rks_map hd h
  · exact rks_app h ⟨v, [], rfl, hd, rfl⟩
theorem rks_drop {k : κ} : ∀ {kvs : List (κ × D)} {kv : List (κ × V)}, RKs G F ι kvs kv → RKs G F ι (dropKD kvs k) (dropK kv k)
  | [], kv, h => by cases (show kv = [] from h); rfl
  | (g, x) :: r, kv, h => by
    obtain ⟨u, r', rfl, h1, h2⟩ := h
    have ih := rks_drop (k := k) h2
    unfold dropKD dropK at ih ⊢
    rw [List.filter_cons, List.filter_cons]
    by_cases e : g = k
    · rw [if_neg (by simp [e]), if_neg (by simp [e])]
      exact ih
    · rw [if_pos (by simp [e]), if_pos (by simp [e])]
      exact ⟨u, _, rfl, h1, ih⟩
end
def keyK : D → Option Key
  | .int i => some (.inl i)
  | .str s => some (.inr s)
  | _ => none
def keyKs : List D → Option (List Key)
  | [] => some []
  | d :: ds => (keyK d).bind fun k => (keyKs ds).map fun ks => k :: ks
def keyT : D → Option (List Key)
  | .tup (d :: ds) => keyKs (d :: ds)
  | _ => none
theorem keyK_of {d : D} {k : Key} {v : V} (h : RD G F ι d v) (e : keyK d = some k) : v = kV k := by
  cases d <;> simp only [RD] at h <;> first | (cases e; subst h; rfl) | cases e
theorem keyKs_of : ∀ {ds : List D} {ks : List Key} {vs : List V}, RDs G F ι ds vs → keyKs ds = some ks → vs = ks.map kV
  | [], ks, vs, h, e => by rw [rds_nil] at h; subst h; cases e; rfl
  | d :: ds, ks, vs, h, e => by
    obtain ⟨v, r, rfl, h1, h2⟩ := rds_cons.mp h
    obtain ⟨k, e1, e⟩ := Option.bind_eq_some_iff.mp (show ((keyK d).bind fun k => (keyKs ds).map fun ks => k :: ks) = some ks from e)
    obtain ⟨ks', e2, rfl⟩ := Option.map_eq_some_iff.mp e
    rw [List.map_cons, keyK_of h1 e1, keyKs_of h2 e2]
theorem keyT_of {d : D} {ks : List Key} {v : V} (r : Rep G F ι S H) (h : RD G F ι d v) (e : keyT d = some ks) : ∃ b, v = .ref b ∧ H b = some (.tup (ks.map kV)) := by
  unfold keyT at e
  split at e
  · rename_i x xs
    obtain ⟨a, vs, rfl, _, h2, h3⟩ := tup_get r h
    exact ⟨a, rfl, by rw [(show _ ∨ _ from h2).resolve_right (by simp), keyKs_of h3 e]⟩
  · cases e
def dGetD (x y : D) (S : Sto) : Option (Option D) := match x with
  | .ref n => match S[n]? with
    | some (.dk kvs) => (keyK y).map fun k => lkp k kvs
    | some (.dt kvs) => (keyT y).map fun k => lkp k kvs
    | _ => none
  | _ => none
theorem dGet_of {x y : D} {vx vy : V} {o : Option D} (r : Rep G F ι S H) (rx : RD G F ι x vx) (ry : RD G F ι y vy) (e : dGetD x y S = some o) :
    ∃ a p, vx = .ref a ∧ DGet H a vy p ∧ IsD H a ∧ (∀ d, o = some d → ∃ v, p = some v ∧ RD G F ι d v) ∧ (o = none → p = none) := by
  cases x with
  | ref n =>
    simp only [RD] at rx
    obtain ⟨b, rfl, hb⟩ := rx
    simp only [dGetD] at e
    split at e
    · rename_i kvs hn
      obtain ⟨k, e1, rfl⟩ := Option.map_eq_some_iff.mp e
      obtain ⟨a, u, h1, h2, kv, rfl, h3⟩ := r.cell n _ hn
      rw [hb] at h1
      cases h1
      obtain ⟨i1, i2⟩ := rks_val (k := k) h3
      exact ⟨_, _, rfl, by rw [keyK_of ry e1]; exact DGet.k h2, .inl ⟨kv, .inl h2⟩, i1, i2⟩
    · rename_i kvs hn
      obtain ⟨k, e1, rfl⟩ := Option.map_eq_some_iff.mp e
      obtain ⟨a, u, h1, h2, kv, rfl, h3⟩ := r.cell n _ hn
      rw [hb] at h1
      cases h1
      obtain ⟨i1, i2⟩ := rks_val (k := k) h3
      obtain ⟨b, rfl, h4⟩ := keyT_of r ry e1
      exact ⟨_, _, rfl, DGet.t h2 h4, .inr ⟨kv, .inl h2⟩, i1, i2⟩
    · cases e
  | _ => cases e
def eDGet (d y : EM) : EM := fun ρ S => (eD d ρ S).bind fun p => (eD y ρ p.2).bind fun q => (dGetD p.1 q.1 q.2).bind fun o => o.map fun z => (.d z, q.2)
theorem snd_dget (hd : SndV G td md) (hy : SndV G ty my) : SndV G (tDGet td ty) (eDGet md my) := by
  intro F ι S ρ σ H w S' s e Q k
  unfold eDGet at e
  obtain ⟨⟨x, S1⟩, e1, e⟩ := Option.bind_eq_some_iff.mp e
  obtain ⟨⟨y, S2⟩, e2, e⟩ := Option.bind_eq_some_iff.mp e
  obtain ⟨o, e3, e⟩ := Option.bind_eq_some_iff.mp e
  obtain ⟨z, rfl, e⟩ := Option.map_eq_some_iff.mp e
  cases e
  refine snd_d hd s e1 _ fun F1 ι1 H1 vx s1 p1 rx => ?_
  refine snd_d hy s1 e2 _ fun F2 ι2 H2 vy s2 p2 ry => ?_
  obtain ⟨a, p, rfl, g1, _, g2, _⟩ := dGet_of s2.rep (rx.mono p2.exF p2.pre) ry e3
  obtain ⟨v, rfl, g3⟩ := g2 z rfl
  exact ⟨a, v, rfl, g1, k F2 ι2 H2 v s2 (p1.trans p2) g3⟩
def eDIn (neg : Bool) (y d : EM) : EM := fun ρ S => (eD y ρ S).bind fun p => (eD d ρ p.2).bind fun q => (dGetD q.1 p.1 q.2).map fun o => (.d (.bl (if neg then !o.isSome else o.isSome)), q.2)
theorem snd_din (hy : SndV G ty my) (hd : SndV G td md) : SndV G (tDIn ty td) (eDIn false my md) := by
  intro F ι S ρ σ H w S' s e Q k
  unfold eDIn at e
  obtain ⟨⟨y, S1⟩, e1, e⟩ := Option.bind_eq_some_iff.mp e
  obtain ⟨⟨x, S2⟩, e2, e⟩ := Option.bind_eq_some_iff.mp e
  obtain ⟨o, e3, e⟩ := Option.map_eq_some_iff.mp e
  cases e
  refine snd_d hy s e1 _ fun F1 ι1 H1 vy s1 p1 ry => ?_
  refine snd_d hd s1 e2 _ fun F2 ι2 H2 vx s2 p2 rx => ?_
  obtain ⟨a, p, rfl, g1, _, g2, g3⟩ := dGet_of s2.rep rx (ry.mono p2.exF p2.pre) e3
  refine ⟨a, p, rfl, g1, k F2 ι2 H2 _ s2 (p1.trans p2) ?_⟩
  cases o with
  | none => rw [g3 rfl]; simp only [RV, RD]; rfl
  | some z => obtain ⟨v, rfl, _⟩ := g2 z rfl; simp only [RV, RD]; rfl
theorem snd_dnotin (hy : SndV G ty my) (hd : SndV G td md) : SndV G (tDNotIn ty td) (eDIn true my md) := by
  intro F ι S ρ σ H w S' s e Q k
  unfold eDIn at e
  obtain ⟨⟨y, S1⟩, e1, e⟩ := Option.bind_eq_some_iff.mp e
  obtain ⟨⟨x, S2⟩, e2, e⟩ := Option.bind_eq_some_iff.mp e
  obtain ⟨o, e3, e⟩ := Option.map_eq_some_iff.mp e
  cases e
  refine snd_d hy s e1 _ fun F1 ι1 H1 vy s1 p1 ry => ?_
  refine snd_d hd s1 e2 _ fun F2 ι2 H2 vx s2 p2 rx => ?_
  obtain ⟨a, p, rfl, g1, _, g2, g3⟩ := dGet_of s2.rep rx (ry.mono p2.exF p2.pre) e3
  refine ⟨a, p, rfl, g1, k F2 ι2 H2 _ s2 (p1.trans p2) ?_⟩
  cases o with
  | none => rw [g3 rfl]; simp only [RV, RD]; rfl
  | some z => obtain ⟨v, rfl, _⟩ := g2 z rfl; simp only [RV, RD]; rfl
def isDD (x : D) (S : Sto) : Bool := match x with
  | .ref n => match S[n]? with
    | some (.dk _) => true
    | some (.dt _) => true
    | _ => false
  | _ => false
theorem isD_of {x : D} {v : V} (r : Rep G F ι S H) (h : RD G F ι x v) (e : isDD x S = true) : ∃ a, v = .ref a ∧ IsD H a ∧ ((∃ kvs, H a = some (.dK kvs)) ∨ ∃ kvs, H a = some (.dT kvs)) := by
  cases x with
  | ref n =>
    simp only [RD] at h
    obtain ⟨b, rfl, hb⟩ := h
    simp only [isDD] at e
    split at e
    · rename_i kvs hn
      obtain ⟨a, u, h1, h2, kv, rfl, h3⟩ := r.cell n _ hn
      rw [hb] at h1
      cases h1
      exact ⟨_, rfl, .inl ⟨kv, .inl h2⟩, .inl ⟨kv, h2⟩⟩
    · rename_i kvs hn
      obtain ⟨a, u, h1, h2, kv, rfl, h3⟩ := r.cell n _ hn
      rw [hb] at h1
      cases h1
      exact ⟨_, rfl, .inr ⟨kv, .inl h2⟩, .inr ⟨kv, h2⟩⟩
    · cases e
  | _ => cases e
def eDGet2 (d y x : EM) : EM := fun ρ S => (eD d ρ S).bind fun p => if isDD p.1 p.2 = true then (eD y ρ p.2).bind fun q => (eD x ρ q.2).bind fun u => (dGetD p.1 q.1 u.2).map fun o => (.d (o.getD u.1), u.2) else none
theorem snd_dget2 (hd : SndV G td md) (hy : SndV G ty my) (hx : SndV G tx mx) : SndV G (tDGet2 td ty tx) (eDGet2 md my mx) := by
  intro F ι S ρ σ H w S' s e Q k
  unfold eDGet2 at e
  obtain ⟨⟨x, S1⟩, e1, e⟩ := Option.bind_eq_some_iff.mp e
  dsimp only at e
  split at e
  · rename_i hz
    obtain ⟨⟨y, S2⟩, e2, e⟩ := Option.bind_eq_some_iff.mp e
    obtain ⟨⟨z, S3⟩, e3, e⟩ := Option.bind_eq_some_iff.mp e
    obtain ⟨o, e4, e⟩ := Option.map_eq_some_iff.mp e
    cases e
    refine snd_d hd s e1 _ fun F1 ι1 H1 vx s1 p1 rx => ?_
    obtain ⟨a, rfl, h1, _⟩ := isD_of s1.rep rx hz
    refine ⟨a, rfl, h1, ?_⟩
    refine snd_d hy s1 e2 _ fun F2 ι2 H2 vy s2 p2 ry => ?_
    refine snd_d hx s2 e3 _ fun F3 ι3 H3 vz s3 p3 rz => ?_
    obtain ⟨b, p, eb, g1, _, g2, g3⟩ := dGet_of s3.rep (rx.mono (p2.trans p3).exF (p2.trans p3).pre) (ry.mono p3.exF p3.pre) e4
    cases eb
    refine ⟨p, g1, k F3 ι3 H3 _ s3 ((p1.trans p2).trans p3) ?_⟩
    cases o with
    | none => rw [g3 rfl]; exact rz
    | some z => obtain ⟨v, rfl, g4⟩ := g2 z rfl; exact g4
  · cases e
def dPutD (x y d : D) (S : Sto) : Option Sto := match x with
  | .ref n => match S[n]? with
    | some (.dk kvs) => (keyK y).bind fun k => if szOk kvs.length then some (S.set n (.dk (putKD kvs k d))) else none
    | some (.dt kvs) => (keyT y).bind fun k => if szOk kvs.length then some (S.set n (.dt (putKD kvs k d))) else none
    | _ => none
  | _ => none
theorem dPut_of {x y d : D} {vx vy v : V} {S' : Sto} (r : Rep G F ι S H) (rx : RD G F ι x vx) (ry : RD G F ι y vy) (rd : RD G F ι d v) (e : dPutD x y d S = some S') :
    ∃ a H', vx = .ref a ∧ DPut H a vy v H' ∧ Rep G F ι S' H' ∧ Stx F ι H F ι H' := by
  cases x with
  | ref n =>
    simp only [RD] at rx
    obtain ⟨b, rfl, hb⟩ := rx
    simp only [dPutD] at e
    split at e
    · rename_i kvs hn
      obtain ⟨k, e1, e⟩ := Option.bind_eq_some_iff.mp e
      split at e
      · rename_i hz
        cases e
        obtain ⟨a, u, h1, h2, kv, rfl, h3⟩ := r.cell n _ hn
        rw [hb] at h1
        cases h1
        obtain ⟨r2, p2⟩ := r.put hb hn rfl (c' := .dk (putKD kvs k d)) (o' := .dK (putK kv k v)) ⟨_, rfl, rks_putK h3 rd⟩
        exact ⟨_, _, rfl, by rw [keyK_of ry e1]; exact DPut.k h2 (by rw [← rks_len h3]; exact szOk_lt hz), r2, p2⟩
      · cases e
    · rename_i kvs hn
      obtain ⟨k, e1, e⟩ := Option.bind_eq_some_iff.mp e
      split at e
      · rename_i hz
        cases e
        obtain ⟨a, u, h1, h2, kv, rfl, h3⟩ := r.cell n _ hn
        rw [hb] at h1
        cases h1
        obtain ⟨b, rfl, h4⟩ := keyT_of r ry e1
        obtain ⟨r2, p2⟩ := r.put hb hn rfl (c' := .dt (putKD kvs k d)) (o' := .dT (putK kv k v)) ⟨_, rfl, rks_putK h3 rd⟩
        exact ⟨_, _, rfl, DPut.t h2 h4 (by rw [← rks_len h3]; exact szOk_lt hz), r2, p2⟩
      · cases e
    · cases e
  | _ => cases e
def sDPutS (md my mv : EM) : SM := fun ρ S => (eD mv ρ S).bind fun p => (eD md ρ p.2).bind fun q => (eD my ρ q.2).bind fun u => (dPutD q.1 u.1 p.1 u.2).map fun S' => (.nx, ρ, S')
theorem snd_dput {tv : TE} {mv : EM} (hd : SndV G td md) (hy : SndV G ty my) (hv : SndV G tv mv) : SndS G (sDPut td ty tv) (sDPutS md my mv) := by
  intro F ι S ρ σ H f ρ' S' s e W k
  unfold sDPutS at e
  obtain ⟨⟨d, S1⟩, e1, e⟩ := Option.bind_eq_some_iff.mp e
  obtain ⟨⟨x, S2⟩, e2, e⟩ := Option.bind_eq_some_iff.mp e
  obtain ⟨⟨y, S3⟩, e3, e⟩ := Option.bind_eq_some_iff.mp e
  obtain ⟨S4, e4, e⟩ := Option.map_eq_some_iff.mp e
  cases e
  refine snd_d hv s e1 _ fun F1 ι1 H1 v s1 p1 r1 => ?_
  refine snd_d hd s1 e2 _ fun F2 ι2 H2 vx s2 p2 r2 => ?_
  refine snd_d hy s2 e3 _ fun F3 ι3 H3 vy s3 p3 r3 => ?_
  have pp := p2.trans p3
  obtain ⟨a, H4, rfl, g1, g2, g3⟩ := dPut_of s3.rep (r2.mono p3.exF p3.pre) r3 (r1.mono pp.exF pp.pre) e4
  exact ⟨a, H4, rfl, g1, k F3 ι3 σ H4 (s3.after g2 g3).1 (stx_own ((p1.trans pp).trans g3))⟩
/-- pop of a key -/
def dDropD (x y : D) (S : Sto) : Option (Option D × Sto) := match x with
  | .ref n => match S[n]? with
    | some (.dk kvs) => (keyK y).map fun k => match lkp k kvs with
      | some d => (some d, S.set n (.dk (dropKD kvs k)))
      | none => (none, S)
    | _ => none
  | _ => none
theorem dDrop_of {x y : D} {vx vy : V} {o : Option D} {S' : Sto} (r : Rep G F ι S H) (rx : RD G F ι x vx) (ry : RD G F ι y vy) (e : dDropD x y S = some (o, S')) :
    ∃ a kvs k, vx = .ref a ∧ H a = some (.dK kvs) ∧ vy = kV k ∧ (∀ d, o = some d → ∃ v, valV kvs k = some v ∧ RD G F ι d v ∧ Rep G F ι S' (upd H a (.dK (dropK kvs k))) ∧ Stx F ι H F ι (upd H a (.dK (dropK kvs k)))) ∧ (o = none → valV kvs k = none ∧ S' = S) := by
  cases x with
  | ref n =>
    simp only [RD] at rx
    obtain ⟨b, rfl, hb⟩ := rx
    simp only [dDropD] at e
    split at e
    · rename_i kvs hn
      obtain ⟨k, e1, e⟩ := Option.map_eq_some_iff.mp e
      obtain ⟨a, u, h1, h2, kv, rfl, h3⟩ := r.cell n _ hn
      rw [hb] at h1
      cases h1
      obtain ⟨i1, i2⟩ := rks_val (k := k) h3
      refine ⟨_, kv, k, rfl, h2, keyK_of ry e1, ?_⟩
      split at e
      · rename_i d hd
        cases e
        refine ⟨fun d' q => ?_, fun q => by cases q⟩
        cases q
        obtain ⟨v, q1, q2⟩ := i1 _ hd
        obtain ⟨r2, p2⟩ := r.put hb hn rfl (c' := .dk (dropKD kvs k)) (o' := .dK (dropK kv k)) ⟨_, rfl, rks_drop h3⟩
        exact ⟨v, q1, q2, r2, p2⟩
      · rename_i hd
        cases e
        exact ⟨fun d' q => (by cases q), fun _ => ⟨i2 hd, rfl⟩⟩
    · cases e
  | _ => cases e
def eDPop1 (d y : EM) : EM := fun ρ S => (eD d ρ S).bind fun p => if isDD p.1 p.2 = true then (eD y ρ p.2).bind fun q => (dDropD p.1 q.1 q.2).bind fun u => u.1.map fun z => (.d z, u.2) else none
theorem snd_dpop1 (hd : SndV G td md) (hy : SndV G ty my) : SndV G (tDPop1 td ty) (eDPop1 md my) := by
  intro F ι S ρ σ H w S' s e Q k
  unfold eDPop1 at e
  obtain ⟨⟨x, S1⟩, e1, e⟩ := Option.bind_eq_some_iff.mp e
  dsimp only at e
  split at e
  · rename_i hz
    obtain ⟨⟨y, S2⟩, e2, e⟩ := Option.bind_eq_some_iff.mp e
    obtain ⟨⟨o, S3⟩, e3, e⟩ := Option.bind_eq_some_iff.mp e
    obtain ⟨z, hoz, e⟩ := Option.map_eq_some_iff.mp e
    cases e
    refine snd_d hd s e1 _ fun F1 ι1 H1 vx s1 p1 rx => ?_
    obtain ⟨a, rfl, h1, _⟩ := isD_of s1.rep rx hz
    refine ⟨a, rfl, h1, ?_⟩
    refine snd_d hy s1 e2 _ fun F2 ι2 H2 vy s2 p2 ry => ?_
    obtain ⟨b, kvs, kk, eb, g1, g2, g3, _⟩ := dDrop_of s2.rep (rx.mono p2.exF p2.pre) ry e3
    cases eb
    obtain ⟨v, g4, g5, g6, g7⟩ := g3 z hoz
    exact ⟨kvs, kk, v, g1, g2, g4, k F2 ι2 _ v (s2.after g6 g7).1 ((p1.trans p2).trans g7) g5⟩
  · cases e
def eDPop2 (d y x : EM) : EM := fun ρ S => (eD d ρ S).bind fun p => if isDD p.1 p.2 = true then (eD y ρ p.2).bind fun q => (eD x ρ q.2).bind fun v => (dDropD p.1 q.1 v.2).map fun u => (.d (u.1.getD v.1), u.2) else none
theorem snd_dpop2 (hd : SndV G td md) (hy : SndV G ty my) (hx : SndV G tx mx) : SndV G (tDPop2 td ty tx) (eDPop2 md my mx) := by
  intro F ι S ρ σ H w S' s e Q k
  unfold eDPop2 at e
  obtain ⟨⟨x, S1⟩, e1, e⟩ := Option.bind_eq_some_iff.mp e
  dsimp only at e
  split at e
  · rename_i hz
    obtain ⟨⟨y, S2⟩, e2, e⟩ := Option.bind_eq_some_iff.mp e
    obtain ⟨⟨z, S3⟩, e3, e⟩ := Option.bind_eq_some_iff.mp e
    obtain ⟨⟨o, S4⟩, e4, e⟩ := Option.map_eq_some_iff.mp e
    cases e
    refine snd_d hd s e1 _ fun F1 ι1 H1 vx s1 p1 rx => ?_
    obtain ⟨a, rfl, h1, _⟩ := isD_of s1.rep rx hz
    refine ⟨a, rfl, h1, ?_⟩
    refine snd_d hy s1 e2 _ fun F2 ι2 H2 vy s2 p2 ry => ?_
    refine snd_d hx s2 e3 _ fun F3 ι3 H3 vz s3 p3 rz => ?_
    obtain ⟨b, kvs, kk, eb, g1, g2, g3, g8⟩ := dDrop_of s3.rep (rx.mono (p2.trans p3).exF (p2.trans p3).pre) (ry.mono p3.exF p3.pre) e4
    cases eb
    have pp := (p1.trans p2).trans p3
    refine ⟨kvs, kk, g1, g2, fun v hv => ?_, fun hv => ?_⟩
    · cases o with
      | none => rw [(g8 rfl).1] at hv; cases hv
      | some z' =>
        obtain ⟨v', g4, g5, g6, g7⟩ := g3 z' rfl
        rw [hv] at g4
        cases g4
        exact k F3 ι3 _ v (s3.after g6 g7).1 (pp.trans g7) g5
    · cases o with
      | none =>
        obtain ⟨_, rfl⟩ := g8 rfl
        exact k F3 ι3 H3 vz s3 pp rz
      | some z' =>
        obtain ⟨v', g4, _⟩ := g3 z' rfl
        rw [hv] at g4
        cases g4
  · cases e
def eDNewK : EM := fun _ S => some (.own (.dk []), S)
def eDNewT : EM := fun _ S => some (.own (.dt []), S)
theorem snd_dnewK : SndV G tDNewK eDNewK := by
  intro F ι S ρ σ H w S' s e Q k
  cases e
  intro p hp
  obtain ⟨r2, p2⟩ := s.rep.newO (o := .dK []) hp
  exact k F ι _ _ (s.after r2 p2).1 p2 ⟨p, _, rfl, upd_same, ⟨[], rfl, rfl⟩, s.rep.noF hp, s.rep.noI hp, .inr hp⟩
theorem snd_dnewT : SndV G tDNewT eDNewT := by
  intro F ι S ρ σ H w S' s e Q k
  cases e
  intro p hp
  obtain ⟨r2, p2⟩ := s.rep.newO (o := .dT []) hp
  exact k F ι _ _ (s.after r2 p2).1 p2 ⟨p, _, rfl, upd_same, ⟨[], rfl, rfl⟩, s.rep.noF hp, s.rep.noI hp, .inr hp⟩
/-- a display of pairs -/
def SndP (G : Gm) (trs : List (TE × TE)) (m : Slt → Sto → Option (List (D × D) × Sto)) : Prop := ∀ {F : Hp} {ι : List Addr} {S : Sto} {ρ : Slt} {σ : St} {H : Hp} {ps : List (D × D)} {S' : Sto}, Sta G F ι S ρ σ H → m ρ S = some (ps, S') → ∀ Q : List (V × V) → Hp → Prop,
  (∀ F' ι' H' vs, Sta G F' ι' S' ρ σ H' → Stx F ι H F' ι' H' → RDs G F' ι' (ps.map (·.1)) (vs.map (·.1)) → RDs G F' ι' (ps.map (·.2)) (vs.map (·.2)) → Q vs H') → tPairs trs σ H Q
end
end Yi
/-! Displays of dicts, methods, iterators, built-in calls, over states. -/
namespace Yi
open PySem L2
section
variable {G : Gm} {F F' H H' : Hp} {ι ι' : List Addr} {S S' : Sto} {ρ ρ' : Slt} {σ σ' : St} {ta tb tc te td ty tx : TE} {ma mb mc me md my mx : EM} {tt tu : TT} {mt mu : BM}
/-! ### a dict displayed -/
def SndPs (G : Gm) : List (TE × TE) → List (EM × EM) → Prop
  | [], [] => True
  | (tk, tv) :: r, (mk, mv) :: s => SndV G tk mk ∧ SndV G tv mv ∧ SndPs G r s
  | _, _ => False
def mP : List (EM × EM) → Slt → Sto → Option (List (Key × D) × Sto)
  | [], _, S => some ([], S)
  | (mk, mv) :: r, ρ, S => (eD mk ρ S).bind fun p => (eD mv ρ p.2).bind fun q => (keyK p.1).bind fun k => (mP r ρ q.2).map fun u => ((k, q.1) :: u.1, u.2)
theorem snd_pairs : ∀ {trs : List (TE × TE)} {ms : List (EM × EM)}, SndPs G trs ms → ∀ {F : Hp} {ι : List Addr} {S : Sto} {ρ : Slt} {σ : St} {H : Hp} {kvs : List (Key × D)} {S' : Sto}, Sta G F ι S ρ σ H → mP ms ρ S = some (kvs, S') → ∀ Q : List (V × V) → Hp → Prop,
    (∀ F' ι' H' kv, Sta G F' ι' S' ρ σ H' → Stx F ι H F' ι' H' → RKs G F' ι' kvs kv → Q (kv.map fun p => (kV p.1, p.2)) H') → tPairs trs σ H Q
  | [], [], _, F, ι, S, ρ, σ, H, kvs, S', s, e, Q, k => by
    cases e
    exact k F ι H [] s .refl rfl
  | (tk, tv) :: r, (mk, mv) :: ms, h, F, ι, S, ρ, σ, H, kvs, S', s, e, Q, k => by
    obtain ⟨h1, h2, h3⟩ := h
    obtain ⟨⟨x, S1⟩, e1, e⟩ := Option.bind_eq_some_iff.mp (show ((eD mk ρ S).bind fun p => (eD mv ρ p.2).bind fun q => (keyK p.1).bind fun k => (mP ms ρ q.2).map fun u => ((k, q.1) :: u.1, u.2)) = some (kvs, S') from e)
    obtain ⟨⟨y, S2⟩, e2, e⟩ := Option.bind_eq_some_iff.mp e
    obtain ⟨kk, e3, e⟩ := Option.bind_eq_some_iff.mp e
    obtain ⟨⟨rest, S3⟩, e4, e⟩ := Option.map_eq_some_iff.mp e
    cases e
    refine snd_d h1 s e1 _ fun F1 ι1 H1 vx s1 p1 rx => ?_
    refine snd_d h2 s1 e2 _ fun F2 ι2 H2 vy s2 p2 ry => ?_
    refine snd_pairs h3 s2 e4 _ fun F3 ι3 H3 kv s3 p3 rk => ?_
    have ex := keyK_of rx e3
    subst ex
    exact k F3 ι3 H3 ((kk, vy) :: kv) s3 ((p1.trans p2).trans p3) ⟨vy, kv, rfl, ry.mono p3.exF p3.pre, rk⟩
  | [], _ :: _, h, _, _, _, _, _, _, _, _, _, _, _, _ => h.elim
  | _ :: _, [], h, _, _, _, _, _, _, _, _, _, _, _, _ => by
    exact h.elim
def mergeKD (kvs more : List (Key × D)) : List (Key × D) := more.foldl (fun acc kv => putKD acc kv.1 kv.2) kvs
theorem rks_merge : ∀ {more : List (Key × D)} {mv : List (Key × V)} {kvs : List (Key × D)} {kv : List (Key × V)}, RKs G F ι more mv → RKs G F ι kvs kv → RKs G F ι (mergeKD kvs more) (mergeK kv mv)
  | [], mv, _, _, h, q => by cases (show mv = [] from h); exact q
  | (j, d) :: r, mv, _, _, h, q => by
    obtain ⟨v, r', rfl, h1, h2⟩ := h
    show RKs G F ι (mergeKD (putKD _ j d) r) (mergeK (putK _ j v) r')
    exact rks_merge h2 (rks_putK q h1)
def eDisp (ms : List (EM × EM)) : EM := fun ρ S => (mP ms ρ S).bind fun p => if p.1.length ≤ 15 then some (.own (.dk (mergeKD [] p.1)), p.2) else none
theorem snd_disp {trs : List (TE × TE)} {ms : List (EM × EM)} (h : SndPs G trs ms) : SndV G (tDisp trs) (eDisp ms) := by
  intro F ι S ρ σ H w S' s e Q k
  unfold eDisp at e
  obtain ⟨⟨kvs, S1⟩, e1, e⟩ := Option.bind_eq_some_iff.mp e
  dsimp only at e
  split at e
  · rename_i hz
    cases e
    intro p hp
    obtain ⟨r2, p2⟩ := s.rep.newO (o := .dK []) hp
    have s2 := (s.after r2 p2).1
    have nF := s.rep.noF hp
    have nI := s.rep.noI hp
    refine snd_pairs h s2 e1 _ fun F3 ι3 H3 kv s3 p3 rk => ?_
    have hp3 : H3 p = some (.dK []) := p3.fr p _ upd_same nI (fun z => z) (fun _ z => nomatch z)
    have hne : upd H p (.dK []) p ≠ none := by rw [upd_same]; exact fun z => by cases z
    have nF3 : F3 p = none := by
      refine Classical.byContradiction fun z => ?_
      rcases p3.nF p z with q | q | q
      · exact q nF
      · exact hne q
      · exact q
    have nI3 : p ∉ ι3 := fun z => by
      rcases p3.nI p z with q | q | q
      · exact nI q
      · exact hne q
      · exact q
    refine ⟨hp3, kv, rfl, by rw [← rks_len rk]; exact hz, ?_⟩
    have pp := p2.trans p3
    -- the new dict takes its entries
    have r4 : Rep G F3 ι3 S' (upd H3 p (.dK (mergeK [] kv))) := by
      refine ⟨fun a o q => ?_, fun n c q => ?_, s3.rep.len, s3.rep.nd, s3.rep.sep, fun p' hp' => (s3.rep.tb p' hp').wr (Same.refl _) fun ps z => by rw [hp3] at z; cases z⟩
      · rw [upd_ne (ne_of_none q nF3)]; exact s3.rep.ex a o q
      · obtain ⟨a, o, q1, q2, q3⟩ := s3.rep.cell n c q
        exact ⟨a, o, q1, by rw [upd_ne fun z => nI3 (by rw [← z]; exact List.mem_of_getElem? q1)]; exact q2, q3⟩
    have p4 : Stx F ι H F3 ι3 (upd H3 p (.dK (mergeK [] kv))) := by
      refine ⟨pp.exF, pp.pre, fun a o q1 q2 q3 q4 => ?_, pp.nF, pp.nI, fun _ z => z.elim, fun a q => ?_, fun a ob u q => ?_⟩
      · rw [upd_ne (ne_of_none q1 hp)]; exact pp.fr a o q1 q2 q3 q4
      · by_cases z : a = p
        · subst z; rw [upd_same]; exact fun z => by cases z
        · rw [upd_ne z]; exact pp.dom a q
      · rw [upd_ne (ne_of_none q hp)]; exact pp.fz a ob u q
    exact k F3 ι3 _ _ (s.after r4 p4).1 p4 ⟨p, _, rfl, upd_same, ⟨_, rfl, rks_merge rk rfl⟩, nF3, nI3, .inr hp⟩
  · cases e
/-- reading a dict that a slot alone holds -/
def oDGet (i : Nat) (y : EM) : EM := fun ρ S => (eD y ρ S).bind fun q => match ρ[i]? with
  | some (some (.own (.dk kvs))) => (keyK q.1).bind fun k => (lkp k kvs).map fun z => (.d z, q.2)
  | _ => none
theorem snd_oDGet {i : Nat} (hy : SndV G ty my) : SndV G (tDGet (tVar i) ty) (oDGet i my) := by
  intro F ι S ρ σ H w S' s e Q k
  unfold oDGet at e
  obtain ⟨⟨y, S1⟩, e1, e⟩ := Option.bind_eq_some_iff.mp e
  dsimp only at e
  split at e
  · rename_i kvs hi
    obtain ⟨kk, e2, e⟩ := Option.bind_eq_some_iff.mp e
    obtain ⟨z, e3, e⟩ := Option.map_eq_some_iff.mp e
    cases e
    obtain ⟨a, o, h1, _⟩ := s.sl.own i _ hi
    refine ⟨.ref a, h1, ?_⟩
    refine snd_d hy s e1 _ fun F1 ι1 H1 vy s1 p1 ry => ?_
    obtain ⟨b, o2, h1', h2, ⟨kv, rfl, h3⟩, _, _⟩ := s1.sl.own i _ hi
    rw [h1] at h1'
    cases h1'
    obtain ⟨v, q1, q2⟩ := (rks_val (k := kk) h3).1 z e3
    exact ⟨_, v, rfl, by rw [keyK_of ry e2, ← q1]; exact DGet.k h2, k F1 ι1 H1 v s1 p1 q2⟩
  · cases e
def oDIn (neg : Bool) (y : EM) (i : Nat) : EM := fun ρ S => (eD y ρ S).bind fun q => match ρ[i]? with
  | some (some (.own (.dk kvs))) => (keyK q.1).map fun k => (.d (.bl (if neg then !(lkp k kvs).isSome else (lkp k kvs).isSome)), q.2)
  | _ => none
theorem snd_oDIn {i : Nat} (hy : SndV G ty my) : SndV G (tDIn ty (tVar i)) (oDIn false my i) := by
  intro F ι S ρ σ H w S' s e Q k
  unfold oDIn at e
  obtain ⟨⟨y, S1⟩, e1, e⟩ := Option.bind_eq_some_iff.mp e
  dsimp only at e
  split at e
  · rename_i kvs hi
    obtain ⟨kk, e2, e⟩ := Option.map_eq_some_iff.mp e
    cases e
    refine snd_d hy s e1 _ fun F1 ι1 H1 vy s1 p1 ry => ?_
    obtain ⟨b, o2, h1, h2, ⟨kv, rfl, h3⟩, _, _⟩ := s1.sl.own i _ hi
    obtain ⟨i1, i2⟩ := rks_val (k := kk) h3
    refine ⟨.ref b, h1, b, valV kv kk, rfl, by rw [keyK_of ry e2]; exact DGet.k h2, k F1 ι1 H1 _ s1 p1 ?_⟩
    cases hl : lkp kk kvs with
    | none => rw [i2 hl]; simp only [RV, RD]; rfl
    | some z => obtain ⟨v, q1, _⟩ := i1 z hl; rw [q1]; simp only [RV, RD]; rfl
  · cases e
theorem snd_oDNotIn {i : Nat} (hy : SndV G ty my) : SndV G (tDNotIn ty (tVar i)) (oDIn true my i) := by
  intro F ι S ρ σ H w S' s e Q k
  unfold oDIn at e
  obtain ⟨⟨y, S1⟩, e1, e⟩ := Option.bind_eq_some_iff.mp e
  dsimp only at e
  split at e
  · rename_i kvs hi
    obtain ⟨kk, e2, e⟩ := Option.map_eq_some_iff.mp e
    cases e
    refine snd_d hy s e1 _ fun F1 ι1 H1 vy s1 p1 ry => ?_
    obtain ⟨b, o2, h1, h2, ⟨kv, rfl, h3⟩, _, _⟩ := s1.sl.own i _ hi
    obtain ⟨i1, i2⟩ := rks_val (k := kk) h3
    refine ⟨.ref b, h1, b, valV kv kk, rfl, by rw [keyK_of ry e2]; exact DGet.k h2, k F1 ι1 H1 _ s1 p1 ?_⟩
    cases hl : lkp kk kvs with
    | none => rw [i2 hl]; simp only [RV, RD]; rfl
    | some z => obtain ⟨v, q1, _⟩ := i1 z hl; rw [q1]; simp only [RV, RD]; rfl
  · cases e
/-! ### methods of built-in things -/
def SndM (G : Gm) (r : V → List V → Hp → VK → Prop) (f : D → List D → Sto → Option (VV × Sto)) : Prop := ∀ {F : Hp} {ι : List Addr} {S : Sto} {H : Hp} {x : D} {xs : List D} {vx : V} {vs : List V} {w : VV} {S' : Sto}, Rep G F ι S H → RD G F ι x vx → RDs G F ι xs vs → f x xs S = some (w, S') → ∀ Q : VK,
  (∀ F' H' v, Rep G F' ι S' H' → Stx F ι H F' ι H' → RV G F' ι NoO H H' w v → Q v H') → r vx vs H Q
def eBM (ok : D → Sto → Bool) (f : D → List D → Sto → Option (VV × Sto)) (o : EM) (a : AM) : EM := fun ρ S => (eD o ρ S).bind fun p => if ok p.1 p.2 = true then (a ρ p.2).bind fun q => f p.1 q.1 q.2 else none
def isLstD (x : D) (S : Sto) : Bool := (lstD x S).isSome
def isStrD (x : D) (_ : Sto) : Bool := match x with
  | .str _ => true
  | _ => false
theorem ty_lst {x : D} {v : V} (r : Rep G F ι S H) (h : RD G F ι x v) (e : isLstD x S = true) : tyV G.K "list" v H := by
  obtain ⟨ds, hd⟩ := Option.isSome_iff_exists.mp e
  obtain ⟨a, vs, rfl, h1, _⟩ := lst_get r h hd
  exact .inl ⟨rfl, _, SqL.of h1⟩
theorem ty_dict {x : D} {v : V} (r : Rep G F ι S H) (h : RD G F ι x v) (e : isDD x S = true) : tyV G.K "dict" v H := by
  obtain ⟨a, rfl, _, h1⟩ := isD_of r h e
  exact .inr (.inr (.inl ⟨rfl, h1⟩))
theorem ty_str {x : D} {v : V} (r : Rep G F ι S H) (h : RD G F ι x v) (e : isStrD x S = true) : tyV G.K "str" v H := by
  cases x with
  | str z => simp only [RD] at h; subst h; exact rfl
  | _ => cases e
theorem snd_bm {T : String} {ok : D → Sto → Bool} {r : V → List V → Hp → VK → Prop} {f : D → List D → Sto → Option (VV × Sto)} {to : TE} {mo : EM} {t : TA} {m : AM}
    (hT : ∀ {F : Hp} {ι : List Addr} {S : Sto} {H : Hp} {x : D} {v : V}, Rep G F ι S H → RD G F ι x v → ok x S = true → tyV G.K T v H) (hr : SndM G r f) (ho : SndV G to mo) (ha : SndA G t m) : SndV G (tBM G.K T r to t) (eBM ok f mo m) := by
  intro F ι S ρ σ H w S' s e Q k
  unfold eBM at e
  obtain ⟨⟨x, S1⟩, e1, e⟩ := Option.bind_eq_some_iff.mp e
  dsimp only at e
  split at e
  · rename_i hz
    obtain ⟨⟨ds, S2⟩, e2, e⟩ := Option.bind_eq_some_iff.mp e
    refine snd_d ho s e1 _ fun F1 ι1 H1 vx s1 p1 rx => ⟨hT s1.rep rx hz, ?_⟩
    refine ha s1 e2 _ fun F2 ι2 H2 vs s2 p2 rs => ?_
    have pp := p1.trans p2
    exact hr s2.rep (rx.mono p2.exF p2.pre) rs e Q fun F3 H3 v r3 p3 rv => k F3 ι2 H3 v (s2.after r3 p3).1 (pp.trans p3) (rv.back pp.back)
  · cases e
theorem snd_bm0 {T : String} {ok : D → Sto → Bool} {r : V → List V → Hp → VK → Prop} {f : D → List D → Sto → Option (VV × Sto)} {to : TE} {mo : EM}
    (hT : ∀ {F : Hp} {ι : List Addr} {S : Sto} {H : Hp} {x : D} {v : V}, Rep G F ι S H → RD G F ι x v → ok x S = true → tyV G.K T v H) (hr : SndM G r f) (ho : SndV G to mo) : SndV G (tBM0 G.K T r to) (eBM ok f mo aNil) := by
  intro F ι S ρ σ H w S' s e Q k
  unfold eBM at e
  obtain ⟨⟨x, S1⟩, e1, e⟩ := Option.bind_eq_some_iff.mp e
  dsimp only at e
  split at e
  · rename_i hz
    obtain ⟨⟨ds, S2⟩, e2, e⟩ := Option.bind_eq_some_iff.mp e
    cases e2
    refine snd_d ho s e1 _ fun F1 ι1 H1 vx s1 p1 rx => ⟨hT s1.rep rx hz, ?_⟩
    exact hr s1.rep rx (rds_nil.mpr rfl) e Q fun F3 H3 v r3 p3 rv => k F3 ι1 H3 v (s1.after r3 p3).1 (p1.trans p3) (rv.back p1.back)
  · cases e
theorem snd_tM1 {r : V → List V → Hp → VK → Prop} {f : D → List D → Sto → Option (VV × Sto)} {to : TE} {mo : EM} (hr : SndM G r f) (ho : SndV G to mo) (ha : SndV G te me) : SndV G (tM1 r to te) (eBM isStrD f mo (aCons me aNil)) := by
  intro F ι S ρ σ H w S' s e Q k
  unfold eBM at e
  obtain ⟨⟨x, S1⟩, e1, e⟩ := Option.bind_eq_some_iff.mp e
  dsimp only at e
  split at e
  · rename_i hz
    obtain ⟨⟨ds, S2⟩, e2, e⟩ := Option.bind_eq_some_iff.mp e
    obtain ⟨⟨d, S3⟩, e3, e2⟩ := Option.bind_eq_some_iff.mp (show ((eD me ρ S1).bind fun p => (aNil ρ p.2).map fun q => (p.1 :: q.1, q.2)) = some (ds, S2) from e2)
    cases e2
    refine snd_d ho s e1 _ fun F1 ι1 H1 vx s1 p1 rx => ⟨?_, ?_⟩
    · cases x with
      | str z => simp only [RD] at rx; exact ⟨z, rx⟩
      | _ => cases hz
    · refine snd_d ha s1 e3 _ fun F2 ι2 H2 v2 s2 p2 r2 => ?_
      have pp := p1.trans p2
      exact hr s2.rep (rx.mono p2.exF p2.pre) (RDs.one r2) e Q fun F3 H3 v r3 p3 rv => k F3 ι2 H3 v (s2.after r3 p3).1 (pp.trans p3) (rv.back pp.back)
  · cases e
def cellL (x : D) (S : Sto) : Option (Nat × List D) := match x with
  | .ref n => match S[n]? with
    | some (.lst ds) => some (n, ds)
    | _ => none
  | _ => none
theorem cellL_get {x : D} {v : V} {n : Nat} {ds : List D} (r : Rep G F ι S H) (h : RD G F ι x v) (e : cellL x S = some (n, ds)) : ∃ a vs, v = .ref a ∧ ι[n]? = some a ∧ S[n]? = some (.lst ds) ∧ H a = some (.lst vs) ∧ RDs G F ι ds vs := by
  cases x with
  | ref m =>
    simp only [RD] at h
    obtain ⟨b, rfl, hb⟩ := h
    simp only [cellL] at e
    split at e
    · rename_i es hn
      cases e
      obtain ⟨a, o, h1, h2, vs, rfl, h3⟩ := r.cell _ _ hn
      rw [hb] at h1
      cases h1
      exact ⟨_, vs, rfl, hb, hn, h2, h3⟩
    · cases e
  | _ => cases e
/-- a method that leaves another list, and tells data -/
theorem cell_done {n : Nat} {ds ds' : List D} {a : Addr} {vs' : List V} (r : Rep G F ι S H) (h1 : ι[n]? = some a) (h2 : S[n]? = some (.lst ds)) (h : RDs G F ι ds' vs') : Rep G F ι (S.set n (.lst ds')) (upd H a (.lst vs')) ∧ Stx F ι H F ι (upd H a (.lst vs')) :=
  r.put h1 h2 rfl ⟨_, rfl, h⟩
def mApp : D → List D → Sto → Option (VV × Sto) := fun x xs S => match xs with
  | [y] => (cellL x S).bind fun p => if szOk p.2.length then some (.d .non, S.set p.1 (.lst (p.2 ++ [y]))) else none
  | _ => none
theorem snd_mApp : SndM G rAppend mApp := by
  intro F ι S H x xs vx vs w S' r rx rs e Q k
  unfold mApp at e
  split at e
  · rename_i y
    obtain ⟨⟨n, ds⟩, e1, e⟩ := Option.bind_eq_some_iff.mp e
    dsimp only at e
    split at e
    · rename_i hz
      cases e
      obtain ⟨a, us, rfl, h1, h2, h3, h4⟩ := cellL_get r rx e1
      obtain ⟨u, r', rfl, q1, q2⟩ := rds_cons.mp rs
      rw [rds_nil] at q2
      subst q2
      obtain ⟨r2, p2⟩ := cell_done r h1 h2 (h4.app (RDs.one q1))
      exact ⟨a, us, u, rfl, rfl, h3, by rw [← h4.len]; exact szOk_lt hz, k F _ _ r2 p2 (by simp only [RV, RD])⟩
    · cases e
  · cases e
def mExt : D → List D → Sto → Option (VV × Sto) := fun x xs S => match xs with
  | [y] => (cellL x S).bind fun p => (lstD y S).bind fun es => if szOk (p.2.length + es.length) then some (.d .non, S.set p.1 (.lst (p.2 ++ es))) else none
  | _ => none
theorem snd_mExt : SndM G rExtend mExt := by
  intro F ι S H x xs vx vs w S' r rx rs e Q k
  unfold mExt at e
  split at e
  · rename_i y
    obtain ⟨⟨n, ds⟩, e1, e⟩ := Option.bind_eq_some_iff.mp e
    obtain ⟨es, e2, e⟩ := Option.bind_eq_some_iff.mp e
    dsimp only at e
    split at e
    · rename_i hz
      cases e
      obtain ⟨a, us, rfl, h1, h2, h3, h4⟩ := cellL_get r rx e1
      obtain ⟨u, r', rfl, q1, q2⟩ := rds_cons.mp rs
      rw [rds_nil] at q2
      subst q2
      obtain ⟨b, zs, rfl, g1, g2⟩ := lst_get r q1 e2
      obtain ⟨r2, p2⟩ := cell_done r h1 h2 (h4.app g2)
      exact ⟨a, b, us, zs, rfl, rfl, h3, g1, by rw [← h4.len, ← g2.len]; exact szOk_le hz, k F _ _ r2 p2 (by simp only [RV, RD])⟩
    · cases e
  · cases e
def mClr : D → List D → Sto → Option (VV × Sto) := fun x xs S => match xs with
  | [] => (cellL x S).map fun p => (.d .non, S.set p.1 (.lst []))
  | _ => none
theorem snd_mClr : SndM G rClear mClr := by
  intro F ι S H x xs vx vs w S' r rx rs e Q k
  unfold mClr at e
  split at e
  · obtain ⟨⟨n, ds⟩, e1, e⟩ := Option.map_eq_some_iff.mp e
    cases e
    obtain ⟨a, us, rfl, h1, h2, h3, h4⟩ := cellL_get r rx e1
    rw [rds_nil] at rs
    subst rs
    obtain ⟨r2, p2⟩ := cell_done r h1 h2 (rds_nil.mpr rfl)
    exact ⟨a, us, rfl, rfl, h3, k F _ _ r2 p2 (by simp only [RV, RD])⟩
  · cases e
def mPopAt : D → List D → Sto → Option (VV × Sto) := fun x xs S => match xs with
  | [.int i] => (cellL x S).bind fun p => if smallI i then (seqIndex? i p.2.length).bind fun k => (p.2[k]?).map fun y => (.d y, S.set p.1 (.lst (p.2.eraseIdx k))) else none
  | _ => none
theorem snd_mPopAt : SndM G rPopAt mPopAt := by
  intro F ι S H x xs vx vs w S' r rx rs e Q k
  unfold mPopAt at e
  split at e
  · rename_i i
    obtain ⟨⟨n, ds⟩, e1, e⟩ := Option.bind_eq_some_iff.mp e
    dsimp only at e
    split at e
    · rename_i hz
      obtain ⟨kk, e2, e⟩ := Option.bind_eq_some_iff.mp e
      obtain ⟨y, e3, e⟩ := Option.map_eq_some_iff.mp e
      cases e
      obtain ⟨a, us, rfl, h1, h2, h3, h4⟩ := cellL_get r rx e1
      obtain ⟨u, r', rfl, q1, q2⟩ := rds_cons.mp rs
      rw [rds_nil] at q2
      subst q2
      simp only [RD] at q1
      subst q1
      obtain ⟨v, g1, g2⟩ := h4.get e3
      obtain ⟨z1, z2⟩ := smallI_iff hz
      obtain ⟨r2, p2⟩ := cell_done r h1 h2 (h4.erase kk)
      exact ⟨a, us, i, kk, v, rfl, rfl, h3, z1, z2, by rw [← h4.len]; exact e2, g1, k F _ _ r2 p2 g2⟩
    · cases e
  · cases e
def idxF (y : D) : List D → Option Nat
  | [] => none
  | z :: r => if eqF z y = true then some 0 else (idxF y r).map (· + 1)
def mIdx : D → List D → Sto → Option (VV × Sto) := fun x xs S => match xs with
  | [y] => (lstD x S).bind fun ds => if flatD y && ds.all flatD then (idxF y ds).map fun j => (.d (.int (j : Nat)), S) else none
  | _ => none
theorem idxF_spec {y : D} : ∀ {ds : List D} {j : Nat}, idxF y ds = some j → (∃ z, ds[j]? = some z ∧ eqF z y = true) ∧ ∀ m z, m < j → ds[m]? = some z → eqF z y = false
  | [], j, e => by cases e
  | z :: r, j, e => by
    unfold idxF at e
    split at e
    · rename_i h
      cases e
      exact ⟨⟨z, rfl, h⟩, fun m _ hm => absurd hm (Nat.not_lt_zero m)⟩
    · rename_i h
      obtain ⟨k, e1, rfl⟩ := Option.map_eq_some_iff.mp e
      obtain ⟨⟨u, h1, h2⟩, h3⟩ := idxF_spec e1
      refine ⟨⟨u, by simpa using h1, h2⟩, fun m v hm hv => ?_⟩
      cases m with
      | zero =>
        have : z = v := by simpa using hv
        subst this
        simpa using h
      | succ m => exact h3 m v (by omega) (by simpa using hv)
theorem snd_mIdx : SndM G (rIndex G.K) mIdx := by
  intro F ι S H x xs vx vs w S' r rx rs e Q k
  unfold mIdx at e
  split at e
  · rename_i y
    obtain ⟨ds, e1, e⟩ := Option.bind_eq_some_iff.mp e
    split at e
    · rename_i hz
      obtain ⟨j, e2, e⟩ := Option.map_eq_some_iff.mp e
      cases e
      obtain ⟨f1, f2⟩ := Bool.and_eq_true_iff.mp hz
      obtain ⟨a, us, rfl, h1, h4⟩ := lst_get r rx e1
      obtain ⟨u, r', rfl, q1, q2⟩ := rds_cons.mp rs
      rw [rds_nil] at q2
      subst q2
      obtain ⟨⟨z, g1, g2⟩, g3⟩ := idxF_spec e2
      obtain ⟨v, g4, g5⟩ := h4.get g1
      have flat_at : ∀ {m : Nat} {z : D}, ds[m]? = some z → flatD z = true := fun h => List.all_eq_true.mp f2 _ (List.mem_of_getElem? h)
      refine ⟨a, us, u, j, v, rfl, rfl, SqL.of h1, flat_of q1 f1, (inF_of q1 f1 h4 f2).1, g4, by rw [eqF_of g5 q1 (flat_at g1) f1]; exact g2, fun m z' hm hz' => ?_, k F H _ r .refl (by simp only [RV, RD])⟩
      obtain ⟨d, q3, q4⟩ := h4.getV hz'
      rw [eqF_of q4 q1 (flat_at q3) f1]
      exact g3 m d hm q3
    · cases e
  · cases e
/-! ### what is walked -/
def iSeq (K : PySem.W.Frag) (tl : TE) : TI := fun σ H R => tl σ H fun x H1 => ∃ a, x = .ref a ∧ (((∃ xs, SqL K H1 a xs) ∧ R (Itl K a) H1) ∨ ((∃ xs, SqT K H1 a xs) ∧ R (Itt K a) H1))
theorem pi_seq {X : Cx} {tg l : Expr} {tl : TE} (hl : PE X l tl) : L2.PI X tg l (iSeq X.K tl) := by
  refine ⟨fun pins s σ H R I h => ?_⟩
  refine thn (hl.run pins s σ H _ I h) fun v s1 ⟨x, H1, I1, r1, q1⟩ => ?_
  obtain ⟨a, e, q1⟩ := q1
  subst e
  cases r1
  rcases q1 with ⟨⟨xs, hq⟩, q⟩ | ⟨⟨xs, hq⟩, q⟩
  · obtain ⟨its, rv, p, hz⟩ := I1.list hq
    refine wpAny_pyIter_list p.isList ?_
    refine ⟨s1.heap.objs.size, [s1.heap.objs.size], _, _, H1, rfl, I1.kept (t' := s1.toks) fun b o e => Heap.get?_push_of_some _ e, turn_list a _, ⟨_, Heap.get?_push_size _ rfl, rfl, rfl⟩, fun b hb => ?_, q⟩
    have e : b = s1.heap.objs.size := by simpa using hb
    subst e
    exact I1.fpOk (Nat.le_refl _) (I1.hok.fresh (Nat.le_refl _))
  · obtain ⟨its, rv, p, hz⟩ := I1.tuple hq
    refine wpAny_pyIter_tuple (show s1.heap.IsTuple a its.toArray from p) ?_
    refine ⟨s1.heap.objs.size, [s1.heap.objs.size], _, _, H1, rfl, I1.kept (t' := s1.toks) fun b o e => Heap.get?_push_of_some _ e, turn_tuple a _, ⟨_, Heap.get?_push_size _ rfl, rfl, rfl⟩, fun b hb => ?_, q⟩
    have e : b = s1.heap.objs.size := by simpa using hb
    subst e
    exact I1.fpOk (Nat.le_refl _) (I1.hok.fresh (Nat.le_refl _))
/-- settled sequences -/
def stD : D → Option (List D)
  | .tp _ ds => some ds
  | .fl ds => some ds
  | .lk ns => some (ns.map .int)
  | _ => none
/-- for a settled sequence: its address, as it stays -/
theorem st_get {x : D} {ds : List D} {v : V} (h : RD G F ι x v) (e : stD x = some ds) : ∃ a vs, v = .ref a ∧ ((SqL G.K F a vs) ∨ SqT G.K F a vs) ∧ RDs G F ι ds vs := by
  cases x <;> simp only [stD] at e <;> cases e
  · simp only [RD] at h
    obtain ⟨a, vs, e, h1, _, h2⟩ := h
    exact ⟨a, vs, e, .inr h1, h2⟩
  · simp only [RD] at h
    obtain ⟨a, vs, e, h1, h2⟩ := h
    exact ⟨a, vs, e, .inl (SqL.of h1), h2⟩
  · simp only [RD] at h
    obtain ⟨a, e, h1⟩ := h
    exact ⟨a, _, e, .inl h1, rds_ints.mpr rfl⟩
theorem itl_ok {a : Addr} {vs : List V} {ds : List D} (h : SqL G.K F a vs) (rd : RDs G F ι ds vs) : ItL G F ι H (Itl G.K a) ds := by
  intro F1 ι1 S1 H1 e p _ r i
  have h1 : SqL G.K H1 a vs := sql_ex r.ex (sql_ex e h)
  refine ⟨fun d hd => ?_, fun hi => ⟨vs, h1, by rw [← rd.len]; exact hi⟩⟩
  obtain ⟨v, q1, q2⟩ := rd.get hd
  refine ⟨⟨vs, v, h1, q1⟩, fun x H2 y => ?_⟩
  obtain ⟨rfl, y⟩ := y
  have := y vs h1
  rw [q1] at this
  cases this
  exact ⟨F1, r, .refl, q2.mono e p⟩
theorem itt_ok {a : Addr} {vs : List V} {ds : List D} (h : SqT G.K F a vs) (rd : RDs G F ι ds vs) : ItL G F ι H (Itt G.K a) ds := by
  intro F1 ι1 S1 H1 e p _ r i
  have h1 : SqT G.K H1 a vs := sqt_ex r.ex (sqt_ex e h)
  refine ⟨fun d hd => ?_, fun hi => ⟨vs, h1, by rw [← rd.len]; exact hi⟩⟩
  obtain ⟨v, q1, q2⟩ := rd.get hd
  refine ⟨⟨vs, v, h1, q1⟩, fun x H2 y => ?_⟩
  obtain ⟨rfl, y⟩ := y
  have := y vs h1
  rw [q1] at this
  cases this
  exact ⟨F1, r, .refl, q2.mono e p⟩
def iEv (m : EM) : AM := fun ρ S => (eD m ρ S).bind fun p => (stD p.1).map fun ds => (ds, p.2)
theorem snd_iseq (h : SndV G te me) : SndI G (iSeq G.K te) (iEv me) := by
  intro F ι S ρ σ H ds S' s e R k
  unfold iEv at e
  obtain ⟨⟨x, S1⟩, e1, e⟩ := Option.bind_eq_some_iff.mp e
  obtain ⟨ds', e2, e⟩ := Option.map_eq_some_iff.mp e
  cases e
  refine snd_d h s e1 _ fun F1 ι1 H1 v s1 p1 r => ?_
  obtain ⟨a, vs, rfl, h1, h2⟩ := st_get r e2
  refine ⟨a, rfl, ?_⟩
  rcases h1 with h1 | h1
  · exact .inl ⟨⟨vs, sql_ex s1.rep.ex h1⟩, k F1 ι1 H1 _ s1 p1 (itl_ok h1 h2)⟩
  · exact .inr ⟨⟨vs, sqt_ex s1.rep.ex h1⟩, k F1 ι1 H1 _ s1 p1 (itt_ok h1 h2)⟩
def rngL (lo : Int) (n : Nat) : List D := (List.range n).map fun i => .int (lo + (i : Nat))
theorem itr_ok {lo : Int} {n : Nat} : ItL G F ι H (Itr lo n) (rngL lo n) := by
  intro F1 ι1 S1 H1 e p _ r i
  unfold rngL
  refine ⟨fun d hd => ?_, fun hi => (show n ≤ i by simpa using hi)⟩
  rw [List.getElem?_map] at hd
  obtain ⟨j, h1, rfl⟩ := Option.map_eq_some_iff.mp hd
  have hi : i < n := by
    have := (List.getElem?_eq_some_iff.mp h1).1
    simpa using this
  have ej : j = i := by
    rw [List.getElem?_range hi] at h1
    exact (Option.some.inj h1).symm
  subst ej
  refine ⟨hi, fun x H2 y => ?_⟩
  obtain ⟨rfl, rfl⟩ := y
  exact ⟨F1, r, .refl, by simp only [RD]⟩
def smallR (i : Int) : Bool := decide (-(2 ^ 62) ≤ i) && decide (i < 2 ^ 62)
theorem smallR_iff {i : Int} (h : smallR i = true) : -(2 ^ 62) ≤ i ∧ i < 2 ^ 62 := by
  unfold smallR at h
  rw [Bool.and_eq_true] at h
  exact ⟨of_decide_eq_true h.1, of_decide_eq_true h.2⟩
def iR1 (a : AM) : AM := fun ρ S => (a ρ S).bind fun p => match p.1 with
  | [.int j] => if smallR j then some (rngL 0 j.toNat, p.2) else none
  | _ => none
theorem snd_ir1 {t : TA} {m : AM} (h : SndA G t m) : SndI G (iRng1 t) (iR1 m) := by
  intro F ι S ρ σ H ds S' s e R k
  unfold iR1 at e
  obtain ⟨⟨xs, S1⟩, e1, e⟩ := Option.bind_eq_some_iff.mp e
  dsimp only at e
  split at e
  · rename_i j
    split at e
    · rename_i hz
      cases e
      refine h s e1 _ fun F1 ι1 H1 vs s1 p1 r => ?_
      obtain ⟨v, r', rfl, q1, q2⟩ := rds_cons.mp r
      rw [rds_nil] at q2
      subst q2
      simp only [RD] at q1
      subst q1
      obtain ⟨z1, z2⟩ := smallR_iff hz
      exact ⟨_, rfl, z1, z2, k F1 ι1 H1 _ s1 p1 itr_ok⟩
    · cases e
  · cases e
def iR2 (a : AM) : AM := fun ρ S => (a ρ S).bind fun p => match p.1 with
  | [.int i, .int j] => if smallR i && smallR j then some (rngL i (j - i).toNat, p.2) else none
  | _ => none
theorem snd_ir2 {t : TA} {m : AM} (h : SndA G t m) : SndI G (iRng2 t) (iR2 m) := by
  intro F ι S ρ σ H ds S' s e R k
  unfold iR2 at e
  obtain ⟨⟨xs, S1⟩, e1, e⟩ := Option.bind_eq_some_iff.mp e
  dsimp only at e
  split at e
  · rename_i i j
    split at e
    · rename_i hz
      cases e
      refine h s e1 _ fun F1 ι1 H1 vs s1 p1 r => ?_
      obtain ⟨v, r', rfl, q1, q2⟩ := rds_cons.mp r
      obtain ⟨u, r'', rfl, q3, q4⟩ := rds_cons.mp q2
      rw [rds_nil] at q4
      subst q4
      simp only [RD] at q1 q3
      subst q1 q3
      obtain ⟨y1, y2⟩ := Bool.and_eq_true_iff.mp hz
      obtain ⟨z1, z2⟩ := smallR_iff y1
      obtain ⟨z3, z4⟩ := smallR_iff y2
      exact ⟨_, _, rfl, ⟨z1, z2, z3, z4⟩, k F1 ι1 H1 _ s1 p1 itr_ok⟩
    · cases e
  · cases e
/-- enumerate of a settled list -/
def enumL : Nat → List D → List D
  | _, [] => []
  | i, d :: r => .tup [.int (i : Nat), d] :: enumL (i + 1) r
theorem enumL_get : ∀ {ds : List D} {j i : Nat}, (enumL j ds)[i]? = (ds[i]?).map fun d => D.tup [.int ((j + i : Nat) : Int), d]
  | [], j, i => by simp [enumL]
  | d :: r, j, 0 => by simp [enumL]
  | d :: r, j, i + 1 => by
    simp only [enumL, List.getElem?_cons_succ]
    rw [enumL_get, show j + 1 + i = j + (i + 1) by omega]
theorem enumL_len : ∀ {ds : List D} {j : Nat}, (enumL j ds).length = ds.length
  | [], _ => rfl
  | d :: r, j => by simp only [enumL, List.length_cons]; rw [enumL_len]
def lsD : D → Option (List D)
  | .fl ds => some ds
  | .lk ns => some (ns.map .int)
  | _ => none
def iEn (a : AM) : AM := fun ρ S => (a ρ S).bind fun p => match p.1 with
  | [x] => (lsD x).map fun ds => (enumL 0 ds, p.2)
  | _ => none
theorem ite_ok {a : Addr} {vs : List V} {ds : List D} (h : SqL G.K F a vs) (rd : RDs G F ι ds vs) : ItL G F ι H (Ite G.K a) (enumL 0 ds) := by
  intro F1 ι1 S1 H1 e p _ r i
  have h1 : SqL G.K H1 a vs := sql_ex r.ex (sql_ex e h)
  refine ⟨fun d hd => ?_, fun hi => ⟨vs, h1, by rw [← rd.len]; rw [enumL_len] at hi; exact hi⟩⟩
  rw [enumL_get] at hd
  obtain ⟨d', hd', rfl⟩ := Option.map_eq_some_iff.mp hd
  obtain ⟨v, q1, q2⟩ := rd.get hd'
  refine ⟨⟨vs, v, h1, q1⟩, fun x H2 y => ?_⟩
  obtain ⟨T, u, rfl, hT, rfl, y⟩ := y
  have := y vs h1
  rw [q1] at this
  cases this
  obtain ⟨r2, p2⟩ := r.newF (o := .tup [.int (i : Nat), v]) hT
  refine ⟨_, r2, p2, ?_⟩
  simp only [RD]
  refine ⟨T, _, rfl, SqT.of upd_same, .inl upd_same, rds_cons.mpr ⟨_, _, rfl, by simp only [RD]; rw [Nat.zero_add], RDs.one ((q2.mono e p).mono p2.exF p2.pre)⟩⟩
theorem snd_ien {t : TA} {m : AM} (h : SndA G t m) : SndI G (iEnum G.K t) (iEn m) := by
  intro F ι S ρ σ H ds S' s e R k
  unfold iEn at e
  obtain ⟨⟨xs, S1⟩, e1, e⟩ := Option.bind_eq_some_iff.mp e
  dsimp only at e
  split at e
  · rename_i x
    obtain ⟨ds', e2, e⟩ := Option.map_eq_some_iff.mp e
    cases e
    refine h s e1 _ fun F1 ι1 H1 vs s1 p1 r => ?_
    obtain ⟨v, r', rfl, q1, q2⟩ := rds_cons.mp r
    rw [rds_nil] at q2
    subst q2
    have hx : ∃ a vs, v = .ref a ∧ SqL G.K F1 a vs ∧ RDs G F1 ι1 ds' vs := by
      cases x <;> simp only [lsD] at e2 <;> cases e2
      · simp only [RD] at q1
        obtain ⟨a, vs, e, h1, h2⟩ := q1
        exact ⟨a, vs, e, SqL.of h1, h2⟩
      · simp only [RD] at q1
        obtain ⟨a, e, h1⟩ := q1
        exact ⟨a, _, e, h1, rds_ints.mpr rfl⟩
    obtain ⟨a, us, rfl, h1, h2⟩ := hx
    exact ⟨a, us, rfl, sql_ex s1.rep.ex h1, k F1 ι1 H1 _ s1 p1 (ite_ok h1 h2)⟩
  · cases e
end
end Yi
/-! Loops over cells, walks of locked dicts, built-in calls, over states. -/
namespace Yi
open PySem L2
section
variable {G : Gm} {F F' H H' : Hp} {ι ι' : List Addr} {S S' : Sto} {ρ ρ' : Slt} {σ σ' : St} {ta tb tc te td ty tx : TE} {ma mb mc me md my mx : EM} {tt tu : TT} {mt mu : BM}
/-! ### loops over a cell, as it stands at each turn -/
def ItC (G : Gm) (n : Nat) (mk : Nat → D → D) (F : Hp) (ι : List Addr) (J : It) : Prop := ∀ {F1 : Hp} {ι1 : List Addr} {S1 : Sto} {H1 : Hp}, Same F F1 → Pre ι ι1 → Rep G F1 ι1 S1 H1 → ∀ (i : Nat) (ds : List D), S1[n]? = some (.lst ds) →
  (∀ d, ds[i]? = some d → J.go i H1 ∧ ∀ x H2, J.yld i H1 x H2 → ∃ F2, Rep G F2 ι1 S1 H2 ∧ Stx F1 ι1 H1 F2 ι1 H2 ∧ RD G F2 ι1 (mk i d) x) ∧ (ds.length ≤ i → J.stop i H1)
def SndIC (G : Gm) (wi : TI) (m : Slt → Sto → Option (Nat × Sto)) (mk : Nat → D → D) : Prop := ∀ {F : Hp} {ι : List Addr} {S : Sto} {ρ : Slt} {σ : St} {H : Hp} {n : Nat} {S' : Sto}, Sta G F ι S ρ σ H → m ρ S = some (n, S') → ∀ R : It → Hp → Prop,
  (∀ F' ι' H' J, Sta G F' ι' S' ρ σ H' → Stx F ι H F' ι' H' → ItC G n mk F' ι' J → R J H') → wi σ H R
def forC (n : Nat) (mk : Nat → D → D) (g : TM) (b : SM) : Nat → Nat → SM
  | 0, _, _, _ => none
  | k + 1, i, ρ, S => match S[n]? with
    | some (.lst ds) => match ds[i]? with
      | none => some (.nx, ρ, S)
      | some d => (g (mk i d) ρ).bind fun ρ1 => (b ρ1 S).bind fun p => match p.1 with
        | .nx => forC n mk g b k (i + 1) p.2.1 p.2.2
        | .ct => forC n mk g b k (i + 1) p.2.1 p.2.2
        | .bk => some (.nx, p.2.1, p.2.2)
        | .rt v => some (.rt v, p.2.1, p.2.2)
    | _ => none
def lenC (n : Nat) (S : Sto) : Nat := match S[n]? with
  | some (.lst ds) => ds.length
  | _ => 0
def sForC (i : Slt → Sto → Option (Nat × Sto)) (mk : Nat → D → D) (g : TM) (b : SM) : SM := fun ρ S => (i ρ S).bind fun p => forC p.1 mk g b (lenC p.1 p.2 + 1) 0 ρ p.2
theorem snd_forC {wi : TI} {mi : Slt → Sto → Option (Nat × Sto)} {mk : Nat → D → D} {g : TG} {mg : TM} {vs : List Nat} {tb : TS} {mb : SM} (hi : SndIC G wi mi mk) (hg : SndG G g mg vs) (hb : SndS G tb mb) : SndS G (tFor wi g tb) (sForC mi mk mg mb) := by
  intro F ι S ρ σ H fl ρ' S' s e W k
  unfold sForC at e
  obtain ⟨⟨n, S1⟩, e1, e⟩ := Option.bind_eq_some_iff.mp e
  dsimp only at e
  refine hi s e1 _ fun F1 ι1 H1 J s1 p1 hJ => ?_
  have k1 := k.later (stx_own (O := OwnA ρ σ) p1)
  refine ⟨fun i m σ2 H2 => ∃ F2 ι2 S2 ρ2, Sta G F2 ι2 S2 ρ2 σ2 H2 ∧ Stp F1 ι1 (OwnA ρ σ) H1 F2 ι2 (OwnA ρ2 σ2) H2 ∧ forC n mk mg mb m i ρ2 S2 = some (fl, ρ', S'), ⟨lenC n S1 + 1, F1, ι1, S1, ρ, s1, .refl, e⟩, ?_⟩
  rintro i m σ2 H2 ⟨F2, ι2, S2, ρ2, s2, p2, e2⟩
  cases m with
  | zero => cases e2
  | succ m =>
    unfold forC at e2
    split at e2
    · rename_i ds hn
      obtain ⟨j1, j2⟩ := hJ p2.exF p2.pre s2.rep i ds hn
      split at e2
      · rename_i hd
        cases e2
        exact .inl ⟨j2 (List.getElem?_eq_none_iff.mp hd), k1 F2 ι2 σ2 H2 s2 p2⟩
      · rename_i d hd
        obtain ⟨ρ3, e3, e2⟩ := Option.bind_eq_some_iff.mp e2
        obtain ⟨⟨f4, ρ4, S4⟩, e4, e2⟩ := Option.bind_eq_some_iff.mp e2
        obtain ⟨go, yl⟩ := j1 d hd
        refine .inr ⟨go, fun σ' H' => ∃ F2 ι2 S2 ρ2, Sta G F2 ι2 S2 ρ2 σ' H' ∧ Stp F1 ι1 (OwnA ρ σ) H1 F2 ι2 (OwnA ρ2 σ') H' ∧ forC n mk mg mb m (i + 1) ρ2 S2 = some (fl, ρ', S'), fun σ' H' h => ⟨m, Nat.lt_succ_self m, h⟩, fun x H3 y => ?_⟩
        obtain ⟨F3, r3, p3, rd⟩ := yl x H3 y
        have s3 := (s2.after r3 p3).1
        have pp : Stp F1 ι1 (OwnA ρ σ) H1 F3 ι2 (OwnA ρ2 σ2) H3 := p2.trans (stx_own p3)
        refine hg s3 rd e3 _ fun σ4 s4 o4 _ => ?_
        have p4 : Stp F1 ι1 (OwnA ρ σ) H1 F3 ι2 (OwnA ρ3 σ4) H3 := pp.trans (Stp.same o4)
        refine hb s4 e4 _ ?_
        cases f4 with
        | nx => exact fun F5 ι5 σ5 H5 s5 p5 => ⟨F5, ι5, S4, ρ4, s5, p4.trans p5, e2⟩
        | ct => exact fun F5 ι5 σ5 H5 s5 p5 => ⟨F5, ι5, S4, ρ4, s5, p4.trans p5, e2⟩
        | bk => cases e2; exact fun F5 ι5 σ5 H5 s5 p5 => k1 F5 ι5 σ5 H5 s5 (p4.trans p5)
        | rt v => cases e2; exact k1.later p4
    · cases e2
def compC (n : Nat) (mk : Nat → D → D) (g : TM) (c : BM) (m : EM) (ρ : Slt) : Nat → Nat → List D → Sto → Option (List D × Sto)
  | 0, _, _, _ => none
  | k + 1, i, ys, S => match S[n]? with
    | some (.lst ds) => match ds[i]? with
      | none => some (ys, S)
      | some d => (g (mk i d) ρ).bind fun ρ1 => (c ρ1 S).bind fun p => if p.1 = true then (eD m ρ1 p.2).bind fun q => if szOk ys.length then compC n mk g c m ρ k (i + 1) (ys ++ [q.1]) q.2 else none else compC n mk g c m ρ k (i + 1) ys p.2
    | _ => none
def eLcC (i : Slt → Sto → Option (Nat × Sto)) (mk : Nat → D → D) (g : TM) (c : BM) (m : EM) (vs : List Nat) : EM := fun ρ S => (i ρ S).bind fun p => (compC p.1 mk g c m (wipeS ρ vs) (lenC p.1 p.2 + 1) 0 [] p.2).map fun q => (.own (.lst q.1), q.2)
theorem keepNew {C : Addr} {Fa : Hp} {ιa : List Addr} {Ha : Hp} {Fb : Hp} {ιb : List Addr} {Hb : Hp} {o : HO} (p : Stx Fa ιa Ha Fb ιb Hb) (h1 : Ha C = some o) (hnt : NT o) (h2 : Fa C = none) (h3 : C ∉ ιa) : Hb C = some o ∧ Fb C = none ∧ C ∉ ιb := by
  have hne : Ha C ≠ none := by rw [h1]; exact fun z => by cases z
  refine ⟨p.fr C _ h1 h3 (fun z => z) hnt, ?_, fun z => ?_⟩
  · refine Classical.byContradiction fun z => ?_
    rcases p.nF C z with q | q | q
    · exact q h2
    · exact hne q
    · exact q
  · rcases p.nI C z with q | q | q
    · exact h3 q
    · exact hne q
    · exact q
/-- an object that nobody holds is written -/
theorem Rep.wr {C : Addr} {o' : HO} (r : Rep G F ι S H) (h2 : F C = none) (h3 : C ∉ ι) (hT : ∀ ps, H C ≠ some (.tbl ps)) : Rep G F ι S (upd H C o') := by
  refine ⟨fun a o h => ?_, fun n c h => ?_, r.len, r.nd, r.sep, fun p hp => (r.tb p hp).wr (Same.refl _) hT⟩
  · rw [upd_ne (ne_of_none h h2)]; exact r.ex a o h
  · obtain ⟨a, o, q1, q2, q3⟩ := r.cell n c h
    exact ⟨a, o, q1, by rw [upd_ne fun z => h3 (by rw [← z]; exact List.mem_of_getElem? q1)]; exact q2, q3⟩
theorem Stp.wr {C : Addr} {o' : HO} {F0 H0 : Hp} {ι0 : List Addr} (p : Stx F0 ι0 H0 F ι H) (hC : H0 C = none) : Stx F0 ι0 H0 F ι (upd H C o') := by
  refine ⟨p.exF, p.pre, fun a o h1 h2 h3 h4 => ?_, p.nF, p.nI, fun _ z => z.elim, fun a h => ?_, fun a ob u h => ?_⟩
  · rw [upd_ne (ne_of_none h1 hC)]; exact p.fr a o h1 h2 h3 h4
  · by_cases ha : a = C
    · subst ha; rw [upd_same]; exact fun z => by cases z
    · rw [upd_ne ha]; exact p.dom a h
  · rw [upd_ne (ne_of_none h hC)]; exact p.fz a ob u h
theorem snd_lcC {wi : TI} {mi : Slt → Sto → Option (Nat × Sto)} {mk : Nat → D → D} {g : TG} {mg : TM} {ws vs : List Nat} (hi : SndIC G wi mi mk) (hg : SndG G g mg ws) (ht : SndT G tt mt) (he : SndV G te me) (hw : ∀ i ∈ ws, i ∈ vs) : SndV G (tLc wi g tt te vs) (eLcC mi mk mg mt me vs) := by
  intro F ι S ρ σ H w S' s e Q k
  unfold eLcC at e
  obtain ⟨⟨n, S1⟩, e1, e⟩ := Option.bind_eq_some_iff.mp e
  obtain ⟨⟨ys, S2⟩, e2, e⟩ := Option.map_eq_some_iff.mp e
  cases e
  refine hi s e1 _ fun F1 ι1 H1 J s1 p1 hJ => fun C hC => ?_
  have n1 : F1 C = none := s1.rep.noF hC
  have n2 : C ∉ ι1 := s1.rep.noI hC
  obtain ⟨r0, q0⟩ := s1.rep.newO (o := .lst []) hC
  refine ⟨fun i m H2 => ∃ F2 ι2 S3 acc zs, Rep G F2 ι2 S3 H2 ∧ Stx F1 ι1 H1 F2 ι2 H2 ∧ H2 C = some (.lst acc) ∧ RDs G F2 ι2 zs acc ∧ F2 C = none ∧ C ∉ ι2 ∧ compC n mk mg mt me (wipeS ρ vs) m i zs S3 = some (ys, S2),
    ⟨lenC n S1 + 1, F1, ι1, S1, [], [], r0, q0, upd_same, rds_nil.mpr rfl, n1, n2, e2⟩, ?_⟩
  rintro i m H2 ⟨F2, ι2, S3, acc, zs, r2, p2, hc, rz, c1, c2, e3⟩
  cases m with
  | zero => cases e3
  | succ m =>
    unfold compC at e3
    split at e3
    · rename_i ds hn
      obtain ⟨j1, j2⟩ := hJ p2.exF p2.pre r2 i ds hn
      split at e3
      · rename_i hd
        cases e3
        refine .inl ⟨j2 (List.getElem?_eq_none_iff.mp hd), ?_⟩
        have pp := p1.trans p2
        exact k F2 ι2 H2 _ (s.after r2 pp).1 pp ⟨C, _, rfl, hc, ⟨acc, rfl, rz⟩, c1, c2, .inr (p1.back C hC)⟩
      · rename_i d hd
        obtain ⟨ρ3, e4, e3⟩ := Option.bind_eq_some_iff.mp e3
        obtain ⟨⟨b, S4⟩, e5, e3⟩ := Option.bind_eq_some_iff.mp e3
        obtain ⟨go, yl⟩ := j1 d hd
        refine .inr ⟨go, fun H' => ∃ F2 ι2 S3 acc zs, Rep G F2 ι2 S3 H' ∧ Stx F1 ι1 H1 F2 ι2 H' ∧ H' C = some (.lst acc) ∧ RDs G F2 ι2 zs acc ∧ F2 C = none ∧ C ∉ ι2 ∧ compC n mk mg mt me (wipeS ρ vs) m (i + 1) zs S3 = some (ys, S2), fun H' h => ⟨m, Nat.lt_succ_self m, h⟩, fun x H3 y => ?_⟩
        obtain ⟨F3, r3, p3, rd⟩ := yl x H3 y
        have s3 : Sta G F3 ι2 S3 ρ σ H3 := (s1.after r3 (p2.trans p3)).1
        obtain ⟨hc3, c3, d3⟩ := keepNew p3 hc (fun _ z => nomatch z) c1 c2
        refine hg (s3.wipe (vs := vs)) rd e4 _ fun σ4 s4 o4 on4 => ⟨wipe_only on4 hw, ?_⟩
        refine ht s4 e5 _ fun F5 ι5 H5 s5 p5 => ?_
        obtain ⟨hc5, c5, d5⟩ := keepNew p5 hc3 (fun _ z => nomatch z) c3 d3
        cases b with
        | true =>
          rw [if_pos rfl]
          dsimp only at e3
          rw [if_pos rfl] at e3
          obtain ⟨⟨yd, S6⟩, e6, e3⟩ := Option.bind_eq_some_iff.mp e3
          dsimp only at e3
          split at e3
          · rename_i hz
            refine snd_d he s5 e6 _ fun F6 ι6 H6 v6 s6 p6 r6 => ?_
            obtain ⟨hc6, c6, d6⟩ := keepNew p6 hc5 (fun _ z => nomatch z) c5 d5
            have pp := ((p2.trans p3).trans p5).trans p6
            have rz6 : RDs G F6 ι6 zs acc := rz.mono ((p3.trans p5).trans p6).exF ((p3.trans p5).trans p6).pre
            exact ⟨acc, hc6, by rw [← rz6.len]; exact szOk_lt hz, F6, ι6, S6, acc ++ [v6], zs ++ [yd], s6.rep.wr c6 d6 (fun ps z => by rw [hc6] at z; cases z), pp.wr hC, upd_same, rz6.app (RDs.one r6), c6, d6, e3⟩
          · cases e3
        | false =>
          rw [if_neg Bool.false_ne_true]
          dsimp only at e3
          rw [if_neg Bool.false_ne_true] at e3
          exact ⟨F5, ι5, S4, acc, zs, s5.rep, (p2.trans p3).trans p5, hc5, rz.mono (p3.trans p5).exF (p3.trans p5).pre, c5, d5, e3⟩
    · cases e3
def iC (m : EM) : Slt → Sto → Option (Nat × Sto) := fun ρ S => (eD m ρ S).bind fun p => match p.1 with
  | .ref n => match p.2[n]? with
    | some (.lst _) => some (n, p.2)
    | _ => none
  | _ => none
theorem iC_some {n : Nat} (h : iC me ρ S = some (n, S')) : eD me ρ S = some (.ref n, S') ∧ ∃ ds, S'[n]? = some (.lst ds) := by
  unfold iC at h
  obtain ⟨⟨x, S1⟩, e1, e⟩ := Option.bind_eq_some_iff.mp h
  match x, e with
  | .ref m, e =>
    dsimp only at e
    split at e
    · rename_i ds hn
      cases e
      exact ⟨e1, ds, hn⟩
    · cases e
def mkI : Nat → D → D := fun _ d => d
def mkE : Nat → D → D := fun i d => .tup [.int (i : Nat), d]
theorem snd_iC (h : SndV G te me) : SndIC G (iSeq G.K te) (iC me) mkI := by
  intro F ι S ρ σ H n S' s e R k
  obtain ⟨e1, ds0, hn0⟩ := iC_some e
  refine snd_d h s e1 _ fun F1 ι1 H1 v s1 p1 r => ?_
  simp only [RD] at r
  obtain ⟨a, rfl, ha⟩ := r
  obtain ⟨a', o, h1, h2, vs0, rfl, h3⟩ := s1.rep.cell n _ hn0
  rw [ha] at h1
  cases h1
  refine ⟨_, rfl, .inl ⟨⟨vs0, SqL.of h2⟩, k F1 ι1 H1 _ s1 p1 ?_⟩⟩
  intro F2 ι2 S2 H2 e2 p2 r2 i ds hn
  obtain ⟨b, o, g1, g2, vs, rfl, g3⟩ := r2.cell n _ hn
  rw [pre_get p2 ha] at g1
  cases g1
  refine ⟨fun d hd => ?_, fun hi => ⟨vs, SqL.of g2, by rw [← g3.len]; exact hi⟩⟩
  obtain ⟨v, q1, q2⟩ := g3.get hd
  refine ⟨⟨vs, v, SqL.of g2, q1⟩, fun x H3 y => ?_⟩
  obtain ⟨rfl, y⟩ := y
  have := y vs (SqL.of g2)
  rw [q1] at this
  cases this
  exact ⟨F2, r2, .refl, q2⟩
theorem snd_iCE (h : SndV G te me) : SndIC G (iEnum G.K (tCons te tNil)) (iC me) mkE := by
  intro F ι S ρ σ H n S' s e R k
  obtain ⟨e1, ds0, hn0⟩ := iC_some e
  refine snd_d h s e1 _ fun F1 ι1 H1 v s1 p1 r => ?_
  simp only [RD] at r
  obtain ⟨a, rfl, ha⟩ := r
  obtain ⟨a', o, h1, h2, vs0, rfl, h3⟩ := s1.rep.cell n _ hn0
  rw [ha] at h1
  cases h1
  refine ⟨_, vs0, rfl, SqL.of h2, k F1 ι1 H1 _ s1 p1 ?_⟩
  intro F2 ι2 S2 H2 e2 p2 r2 i ds hn
  obtain ⟨b, o, g1, g2, vs, rfl, g3⟩ := r2.cell n _ hn
  rw [pre_get p2 ha] at g1
  cases g1
  refine ⟨fun d hd => ?_, fun hi => ⟨vs, SqL.of g2, by rw [← g3.len]; exact hi⟩⟩
  obtain ⟨v, q1, q2⟩ := g3.get hd
  refine ⟨⟨vs, v, SqL.of g2, q1⟩, fun x H3 y => ?_⟩
  obtain ⟨T, u, rfl, hT, rfl, y⟩ := y
  have := y vs (SqL.of g2)
  rw [q1] at this
  cases this
  obtain ⟨r3, p3⟩ := r2.newF (o := .tup [.int (i : Nat), v]) hT
  refine ⟨_, r3, p3, ?_⟩
  simp only [RD, mkE]
  exact ⟨T, _, rfl, SqT.of upd_same, .inl upd_same, rds_cons.mpr ⟨_, _, rfl, by simp only [RD], RDs.one (q2.mono p3.exF p3.pre)⟩⟩
/-! ### a dict is locked while a comprehension walks it -/
/-- m walks the dict that is the cell n -/
def eLock (n : Slt → Sto → Option Nat) (m : EM) : EM := fun ρ S => (n ρ S).bind fun n => match S[n]? with
  | some (.dk kvs) => (m ρ (S.set n (.lk kvs))).bind fun p => match p.2[n]? with
    | some (.lk kvs') => if p.2.length = S.length then some (p.1, p.2.set n (.dk kvs)) else none
    | _ => none
  | _ => none
theorem snd_lock {nn : Slt → Sto → Option Nat} (h : SndV G te me) : SndV G (tLockE te) (eLock nn me) := by
  intro F ι S ρ σ H w S' s e Q k
  unfold eLock at e
  obtain ⟨n, e1, e⟩ := Option.bind_eq_some_iff.mp e
  split at e
  · rename_i kvs hn
    obtain ⟨⟨u, S1⟩, e2, e⟩ := Option.bind_eq_some_iff.mp e
    dsimp only at e
    split at e
    · rename_i kvs' hn'
      split at e
      · rename_i hlen
        cases e
        obtain ⟨a, o, h1, h2, kv, rfl, h3⟩ := s.rep.cell n _ hn
        refine ⟨a, .dK kv, h2, trivial, fun od => ?_⟩
        have hm : a ∈ ι := List.mem_of_getElem? h1
        obtain ⟨r2, p2⟩ := s.rep.put h1 hn rfl (c' := .lk kvs) (o' := .frz od (.dK kv)) ⟨od, kv, rfl, h3⟩
        have s2 := (s.after r2 p2).1
        refine h s2 e2 _ fun F3 ι3 H3 v s3 p3 rv => ?_
        have hz : H3 a = some (.frz od (.dK kv)) := p3.fz a _ _ upd_same
        refine ⟨hz, ?_⟩
        have hι : ι3 = ι := by
          have l1 := s3.rep.len
          have l2 := s.rep.len
          obtain ⟨t, ht⟩ := p3.pre
          have : t = [] := by
            apply List.eq_nil_of_length_eq_zero
            have := congrArg List.length ht
            rw [List.length_append] at this
            omega
          rw [this, List.append_nil] at ht
          exact ht.symm
        have hm3 : ι3[n]? = some a := pre_get p3.pre h1
        have nF3 : F3 a = none := s3.rep.sep a (List.mem_of_getElem? hm3)
        have rk : RKs G F3 ι3 kvs kv := h3.mono p3.exF p3.pre
        -- unlocked
        have r4 : Rep G F3 ι3 (S1.set n (.dk kvs)) (upd H3 a (.dK kv)) := by
          refine ⟨fun b o q => ?_, fun m c q => ?_, by rw [List.length_set]; exact s3.rep.len, s3.rep.nd, s3.rep.sep, fun p' hp' => (s3.rep.tb p' hp').wr (Same.refl _) fun ps z => by rw [hz] at z; cases z⟩
          · rw [upd_ne (ne_of_none q nF3)]; exact s3.rep.ex b o q
          · by_cases hmn : m = n
            · subst hmn
              have hl : m < S1.length := by rw [← s3.rep.len]; exact (List.getElem?_eq_some_iff.mp hm3).1
              rw [List.getElem?_set_self hl] at q
              cases q
              exact ⟨a, _, hm3, upd_same, kv, rfl, rk⟩
            · rw [List.getElem?_set_ne (Ne.symm hmn)] at q
              obtain ⟨b, o, q1, q2, q3⟩ := s3.rep.cell m c q
              have hb : b ≠ a := fun z => by
                subst z
                obtain ⟨l1, e1⟩ := List.getElem?_eq_some_iff.mp q1
                obtain ⟨l2, e2⟩ := List.getElem?_eq_some_iff.mp hm3
                exact hmn ((List.getElem_inj s3.rep.nd).mp (e1.trans e2.symm))
              exact ⟨b, o, q1, by rw [upd_ne hb]; exact q2, q3⟩
        have p4 : Stx F ι H F3 ι3 (upd H3 a (.dK kv)) := by
          have pp := p2.trans p3
          refine ⟨pp.exF, pp.pre, fun b o q1 q2 q3 q4 => ?_, pp.nF, pp.nI, fun _ z => z.elim, fun b q => ?_, fun b ob u q => ?_⟩
          · rw [upd_ne fun z => q2 (by rw [z]; exact hm)]; exact pp.fr b o q1 q2 q3 q4
          · by_cases z : b = a
            · subst z; rw [upd_same]; exact fun z => by cases z
            · rw [upd_ne z]; exact pp.dom b q
          · have hb : b ≠ a := fun z => by subst z; rw [h2] at q; cases q
            rw [upd_ne hb]; exact pp.fz b ob u q
        refine k F3 ι3 _ v (s.after r4 p4).1 p4 ?_
        cases w with
        | d x => exact rv
        | own c =>
          obtain ⟨b, o, g1, g2, g3, g4, g5, g6⟩ := rv
          have hb : b ≠ a := fun z => g5 (by rw [z]; exact List.mem_of_getElem? hm3)
          exact ⟨b, o, g1, by rw [upd_ne hb]; exact g2, g3, g4, g5, .inr (p2.back b (none_noO.mp g6))⟩
      · cases e
    · cases e
  · cases e
def keyD : Key → D
  | .inl i => .int i
  | .inr s => .str s
theorem rd_key (k : Key) : RD G F ι (keyD k) (kV k) := by cases k <;> simp only [keyD, RD] <;> rfl
/-- the cell of a locked dict -/
def iLk (f : List (Key × D) → List D) (m : EM) : AM := fun ρ S => (eD m ρ S).bind fun p => match p.1 with
  | .ref n => match p.2[n]? with
    | some (.lk kvs) => some (f kvs, p.2)
    | _ => none
  | _ => none
def itemsL (kvs : List (Key × D)) : List D := kvs.map fun p => .tup [keyD p.1, p.2]
def valsL (kvs : List (Key × D)) : List D := kvs.map fun p => p.2
theorem rks_get {κ : Type} : ∀ {kvs : List (κ × D)} {kv : List (κ × V)}, RKs G F ι kvs kv → ∀ {i : Nat} {p : κ × D}, kvs[i]? = some p → ∃ v, kv[i]? = some (p.1, v) ∧ RD G F ι p.2 v
  | [], _, _, i, p, e => by simp at e
  | (k, d) :: r, kv, h, 0, p, e => by
    obtain ⟨v, r', rfl, h1, h2⟩ := h
    have : (k, d) = p := by simpa using e
    subst this
    exact ⟨v, rfl, h1⟩
  | (k, d) :: r, kv, h, i + 1, p, e => by
    obtain ⟨v, r', rfl, h1, h2⟩ := h
    obtain ⟨u, q1, q2⟩ := rks_get h2 (i := i) (p := p) (by simpa using e)
    exact ⟨u, by simpa using q1, q2⟩
theorem snd_items (h : SndV G te me) : SndI G (iItems te) (iLk itemsL me) := by
  intro F ι S ρ σ H ds S' s e R k
  unfold iLk at e
  obtain ⟨⟨x, S1⟩, e1, e⟩ := Option.bind_eq_some_iff.mp e
  match x, e with
  | .ref n, e =>
    dsimp only at e
    split at e
    · rename_i kvs hn
      cases e
      refine snd_d h s e1 _ fun F1 ι1 H1 v s1 p1 r => ?_
      simp only [RD] at r
      obtain ⟨a, rfl, ha⟩ := r
      obtain ⟨b, o, h1, h2, ob, kv, rfl, h3⟩ := s1.rep.cell n _ hn
      rw [ha] at h1
      cases h1
      refine ⟨_, ob, kv, rfl, h2, k F1 ι1 H1 _ s1 p1 ?_⟩
      intro F2 ι2 S2 H2 ee pp fz r2 i
      have g := fz _ _ _ h2
      refine ⟨fun d hd => ?_, fun hi => ⟨g, by rw [← rks_len h3]; simpa [itemsL] using hi⟩⟩
      unfold itemsL at hd
      rw [List.getElem?_map] at hd
      obtain ⟨p, hp, rfl⟩ := Option.map_eq_some_iff.mp hd
      obtain ⟨v, q1, q2⟩ := rks_get h3 hp
      refine ⟨⟨g, (List.getElem?_eq_some_iff.mp q1).1⟩, fun x H3 y => ?_⟩
      obtain ⟨T, kk, u, g1, rfl, hT, rfl⟩ := y
      rw [q1] at g1
      cases g1
      obtain ⟨r3, p3⟩ := r2.newF (o := .tup [kV p.1, v]) hT
      refine ⟨_, r3, p3, ?_⟩
      simp only [RD]
      exact ⟨T, _, rfl, SqT.of upd_same, .inl upd_same, rds_cons.mpr ⟨_, _, rfl, rd_key _, RDs.one ((q2.mono ee pp).mono p3.exF p3.pre)⟩⟩
    · cases e
/-! ### built-in calls -/
theorem SndRL.or1 {r r' : List V → Hp → VK → Prop} {f : List D → Sto → Option VV} (h : SndRL G r f) : SndRL G (fun xs H Q => r xs H Q ∨ r' xs H Q) f := by
  intro F ι S H xs vs w q rs e Q k
  exact .inl (h q rs e Q k)
theorem rds_1 {d : D} {vs : List V} (h : RDs G F ι [d] vs) : ∃ v, vs = [v] ∧ RD G F ι d v := by
  obtain ⟨v, r, rfl, h1, h2⟩ := rds_cons.mp h
  rw [rds_nil] at h2
  subst h2
  exact ⟨v, rfl, h1⟩
theorem rds_2 {d e : D} {vs : List V} (h : RDs G F ι [d, e] vs) : ∃ v u, vs = [v, u] ∧ RD G F ι d v ∧ RD G F ι e u := by
  obtain ⟨v, r, rfl, h1, h2⟩ := rds_cons.mp h
  obtain ⟨u, rfl, h3⟩ := rds_1 h2
  exact ⟨v, u, rfl, h1, h3⟩
theorem call_lenA {X : Cx} : CallR X (.builtin "len") (fun xs H Q => (∃ x n, xs = [x] ∧ LenV X.K x H n ∧ Q (.int n) H) ∨ ∃ a kvs, xs = [V.ref a] ∧ H a = some (.dK kvs) ∧ Q (.int kvs.length) H) := call_len.or call_lenD
def fLen : List D → Sto → Option VV := fun xs S => match xs with
  | [.str z] => if szOk z.length then some (.d (.int (z.length : Nat))) else none
  | [x] => (seqD x S).map fun ds => .d (.int (ds.length : Nat))
  | _ => none
theorem snd_len : SndRL G (fun xs H Q => (∃ x n, xs = [x] ∧ LenV G.K x H n ∧ Q (.int n) H) ∨ ∃ a kvs, xs = [V.ref a] ∧ H a = some (.dK kvs) ∧ Q (.int kvs.length) H) fLen := by
  intro F ι S H xs vs w r rs e Q k
  unfold fLen at e
  split at e
  · rename_i z
    split at e
    · rename_i hz
      cases e
      obtain ⟨v, rfl, h1⟩ := rds_1 rs
      simp only [RD] at h1
      subst h1
      exact .inl ⟨_, _, rfl, ⟨szOk_le hz, rfl⟩, k F H _ r .refl (by simp only [RV, RD])⟩
    · cases e
  · obtain ⟨ds, e1, e⟩ := Option.map_eq_some_iff.mp e
    cases e
    obtain ⟨v, rfl, h1⟩ := rds_1 rs
    obtain ⟨a, us, rfl, h2, h3⟩ := seq_get r h1 e1
    refine .inl ⟨_, ds.length, rfl, ?_, k F H _ r .refl (by simp only [RV, RD])⟩
    rcases h2 with h2 | h2
    · exact .inl ⟨us, h2, h3.len⟩
    · exact .inr ⟨us, h2, h3.len⟩
  · cases e
def oLen (i : Nat) : EM := fun ρ S => match ρ[i]? with
  | some (some (.own (.lst ds))) => some (.d (.int (ds.length : Nat)), S)
  | _ => none
theorem snd_oLen {i : Nat} : SndV G (tCB (fun xs H Q => (∃ x n, xs = [x] ∧ LenV G.K x H n ∧ Q (.int n) H) ∨ ∃ a kvs, xs = [V.ref a] ∧ H a = some (.dK kvs) ∧ Q (.int kvs.length) H) (tCons (tVar i) tNil)) (oLen i) := by
  intro F ι S ρ σ H w S' s e Q k
  unfold oLen at e
  split at e
  · rename_i ds hi
    cases e
    obtain ⟨a, vs, h1, h2, h3⟩ := s.ownL hi
    exact ⟨.ref a, h1, .inl ⟨_, ds.length, rfl, .inl ⟨vs, SqL.of h2, h3.len⟩, k F ι H _ s .refl (by simp only [RV, RD])⟩⟩
  · cases e
def intsD : List D → Option (List Int)
  | [] => some []
  | .int i :: r => (intsD r).map fun ns => i :: ns
  | _ => none
theorem intsD_eq : ∀ {ds : List D} {ns : List Int}, intsD ds = some ns → ds = ns.map .int
  | [], ns, e => by cases e; rfl
  | d :: r, ns, e => by
    cases d with
    | int i =>
      obtain ⟨ms, e1, rfl⟩ := Option.map_eq_some_iff.mp (show (intsD r).map (fun ns => i :: ns) = some ns from e)
      rw [intsD_eq e1]
      rfl
    | _ => cases e
theorem intsD_map : ∀ ns : List Int, intsD (ns.map .int) = some ns
  | [] => rfl
  | n :: ns => by
    show (intsD (ns.map .int)).map (fun ms => n :: ms) = _
    rw [intsD_map ns]
    rfl
def blsD : List D → Option (List Bool)
  | [] => some []
  | .bl i :: r => (blsD r).map fun ns => i :: ns
  | _ => none
theorem blsD_eq : ∀ {ds : List D} {ns : List Bool}, blsD ds = some ns → ds = ns.map .bl
  | [], ns, e => by cases e; rfl
  | d :: r, ns, e => by
    cases d with
    | bl i =>
      obtain ⟨ms, e1, rfl⟩ := Option.map_eq_some_iff.mp (show (blsD r).map (fun ns => i :: ns) = some ns from e)
      rw [blsD_eq e1]
      rfl
    | _ => cases e
def maxI : Int → List Int → Int
  | m, [] => m
  | m, n :: r => maxI (if n > m then n else m) r
def minI : Int → List Int → Int
  | m, [] => m
  | m, n :: r => minI (if n < m then n else m) r
theorem maxI_spec : ∀ (ns : List Int) (m : Int), (maxI m ns = m ∨ maxI m ns ∈ ns) ∧ m ≤ maxI m ns ∧ ∀ y ∈ ns, y ≤ maxI m ns
  | [], m => ⟨.inl rfl, Int.le_refl _, fun y h => by simp at h⟩
  | n :: r, m => by
    obtain ⟨h1, h2, h3⟩ := maxI_spec r (if n > m then n else m)
    show (maxI (if n > m then n else m) r = m ∨ maxI (if n > m then n else m) r ∈ n :: r) ∧ m ≤ maxI (if n > m then n else m) r ∧ ∀ y ∈ n :: r, y ≤ maxI (if n > m then n else m) r
    generalize maxI (if n > m then n else m) r = X at h1 h2 h3 ⊢
    have hc : (if n > m then n else m) = n ∧ n > m ∨ (if n > m then n else m) = m ∧ ¬ n > m := by
      by_cases c : n > m
      · exact .inl ⟨if_pos c, c⟩
      · exact .inr ⟨if_neg c, c⟩
    refine ⟨?_, by omega, fun y hy => ?_⟩
    · rcases h1 with h | h
      · rcases hc with ⟨c, _⟩ | ⟨c, _⟩
        · rw [h, c]; exact .inr List.mem_cons_self
        · rw [h, c]; exact .inl rfl
      · exact .inr (List.mem_cons_of_mem _ h)
    · rcases List.mem_cons.mp hy with z | hy
      · omega
      · exact h3 y hy
theorem minI_spec : ∀ (ns : List Int) (m : Int), (minI m ns = m ∨ minI m ns ∈ ns) ∧ minI m ns ≤ m ∧ ∀ y ∈ ns, minI m ns ≤ y
  | [], m => ⟨.inl rfl, Int.le_refl _, fun y h => by simp at h⟩
  | n :: r, m => by
    obtain ⟨h1, h2, h3⟩ := minI_spec r (if n < m then n else m)
    show (minI (if n < m then n else m) r = m ∨ minI (if n < m then n else m) r ∈ n :: r) ∧ minI (if n < m then n else m) r ≤ m ∧ ∀ y ∈ n :: r, minI (if n < m then n else m) r ≤ y
    generalize minI (if n < m then n else m) r = X at h1 h2 h3 ⊢
    have hc : (if n < m then n else m) = n ∧ n < m ∨ (if n < m then n else m) = m ∧ ¬ n < m := by
      by_cases c : n < m
      · exact .inl ⟨if_pos c, c⟩
      · exact .inr ⟨if_neg c, c⟩
    refine ⟨?_, by omega, fun y hy => ?_⟩
    · rcases h1 with h | h
      · rcases hc with ⟨c, _⟩ | ⟨c, _⟩
        · rw [h, c]; exact .inr List.mem_cons_self
        · rw [h, c]; exact .inl rfl
      · exact .inr (List.mem_cons_of_mem _ h)
    · rcases List.mem_cons.mp hy with z | hy
      · omega
      · exact h3 y hy
theorem call_maxA {X : Cx} (hc : X.calm = true) : CallR X (.builtin "max") (fun xs H Q => (∃ i j, xs = [.int i, .int j] ∧ Q (.int (if j > i then j else i)) H) ∨ rMax X.K xs H Q) := (call_max2 hc).or (cr_max hc)
theorem call_minA {X : Cx} (hc : X.calm = true) : CallR X (.builtin "min") (fun xs H Q => (∃ i j, xs = [.int i, .int j] ∧ Q (.int (if j < i then j else i)) H) ∨ rMin X.K xs H Q) := (call_min2 hc).or (cr_min hc)
def fMax : List D → Sto → Option VV := fun xs S => match xs with
  | [.int i, .int j] => some (.d (.int (if j > i then j else i)))
  | [x] => (lstD x S).bind fun ds => (intsD ds).bind fun ns => match ns with
    | [] => none
    | n :: r => some (.d (.int (maxI n r)))
  | _ => none
def fMin : List D → Sto → Option VV := fun xs S => match xs with
  | [.int i, .int j] => some (.d (.int (if j < i then j else i)))
  | [x] => (lstD x S).bind fun ds => (intsD ds).bind fun ns => match ns with
    | [] => none
    | n :: r => some (.d (.int (minI n r)))
  | _ => none
theorem snd_max : SndRL G (fun xs H Q => (∃ i j, xs = [.int i, .int j] ∧ Q (.int (if j > i then j else i)) H) ∨ rMax G.K xs H Q) fMax := by
  intro F ι S H xs vs w r rs e Q k
  unfold fMax at e
  split at e
  · rename_i i j
    cases e
    obtain ⟨v, u, rfl, h1, h2⟩ := rds_2 rs
    simp only [RD] at h1 h2
    subst h1 h2
    exact .inl ⟨i, j, rfl, k F H _ r .refl (by simp only [RV, RD])⟩
  · obtain ⟨ds, e1, e⟩ := Option.bind_eq_some_iff.mp e
    obtain ⟨ns, e2, e⟩ := Option.bind_eq_some_iff.mp e
    obtain ⟨v, rfl, h1⟩ := rds_1 rs
    obtain ⟨a, us, rfl, h2, h3⟩ := lst_get r h1 e1
    rw [intsD_eq e2, rds_ints] at h3
    subst h3
    match ns, e with
    | n :: ms, e =>
      cases e
      refine .inr ⟨a, n :: ms, rfl, SqL.of h2, by simp, fun m hm hle => ?_⟩
      obtain ⟨g1, g2, g3⟩ := maxI_spec ms n
      have em : m = maxI n ms := by
        have hx : maxI n ms ∈ n :: ms := by
          rcases g1 with g | g
          · rw [g]; exact List.mem_cons_self
          · exact List.mem_cons_of_mem _ g
        have l1 := hle _ hx
        have l2 : m ≤ maxI n ms := by
          rcases List.mem_cons.mp hm with z | z
          · rw [z]; exact g2
          · exact g3 m z
        omega
      rw [em]
      exact k F H _ r .refl (by simp only [RV, RD])
  · cases e
theorem snd_min : SndRL G (fun xs H Q => (∃ i j, xs = [.int i, .int j] ∧ Q (.int (if j < i then j else i)) H) ∨ rMin G.K xs H Q) fMin := by
  intro F ι S H xs vs w r rs e Q k
  unfold fMin at e
  split at e
  · rename_i i j
    cases e
    obtain ⟨v, u, rfl, h1, h2⟩ := rds_2 rs
    simp only [RD] at h1 h2
    subst h1 h2
    exact .inl ⟨i, j, rfl, k F H _ r .refl (by simp only [RV, RD])⟩
  · obtain ⟨ds, e1, e⟩ := Option.bind_eq_some_iff.mp e
    obtain ⟨ns, e2, e⟩ := Option.bind_eq_some_iff.mp e
    obtain ⟨v, rfl, h1⟩ := rds_1 rs
    obtain ⟨a, us, rfl, h2, h3⟩ := lst_get r h1 e1
    rw [intsD_eq e2, rds_ints] at h3
    subst h3
    match ns, e with
    | n :: ms, e =>
      cases e
      refine .inr ⟨a, n :: ms, rfl, SqL.of h2, by simp, fun m hm hle => ?_⟩
      obtain ⟨g1, g2, g3⟩ := minI_spec ms n
      have em : m = minI n ms := by
        have hx : minI n ms ∈ n :: ms := by
          rcases g1 with g | g
          · rw [g]; exact List.mem_cons_self
          · exact List.mem_cons_of_mem _ g
        have l1 := hle _ hx
        have l2 : minI n ms ≤ m := by
          rcases List.mem_cons.mp hm with z | z
          · rw [z]; exact g2
          · exact g3 m z
        omega
      rw [em]
      exact k F H _ r .refl (by simp only [RV, RD])
  · cases e
def fAll : List D → Sto → Option VV := fun xs S => match xs with
  | [x] => (lstD x S).bind fun ds => (blsD ds).map fun bs => .d (.bl (bs.all id))
  | _ => none
def fAny : List D → Sto → Option VV := fun xs S => match xs with
  | [x] => (lstD x S).bind fun ds => (blsD ds).map fun bs => .d (.bl (bs.any id))
  | _ => none
theorem snd_all : SndRL G (rAll G.K) fAll := by
  intro F ι S H xs vs w r rs e Q k
  unfold fAll at e
  split at e
  · obtain ⟨ds, e1, e⟩ := Option.bind_eq_some_iff.mp e
    obtain ⟨ns, e2, e⟩ := Option.map_eq_some_iff.mp e
    cases e
    obtain ⟨v, rfl, h1⟩ := rds_1 rs
    obtain ⟨a, us, rfl, h2, h3⟩ := lst_get r h1 e1
    rw [blsD_eq e2, rds_bls] at h3
    subst h3
    exact ⟨a, ns, rfl, SqL.of h2, k F H _ r .refl (by simp only [RV, RD])⟩
  · cases e
theorem snd_any : SndRL G (rAny G.K) fAny := by
  intro F ι S H xs vs w r rs e Q k
  unfold fAny at e
  split at e
  · obtain ⟨ds, e1, e⟩ := Option.bind_eq_some_iff.mp e
    obtain ⟨ns, e2, e⟩ := Option.map_eq_some_iff.mp e
    cases e
    obtain ⟨v, rfl, h1⟩ := rds_1 rs
    obtain ⟨a, us, rfl, h2, h3⟩ := lst_get r h1 e1
    rw [blsD_eq e2, rds_bls] at h3
    subst h3
    exact ⟨a, ns, rfl, SqL.of h2, k F H _ r .refl (by simp only [RV, RD])⟩
  · cases e
def fSum : List D → Sto → Option VV := fun xs S => match xs with
  | [x] => (lstD x S).bind fun ds => (intsD ds).map fun ns => .d (.int ns.sum)
  | _ => none
theorem snd_sum : SndRL G (rSum G.K) fSum := by
  intro F ι S H xs vs w r rs e Q k
  unfold fSum at e
  split at e
  · obtain ⟨ds, e1, e⟩ := Option.bind_eq_some_iff.mp e
    obtain ⟨ns, e2, e⟩ := Option.map_eq_some_iff.mp e
    cases e
    obtain ⟨v, rfl, h1⟩ := rds_1 rs
    obtain ⟨a, us, rfl, h2, h3⟩ := lst_get r h1 e1
    rw [intsD_eq e2, rds_ints] at h3
    subst h3
    exact ⟨a, ns, rfl, SqL.of h2, k F H _ r .refl (by simp only [RV, RD])⟩
  · cases e
/-- sorted of ints -/
def insI (x : Int) : List Int → List Int
  | [] => [x]
  | y :: r => if x ≤ y then x :: y :: r else y :: insI x r
def sortI : List Int → List Int
  | [] => []
  | x :: r => insI x (sortI r)
theorem insI_perm (x : Int) : ∀ l : List Int, (insI x l).Perm (x :: l)
  | [] => .refl _
  | y :: r => by
    unfold insI
    split
    · exact .refl _
    · exact ((insI_perm x r).cons y).trans (.swap x y r)
theorem sortI_perm : ∀ l : List Int, (sortI l).Perm l
  | [] => .refl _
  | x :: r => (insI_perm x _).trans ((sortI_perm r).cons x)
theorem insI_sorted (x : Int) : ∀ {l : List Int}, l.Pairwise (· ≤ ·) → (insI x l).Pairwise (· ≤ ·)
  | [], _ => List.pairwise_singleton _ _
  | y :: r, h => by
    unfold insI
    obtain ⟨h1, h2⟩ := List.pairwise_cons.mp h
    split
    · rename_i hxy
      refine List.pairwise_cons.mpr ⟨fun z hz => ?_, h⟩
      rcases List.mem_cons.mp hz with rfl | hz
      · exact hxy
      · exact Int.le_trans hxy (h1 z hz)
    · rename_i hxy
      refine List.pairwise_cons.mpr ⟨fun z hz => ?_, insI_sorted x h2⟩
      rcases List.mem_cons.mp ((insI_perm x r).mem_iff.mp hz) with rfl | hz
      · omega
      · exact h1 z hz
theorem sortI_sorted : ∀ l : List Int, (sortI l).Pairwise (· ≤ ·)
  | [] => .nil
  | x :: r => insI_sorted x (sortI_sorted r)
theorem perm_sorted_eq : ∀ {l m : List Int}, l.Perm m → l.Pairwise (· ≤ ·) → m.Pairwise (· ≤ ·) → l = m
  | [], m, p, _, _ => (List.Perm.nil_eq p)
  | x :: l, [], p, _, _ => by have := p.length_eq; simp at this
  | x :: l, y :: m, p, h1, h2 => by
    obtain ⟨a1, a2⟩ := List.pairwise_cons.mp h1
    obtain ⟨b1, b2⟩ := List.pairwise_cons.mp h2
    have e : x = y := by
      have hx : x ∈ y :: m := p.mem_iff.mp List.mem_cons_self
      have hy : y ∈ x :: l := p.mem_iff.mpr List.mem_cons_self
      have l1 : y ≤ x := by
        rcases List.mem_cons.mp hx with z | z
        · omega
        · exact b1 x z
      have l2 : x ≤ y := by
        rcases List.mem_cons.mp hy with z | z
        · omega
        · exact a1 y z
      omega
    subst e
    rw [perm_sorted_eq (List.Perm.cons_inv p) a2 b2]
def fSortI : List D → Sto → Option VV := fun xs S => match xs with
  | [x] => (lstD x S).bind fun ds => (intsD ds).map fun ns => .own (.lst ((sortI ns).map .int))
  | _ => none
theorem snd_sortI : SndRL G (rSortedI G.K) fSortI := by
  intro F ι S H xs vs w r rs e Q k
  unfold fSortI at e
  split at e
  · obtain ⟨ds, e1, e⟩ := Option.bind_eq_some_iff.mp e
    obtain ⟨ns, e2, e⟩ := Option.map_eq_some_iff.mp e
    cases e
    obtain ⟨v, rfl, h1⟩ := rds_1 rs
    obtain ⟨a, us, rfl, h2, h3⟩ := lst_get r h1 e1
    rw [intsD_eq e2, rds_ints] at h3
    subst h3
    refine ⟨a, ns, rfl, SqL.of h2, fun ns' p hp hs hn => ?_⟩
    have en : ns' = sortI ns := perm_sorted_eq (hp.trans (sortI_perm ns).symm) hs (sortI_sorted ns)
    subst en
    obtain ⟨r2, p2⟩ := r.newO (o := .lst ((sortI ns).map V.int)) hn
    exact k F _ _ r2 p2 ⟨p, _, rfl, upd_same, ⟨_, rfl, rds_ints.mpr rfl⟩, r.noF hn, r.noI hn, .inr hn⟩
  · cases e
def fList : List D → Sto → Option VV := fun xs S => match xs with
  | [x] => (seqD x S).map fun ds => .own (.lst ds)
  | _ => none
theorem snd_list : SndRL G (fun xs H Q => ∃ p ys, xs = [.ref p] ∧ (SqL G.K H p ys ∨ SqT G.K H p ys) ∧ ∀ l, H l = none → Q (.ref l) (upd H l (.lst ys))) fList := by
  intro F ι S H xs vs w r rs e Q k
  unfold fList at e
  split at e
  · obtain ⟨ds, e1, e⟩ := Option.map_eq_some_iff.mp e
    cases e
    obtain ⟨v, rfl, h1⟩ := rds_1 rs
    obtain ⟨a, us, rfl, h2, h3⟩ := seq_get r h1 e1
    refine ⟨a, us, rfl, h2, fun l hl => ?_⟩
    obtain ⟨r2, p2⟩ := r.newO (o := .lst us) hl
    exact k F _ _ r2 p2 ⟨l, _, rfl, upd_same, ⟨_, rfl, h3⟩, r.noF hl, r.noI hl, .inr hl⟩
  · cases e
def fTuple : List D → Sto → Option VV := fun xs S => match xs with
  | [.tp b ds] => some (.d (.tp b ds))
  | [x] => (lstD x S).map fun ds => .d (.pt ds)
  | _ => none
theorem snd_tuple : SndRL G (fun xs H Q => ∃ p ys, xs = [.ref p] ∧ ((SqL G.K H p ys ∧ ∀ (l : Addr) (o : Obj), H l = none → o.dict = none → Q (.ref l) (upd H l (.frz o (.tup ys)))) ∨ (SqT G.K H p ys ∧ Q (.ref p) H))) fTuple := by
  intro F ι S H xs vs w r rs e Q k
  unfold fTuple at e
  split at e
  · rename_i ds
    cases e
    obtain ⟨v, rfl, h1⟩ := rds_1 rs
    obtain ⟨a, us, rfl, h2, h3⟩ := tup_get r h1
    exact ⟨a, us, rfl, .inr ⟨h2, k F H _ r .refl h1⟩⟩
  · obtain ⟨ds, e1, e⟩ := Option.map_eq_some_iff.mp e
    cases e
    obtain ⟨v, rfl, h1⟩ := rds_1 rs
    obtain ⟨a, us, rfl, h2, h3⟩ := lst_get r h1 e1
    refine ⟨a, us, rfl, .inl ⟨SqL.of h2, fun l o hl ho => ?_⟩⟩
    obtain ⟨r2, p2⟩ := r.newF (o := .frz o (.tup us)) hl
    refine k _ _ _ r2 p2 ?_
    simp only [RV, RD]
    exact ⟨l, _, rfl, .inl (.inr ⟨o, upd_same⟩), ⟨o, upd_same, ho⟩, h3.mono p2.exF p2.pre⟩
  · cases e
/-- int(..), str(..) -/
theorem call_intA {X : Cx} : CallR X (.type "int") (fun xs H Q => ((∃ i, xs = [.int i] ∧ Q (.int i) H) ∨ ∃ k, xs = [.bl k] ∧ Q (.int (if k then 1 else 0)) H) ∨ ∃ a n, xs = [.str a] ∧ PySem.intText? a = some n ∧ a.length ≤ 640 ∧ Q (.int n) H) := call_int1.or call_int_str
def fInt : List D → Sto → Option VV := fun xs _ => match xs with
  | [.int i] => some (.d (.int i))
  | [.bl b] => some (.d (.int (if b then 1 else 0)))
  | [.str a] => if a.length ≤ 640 then (PySem.intText? a).map fun n => .d (.int n) else none
  | _ => none
theorem snd_fint : SndRL G (fun xs H Q => ((∃ i, xs = [.int i] ∧ Q (.int i) H) ∨ ∃ k, xs = [.bl k] ∧ Q (.int (if k then 1 else 0)) H) ∨ ∃ a n, xs = [.str a] ∧ PySem.intText? a = some n ∧ a.length ≤ 640 ∧ Q (.int n) H) fInt := by
  intro F ι S H xs vs w r rs e Q k
  unfold fInt at e
  split at e
  · rename_i i
    cases e
    obtain ⟨v, rfl, h1⟩ := rds_1 rs
    simp only [RD] at h1
    subst h1
    exact .inl (.inl ⟨i, rfl, k F H _ r .refl (by simp only [RV, RD])⟩)
  · rename_i b
    cases e
    obtain ⟨v, rfl, h1⟩ := rds_1 rs
    simp only [RD] at h1
    subst h1
    exact .inl (.inr ⟨b, rfl, k F H _ r .refl (by simp only [RV, RD])⟩)
  · rename_i a
    split at e
    · rename_i hz
      obtain ⟨n, e1, e⟩ := Option.map_eq_some_iff.mp e
      cases e
      obtain ⟨v, rfl, h1⟩ := rds_1 rs
      simp only [RD] at h1
      subst h1
      exact .inr ⟨a, n, rfl, e1, hz, k F H _ r .refl (by simp only [RV, RD])⟩
    · cases e
  · cases e
def fStr : List D → Sto → Option VV := fun xs _ => match xs with
  | [.int i] => if i.natAbs < 2 ^ 100 then some (.d (.str (Str.ofString (toString i)))) else none
  | _ => none
theorem snd_fstr : SndRL G (fun xs H Q => ∃ i, xs = [.int i] ∧ i.natAbs.log2 < 1920 ∧ Q (.str (toString i)) H) fStr := by
  intro F ι S H xs vs w r rs e Q k
  unfold fStr at e
  split at e
  · rename_i i
    split at e
    · rename_i hz
      cases e
      obtain ⟨v, rfl, h1⟩ := rds_1 rs
      simp only [RD] at h1
      subst h1
      have : i.natAbs.log2 < 100 := PySem.Flt.log2_lt_of (by decide) hz
      exact ⟨i, rfl, by omega, k F H _ r .refl (by simp only [RV, RD])⟩
    · cases e
  · cases e
/-- divmod by a small positive divisor -/
def fDvm : List D → Sto → Option VV := fun xs _ => match xs with
  | [.int i, .int j] => if 0 < j ∧ j < 1073741824 then some (.d (.tup [.int (i / j), .int (i % j)])) else none
  | _ => none
theorem snd_dvm : SndRL G (fun xs H Q => ∃ i j, xs = [.int i, .int j] ∧ CDiv i j ∧ ∀ p, H p = none → Q (.ref p) (upd H p (.tup [.int (i / j), .int (i % j)]))) fDvm := by
  intro F ι S H xs vs w r rs e Q k
  unfold fDvm at e
  split at e
  · rename_i i j
    split at e
    · rename_i hz
      cases e
      obtain ⟨v, u, rfl, h1, h2⟩ := rds_2 rs
      simp only [RD] at h1 h2
      subst h1 h2
      refine ⟨i, j, rfl, hz, fun p hp => ?_⟩
      obtain ⟨r2, p2⟩ := r.newF (o := .tup [.int (i / j), .int (i % j)]) hp
      refine k _ _ _ r2 p2 ?_
      simp only [RV, RD]
      exact ⟨p, _, rfl, SqT.of upd_same, .inl upd_same, rds_cons.mpr ⟨_, _, rfl, by simp only [RD], RDs.one (by simp only [RD])⟩⟩
    · cases e
  · cases e
/-- isinstance -/
def tyD (x : D) (S : Sto) : Option String := match x with
  | .non => some "NoneType"
  | .bl _ => some "bool"
  | .int _ => some "int"
  | .str _ => some "str"
  | .tp _ _ => some "tuple"
  | .fl _ => some "list"
  | .ref n => match S[n]? with
    | some (.lst _) => some "list"
    | some (.dk _) => some "dict"
    | some (.dt _) => some "dict"
    | _ => none
  | _ => none
theorem tyD_of {x : D} {v : V} {T : String} (r : Rep G F ι S H) (h : RD G F ι x v) (e : tyD x S = some T) : TyX G.K H v (.type T) := by
  cases x with
  | non => cases e; simp only [RD] at h; subst h; exact .base .non
  | bl b => cases e; simp only [RD] at h; subst h; exact .base (.bl b)
  | int b => cases e; simp only [RD] at h; subst h; exact .base (.int b)
  | str b => cases e; simp only [RD] at h; subst h; exact .base (.str b)
  | tp b ds =>
    cases e
    obtain ⟨a, vs, rfl, h1, _, _⟩ := tup_get r h
    rcases h1 with (h1 | ⟨o, h1⟩) | ⟨o, its, n, h1, h2, _⟩
    · exact .base (.tup h1)
    · exact .fTuple h1
    · exact .kTuple h1 h2
  | fl ds =>
    cases e
    obtain ⟨a, vs, rfl, h1, _⟩ := lst_get (x := .fl ds) r h rfl
    exact .base (.lst h1)
  | ref n =>
    simp only [RD] at h
    obtain ⟨b, rfl, hb⟩ := h
    simp only [tyD] at e
    split at e
    · rename_i ds hn
      cases e
      obtain ⟨a, o, h1, h2, vs, rfl, h3⟩ := r.cell n _ hn
      rw [hb] at h1; cases h1
      exact .base (.lst h2)
    · rename_i ds hn
      cases e
      obtain ⟨a, o, h1, h2, vs, rfl, h3⟩ := r.cell n _ hn
      rw [hb] at h1; cases h1
      exact .base (.dK h2)
    · rename_i ds hn
      cases e
      obtain ⟨a, o, h1, h2, vs, rfl, h3⟩ := r.cell n _ hn
      rw [hb] at h1; cases h1
      exact .base (.dT h2)
    · cases e
  | _ => cases e
def fIsi : List D → Sto → Option VV := fun xs S => match xs with
  | [x, .ty U] => (tyD x S).bind fun T => (kitB T U).map fun b => .d (.bl b)
  | _ => none
theorem snd_isi : SndRL G (rIsi G.K) fIsi := by
  intro F ι S H xs vs w r rs e Q k
  unfold fIsi at e
  split at e
  · rename_i x U
    obtain ⟨T, e1, e⟩ := Option.bind_eq_some_iff.mp e
    obtain ⟨b, e2, e⟩ := Option.map_eq_some_iff.mp e
    cases e
    obtain ⟨v, u, rfl, h1, h2⟩ := rds_2 rs
    have h2' : u = .ty U := by simpa only [RD] using h2
    subst h2'
    exact ⟨v, .ty U, _, _, b, rfl, .ty U, tyD_of r h1 e1, kit_ty e2, k F H _ r .refl (by simp only [RV, RD])⟩
  · cases e
end
end Yi
/-! A def's promise of its meaning; the law's end; methods called by keywords. -/
namespace Yi
open PySem PySem.Spec L2
open PyProof.Rows (envOfC)
section
variable {P : Program} {w : World} {K : PySem.W.Frag} {mg : Str → Option Value} {base : Heap} {G : Gm}
/-- a def keeps the promise that its meaning is -/
theorem fn_I {x qual : Str} {st : Stmt} {f : Addr} {fd : FuncData} {N ps : List Str} {k : Nat} {m : SM} (F : Fun K x qual st f fd) (S : FnScope N ps (defScope st))
    (hb : ∀ (cdv : Value) (A : Around) (outer : List Env) (s : Shared) (H : Hp) (E : XK), Room k (A.deeper (envOfC qual (defScope st) s.heap.objs.size f cdv)) →
      ∃ t, PSs (cxOf CX0 P w K mg base N qual (defScope st) f cdv A outer s H E).nox (defBody st) t ∧ SndS G t m) :
    FnOk P w K mg base CX0 (k + 1) f fd ps (spI G ps.length (den N.length ps.length m)) := by
  refine F.ok S (fun vs H Q E h => h.1) fun cdv A outer s H vs Q E hr h => ?_
  obtain ⟨t, h1, h2⟩ := hb cdv A outer s H E hr
  exact ⟨t, h1, body_I h2 h⟩
/-- the law: its meaning at every script is True -/
def spLaw (K : PySem.W.Frag) : Sp := fun vs H Q _ => ∃ (a : Addr) (ns : List Int), vs = [.ref a] ∧ SqL K H a (ns.map V.int) ∧ ns.length ≤ 63 ∧ ∀ H', Q (.bl true) H'
theorem start_rep {H : Hp} (hT : G.tb = []) : Rep G H [] [] H := ⟨fun _ _ h => h, fun n c h => by simp at h, rfl, List.nodup_nil, fun a h => by simp at h, fun p h => by rw [hT] at h; cases h⟩
theorem law_I {x qual : Str} {st : Stmt} {f : Addr} {fd : FuncData} {N : List Str} {z : Str} {k : Nat} {m : SM} (hG : G.K = K) (F : Fun K x qual st f fd) (S : FnScope N [z] (defScope st))
    (hb : ∀ (cdv : Value) (A : Around) (outer : List Env) (s : Shared) (H : Hp) (E : XK), Room k (A.deeper (envOfC qual (defScope st) s.heap.objs.size f cdv)) →
      ∃ t, PSs (cxOf CX0 P w K mg base N qual (defScope st) f cdv A outer s H E).nox (defBody st) t ∧ SndS G t m)
    (pl : ∀ ns : List Int, ns.length ≤ 63 → ∃ S', den N.length 1 m [.lk ns] [] = some (.d (.bl true), S')) (hT : G.tb = [] := by rfl) :
    FnOk P w K mg base CX0 (k + 1) f fd [z] (spLaw K) := by
  refine F.ok S (fun vs H Q E ⟨a, ns, e, _⟩ => by rw [e]; rfl) fun cdv A outer s H vs Q E hr h => ?_
  obtain ⟨t, h1, h2⟩ := hb cdv A outer s H E hr
  obtain ⟨a, ns, rfl, hs, hl, q⟩ := h
  obtain ⟨S', e⟩ := pl ns hl
  refine ⟨t, h1, body_I (np := 1) (E := E) h2 ⟨rfl, H, [], [], [.lk ns], _, S', start_rep hT, ?_, e, fun F' ι' H' v r p rv => ?_⟩⟩
  · refine rds_cons.mpr ⟨_, _, rfl, ?_, rds_nil.mpr rfl⟩
    simp only [RD]
    exact ⟨a, rfl, by rw [hG]; exact hs⟩
  · simp only [RV, RD] at rv
    subst rv
    exact q H'
end
end Yi
set_option maxRecDepth 4000
/-! sorted(set(xs)), len(set(xs)) of a list of ints. -/
namespace Yi
open PySem PySem.Spec PyProof.Rows L2
/-- the set as it is made -/
def newS (w : World) : Obj := { cls := .type "set", dict := none, data := .set #[] 0 (.fresh 0 0 (!w.params.followText "set-order")) }
section
variable {P : Program} {w : World} {A : Around} {E : Value → Shared → Prop} {s : Shared}
/-- what a set of the list leaves -/
def SetLft (w : World) (s : Shared) (ns : List Int) (h' : Heap) (c : Nat) : Prop :=
  SetR w h' s.heap.objs.size (fun j => decide (j ∈ ns)) c ∧ c ≤ ns.length ∧ ∀ b o, s.heap.get? b = some o → h'.get? b = some o
set_option maxHeartbeats 3200000 in
theorem set_of_list {l : Addr} {xs : Array Value} (ns : List Int) {Q : Value → Shared → Prop} (hh : A.handled = none)
    (hl : s.heap.IsList l xs) (hit : IntsAre xs.toList ns) (hb : ns.length + 1 < scanBound)
    (h : ∀ (h' : Heap) (tk c : Nat), SetLft w s ns h' c → Q (.ref s.heap.objs.size) { s with heap := h', toks := tk }) :
    wpAny (model P w) A (call (.type "set") [.ref l]) Q E s := by
  have len : xs.size = ns.length := by
    have q := hit.length
    rwa [Array.length_toList] at q
  obtain ⟨mc, mt, mro⟩ := F.called_set.mro
  have made := F.called_set.made
  have sub := F.called_set.sub
  refine wpAny_call (codeAny_of_tree ?_)
  show wpAny _ _ (callAny (.type "set") _) _ _ _
  refine wpAny_pure ⟨Code.quiet_builtin _ (by decide +kernel),
    codeAny_builtin F.entry_type_call ?_⟩
  rw [Around.under_plain
    (weight_type_call_type "set" [.ref l] []) rfl]
  have a1 := F.called_set.notType
  have a2 := F.called_set.canCreate
  have a3 := F.typeCall_set_1 (.ref l)
  repeat (any_goals (first | assumption | wp_step))
  refine codeAny_mono (code_set_led1 (.ref l) (E := E)
    (Q₁ := fun ob z => ob = .ref s.heap.objs.size ∧ z = { s with heap := s.heap.push (newS w) }) ⟨rfl, rfl⟩) fun rr z hz => ?_
  cases rr with
  | error e => exact hz
  | ok f1 =>
  cases f1 with
  | ret ob =>
    obtain ⟨e1, e2⟩ := hz
    subst e1 e2
    have gS : (s.heap.push (newS w)).get? s.heap.objs.size = some (newS w) := Heap.get?_push_size _ rfl
    have ty : Shared.TypeIs { s with heap := s.heap.push (newS w) } (.ref s.heap.objs.size) "set" := ⟨_, gS, rfl⟩
    have b1 := F.called_set.init.lookup
    have b2 := F.called_set.init.bind (.ref s.heap.objs.size)
    repeat (any_goals (first | assumption | wp_step))
    refine codeAny_mono (codeAny_call_builtin (R := wants (fun u z => u = .none ∧ ∃ h' tk c, z = { s with heap := h', toks := tk } ∧ SetLft w s ns h' c) E)
      F.called_set.init.plain F.entry_set_init (check_set_init_1 ty ?_)) fun r2 z2 hz2 => ?_
    · obtain ⟨⟨oc, od, odt, osl⟩, lo, lc, ln, ld⟩ := hl
      simp only at lc ld
      subst lc ld
      have lo' : (s.heap.push (newS w)).get? l = some { cls := .type "list", dict := od, data := .seq xs ln, slots := osl } :=
        Heap.get?_push_of_some _ lo
      have c1 := F.sub_list_set
      have c2 := F.sub_list_frozenset
      have c3 : (Value.type "list" == Value.type "dict") = false := by decide
      have il : (s.heap.push (newS w)).IsList l xs := ⟨_, lo', rfl, ln, rfl⟩
      unfold Builtin.«set.__init__» noKeywords Builtin.Frozenset.updateFrom
      generalize hPI : pyIter = PI
      wp_walk
      subst hPI
      refine wpAny_pyIter_list il ?_
      refine wpAny_bind (wpAny_runValue ?_)
      have below : l < s.heap.objs.size := Heap.lt_size lo
      have nh : A.in1.in1.in1.handled = none := by simp [hh]
      have sz : (s.heap.push (newS w)).objs.size = s.heap.objs.size + 1 := Heap.size_push ..
      have ne : l ≠ (s.heap.push (newS w)).objs.size := by rw [sz]; exact Nat.ne_of_lt (Nat.lt_succ_of_lt below)
      have out : s.heap.objs.size ∉ [(s.heap.push (newS w)).objs.size, l] := by
        rw [sz]
        simp only [List.mem_cons, List.not_mem_nil, or_false, not_or]
        exact ⟨Nat.ne_of_lt (Nat.lt_succ_self _), Nat.ne_of_gt below⟩
      have each : ∀ (i : Nat) (v : Value), xs[i]? = some v → ∃ k t, ns[i]? = some k ∧ v = .int k t := fun i v hv => by
        have hi : i < ns.length := by rw [← len]; exact (Array.getElem?_eq_some_iff.mp hv).1
        obtain ⟨t, e⟩ := hit.int_at i v (by rw [Array.getElem?_toList]; exact hv)
        refine ⟨ns[i], t, List.getElem?_eq_getElem hi, ?_⟩
        rw [e, List.getD_eq_getElem?_getD, List.getElem?_eq_getElem hi] <;> rfl
      refine set_update_ints ((Walks.list nh _ l ne xs).toS) s.heap.objs.size out ns len hb each (xs.size - 0) 0 _ (by omega) (Nat.zero_le _)
        ⟨⟨_, Heap.get?_push_size _ rfl, rfl, rfl⟩, (il.push _)⟩ ⟨0, Nat.le_refl 0, setR_new_at (Heap.get?_push_of_some _ gS)⟩ fun z' c' mv hc' hS' => ?_
      obtain ⟨h', g2, d2, tk', os2⟩ := z'
      have eg : g2 = s.gens := mv.gens
      have ed : d2 = s.drawn := mv.drawn
      have eo : os2 = s.os := mv.os
      subst eg ed eo
      show wpAny _ _ _ _ _ _
      refine wpAny_pure ?_
      show wpAny _ _ (ret Value.none) _ _ _
      refine wpAny_pure ⟨rfl, h', tk', c', rfl, hS', by rw [← len]; exact hc', fun b o e => ?_⟩
      have hb0 : b < s.heap.objs.size := Heap.lt_size e
      refine mv.heap b o ?_ (Heap.get?_push_of_some _ (Heap.get?_push_of_some _ e))
      simp only [List.mem_cons, List.not_mem_nil, or_false, not_or]
      exact ⟨Nat.ne_of_lt hb0, by rw [sz]; exact Nat.ne_of_lt (Nat.lt_succ_of_lt hb0)⟩
    · cases r2 with
      | error e => exact hz2
      | ok f2 =>
        cases f2 with
        | ret u =>
          obtain ⟨e1, h', tk, c', e2, e3⟩ := hz2
          subst e1 e2
          repeat (any_goals (first | assumption | wp_step))
          exact h _ _ _ e3
        | _ => exact hz2.elim
  | _ => exact hz.elim
end
/-! ### rising ints, each once -/
def insU (x : Int) : List Int → List Int
  | [] => [x]
  | y :: r => if x < y then x :: y :: r else if x = y then y :: r else y :: insU x r
def setI : List Int → List Int
  | [] => []
  | x :: r => insU x (setI r)
theorem insU_mem (x k : Int) : ∀ l : List Int, k ∈ insU x l ↔ k = x ∨ k ∈ l
  | [] => by simp [insU]
  | y :: r => by
    unfold insU
    split
    · simp
    · split
      · rename_i e
        subst e
        simp
      · rw [List.mem_cons, insU_mem x k r, List.mem_cons]
        constructor
        · rintro (h | h | h)
          · exact .inr (.inl h)
          · exact .inl h
          · exact .inr (.inr h)
        · rintro (h | h | h)
          · exact .inr (.inl h)
          · exact .inl h
          · exact .inr (.inr h)
theorem insU_rise (x : Int) : ∀ {l : List Int}, l.Pairwise (· < ·) → (insU x l).Pairwise (· < ·)
  | [], _ => by simp [insU]
  | y :: r, h => by
    unfold insU
    obtain ⟨h1, h2⟩ := List.pairwise_cons.mp h
    split
    · rename_i e
      refine List.pairwise_cons.mpr ⟨fun z hz => ?_, h⟩
      rcases List.mem_cons.mp hz with q | q
      · omega
      · have := h1 z q
        omega
    · split
      · exact h
      · refine List.pairwise_cons.mpr ⟨fun z hz => ?_, insU_rise x h2⟩
        rcases (insU_mem x z r).mp hz with q | q
        · omega
        · exact h1 z q
theorem setI_mem (k : Int) : ∀ l : List Int, k ∈ setI l ↔ k ∈ l
  | [] => by simp [setI]
  | x :: r => by unfold setI; rw [insU_mem, setI_mem k r, List.mem_cons]
theorem setI_rise : ∀ l : List Int, (setI l).Pairwise (· < ·)
  | [] => List.Pairwise.nil
  | x :: r => insU_rise x (setI_rise r)
theorem rise_nodup {l : List Int} (h : l.Pairwise (· < ·)) : l.Nodup := h.imp fun {a b} q e => by omega
theorem rise_eq {l m : List Int} (hl : l.Pairwise (· < ·)) (hm : m.Pairwise (· < ·)) (h : ∀ k, k ∈ l ↔ k ∈ m) : l = m :=
  perm_sorted_eq ((List.perm_ext_iff_of_nodup (rise_nodup hl) (rise_nodup hm)).mpr h) (hl.imp fun {a b} q => by omega) (hm.imp fun {a b} q => by omega)
theorem setI_len {l m : List Int} (hn : l.Nodup) (h : ∀ k, k ∈ l ↔ k ∈ m) : l.length = (setI m).length :=
  ((List.perm_ext_iff_of_nodup hn (rise_nodup (setI_rise m))).mpr fun k => by rw [setI_mem, h]).length_eq
theorem setI_self {l : List Int} (h : l.Pairwise (· < ·)) : setI l = l := rise_eq (setI_rise l) h fun k => setI_mem k l
/-! ### the rules -/
section
variable {X : Cx}
def tSortSet (K : PySem.W.Frag) (ta : TE) : TE := fun σ H Q => ta σ H fun x H1 => ∃ (l : Addr) (ns : List Int), x = V.ref l ∧ SqL K H1 l (ns.map V.int) ∧ ns.length < 64 ∧
  ∀ p, H1 p = none → Q (.ref p) (upd H1 p (.lst ((setI ns).map V.int)))
theorem pe_sortSet {a : Expr} {ta : TE} {p p2 q pos : Pos} (hc : X.calm = true) (hg : Gl X "sorted") (hm : X.mg "sorted" = none) (hg2 : Gl X "set") (hm2 : X.mg "set" = none) (ha : PE X a ta)
    (na : starEach [a] X.env = (false, eval a X.env) :: starEach [] X.env := by rfl) : PE X (.Call (.Name "sorted" p) [.Call (.Name "set" p2) [a] [] q] [] pos) (tSortSet X.K ta) := by
  refine ⟨fun pins s σ H Q I h => Call_ (ld_blt I hg hm boot_sorted ?_)⟩
  refine callWith_builtin1 (args_cons ?_ rfl) rfl rfl
  refine Call_ (ld_blt I hg2 hm2 boot_set ?_)
  refine callWith_type1 (args_cons (thn (ha.run pins s σ H _ I h) fun v s1 ⟨x, H1, I1, r1, q1⟩ => args_nil ?_) na) na rfl
  obtain ⟨l, ns, rfl, hq, few, q1⟩ := q1
  cases r1
  obtain ⟨its, r, pl, hz⟩ := I1.list hq
  refine set_of_list ns (I1.ok.hd hc) pl.isList (by simpa using r.ints) (by unfold scanBound; omega) fun h' tk c ⟨R, hc', hk⟩ => args_nil ?_
  have I2 : Inv X pins σ H1 { s1 with heap := h', toks := tk } := I1.kept hk
  have R2 : SetR X.w (Shared.heap { s1 with heap := h', toks := tk }) s1.heap.objs.size (fun j => decide (j ∈ ns)) c := R
  generalize ({ s1 with heap := h', toks := tk } : Shared) = s2 at I2 R2 ⊢
  refine sorted_set R2 (I2.ok.hd hc) (by omega) fun z p out c2 ms k g o hp hg hi hs hmm hl => ?_
  have em : ms = setI ns := rise_eq hs (setI_rise ns) fun k => by rw [hmm, setI_mem, decide_eq_true_iff]
  have hlen : (ms.map V.int).length ≤ sizeLine := by rw [List.length_map, hl, sizeLine_eq]; omega
  have hn : H1 p = none := I2.hok.fresh hp
  have J : Inv X pins σ (upd H1 p (.lst (ms.map V.int))) { s2 with heap := z.heap, gens := z.gens, drawn := z.drawn, toks := z.toks } :=
    I2.call (ch := []) (Un.laid k hp hn) (I2.hok.laid k hp ⟨hlen, out.toList, c2, vals_of_ints hi, hg⟩) (by rw [g]; exact I2.bare) (fun _ y => nomatch y)
  have e : z = { s2 with heap := z.heap, gens := z.gens, drawn := z.drawn, toks := z.toks } := by
    cases z
    cases s2
    cases o
    rfl
  rw [e]
  subst em
  exact ⟨.ref p, _, J, rfl, q1 p hn⟩
def tLenSet (K : PySem.W.Frag) (ta : TE) : TE := fun σ H Q => ta σ H fun x H1 => ∃ (l : Addr) (ns : List Int), x = V.ref l ∧ SqL K H1 l (ns.map V.int) ∧ ns.length ≤ 4000 ∧ Q (.int (setI ns).length) H1
theorem pe_lenSet {a : Expr} {ta : TE} {p p2 q pos : Pos} (hc : X.calm = true) (hg : Gl X "len") (hm : X.mg "len" = none) (hg2 : Gl X "set") (hm2 : X.mg "set" = none) (ha : PE X a ta)
    (na : starEach [a] X.env = (false, eval a X.env) :: starEach [] X.env := by rfl) : PE X (.Call (.Name "len" p) [.Call (.Name "set" p2) [a] [] q] [] pos) (tLenSet X.K ta) := by
  refine ⟨fun pins s σ H Q I h => Call_ (ld_blt I hg hm PySem.boot_len ?_)⟩
  refine callWith_builtin1 (args_cons ?_ rfl) rfl rfl
  refine Call_ (ld_blt I hg2 hm2 boot_set ?_)
  refine callWith_type1 (args_cons (thn (ha.run pins s σ H _ I h) fun v s1 ⟨x, H1, I1, r1, q1⟩ => args_nil ?_) na) na rfl
  obtain ⟨l, ns, rfl, hq, few, q1⟩ := q1
  cases r1
  obtain ⟨its, r, pl, hz⟩ := I1.list hq
  refine set_of_list ns (I1.ok.hd hc) pl.isList (by simpa using r.ints) (by unfold scanBound; omega) fun h' tk c ⟨R, hc', hk⟩ => args_nil ?_
  have I2 : Inv X pins σ H1 { s1 with heap := h', toks := tk } := I1.kept hk
  obtain ⟨o, es, ep, t, ho, hex, hd, g, nd, hmm, hb, hf, hn, _, _⟩ := R
  have el : es.size = (setI ns).length := by
    have := setI_len nd (m := ns) fun k => by rw [← hmm, decide_eq_true_iff]
    simpa using this
  exact call_len_set ho hex hd hf (by rw [hn]; omega) ⟨.int (setI ns).length, H1, I2.tok _, ⟨_, by rw [el]⟩, q1⟩
end
section
variable {G : Gm} {te : TE} {me : EM}
def fSet (lim : Nat) (m : EM) : Slt → Sto → Option (List Int × Sto) := fun ρ S => (eD m ρ S).bind fun p => (lstD p.1 p.2).bind fun ds => (intsD ds).bind fun ns => if ns.length ≤ lim then some (setI ns, p.2) else none
def eSortSet (m : EM) : EM := fun ρ S => (fSet 63 m ρ S).map fun p => (.own (.lst (p.1.map .int)), p.2)
def eLenSet (m : EM) : EM := fun ρ S => (fSet 4000 m ρ S).map fun p => (.d (.int p.1.length), p.2)
variable {F F' H H' : Hp} {ι ι' : List Addr} {S S' : Sto} {ρ ρ' : Slt} {σ σ' : L2.St}
theorem snd_sortSet (he : SndV G te me) : SndV G (tSortSet G.K te) (eSortSet me) := by
  intro F ι S ρ σ H w S' s e Q k
  unfold eSortSet fSet at e
  obtain ⟨⟨ms, S2⟩, e, e0⟩ := Option.map_eq_some_iff.mp e
  obtain ⟨⟨x, S1⟩, e1, e⟩ := Option.bind_eq_some_iff.mp e
  obtain ⟨ds, e2, e⟩ := Option.bind_eq_some_iff.mp e
  obtain ⟨ns, e3, e⟩ := Option.bind_eq_some_iff.mp e
  dsimp only at e
  split at e
  · rename_i few
    cases e
    cases e0
    refine snd_d he s e1 _ fun F1 ι1 H1 vx s1 p1 rx => ?_
    obtain ⟨a, vs, rfl, h1, h3⟩ := lst_get s1.rep rx e2
    rw [intsD_eq e3, rds_ints] at h3
    subst h3
    refine ⟨a, ns, rfl, SqL.of h1, by omega, fun t ht => ?_⟩
    obtain ⟨r2, p4⟩ := s1.rep.newO (o := .lst ((setI ns).map V.int)) ht
    exact k _ ι1 _ _ (s1.after r2 p4).1 (p1.trans p4) ⟨t, _, rfl, upd_same, ⟨_, rfl, rds_ints.mpr rfl⟩, s1.rep.noF ht, s1.rep.noI ht, .inr (p1.back t ht)⟩
  · cases e
theorem snd_lenSet (he : SndV G te me) : SndV G (tLenSet G.K te) (eLenSet me) := by
  intro F ι S ρ σ H w S' s e Q k
  unfold eLenSet fSet at e
  obtain ⟨⟨ms, S2⟩, e, e0⟩ := Option.map_eq_some_iff.mp e
  obtain ⟨⟨x, S1⟩, e1, e⟩ := Option.bind_eq_some_iff.mp e
  obtain ⟨ds, e2, e⟩ := Option.bind_eq_some_iff.mp e
  obtain ⟨ns, e3, e⟩ := Option.bind_eq_some_iff.mp e
  dsimp only at e
  split at e
  · rename_i few
    cases e
    cases e0
    refine snd_d he s e1 _ fun F1 ι1 H1 vx s1 p1 rx => ?_
    obtain ⟨a, vs, rfl, h1, h3⟩ := lst_get s1.rep rx e2
    rw [intsD_eq e3, rds_ints] at h3
    subst h3
    exact ⟨a, ns, rfl, SqL.of h1, few, k _ ι1 _ _ s1 p1 (by simp only [RV, RD])⟩
  · cases e
end
end Yi
/-! enumerate(t), t a tuple; either. -/
namespace Yi
open PySem PySem.Spec PyProof.Rows L2
set_option maxHeartbeats 1000000 in
theorem newEnumT (l : Addr) (xs : Array Value) :
    Meets (Builtin.«enumerate.__new__» ⟨[.type "enumerate", .ref l], []⟩) (fun _ R s => s.heap.IsTuple l xs ∧ R (.ok (.ret (.ref (s.heap.push { cls := .type "tuple_iterator", data := .fields #[.ref l, .int 0 0] }).objs.size)))
      { s with heap := (s.heap.push { cls := .type "tuple_iterator", data := .fields #[.ref l, .int 0 0] }).push { cls := .type "enumerate", data := .fields #[.none, .bool false, .ref s.heap.objs.size, rawInt 0, .none, .none] } }) :=
  .of_wp fun P w A R s ⟨hl, q⟩ => by
    obtain ⟨hp, gs, dr, tk, os⟩ := s
    have sub := sub_enumerate
    obtain ⟨⟨c, dct, dt, sl⟩, ho, hc, n, hd⟩ := id hl
    simp only at hc hd
    subst hc hd
    have go : ∀ {A' : Around} {E : Value → Shared → Prop} {Q : Value → Shared → Prop}, Q (.ref hp.objs.size) ⟨hp.push { cls := .type "tuple_iterator", data := .fields #[.ref l, .int 0 0] }, gs, dr, tk, os⟩ →
        wpAny (model P w) A' (pyIter (.ref l)) Q E ⟨hp, gs, dr, tk, os⟩ := fun q => wpAny_pyIter_tuple hl q
    wp_walk using go
    refine wpAny_stack_any fun st => wpAny_pure ?_
    split
    · rename_i c _ _ _ _ _
      cases (c == Value.type "enumerate") <;> (wp_walk using go; exact ⟨_, rfl, q⟩)
    · wp_walk using go
      exact ⟨_, rfl, q⟩
section
variable {P : Program} {w : World} {A : Around} {E : Value → Shared → Prop} {s : Shared}
theorem call_enumT {l : Addr} {xs : Array Value} {Q : Value → Shared → Prop} (hl : s.heap.IsTuple l xs)
    (h : ∀ h', IsEnum h' (s.heap.objs.size + 1) s.heap.objs.size 0 .none → h'.IsTupleIter s.heap.objs.size l 0 → (∀ b o, s.heap.get? b = some o → h'.get? b = some o) → Q (.ref (s.heap.objs.size + 1)) { s with heap := h' }) :
    wpAny (model P w) A (call (.type "enumerate") [.ref l]) Q E s := by
  refine callType_new F.called_enumerate (by decide) (F.typeCall_enumerate_1 _) (F.newCall_enumerate_1 _)
    (fun ob => F.args_object_init_2 ob _) F.entry_enumerate_new (newEnumT l xs) ⟨hl, ?_⟩
  have hz : (s.heap.push { cls := .type "tuple_iterator", data := .fields #[.ref l, .int 0 0] }).objs.size = s.heap.objs.size + 1 := Heap.size_push ..
  show _ ∧ _
  rw [hz]
  have he : IsEnum ((s.heap.push { cls := .type "tuple_iterator", data := .fields #[.ref l, .int 0 0] }).push { cls := .type "enumerate", data := .fields #[.none, .bool false, .ref s.heap.objs.size, rawInt 0, .none, .none] })
      (s.heap.objs.size + 1) s.heap.objs.size 0 .none := by
    have q := Heap.get?_push_size (s.heap.push { cls := .type "tuple_iterator", data := .fields #[.ref l, .int 0 0] }) (o := { cls := .type "enumerate", data := .fields #[.none, .bool false, .ref s.heap.objs.size, rawInt 0, .none, .none] }) rfl
    rwa [hz] at q
  exact ⟨⟨_, he, rfl⟩, h _ he ⟨_, Heap.get?_push_of_some _ (Heap.get?_push_size _ rfl), rfl, rfl⟩ fun b o x => Heap.get?_push_of_some _ (Heap.get?_push_of_some _ x)⟩
end
/-- the tuple at a, each item in a new pair -/
def IteT (K : PySem.W.Frag) (a : Addr) : It :=
  ⟨fun i H => ∃ (xs : List V) (x : V), SqT K H a xs ∧ xs[i]? = some x, fun i H v H' => ∃ T x, v = .ref T ∧ H T = none ∧ H' = upd H T (.tup [.int (i : Nat), x]) ∧ ∀ xs, SqT K H a xs → xs[i]? = some x, fun i H => ∃ xs : List V, SqT K H a xs ∧ xs.length ≤ i⟩
theorem enum_ne {h : Heap} {e it a : Addr} {i : Int} {old : Value} {xs : Array Value} (he : IsEnum h e it i old) (ht : h.IsTuple a xs) : e ≠ a := fun z => by
  obtain ⟨o, ho, hc, n, hd⟩ := ht
  have q : h.get? e = some _ := he
  rw [z, ho] at q
  cases q
  cases hd
theorem enumT_end {P : Program} {w : World} {A : Around} {E : Value → Shared → Prop} {s : Shared} {e it l : Addr} {i : Nat} {xs : Array Value} {old : Value} {Q : Option Value → Shared → Prop} (hh : A.in1.handled = none)
    (he : IsEnum s.heap e it i old) (hit : s.heap.IsTupleIter it l i) (hl : s.heap.IsTuple l xs) (hx : xs[i]? = none) (hQ : ∀ h', Heap.ExtBut it s.heap h' → Q none { s with heap := h' }) : wpAny (model P w) A (pyNext (.ref e)) Q E s := by
  have hT : s.TypeIs (.ref e) "enumerate" := ⟨_, he, rfl⟩
  unfold pyNext
  refine wpAny_bind (wpAny_attempt (wpAny_callSpecial?_slot (name := Str.ofString "__next__") hT F.slot_enumerate_next
    (wpAny_call_entry F.slot_enumerate_next hT F.entry_enumerate_next ?_ (F.args_enumerate_next_1 _))))
  show wpAny _ _ (field (.ref e) 2 >>= _) _ _ _
  refine wpAny_bind (wpAny_field he rfl (x := .ref it) rfl ?_)
  refine wpAny_bind (wpAny_nextOf_tuple_end hh hit hl hx fun h' x he' hx' => ?_)
  obtain ⟨o, ho, hc⟩ := hx'
  refine wpAny_bind (wpAny_isInstance (T := "StopIteration") (b := true) ⟨o, ho, hc⟩ isSubtype_stop ?_)
  exact wpAny_pure (hQ _ he')
theorem turn_enumT {P : Program} {w : World} {K : PySem.W.Frag} {elts : List Expr} {kk : Nat} {tpos : Pos} (a e it : Addr) :
    Turn P w K (.Tuple elts kk tpos) (IteT K a) [e, it] e (fun i h => (∃ old, IsEnum h e it ((i : Nat) : Int) old) ∧ h.IsTupleIter it a i ∧ e ≠ it) where
  mem := by simp
  obj := fun i h st b hb => by
    obtain ⟨⟨old, he⟩, ⟨o, ho, hc, hd⟩, _⟩ := st
    have eb : b = e ∨ b = it := by simpa using hb
    rcases eb with z | z
    · rw [z]
      exact ⟨_, he, fun v q => nomatch q⟩
    · exact ⟨o, by rw [z]; exact ho, fun v q => by rw [hd] at q; cases q⟩
  keep := fun i h h' ⟨⟨old, he⟩, hi, ne⟩ k => ⟨⟨old, k e (by simp) _ he⟩, hi.at fun o q => k it (by simp) o q, ne⟩
  item := by
    intro X hP hw hK hc i pins s σ H E I hf st hg
    subst hP hw hK
    obtain ⟨⟨old, he⟩, hit, ne⟩ := st
    obtain ⟨xs, x, hq, hx⟩ := hg
    obtain ⟨its, rv, p, hz⟩ := I.tuple hq
    obtain ⟨u, hu, ru⟩ := rv.get hx
    have pt : s.heap.IsTuple a its.toArray := p
    have be : e < s.heap.objs.size := Heap.lt_size he
    have bi : it < s.heap.objs.size := by obtain ⟨_, q, _⟩ := hit; exact Heap.lt_size q
    have bl : i < its.toArray.size := by rw [List.size_toArray]; exact (List.getElem?_eq_some_iff.mp hu).1
    have ia : a ≠ it := fun z => by
      obtain ⟨o, ho, oc, on, od⟩ := pt
      obtain ⟨o2, ho2, oc2, od2⟩ := hit
      rw [z, ho2] at ho
      cases ho
      rw [od2] at od
      cases od
    have hh : X.A.in1.handled = none := I.ok.hd hc
    refine wpAny_pyNext_enum_itemD (Draws.tuple hh it a ia its.toArray) he ⟨hit, pt⟩ bl ne (by simp [ne, enum_ne he pt]) fun y h' tk hy ho hst hT hsz hk => ?_
    have ey : y = u := by
      have q : its[i]? = some y := by simpa using hy
      rw [hu] at q
      exact (Option.some.inj q).symm
    subst ey
    refine ⟨_, rfl, wpAny_letOwnedTupleGo_enum (s := { s with heap := h', toks := tk + 1 }) ho fun h2 he2 sb => ?_⟩
    have hT2 : h2.get? s.heap.objs.size = some { cls := .type "tuple", data := .seq #[.int i tk, y] } := (sb.2 _ (Nat.ne_of_gt be)).trans hT
    have new : ObjOk X.prog X.w (upd H s.heap.objs.size (.tup [.int (i : Nat), x])) h2 s.heap.objs.size (.tup [.int (i : Nat), x]) :=
      ⟨by show 2 ≤ sizeLine; decide, [.int i tk, y], .cons ⟨_, rfl⟩ (.cons ru .nil), ⟨_, hT2, rfl, _, rfl⟩⟩
    have I1 : Inv X pins σ (upd H s.heap.objs.size (.tup [.int (i : Nat), x])) { s with heap := h2, toks := tk + 1 } :=
      I.turnedNew (ch := [e, it]) (fun b ob hb q => (sb.2 b (fun z => hb (by simp [z]))).trans (hk b ob (fun z => hb (by simp [z])) (fun z => hb (by simp [z])) q)) hf (Nat.le_refl _) new
    refine ⟨.ref s.heap.objs.size, _, I1, rfl, ⟨_, x, rfl, I.hok.fresh (Nat.le_refl _), rfl, fun ys hy => by rw [I.tuple_inj hy hq]; exact hx⟩, ⟨⟨y, ?_⟩, hst.1.at fun o q => (sb.2 it (Ne.symm ne)).trans q, ne⟩, fun b hb => ?_⟩
    · have e1 : ((i + 1 : Nat) : Int) = (i : Int) + 1 := by omega
      rw [e1]
      exact he2
    · have hb' : b < s.heap.objs.size := by
        have eb : b = e ∨ b = it := by simpa using hb
        rcases eb with z | z <;> (rw [z]; assumption)
      rw [upd_ne (Nat.ne_of_lt hb')]
      exact (hf b hb).1
  done := by
    intro X hP hw hK hc i pins s σ H E I hf st hg
    subst hP hw hK
    obtain ⟨⟨old, he⟩, hit, ne⟩ := st
    obtain ⟨xs, hq, hx⟩ := hg
    obtain ⟨its, rv, p, hz⟩ := I.tuple hq
    have pt : s.heap.IsTuple a its.toArray := p
    obtain ⟨f0, f1, f2, f3, f4, f5⟩ := hf it (by simp)
    have hl := rv.length
    have hh : X.A.in1.handled = none := I.ok.hd hc
    refine enumT_end hh he hit pt (by simp; omega) fun h' eb => ⟨rfl, I.turned (t' := s.toks) (fun b o hb q => eb b o hb q) f0 f1 f3 f4 f5⟩
  self := fun A i s Q E ⟨⟨_, he⟩, _⟩ h => wpAny_pyIter_enum he h
def iEnumS (K : PySem.W.Frag) (ta : TA) : TI := fun σ H R => ta σ H fun vs H1 => ∃ a, vs = [.ref a] ∧ (((∃ xs, SqL K H1 a xs) ∧ R (Ite K a) H1) ∨ ((∃ xs, SqT K H1 a xs) ∧ R (IteT K a) H1))
theorem pi_enumS {X : Cx} {e : Expr} {ta : TA} {p pos tpos : Pos} {elts : List Expr} {kk : Nat} (hg : Gl X "enumerate") (hm : X.mg "enumerate" = none) (ha : PA X [e] ta) (hs : starEach [e] X.env = [(false, eval e X.env)] := by rfl) :
    PI X (.Tuple elts kk tpos) (.Call (.Name "enumerate" p) [e] [] pos) (iEnumS X.K ta) := by
  refine ⟨fun pins s σ H R I h => ?_⟩
  refine Call_ (ld_blt I hg hm boot_enumerate (callWith_type1 (thn (ha.run pos pins s σ H _ I h) fun us s1 ⟨vs, H1, I1, r1, q1⟩ => ?_) hs rfl))
  obtain ⟨a, ex, q⟩ := q1
  subst ex
  have place : ∀ b, b ∈ [s1.heap.objs.size + 1, s1.heap.objs.size] → s1.heap.objs.size ≤ b := fun b hb => by
    have eb : b = s1.heap.objs.size + 1 ∨ b = s1.heap.objs.size := by simpa using hb
    rcases eb with z | z
    · rw [z]; exact Nat.le_add_right _ _
    · rw [z]; exact Nat.le_refl _
  cases r1 with
  | cons r rr =>
    cases rr
    cases r
    rcases q with ⟨⟨xs, hq⟩, q⟩ | ⟨⟨xs, hq⟩, q⟩
    · obtain ⟨its, rv, p', hz⟩ := I1.list hq
      refine call_enumerate_list p'.isList fun h' he hit hsz hk => wpAny_pyIter_enum he ?_
      have I2 : Inv X pins σ H1 { s1 with heap := h' } := I1.kept (t' := s1.toks) hk
      exact ⟨s1.heap.objs.size + 1, [s1.heap.objs.size + 1, s1.heap.objs.size], _, _, H1, rfl, I2, turn_enum a (s1.heap.objs.size + 1) s1.heap.objs.size, ⟨⟨.none, he⟩, hit, Nat.succ_ne_self _⟩,
        fun b hb => I1.fpOk (place b hb) (I1.hok.fresh (place b hb)), q⟩
    · obtain ⟨its, rv, p', hz⟩ := I1.tuple hq
      refine call_enumT (show s1.heap.IsTuple a its.toArray from p') fun h' he hit hk => wpAny_pyIter_enum he ?_
      have I2 : Inv X pins σ H1 { s1 with heap := h' } := I1.kept (t' := s1.toks) hk
      exact ⟨s1.heap.objs.size + 1, [s1.heap.objs.size + 1, s1.heap.objs.size], _, _, H1, rfl, I2, turn_enumT a (s1.heap.objs.size + 1) s1.heap.objs.size, ⟨⟨.none, he⟩, hit, Nat.succ_ne_self _⟩,
        fun b hb => I1.fpOk (place b hb) (I1.hok.fresh (place b hb)), q⟩
section
variable {G : Gm} {F F' H H' : Hp} {ι ι' : List Addr} {S S' : Sto} {ρ ρ' : Slt} {σ σ' : L2.St}
theorem iteT_ok {a : Addr} {vs : List V} {ds : List D} (h : SqT G.K F a vs) (rd : RDs G F ι ds vs) : ItL G F ι H (IteT G.K a) (enumL 0 ds) := by
  intro F1 ι1 S1 H1 e p fz r i
  have h1 : SqT G.K H1 a vs := sqt_ex r.ex (sqt_ex e h)
  have rd1 := rd.mono e p
  refine ⟨fun d hd => ?_, fun hl => ?_⟩
  · rw [enumL_get] at hd
    obtain ⟨d', hd', rfl⟩ := Option.map_eq_some_iff.mp hd
    obtain ⟨v, hv, rv⟩ := rd1.get hd'
    refine ⟨⟨vs, v, h1, hv⟩, ?_⟩
    rintro x H2 ⟨T, y, rfl, hT, rfl, hy⟩
    have ey : v = y := Option.some.inj (hv.symm.trans (hy vs h1))
    subst ey
    obtain ⟨r2, p2⟩ := r.newF (o := .tup [.int (i : Nat), v]) hT
    refine ⟨_, r2, p2, ?_⟩
    simp only [RD]
    refine ⟨T, [.int (i : Nat), v], rfl, SqT.of upd_same, .inl upd_same, rds_cons.mpr ⟨_, _, rfl, ?_, rds_cons.mpr ⟨_, _, rfl, rv.mono p2.exF p2.pre, rds_nil.mpr rfl⟩⟩⟩
    simp only [RD, Nat.zero_add]
  · rw [enumL_len] at hl
    exact ⟨vs, h1, by rw [← rd.len]; exact hl⟩
def iEnS (a : AM) : AM := fun ρ S => (a ρ S).bind fun p => match p.1 with
  | [x] => (stD x).map fun ds => (enumL 0 ds, p.2)
  | _ => none
theorem snd_ienS {t : TA} {m : AM} (h : SndA G t m) : SndI G (iEnumS G.K t) (iEnS m) := by
  intro F ι S ρ σ H ds S' s e R k
  unfold iEnS at e
  obtain ⟨⟨xs, S1⟩, e1, e⟩ := Option.bind_eq_some_iff.mp e
  dsimp only at e
  split at e
  · obtain ⟨es, e2, e⟩ := Option.map_eq_some_iff.mp e
    cases e
    refine h s e1 _ fun F1 ι1 H1 vs s1 p1 rs => ?_
    obtain ⟨v, rfl, rd⟩ := rds_1 rs
    obtain ⟨a, us, rfl, h1, h2⟩ := st_get rd e2
    refine ⟨a, rfl, ?_⟩
    rcases h1 with h1 | h1
    · exact .inl ⟨⟨us, sql_ex s1.rep.ex h1⟩, k F1 ι1 H1 _ s1 p1 (ite_ok h1 h2)⟩
    · exact .inr ⟨⟨us, sqt_ex s1.rep.ex h1⟩, k F1 ι1 H1 _ s1 p1 (iteT_ok h1 h2)⟩
  · cases e
end
end Yi
/-! Further rules: defs held by parameters, signs of a text, join, split, fields added to. -/
namespace Yi
open PySem L2
section
variable {X : Cx} {k i : Nat} {x : Str} {p pos : Pos} {e : Expr} {es : List Expr} {t : TA}
/-- the slot holds one of several defs, told by its number -/
def tCallF (G : Gm) (i : Nat) (SP : Nat → Option Sp) (t : TA) : TE := fun σ H Q => ∃ n sp, σ[i]? = some (some (.ref (G.fn n))) ∧ SP n = some sp ∧ t σ H fun vs H1 => sp vs H1 Q (fun _ _ _ => False)
theorem pe_callF {G : Gm} {SP : Nat → Option Sp} (A : ∀ n sp, SP n = some sp → Held X.prog X.w X.K X.mg X.base k (G.fn n) sp) (hr : Room k X.A) (hN : X.N[i]? = some x) (hv : Vis X.env.scope x) (ha : PA X (e :: es) t)
    (hdb : (x == ("__debug__" : Str)) = false := by decide) (hcd : (x == ("__classdict__" : Str)) = false := by decide)
    (he : starEach (e :: es) X.env = (false, eval e X.env) :: starEach es X.env := by rfl) (hpl : (backTo pos (starEach es X.env)).any (·.1) = false := by rfl) : PE X (.Call (.Name x p) (e :: es) [] pos) (tCallF G i SP t) := by
  refine ⟨fun pins s σ H Q I ⟨n, sp, hs, hS, ht⟩ => ?_⟩
  obtain ⟨fd, ps, F, hk, hb⟩ := (A n sp hS).ex
  refine (pe_callL (i := i) (f := G.fn n) (sp := sp) (dvs := []) (E := fun _ _ _ => False) F hr hN hv hk hb .nil (fun _ _ _ _ _ _ _ z => z.elim) ha hdb hcd he hpl).run pins s σ H Q I ⟨hs, ?_⟩
  have e0 : (fun (vs : List V) (H1 : Hp) => sp (vs ++ []) H1 Q (fun _ _ _ => False)) = fun vs H1 => sp vs H1 Q (fun _ _ _ => False) := by
    funext vs H1
    rw [List.append_nil]
  exact e0 ▸ ht
end
section
variable {G : Gm} {F F' H H' : Hp} {ι ι' : List Addr} {S S' : Sto} {ρ ρ' : Slt} {σ σ' : St} {ta tb tc te : TE} {ma mb mc me : EM}
def eCallF (i : Nat) (fns : Nat → Option Den) (a : AM) : EM := fun ρ S => match ρ[i]? with
  | some (some (.d (.fn n))) => (fns n).bind fun f => (a ρ S).bind fun p => f p.1 p.2
  | _ => none
theorem snd_callF {i np : Nat} {fns : Nat → Option Den} {t : TA} {m : AM} (hn : ∀ {n : Nat} {f : Den}, fns n = some f → ∀ ds S w S', f ds S = some (w, S') → ds.length = np) (h : SndA G t m) :
    SndV G (tCallF G i (fun n => (fns n).map fun f => spI G np f) t) (eCallF i fns m) := by
  intro F ι S ρ σ H w S' s e Q k
  unfold eCallF at e
  split at e
  · rename_i n hi
    obtain ⟨f, e1, e⟩ := Option.bind_eq_some_iff.mp e
    obtain ⟨⟨ds, S1⟩, e2, e⟩ := Option.bind_eq_some_iff.mp e
    obtain ⟨v, h1, h2⟩ := s.sl.val i _ hi
    simp only [RD] at h2
    subst h2
    refine ⟨n, spI G np f, h1, by show Option.map _ (fns n) = _; rw [e1]; rfl, ?_⟩
    refine h s e2 _ fun F1 ι1 H1 vs s1 p1 rs => ?_
    exact ⟨by rw [← rs.len]; exact hn e1 _ _ _ _ e, F1, ι1, S1, _, w, S', s1.rep, rs, e, fun F' ι' H' v r' p' rv => k F' ι' H' v (s1.after r' p').1 (p1.trans p') (rv.back p1.back)⟩
  · cases e
theorem nod : ∀ (F : Hp) (ι : List Addr), RDs G F ι [] [] := fun _ _ => rds_nil.mpr rfl
/-- a def at no depth promises nothing -/
theorem fn_0 {P : Program} {w : World} {K : PySem.W.Frag} {mg : Str → Option Value} {base : Heap} {x qual : Str} {st : Stmt} {f : Addr} {fd : FuncData} {N ps : List Str} {k : Nat} (F : Fun K x qual st f fd) (S : FnScope N ps (defScope st)) :
    FnOk P w K mg base CX0 (k + 1) f fd ps (spI G ps.length fun _ _ => none) :=
  F.ok S (fun vs H Q E h => h.1) fun cdv A outer s H vs Q E hr h => by
    obtain ⟨_, _, _, _, _, _, _, _, _, e, _⟩ := h
    cases e
/-- the cell that e tells -/
def nAt (m : EM) : Slt → Sto → Option Nat := fun ρ S => (eD m ρ S).bind fun p => match p.1 with
  | .ref n => some n
  | _ => none
/-! ### a text, sign by sign -/
def sgnL (x : Str) : List D := x.cps.toList.map fun c => .str ⟨#[c]⟩
def iSt (m : EM) : AM := fun ρ S => (eD m ρ S).bind fun p => match p.1 with
  | .str x => some (sgnL x, p.2)
  | _ => none
theorem snd_istr (h : SndV G te me) : SndI G (iStr te) (iSt me) := by
  intro F ι S ρ σ H ds S' s e R k
  unfold iSt at e
  obtain ⟨⟨d, S1⟩, e1, e⟩ := Option.bind_eq_some_iff.mp e
  dsimp only at e
  split at e
  · rename_i x
    cases e
    refine snd_d h s e1 _ fun F1 ι1 H1 v s1 p1 r => ?_
    simp only [RD] at r
    refine ⟨x, r, k F1 ι1 H1 _ s1 p1 fun {F2 ι2 S2 H2} e p fz r2 i => ⟨fun d hd => ?_, fun hl => ?_⟩⟩
    · unfold sgnL at hd
      rw [List.getElem?_map] at hd
      obtain ⟨c, hc, rfl⟩ := Option.map_eq_some_iff.mp hd
      rw [Array.getElem?_toList] at hc
      refine ⟨(Array.getElem?_eq_some_iff.mp hc).1, ?_⟩
      rintro y H3 ⟨rfl, c', hc', rfl⟩
      rw [hc] at hc'
      cases hc'
      exact ⟨F2, r2, .refl, by simp only [RD]⟩
    · unfold sgnL at hl
      show x.cps.size ≤ i
      simpa using hl
  · cases e
/-! ### join, split -/
def strsD : List D → Option (List Str)
  | [] => some []
  | .str x :: r => (strsD r).map fun ys => x :: ys
  | _ :: _ => none
theorem strsD_eq : ∀ {ds : List D} {ys : List Str}, strsD ds = some ys → ds = ys.map .str
  | [], ys, h => by cases h; rfl
  | .str x :: r, ys, h => by
    obtain ⟨zs, h1, h2⟩ := Option.map_eq_some_iff.mp (show (strsD r).map (fun ys => x :: ys) = some ys from h)
    subst h2
    rw [strsD_eq h1]
    rfl
  | .non :: _, _, h => by cases h
  | .bl _ :: _, _, h => by cases h
  | .int _ :: _, _, h => by cases h
  | .tp _ _ :: _, _, h => by cases h
  | .fl _ :: _, _, h => by cases h
  | .lk _ :: _, _, h => by cases h
  | .ref _ :: _, _, h => by cases h
  | .fn _ :: _, _, h => by cases h
  | .ty _ :: _, _, h => by cases h
  | .clo _ _ :: _, _, h => by cases h
  | .dcl _ _ :: _, _, h => by cases h
theorem strsD_map : ∀ ys : List Str, strsD (ys.map .str) = some ys
  | [] => rfl
  | y :: r => by
    show (strsD (r.map .str)).map _ = _
    rw [strsD_map r]
    rfl
def mJoin : D → List D → Sto → Option (VV × Sto) := fun x xs S => match x, xs with
  | .str a, [y] => (seqD y S).bind fun ds => (strsD ds).bind fun ys => if (ys.map (·.length)).sum + ys.length * a.length ≤ 16000000 then some (.d (.str (Txt.join a ys)), S) else none
  | _, _ => none
theorem snd_mJoin : SndM G (fun x xs H Q => ∃ a p, ∃ ys : List Str, x = V.str a ∧ xs = [V.ref p] ∧ (SqL G.K H p (ys.map V.str) ∨ SqT G.K H p (ys.map V.str)) ∧ (ys.map (·.length)).sum + ys.length * a.length ≤ 16777216 ∧ Q (.str (Txt.join a ys)) H) mJoin := by
  intro F ι S H x xs vx vs w S' r rx rs e Q k
  unfold mJoin at e
  split at e
  · rename_i a y
    obtain ⟨ds, e1, e⟩ := Option.bind_eq_some_iff.mp e
    obtain ⟨ys, e2, e⟩ := Option.bind_eq_some_iff.mp e
    split at e
    · rename_i hz
      cases e
      obtain ⟨v, rfl, h1⟩ := rds_1 rs
      obtain ⟨p, us, rfl, h2, h3⟩ := seq_get r h1 e1
      rw [strsD_eq e2, rds_strs] at h3
      subst h3
      simp only [RD] at rx
      exact ⟨a, p, ys, rx, rfl, h2, by omega, k F H _ r .refl (by simp only [RV, RD])⟩
    · cases e
  · cases e
def mSplit : D → List D → Sto → Option (VV × Sto) := fun x xs S => match x, xs with
  | .str a, [.str b] => if (b.length == 0) = false ∧ szOk (a.length + 2) = true then some (.own (.lst ((Txt.split a b).map .str)), S) else none
  | _, _ => none
theorem snd_mSplit : SndM G (fun x xs H Q => ∃ a b, x = V.str a ∧ xs = [V.str b] ∧ (b.length == 0) = false ∧ a.length + 2 ≤ sizeLine ∧ rNewStrs (Txt.split a b) H Q) mSplit := by
  intro F ι S H x xs vx vs w S' r rx rs e Q k
  unfold mSplit at e
  split at e
  · rename_i a b
    split at e
    · rename_i hz
      cases e
      obtain ⟨v, rfl, h1⟩ := rds_1 rs
      simp only [RD] at rx h1
      subst h1
      refine ⟨a, b, rx, rfl, hz.1, szOk_le hz.2, fun p hp => ?_⟩
      obtain ⟨r2, p2⟩ := r.newO (o := .lst ((Txt.split a b).map V.str)) hp
      exact k F _ _ r2 p2 ⟨p, _, rfl, upd_same, ⟨_, rfl, rds_strs.mpr rfl⟩, r.noF hp, r.noI hp, .inr hp⟩
    · cases e
  · cases e
/-! ### o.f += n -/
def fAddI : D → D → Sto → Option VV := intR fun i j => some (.int (i + j))
theorem snd_addI : SndR2 G rAdd fAddI := by
  intro F ι S H x y vx vy w r rx ry e Q k
  unfold fAddI intR at e
  split at e
  · cases e
    simp only [RD] at rx ry
    exact ⟨_, _, rx, ry, k F H _ r .refl (by simp only [RV, RD])⟩
  · cases e
/-! ### a, *b = a list -/
def sStar (i j : Nat) (m : EM) : SM := fun ρ S => (eD m ρ S).bind fun p => (lstD p.1 p.2).bind fun ds => match ds with
  | [] => none
  | d :: r => some (.nx, (ρ.set i (some (.d d))).set j (some (.d (.fl r))), p.2)
end
end Yi
/-! The rules that speak of X.K, told by K (for comprehensions, whose readings may not hang on the block). -/
namespace Yi
open PySem L2
section
variable {X : Cx} (K : PySem.W.Frag)
theorem ix_seqK (h : X.K = K := by rfl) : IxR X (rIx K) := h ▸ ix_seq
theorem sl_anyK (h : X.K = K := by rfl) : SlR X (rSlAny K) := h ▸ sl_any
theorem op_addK (h : X.K = K := by rfl) : OpR X (binaryOp .Add) (rAddA K) := h ▸ op_addA
theorem op_eqK (hu : X.A.units + 64 < cLine) (h : X.K = K := by rfl) : OpR X (compareOp .Eq) (rEqD K) := h ▸ op_eqD hu
theorem op_neK (hu : X.A.units + 64 < cLine) (h : X.K = K := by rfl) : OpR X (compareOp .NotEq) (rNeD K) := h ▸ op_neD hu
theorem op_inK (h : X.K = K := by rfl) : OpR X (compareOp .In) (rIn K false) := h ▸ op_in_seq
theorem op_notInK (h : X.K = K := by rfl) : OpR X (compareOp .NotIn) (rIn K true) := h ▸ op_notIn_seq
theorem pe_revK {e : Expr} {te : TE} {k : Nat} {p1 p2 p3 pos : Pos} (he : PE X e te) (h : X.K = K := by rfl) : PE X (.Subscript e (.Slice none none (some (.UnaryOp .USub (.Constant (.int 1) k p1) p2)) p3) pos) (tRevL K te) := h ▸ pe_revL he
theorem call_maxK (hc : X.calm = true) (h : X.K = K := by rfl) : CallR X (.builtin "max") (fun xs H Q => (∃ i j, xs = [.int i, .int j] ∧ Q (.int (if j > i then j else i)) H) ∨ rMax K xs H Q) := h ▸ call_maxA hc
theorem call_minK (hc : X.calm = true) (h : X.K = K := by rfl) : CallR X (.builtin "min") (fun xs H Q => (∃ i j, xs = [.int i, .int j] ∧ Q (.int (if j < i then j else i)) H) ∨ rMin K xs H Q) := h ▸ call_minA hc
theorem call_allK (hc : X.calm = true) (h : X.K = K := by rfl) : CallR X (.builtin "all") (rAll K) := h ▸ cr_all hc
theorem call_anyK (hc : X.calm = true) (h : X.K = K := by rfl) : CallR X (.builtin "any") (rAny K) := h ▸ cr_any hc
theorem call_sumK (hc : X.calm = true) (h : X.K = K := by rfl) : CallR X (.builtin "sum") (rSum K) := h ▸ cr_sum hc
theorem call_sortedK (h : X.K = K := by rfl) : CallR X (.builtin "sorted") (rSortedI K) := h ▸ cr_sortedI
theorem call_listK (h : X.K = K := by rfl) : CallR X (.type "list") (fun xs H Q => ∃ p ys, xs = [.ref p] ∧ (SqL K H p ys ∨ SqT K H p ys) ∧ ∀ l, H l = none → Q (.ref l) (upd H l (.lst ys))) := h ▸ call_list_of
theorem call_tupleF : CallR X (.type "tuple") (fun xs H Q => ∃ p ys, xs = [.ref p] ∧ ((SqL X.K H p ys ∧ ∀ (l : Addr) (o : Obj), H l = none → o.dict = none → Q (.ref l) (upd H l (.frz o (.tup ys)))) ∨ (SqT X.K H p ys ∧ Q (.ref p) H))) := by
  intro pins s σ H xs us Q I r h
  obtain ⟨p, ys, rfl, h⟩ := h
  obtain ⟨u, rfl, rx⟩ := vals1 r
  cases rx
  rcases h with ⟨hq, q⟩ | ⟨hq, q⟩
  · obtain ⟨its, r', pl, hz⟩ := I.list hq
    have hlen := r'.length
    refine call_tuple_list pl.isList (fun h' kp => ?_) (by simp only [List.size_toArray] <;> omega)
    have I1 : Inv X pins σ H { s with heap := h' } := I.kept (t' := s.toks) kp
    have e1 : (h'.push { cls := .type "tuple", data := .seq its.toArray }).get? h'.objs.size = some { cls := .type "tuple", data := .seq its.toArray } := Heap.get?_push_size _ rfl
    have I2 : Inv X pins σ (upd H h'.objs.size (.frz { cls := .type "tuple", data := .seq its.toArray } (.tup ys))) { s with heap := h'.push { cls := .type "tuple", data := .seq its.toArray } } :=
      I1.laid (t' := s.toks) (fun b o e => Heap.get?_push_of_some _ e) (Nat.le_refl _) ⟨e1, hz, its, r', _, e1, rfl, _, rfl⟩
    exact ⟨.ref h'.objs.size, _, I2, rfl, q _ _ (I1.hok.fresh (Nat.le_refl _)) rfl⟩
  · obtain ⟨its, r', pl, hz⟩ := I.tuple hq
    exact call_tuple_same pl ⟨.ref p, H, I, rfl, q⟩
theorem call_tupleK (h : X.K = K := by rfl) : CallR X (.type "tuple") (fun xs H Q => ∃ p ys, xs = [.ref p] ∧ ((SqL K H p ys ∧ ∀ (l : Addr) (o : Obj), H l = none → o.dict = none → Q (.ref l) (upd H l (.frz o (.tup ys)))) ∨ (SqT K H p ys ∧ Q (.ref p) H))) := h ▸ call_tupleF
theorem call_isiK (h : X.K = K := by rfl) : CallR X (.builtin "isinstance") (rIsi K) := h ▸ call_isi
theorem call_lenK (h : X.K = K := by rfl) : CallR X (.builtin "len") (fun xs H Q => (∃ x n, xs = [x] ∧ LenV K x H n ∧ Q (.int n) H) ∨ ∃ a kvs, xs = [V.ref a] ∧ H a = some (.dK kvs) ∧ Q (.int kvs.length) H) := h ▸ call_lenA
theorem mt_indexK (h : X.K = K := by rfl) : MtR X "list.index" (rIndex K) := h ▸ mt_index
theorem pi_seqK {tg l : Expr} {tl : TE} (hl : PE X l tl) (h : X.K = K := by rfl) : PI X tg l (iSeq K tl) := h ▸ pi_seq hl
theorem pi_enumK {e : Expr} {ta : TA} {p pos tpos : Pos} {elts : List Expr} {kk : Nat} (hg : Gl X "enumerate") (hm : X.mg "enumerate" = none) (ha : PA X [e] ta) (hs : starEach [e] X.env = [(false, eval e X.env)] := by rfl) (h : X.K = K := by rfl) :
    PI X (.Tuple elts kk tpos) (.Call (.Name "enumerate" p) [e] [] pos) (iEnum K ta) := h ▸ pi_enum hg hm ha hs
theorem pi_enumSK {e : Expr} {ta : TA} {p pos tpos : Pos} {elts : List Expr} {kk : Nat} (hg : Gl X "enumerate") (hm : X.mg "enumerate" = none) (ha : PA X [e] ta) (hs : starEach [e] X.env = [(false, eval e X.env)] := by rfl) (h : X.K = K := by rfl) :
    PI X (.Tuple elts kk tpos) (.Call (.Name "enumerate" p) [e] [] pos) (iEnumS K ta) := h ▸ pi_enumS hg hm ha hs
theorem pe_sortSetK {a : Expr} {ta : TE} {p p2 q pos : Pos} (hc : X.calm = true) (hg : Gl X "sorted") (hm : X.mg "sorted" = none) (hg2 : Gl X "set") (hm2 : X.mg "set" = none) (ha : PE X a ta)
    (na : starEach [a] X.env = (false, eval a X.env) :: starEach [] X.env := by rfl) (h : X.K = K := by rfl) : PE X (.Call (.Name "sorted" p) [.Call (.Name "set" p2) [a] [] q] [] pos) (tSortSet K ta) := h ▸ pe_sortSet hc hg hm hg2 hm2 ha na
theorem pe_lenSetK {a : Expr} {ta : TE} {p p2 q pos : Pos} (hc : X.calm = true) (hg : Gl X "len") (hm : X.mg "len" = none) (hg2 : Gl X "set") (hm2 : X.mg "set" = none) (ha : PE X a ta)
    (na : starEach [a] X.env = (false, eval a X.env) :: starEach [] X.env := by rfl) (h : X.K = K := by rfl) : PE X (.Call (.Name "len" p) [.Call (.Name "set" p2) [a] [] q] [] pos) (tLenSet K ta) := h ▸ pe_lenSet hc hg hm hg2 hm2 ha na
theorem pe_fldK {e : Expr} {ta : TE} {f : Str} {pos : Pos} (he : PE X e ta) (hb : attributeBase e f X.env (eval e X.env) = eval e X.env) (h : X.K = K := by rfl) : PE X (.Attribute e f pos) (tFld K ta f) := h ▸ pe_fld he hb
theorem pg_tupK {es : List Expr} {k : Nat} {pos : Pos} {t : TGs} {n : Nat} (hc : X.calm = true) (h0 : PGs X es t) (hn : (assignEach es X.env).length = n := by rfl) (hst : (assignEach es X.env).findIdx? (·.1) = none := by rfl) (h : X.K = K := by rfl) :
    PG X (.Tuple es k pos) (gTup K n t) := h ▸ pg_tup hc h0 hn hst
theorem pe_joinK {o e : Expr} {to te : TE} {apos pos : Pos} (ho : PE X o to) (he : PE X e te) (hs : starEach [e] X.env = [(false, eval e X.env)] := by rfl) (hbase : attributeBase o "join" X.env (eval o X.env) = eval o X.env := by rfl) (hline : (apos.endLine == pos.line) = true := by rfl) (h : X.K = K := by rfl) :
    PE X (.Call (.Attribute o "join" apos) [e] [] pos) (tM1 (fun x xs H Q => ∃ a p, ∃ ys : List Str, x = .str a ∧ xs = [.ref p] ∧ (SqL K H p (ys.map V.str) ∨ SqT K H p (ys.map V.str)) ∧
      (ys.map (·.length)).sum + ys.length * a.length ≤ 16777216 ∧ Q (.str (Txt.join a ys)) H) to te) := h ▸ pe_join ho he hs hbase hline
theorem pe_bmK {T : String} {id : String} {name : Str} {r : V → List V → Hp → VK → Prop} {o e : Expr} {es : List Expr} {to : TE} {t : TA} {apos cpos : Pos} (pa : PlainAttrs T) (slot : Slot T name id) (hty : typeOf (.builtin id) = pure (.type "method_descriptor")) (hm : MtR X id r) (ho : PE X o to) (ha : PA X (e :: es) t)
    (hbase : attributeBase o name X.env (eval o X.env) = eval o X.env := by rfl)
    (hfew : ((backTo cpos (starEach (e :: es) X.env)).all (fun x => !x.1) && (backToKw cpos (keywordEach [] X.env)).all (fun x => x.1.isSome) && decide ((e :: es).length + ([] : List Keyword).length + (if ([] : List Keyword).isEmpty then 0 else 1) < 30)) = true := by rfl) (hline : (apos.endLine == cpos.line) = true := by rfl) (hs : starEach (e :: es) X.env = (false, eval e X.env) :: starEach es X.env := by rfl) (hplain : (backTo cpos (starEach es X.env)).any (·.1) = false := by rfl) (h : X.K = K := by rfl) :
    PE X (.Call (.Attribute o name apos) (e :: es) [] cpos) (tBM K T r to t) := h ▸ pe_bm pa slot hty hm ho ha hbase hfew hline hs hplain
end
theorem ps_nil {G : Gm} : SndPs G [] [] := trivial
theorem ps_cons {G : Gm} {a b : TE} {c d : EM} {trs : List (TE × TE)} {ms : List (EM × EM)} (h1 : SndV G a c) (h2 : SndV G b d) (h3 : SndPs G trs ms) : SndPs G ((a, b) :: trs) ((c, d) :: ms) := ⟨h1, h2, h3⟩
end Yi
/-! a, *b = a list. -/
namespace Yi
open PySem PySem.Spec PyProof.Rows L2
theorem walks_on {P : Program} {w : World} {A : Around} {I : Addr} {fp wr : List Addr} {n : Nat} {Pv : Nat → Value → Prop} {St : Nat → Heap → Prop} (k : Nat) (hk : k ≤ n) (W : Walks P w A I fp wr n Pv St) :
    Walks P w A I fp wr (n - k) (fun i v => Pv (i + k) v) (fun i h => St (i + k) h) where
  sub := W.sub
  frame := fun i h h' st q => W.frame _ h h' st q
  item := fun i s Q E hi st hQ => W.item (i + k) s Q E (by omega) st fun v h' tk a b c => hQ v h' tk a (by rw [show i + 1 + k = i + k + 1 by omega]; exact b) c
  done := fun s Q E st hQ => W.done s Q E (by rw [show n - k + k = n by omega] at st; exact st) hQ
  self := fun i s Q E st q => W.self _ s Q E st q
section
variable {P : Program} {w : World} {A : Around} {E : Value → Shared → Prop} {s : Shared}
theorem unpack_star {l : Addr} {xs : Array Value} {x : Value} {r : List Value} {Q : List Value → Shared → Prop} (hh : A.handled = none) (hl : s.heap.IsList l xs) (hx : xs.toList = x :: r) (hz : xs.size ≤ sizeLine)
    (hQ : ∀ z : Shared, (∀ b o, s.heap.get? b = some o → z.heap.get? b = some o) → z.gens = s.gens → z.drawn = s.drawn → z.os = s.os →
      Q [x, .ref z.heap.objs.size] { z with heap := z.heap.push { cls := .type "list", data := .seq r.toArray } }) : wpAny (model P w) A (unpackItems (.ref l) 2 (some 1)) Q E s := by
  have hlt : l ≠ s.heap.objs.size := by obtain ⟨o, ho, _⟩ := hl; exact Nat.ne_of_lt (Heap.lt_size ho)
  have sz : xs.size = r.length + 1 := by rw [← Array.length_toList, hx]; rfl
  have x0 : xs[0]? = some x := by rw [← Array.getElem?_toList, hx]; rfl
  unfold unpackItems
  refine wpAny_bind ?_
  unfold notIterableAtAll
  refine wpAny_bind (wpAny_specialOf hl.typeIs slot_list_iter.lookup ?_)
  refine wpAny_pure ?_
  simp only [Bool.false_eq_true, if_false]
  refine wpAny_bind (wpAny_holding (wpAny_pyIter_list hl ?_))
  have hl1 : (s.heap.push { cls := .type "list_iterator", data := .fields #[.ref l, .int 0 0] }).IsList l xs := hl.push _
  have hi1 : (s.heap.push { cls := .type "list_iterator", data := .fields #[.ref l, .int 0 0] }).IsListIter s.heap.objs.size l 0 := ⟨_, Heap.get?_push_size _ rfl, rfl, rfl⟩
  refine wpAny_bind (wpAny_holding ?_)
  unfold draw
  refine wpAny_bind (wpAny_pyNext_list_item hi1 hl1 x0 fun h2 hi2 sb2 => ?_)
  dsimp only
  refine wpAny_bind (wpAny_holding ?_)
  unfold draw
  refine wpAny_pure ?_
  refine wpAny_pure ?_
  rw [if_neg (by simp)]
  refine wpAny_bind (wpAny_holding ?_)
  have hl2 : h2.IsList l xs := hl1.extBut sb2.extBut hlt
  have hh1 : A.in1.handled = none := hh
  have W := (walks_on 1 (by omega) (Walks.list (prog := P) (w := w) hh1 s.heap.objs.size l hlt xs)).toS
  have bi : s.heap.objs.size < h2.objs.size := by obtain ⟨o, e, _⟩ := hi2; exact Heap.lt_size e
  have bl : l < h2.objs.size := by obtain ⟨o, e, _⟩ := hl2; exact Heap.lt_size e
  refine wpAny_collect_iter (.inr (.inr (.inl rfl))) W (fun i z st => let ⟨o, ho, hc, _⟩ := st.1; ⟨o, ho, hc⟩) ⟨hi2, hl2⟩ (fun b hb => ?_) (by simp) (fun z acc mv io => ?_) (by omega)
  · rcases (by simpa using hb : b = s.heap.objs.size ∨ b = l) with q | q
    · rw [q]; exact bi
    · rw [q]; exact bl
  have ea : acc.toList = r := by
    apply List.ext_getElem?
    intro i
    have hs : acc.size = xs.size - 1 := io.1
    by_cases hi : i < r.length
    · have h3 := io.2 i (acc[i]'(by omega)) (by simp)
      rw [Array.getElem?_toList, Array.getElem?_eq_getElem (by omega)]
      have h4 : xs.toList[i + 1]? = some (acc[i]'(by omega)) := by rw [Array.getElem?_toList]; exact h3
      rw [hx] at h4
      simpa using h4.symm
    · rw [List.getElem?_eq_none (by simp; omega), List.getElem?_eq_none (by omega)]
  rw [ea]
  have kp : ∀ b o, s.heap.get? b = some o → z.heap.get? b = some o := fun b o e => by
    have hb : b ≠ s.heap.objs.size := Nat.ne_of_lt (Heap.lt_size e)
    exact mv.heap b o (by simpa using hb) (sb2.extBut b o hb (Heap.get?_push_of_some _ e))
  rw [if_neg (by simp)]
  have et : r.take (r.length - (2 - 1 - 1)) = r := by simp
  have ed : r.drop (r.length - (2 - 1 - 1)) = [] := by simp
  show wpAny _ _ (newList (r.take (r.length - (2 - 1 - 1))) >>= fun p => pure (([x] ++ [p]) ++ r.drop (r.length - (2 - 1 - 1)))) _ _ z
  rw [et, ed]
  refine wpAny_bind (wpAny_newObj_type (wpAny_pure ?_) ?_)
  · exact hQ _ kp mv.gens mv.drawn mv.os
  · show r.toArray.size ≤ sizeLine
    simp
    omega
end
/-- a, *b: the first one, a new list of the others -/
def gStar (K : PySem.W.Frag) (i j : Nat) : TG := fun v σ H Q => ∃ a x xs, v = .ref a ∧ SqL K H a (x :: xs) ∧ ∀ p, H p = none → Q ((σ.set i (some x)).set j (some (.ref p))) (upd H p (.lst xs))
theorem pg_star {X : Cx} {i j : Nat} {x y : Str} {px py ps pos : Pos} {k : Nat} (hc : X.calm = true) (hN : X.N.Nodup) (hi : X.N[i]? = some x) (hj : X.N[j]? = some y) (hx : Loc X.env.scope x) (hy : Loc X.env.scope y)
    (ha : assignEach [.Name x px, .Starred (.Name y py) ps] X.env = [(false, assign (.Name x px) X.env), (true, assign (.Name y py) X.env)] := by rfl)
    (hf : X.fn x = true ∨ X.env.scope.names.lookup x = some .local := by first | exact .inl rfl | exact .inr rfl) (hg : X.fn y = true ∨ X.env.scope.names.lookup y = some .local := by first | exact .inl rfl | exact .inr rfl) :
    PG X (.Tuple [.Name x px, .Starred (.Name y py) ps] k pos) (gStar X.K i j) := by
  refine ⟨fun pins s σ H v u Q I r hw => ?_⟩
  obtain ⟨a, z, zs, e1, hq, hw⟩ := hw
  subst e1
  cases r
  obtain ⟨its, rv, pl, hz⟩ := I.list hq
  cases rv with
  | cons r1 rr =>
    rename_i u1 us
    rw [PyProof.Rows.assign_Tuple, ha]
    refine wpAny_bind (wpAny_standAt ?_)
    unfold unpack
    have h63 : (z :: zs).length ≤ sizeLine := hz
    refine wpAny_bind (wpAny_holding (unpack_star (x := u1) (r := us) (I.ok.hd hc) pl.isList (by simp) (by simpa [rr.length] using h63) fun t kp gg dd oo => ?_))
    have I1 : Inv X pins σ H t := by
      have q := I.kept (h' := t.heap) (t' := t.toks) kp
      have e : t = { s with heap := t.heap, toks := t.toks } := by
        cases t
        cases s
        cases gg
        cases dd
        cases oo
        rfl
      rw [e]
      exact q
    have hn := I1.hok.fresh (Nat.le_refl _)
    have I2 : Inv X pins σ (upd H t.heap.objs.size (.lst zs)) { t with heap := t.heap.push { cls := .type "list", data := .seq us.toArray } } :=
      I1.laid (t' := t.toks) (fun b u e => Heap.get?_push_of_some _ e) (Nat.le_refl _) ⟨Nat.le_of_succ_le h63, us, 0, rr, Heap.get?_push_size _ rfl⟩
    refine assignInOrder_cons (wpAny_assign_Name (store_ok I2 hN hi hx r1 (fun s3 I3 => ?_) hf))
    refine assignInOrder_cons (wpAny_assign_Name (store_ok I3 hN hj hy (v := .ref t.heap.objs.size) rfl (fun s4 I4 => ?_) hg))
    exact assignInOrder_nil ⟨_, _, I4, hw _ hn⟩
theorem pg_starK (K : PySem.W.Frag) {X : Cx} {i j : Nat} {x y : Str} {px py ps pos : Pos} {k : Nat} (hc : X.calm = true) (hN : X.N.Nodup) (hi : X.N[i]? = some x) (hj : X.N[j]? = some y) (hx : Loc X.env.scope x) (hy : Loc X.env.scope y)
    (ha : assignEach [.Name x px, .Starred (.Name y py) ps] X.env = [(false, assign (.Name x px) X.env), (true, assign (.Name y py) X.env)] := by rfl)
    (hf : X.fn x = true ∨ X.env.scope.names.lookup x = some .local := by first | exact .inl rfl | exact .inr rfl) (hg : X.fn y = true ∨ X.env.scope.names.lookup y = some .local := by first | exact .inl rfl | exact .inr rfl) (h : X.K = K := by rfl) :
    PG X (.Tuple [.Name x px, .Starred (.Name y py) ps] k pos) (gStar K i j) := h ▸ pg_star hc hN hi hj hx hy ha hf hg
section
variable {G : Gm} {te : TE} {me : EM}
theorem snd_star {i j : Nat} (h : SndV G te me) : SndS G (tAsg te (gStar G.K i j)) (sStar i j me) := by
  intro F ι S ρ σ H f ρ' S' s e W k
  unfold sStar at e
  obtain ⟨⟨d, S1⟩, e1, e⟩ := Option.bind_eq_some_iff.mp e
  obtain ⟨ds, e2, e⟩ := Option.bind_eq_some_iff.mp e
  match ds, e2, e with
  | d0 :: r, e2, e =>
    cases e
    refine snd_d h s e1 _ fun F1 ι1 H1 v s1 p1 rd => ?_
    obtain ⟨a, vs, rfl, h1, h2⟩ := lst_get s1.rep rd e2
    obtain ⟨x, xs, rfl, r1, r2⟩ := rds_cons.mp h2
    refine ⟨a, x, xs, rfl, SqL.of h1, fun p hp => ?_⟩
    obtain ⟨q2, p2⟩ := s1.rep.newF (o := .lst xs) hp
    have s2 := (s1.after q2 p2).1
    have no : ∀ {b : Addr}, ¬ (none : Option Unit) = some () := fun {b} => by simp
    obtain ⟨s3, o3⟩ := s2.set (i := i) (w := .d d0) (v := x) (O := NoO) (H0 := H) (r1.mono p2.exF p2.pre) fun b hb => s.notOwn hb
    obtain ⟨s4, o4⟩ := s3.set (i := j) (w := .d (.fl r)) (v := .ref p) (O := NoO) (H0 := H) (by simp only [RV, RD]; exact ⟨p, xs, rfl, upd_same, r2.mono p2.exF p2.pre⟩) fun b hb hO => (o3 b hO).elim (s.notOwn hb) fun _ => by
      obtain ⟨i', c, h5, h6⟩ := hO
      rcases set_get h5 with ⟨_, q⟩ | ⟨q, h5⟩
      · cases q
      · rw [List.getElem?_set_ne (Ne.symm q)] at h6
        exact s.notOwn hb ⟨i', c, h5, h6⟩
    have pp := p1.trans p2
    have q : Stp F ι (OwnA ρ σ) H _ ι1 (OwnA ρ σ) _ := stx_own pp
    exact k _ ι1 _ _ s4 ⟨q.exF, q.pre, q.fr, q.nF, q.nI, fun b hb => by
      rcases o4 b hb with z | z
      · rcases o3 b z with y | y
        · exact .inl y
        · exact .inr y
      · exact .inr z, q.dom, q.fz⟩
end
end Yi
/-! More rules: dict(pairs) of a tuple, list(d.values()), sorted of tuples, x == [] of any list. -/
namespace Yi
open PySem L2 PySem.Spec PyProof.Rows
section
variable {X : Cx}
/-! ### x == [] -/
def rEqNil (K : PySem.W.Frag) : R2 := fun x y H Q => ∃ a b xs, x = .ref a ∧ y = .ref b ∧ SqL K H a xs ∧ SqL K H b [] ∧ Q (.bl xs.isEmpty) H
theorem op_eqNil (hu : X.A.units + 64 < cLine) : OpR X (compareOp .Eq) (rEqNil X.K) := by
  intro pins s σ H x y v u Q I rx ry h
  obtain ⟨a, b, xs, rfl, rfl, h1, h2, q⟩ := h
  cases rx
  cases ry
  obtain ⟨its, r1, p1, _⟩ := I.list h1
  obtain ⟨its2, r2, p2, _⟩ := I.list h2
  cases r2
  cases r1 with
  | nil => exact SeqAt.eq_listAt (e := fun _ => true) p1.isList p2.isList rfl (by omega) (fun j h1 _ => absurd h1 (by simp)) ⟨.bl true, H, I, rfl, q⟩
  | cons _ _ => exact SeqAt.eq_list_lengthsAt p1.isList p2.isList (by simp) (by omega) ⟨.bl false, H, I, rfl, q⟩
/-! ### dict(pairs), the pairs in a tuple -/
theorem pairs_of2 {pins : List (Addr × Obj)} {σ : L2.St} {H : Hp} {s : Shared} (I : Inv X pins σ H s) : ∀ {ps : List Addr} {kvs : List (Key × V)}, Paired (fun p kv => SqT X.K H p [kV kv.1, kv.2]) ps kvs →
    ∃ (prs : List (Key × Value)) (ks : List Value), KV kvs prs ∧ prs.length = ps.length ∧ ks.length = ps.length ∧ ∀ (j : Nat) (b : Addr), ps[j]? = some b → ∃ (u : Value) (p : Key × Value), ks[j]? = some u ∧ prs[j]? = some p ∧ IsTup s.heap b #[u, p.2] ∧ keyIs p.1 u = true
  | _, _, .nil => ⟨[], [], .nil, rfl, rfl, fun j q e => by simp at e⟩
  | _, _, .cons (a := p) (b := kv) h t => by
    obtain ⟨prs, ks, r, hl, hl2, hp⟩ := pairs_of2 I t
    obtain ⟨its, rv, ht, _⟩ := I.tuple h
    obtain ⟨u, y, ei, ru, ry⟩ := vals2 rv
    subst ei
    refine ⟨(kv.1, y) :: prs, u :: ks, .cons ⟨rfl, ry⟩ r, by rw [List.length_cons, List.length_cons, hl], by rw [List.length_cons, List.length_cons, hl2], fun j b e => ?_⟩
    cases j with
    | zero =>
      have e' : p = b := Option.some.inj e
      subst e'
      exact ⟨u, _, rfl, rfl, ht, kV_is (P := X.prog) (w := X.w) ru⟩
    | succ j => exact hp j b (by simpa using e)
theorem call_dictT (hcalm : X.calm = true) : CallR X (.type "dict") (fun xs H Q => ∃ (a : Addr) (o : Obj) (ps : List Addr) (kvs : List (Key × V)), xs = [.ref a] ∧ H a = some (.frz o (.tup (ps.map V.ref))) ∧ o.dict = none ∧ Paired (fun p kv => SqT X.K H p [kV kv.1, kv.2]) ps kvs ∧
    ∀ p, H p = none → Q (.ref p) (upd H p (.dK (mergeK [] kvs)))) := by
  intro pins s σ H xs us Q I r q
  obtain ⟨a, o, ps, kvs, ex, hq, ho, hp, q⟩ := q
  subst ex
  obtain ⟨u, eu, rx⟩ := vals1 r
  subst eu
  cases rx
  obtain ⟨ha, hz, its, rv, o', ho', hc, n, hdat⟩ := I.hok _ _ hq
  rw [ha] at ho'
  cases ho'
  have ei := refs_at rv
  subst ei
  rw [List.length_map] at hz
  obtain ⟨prs, ks, rel, hl, hl2, hpr⟩ := pairs_of2 I hp
  have ok : PlainSeq "tuple" s.heap a (ps.map Value.ref).toArray ∧ PairItems s.heap (ps.map Value.ref).toArray (fun j => ps.getD j 0) (ks.zip (prs.map (·.2))) := by
    refine ⟨⟨o, n, ha, hc, ho, hdat⟩, by simp [hl, hl2], fun j k v e => ?_⟩
    obtain ⟨e1, e2⟩ := List.getElem?_zip_eq_some.mp e
    rw [List.getElem?_map] at e2
    obtain ⟨p, e3, rfl⟩ := Option.map_eq_some_iff.mp e2
    have lj := (List.getElem?_eq_some_iff.mp e1).1
    have eb : ps[j]? = some ps[j] := List.getElem?_eq_getElem (by omega)
    obtain ⟨u, p', g1, g2, g3, g4⟩ := hpr j _ eb
    rw [e1] at g1
    rw [e3] at g2
    cases g1
    cases g2
    refine ⟨by simp [eb], .inl ?_⟩
    show s.heap.IsTuple (ps.getD j 0) _
    rw [List.getD_eq_getElem?_getD, eb]
    exact g3
  have ln : (ks.zip (prs.map (·.2))).length = ps.length := by simp [hl, hl2]
  refine PySem.call_dict_pairs (knd := mixKind X.prog X.w) (kvs := prs) (PairArg.tuple a _ _ _) (I.ok.hd hcalm) ok ⟨by rw [ln]; exact hl, fun i key v e => ?_⟩ (by rw [ln]; exact hz) fun h' tk hd' k => ?_
  · obtain ⟨e1, e2⟩ := List.getElem?_zip_eq_some.mp e
    rw [List.getElem?_map] at e2
    obtain ⟨p, e3, rfl⟩ := Option.map_eq_some_iff.mp e2
    have lj := (List.getElem?_eq_some_iff.mp e1).1
    obtain ⟨u, p', g1, g2, g3, g4⟩ := hpr i _ (List.getElem?_eq_getElem (by omega))
    rw [e1] at g1
    rw [e3] at g2
    cases g1
    cases g2
    exact ⟨_, e3, g4⟩
  · have hm : (s.heap.objs.size == sysModules) = false := beq_eq_false_iff_ne.mpr (Nat.ne_of_gt I.big)
    have hlen : (mergeK [] kvs).length ≤ sizeLine := by
      refine Nat.le_trans (length_mergeK kvs []) ?_
      rw [List.length_nil, Nat.zero_add, rel.length, hl]
      exact hz
    exact ⟨.ref s.heap.objs.size, upd H s.heap.objs.size (.dK (mergeK [] kvs)), I.laid (t' := tk) (fun b o e => k b o (by simp) e) (Nat.le_refl _) (show ObjOk X.prog X.w _ _ _ (.dK (mergeK [] kvs)) from ⟨hlen, hm, merged [] prs, KV.merge rel .nil, hd'⟩), rfl, q _ (I.hok.fresh (Nat.le_refl _))⟩
/-! ### sorted(xs), xs a list of tuples that read as alike data -/
def rSortedD (K : PySem.W.Frag) : List V → Hp → VK → Prop := fun vs H Q => ∃ (a : Addr) (bs : List (V × PyData)), vs = [V.ref a] ∧ SqL K H a (bs.map (·.1)) ∧ (∀ b ∈ bs, Dp K H b.1 b.2) ∧ PySem.W.AllAlike (bs.map (·.2)) ∧ PySem.W.Sortable (bs.map (·.2)) ∧ (∀ b ∈ bs, b.2.depth ≤ 60) ∧
  ∀ p, H p = none → Q (.ref p) (upd H p (.lst ((bs.mergeSort (PySem.W.dataLe false (·.2))).map (·.1))))
theorem each_vals {bs : List (V × PyData)} : ∀ {its : List Value}, Vals (bs.map (·.1)) its → PySem.W.EachIs (fun v b => RelV b.1 v) its bs := by
  induction bs with
  | nil => intro its h; cases h; exact .nil
  | cons b r ih =>
    intro its h
    cases h with
    | cons h1 h2 => exact .cons h1 (ih h2)
theorem vals_each {bs : List (V × PyData)} : ∀ {its : List Value}, PySem.W.EachIs (fun v b => RelV b.1 v) its bs → Vals (bs.map (·.1)) its := by
  induction bs with
  | nil => intro its h; cases h; exact .nil
  | cons b r ih =>
    intro its h
    cases h with
    | cons h1 h2 => exact .cons h1 (ih h2)
theorem each_reads {pins : List (Addr × Obj)} {σ : L2.St} {H : Hp} {s : Shared} (I : Inv X pins σ H s) {bs : List (V × PyData)} : ∀ {its : List Value}, (∀ b ∈ bs, Dp X.K H b.1 b.2) → PySem.W.EachIs (fun v b => RelV b.1 v) its bs → PySem.W.EachIs (fun v b => ∃ as, Reads s.heap v b.2 as) its bs := by
  induction bs with
  | nil => intro its h e; cases e; exact .nil
  | cons b r ih =>
    intro its h e
    cases e with
    | cons h1 h2 => exact .cons (Dp.reads I _ _ _ (h b (by simp)) h1) (ih (fun b' hb => h b' (by simp [hb])) h2)
theorem cr_sortedD (hu : X.A.units + 64 < cLine) : CallR X (.builtin "sorted") (rSortedD X.K) := by
  intro pins s σ H vs us Q I r h
  obtain ⟨a, bs, rfl, hs, hd, hal, hk, hdp, q⟩ := h
  obtain ⟨its, rv, hl, hz⟩ := I.list hs
  obtain ⟨u, rfl, ru⟩ := vals1 r
  obtain rfl : u = Value.ref a := ru
  have e := each_vals rv
  rw [List.length_map] at hz
  refine PySem.W.sorted_data (enc := (·.2)) hl.isList e (each_reads I hd e) hal hk hz (fun b hb => by have := hdp b hb; omega) fun out ho he => ?_
  obtain ⟨n, hn⟩ := sortedAll_at s.heap its out.toArray
  refine ⟨.ref (s.heap.objs.size + 1), upd H (s.heap.objs.size + 1) (.lst ((bs.mergeSort (PySem.W.dataLe false (·.2))).map (·.1))), I.laid (t' := s.toks) (fun b o z => sortedAll_old z) (Nat.le_succ _) ⟨?_, out, n, vals_each he, hn⟩, rfl, q _ (I.hok.fresh (Nat.le_succ _))⟩
  rw [List.length_map, List.length_mergeSort]
  exact hz
/-! ### list(d.values()) -/
theorem kv_snd {κ : Type} {kvs : List (κ × V)} {vs : List (κ × Value)} (r : KV kvs vs) : Vals (kvs.map (·.2)) (vs.map (·.2)) := by
  unfold KV at r
  induction r with
  | nil => exact .nil
  | cons h t ih => exact .cons h.2 ih
def tListVals (td : TE) : TE := fun σ H Q => td σ H fun x H1 => ∃ a kvs, x = V.ref a ∧ H1 a = some (.dK kvs) ∧ ∀ p, H1 p = none → Q (.ref p) (upd H1 p (.lst (kvs.map (·.2))))
variable {o : Expr} {p pos apos mpos : Pos} {td : TE}
theorem pe_listVals (hc : X.calm = true) (hg : Gl X "list") (hm : X.mg "list" = none) (hd : PE X o td) (hbase : attributeBase o "values" X.env (eval o X.env) = eval o X.env := by rfl) (hline : (apos.endLine == mpos.line) = true := by rfl)
    (hse : starEach [Expr.Call (.Attribute o "values" apos) [] [] mpos] X.env = [(false, eval (Expr.Call (.Attribute o "values" apos) [] [] mpos) X.env)] := by rfl) (hpl : (backTo pos (starEach ([] : List Expr) X.env)).any (·.1) = false := by rfl) :
    PE X (.Call (.Name "list" p) [.Call (.Attribute o "values" apos) [] [] mpos] [] pos) (tListVals td) := by
  refine ⟨fun pins s σ H Q I h => ?_⟩
  refine wpAny_Call_Name_kw (ld_blt I hg hm (u := .type "list") (by first | rfl | decide +kernel) ?_ (by first | decide +kernel | decide) (by first | decide +kernel | decide))
  rw [hse]
  refine PySem.callWith_type1 (wpAny_Call_method0_late hbase hline (thn (hd.run pins s σ H _ I h) fun v s1 ⟨x, H1, I1, r1, a, kvs, ex, ha, q⟩ => ?_))
  subst ex
  obtain rfl : v = Value.ref a := r1
  obtain ⟨hz, hsys, vs, rel, dof⟩ := dk_of I1.hok ha
  obtain ⟨ep, dat⟩ := dof.dictAt
  have dat' := dat
  obtain ⟨ob, es, ho, ex, hdat, hko, hpr, hnd⟩ := dat'
  refine ⟨"dict", "dict.values", F.plainAttrs_dict, F.slot_dict_values, F.type_dict_values, ⟨ob, ho, ex.1⟩, fun b e => ?_, Calls.callWith_builtin rfl (PySem.evalArgs_none ?_)⟩
  · cases e
    exact ⟨ob, ho, ex.2.1⟩
  refine call_meetsIn F.slot_dict_values ⟨ob, ho, ex.1⟩ F.entry_dict_values (F.args_dict_values_1 _) (meets_dict_values (mixKind X.prog X.w) a hsys) ⟨⟨vs, dof⟩, ?_⟩
  have k1 : ∀ b u, s1.heap.get? b = some u → (s1.heap.push { cls := .type "dict_values", data := .fields #[.ref a] }).get? b = some u := fun b u e => Heap.get?_push_of_some _ e
  have dat1 : (s1.heap.push { cls := .type "dict_values", data := .fields #[.ref a] }).DictAt (mixKind X.prog X.w) a vs ep := dat.keep k1
  have hlv : kvs.length = vs.length := KV.length rel
  refine PySem.W.kdl_call (PySem.W.kdl_values (knd := mixKind X.prog X.w) (kvs := vs) (ep := ep) (d := a) (r := s1.heap.objs.size)) (I.ok.hd hc) ⟨⟨_, Heap.get?_push_size _ rfl, rfl, rfl⟩, dat1⟩ (by rw [← hlv]; exact hz) fun h' tk acc c' hk hn hacc => ?_
  have ev : acc.toList = vs.map (·.2) := PySem.W.kdl_vals_eq _ (by rw [Array.length_toList]; exact hacc.1) fun j v e => hacc.2 j v (by rw [← Array.getElem?_toList]; exact e)
  have rv : Vals (kvs.map (·.2)) acc.toList := by
    rw [ev]
    exact kv_snd rel
  have I2 := I1.kept (t' := tk) (h' := h') fun b u e => hk b u (k1 b u e)
  refine ⟨.ref _, upd H1 (s1.heap.push { cls := .type "dict_values", data := .fields #[.ref a] }).objs.size (.lst (kvs.map (·.2))), I1.laid (t' := tk) (fun b u e => hk b u (k1 b u e)) (by rw [Heap.size_push]; exact Nat.le_succ _) ⟨by rw [List.length_map]; exact hz, acc.toList, c', rv, by rw [Array.toArray_toList]; exact hn⟩, rfl, q _ (I1.hok.fresh (by rw [Heap.size_push]; exact Nat.le_succ _))⟩
end
end Yi
/-! What the rules of YiW mean over cells and slots; o.f += a list; calls with keywords. -/
namespace Yi
open PySem L2
section
variable {G : Gm} {te : TE} {me : EM}
/-! ### x == [] -/
def fEqN : D → D → Sto → Option VV := fun x y S => (lstD x S).bind fun ds => (lstD y S).bind fun es => if es.isEmpty = true then some (.d (.bl ds.isEmpty)) else none
theorem snd_eqN : SndR2 G (rEqNil G.K) fEqN := by
  intro F ι S H x y vx vy w r rx ry e Q k
  unfold fEqN at e
  obtain ⟨ds, e1, e⟩ := Option.bind_eq_some_iff.mp e
  obtain ⟨es, e2, e⟩ := Option.bind_eq_some_iff.mp e
  split at e
  · rename_i hn
    cases e
    have en : es = [] := List.isEmpty_iff.mp hn
    subst en
    obtain ⟨a, vs, rfl, h1, h2⟩ := lst_get r rx e1
    obtain ⟨b, us, rfl, g1, g2⟩ := lst_get r ry e2
    rw [rds_nil] at g2
    subst g2
    have ee : vs.isEmpty = ds.isEmpty := by
      have := h2.len
      cases ds <;> cases vs <;> first | rfl | simp at this
    refine ⟨a, b, vs, rfl, rfl, SqL.of h1, SqL.of g1, ?_⟩
    rw [ee]
    exact k F H _ r .refl (by simp only [RV, RD])
  · cases e
/-! ### dict(pairs) -/
def pairsD : List D → Option (List (Key × D))
  | [] => some []
  | .tp _ [k, v] :: r => (keyK k).bind fun q => (pairsD r).map fun l => (q, v) :: l
  | _ => none
theorem pairs_rd {F : Hp} {ι : List Addr} {S : Sto} {H : Hp} (r : Rep G F ι S H) : ∀ {ds : List D} {kvs : List (Key × D)} {vs : List V}, RDs G F ι ds vs → pairsD ds = some kvs → ∃ (ps : List Addr) (kv : List (Key × V)), vs = ps.map V.ref ∧ Paired (fun p q => SqT G.K H p [kV q.1, q.2]) ps kv ∧ RKs G F ι kvs kv
  | [], kvs, vs, h, e => by
    cases e
    rw [rds_nil] at h
    subst h
    exact ⟨[], [], rfl, .nil, rfl⟩
  | d :: ds, kvs, vs, h, e => by
    obtain ⟨v, vr, rfl, h1, h2⟩ := rds_cons.mp h
    unfold pairsD at e
    split at e
    · rename_i e0; cases e0
    · rename_i b k x r' e0
      cases e0
      obtain ⟨q, e1, e⟩ := Option.bind_eq_some_iff.mp e
      obtain ⟨l, e2, rfl⟩ := Option.map_eq_some_iff.mp e
      obtain ⟨ps, kv, rfl, g1, g2⟩ := pairs_rd r h2 e2
      obtain ⟨a, us, rfl, t1, _, t2⟩ := tup_get r h1
      obtain ⟨u1, ur, rfl, q1, q2⟩ := rds_cons.mp t2
      obtain ⟨u2, ur2, rfl, q3, q4⟩ := rds_cons.mp q2
      rw [rds_nil] at q4
      subst q4
      have ek := keyK_of q1 e1
      subst ek
      exact ⟨a :: ps, (q, u2) :: kv, rfl, .cons t1 g1, u2, kv, rfl, q3, g2⟩
    · cases e
def fDict : List D → Sto → Option VV := fun xs _ => match xs with
  | [.tp true ds] => (pairsD ds).map fun kvs => .own (.dk (mergeKD [] kvs))
  | _ => none
theorem snd_dict : SndRL G (fun xs H Q => ∃ (a : Addr) (o : Obj) (ps : List Addr) (kvs : List (Key × V)), xs = [.ref a] ∧ H a = some (.frz o (.tup (ps.map V.ref))) ∧ o.dict = none ∧ Paired (fun p kv => SqT G.K H p [kV kv.1, kv.2]) ps kvs ∧
    ∀ p, H p = none → Q (.ref p) (upd H p (.dK (mergeK [] kvs)))) fDict := by
  intro F ι S H xs vs w r rs e Q k
  unfold fDict at e
  split at e
  · rename_i ds
    obtain ⟨kvs, e1, e⟩ := Option.map_eq_some_iff.mp e
    subst e
    obtain ⟨v, rfl, h1⟩ := rds_1 rs
    obtain ⟨a, us, rfl, h2, ⟨o, h3, h4⟩, h5⟩ := tup_get r h1
    obtain ⟨ps, kv, rfl, g1, g2⟩ := pairs_rd r h5 e1
    refine ⟨a, o, ps, kv, rfl, h3, h4, g1, fun p hp => ?_⟩
    obtain ⟨r2, p2⟩ := r.newO (o := .dK (mergeK [] kv)) hp
    exact k F _ _ r2 p2 ⟨p, _, rfl, upd_same, ⟨_, rfl, rks_merge g2 rfl⟩, r.noF hp, r.noI hp, .inr hp⟩
  · cases e
/-! ### list(d.values()) -/
def eLVals (m : EM) : EM := fun ρ S => (eD m ρ S).bind fun p => match p.1 with
  | .ref n => match p.2[n]? with
    | some (.dk kvs) => some (.own (.lst (kvs.map (·.2))), p.2)
    | _ => none
  | _ => none
theorem rks_vals {κ : Type} {F : Hp} {ι : List Addr} : ∀ {kvs : List (κ × D)} {kv : List (κ × V)}, RKs G F ι kvs kv → RDs G F ι (kvs.map (·.2)) (kv.map (·.2))
  | [], kv, h => by cases (show kv = [] from h); exact rds_nil.mpr rfl
  | (k, d) :: r, kv, h => by
    obtain ⟨v, r', rfl, h1, h2⟩ := h
    exact rds_cons.mpr ⟨v, _, rfl, h1, rks_vals h2⟩
theorem snd_lvals (h : SndV G te me) : SndV G (tListVals te) (eLVals me) := by
  intro F ι S ρ σ H w S' s e Q k
  unfold eLVals at e
  obtain ⟨⟨x, S1⟩, e1, e⟩ := Option.bind_eq_some_iff.mp e
  dsimp only at e
  split at e
  · rename_i n
    split at e
    · rename_i kvs hn
      cases e
      refine snd_d h s e1 _ fun F1 ι1 H1 v s1 p1 r => ?_
      simp only [RD] at r
      obtain ⟨a, rfl, ha⟩ := r
      obtain ⟨b, o, h1, h2, kv, rfl, h3⟩ := s1.rep.cell n _ hn
      rw [ha] at h1
      cases h1
      refine ⟨a, kv, rfl, h2, fun p hp => ?_⟩
      obtain ⟨r2, p2⟩ := s1.rep.newO (o := .lst (kv.map (·.2))) hp
      exact k F1 ι1 _ _ (s1.after r2 p2).1 (p1.trans p2) ⟨p, _, rfl, upd_same, ⟨_, rfl, rks_vals h3⟩, s1.rep.noF hp, s1.rep.noI hp, .inr (p1.back p hp)⟩
    · cases e
  · cases e
/-! ### sorted of tuples -/
def isTup1 : PyData → Bool
  | .tuple (_ :: _) => true
  | _ => false
def okSort (ps : List PyData) : Bool := ps.all isTup1 && (ps.all fun p => ps.all fun q => PySem.W.alike p q) && (ps.all fun p => decide (p.depth ≤ 60))
def fSortD : List D → Sto → Option VV := fun xs S => match xs with
  | [x] => (lstD x S).bind fun ds => (pyDs 12 S ds).bind fun ps => if okSort ps = true then some (.own (.lst (((ds.zip ps).mergeSort (PySem.W.dataLe false (·.2))).map (·.1)))) else none
  | _ => none
theorem sort_ts {F : Hp} {ι : List Addr} {H : Hp} : ∀ {ds : List D} {vs : List V} {ps : List PyData}, RDs G F ι ds vs → DpAll G.K H vs ps → ∃ ts : List (D × V × PyData), ds = ts.map (·.1) ∧ vs = ts.map (·.2.1) ∧ ps = ts.map (·.2.2) ∧ ∀ t ∈ ts, RD G F ι t.1 t.2.1 ∧ Dp G.K H t.2.1 t.2.2
  | [], vs, ps, h, g => by
    rw [rds_nil] at h
    subst h
    cases g
    exact ⟨[], rfl, rfl, rfl, by simp⟩
  | d :: ds, vs, ps, h, g => by
    obtain ⟨v, r, rfl, h1, h2⟩ := rds_cons.mp h
    cases g with
    | cons g1 g2 =>
      obtain ⟨ts, rfl, rfl, rfl, q⟩ := sort_ts h2 g2
      exact ⟨(d, v, _) :: ts, rfl, rfl, rfl, fun t ht => by
        rcases List.mem_cons.mp ht with e | ht
        · subst e; exact ⟨h1, g1⟩
        · exact q t ht⟩
theorem rds_ts {F : Hp} {ι : List Addr} : ∀ {ts : List (D × V × PyData)}, (∀ t ∈ ts, RD G F ι t.1 t.2.1) → RDs G F ι (ts.map (·.1)) (ts.map (·.2.1))
  | [], _ => rds_nil.mpr rfl
  | t :: r, h => rds_cons.mpr ⟨_, _, rfl, h t (by simp), rds_ts fun t' ht => h t' (by simp [ht])⟩
theorem snd_sortD : SndRL G (rSortedD G.K) fSortD := by
  intro F ι S H xs vs w r rs e Q k
  unfold fSortD at e
  split at e
  · rename_i x
    obtain ⟨ds, e1, e⟩ := Option.bind_eq_some_iff.mp e
    obtain ⟨ps, e2, e⟩ := Option.bind_eq_some_iff.mp e
    split at e
    · rename_i hs
      cases e
      obtain ⟨v, rfl, h1⟩ := rds_1 rs
      obtain ⟨a, us, rfl, h2, h3⟩ := lst_get r h1 e1
      obtain ⟨ts, rfl, rfl, rfl, q⟩ := sort_ts h3 (pyDs_dp r 12 h3 e2)
      simp only [okSort, Bool.and_eq_true, List.all_eq_true, decide_eq_true_eq] at hs
      obtain ⟨⟨s1, s2⟩, s3⟩ := hs
      have eb : (ts.map fun t => (t.2.1, t.2.2)).map (·.1) = ts.map (·.2.1) := by rw [List.map_map]; rfl
      have eb2 : (ts.map fun t => (t.2.1, t.2.2)).map (·.2) = ts.map (·.2.2) := by rw [List.map_map]; rfl
      refine ⟨a, ts.map fun t => (t.2.1, t.2.2), rfl, by rw [eb]; exact SqL.of h2, fun b hb => ?_, by rw [eb2]; exact fun p hp p' hp' => s2 p hp p' hp', ?_, fun b hb => ?_, fun p hp => ?_⟩
      · obtain ⟨t, ht, rfl⟩ := List.mem_map.mp hb
        exact (q t ht).2
      · rw [eb2]
        refine .inl fun p hp => ?_
        have := s1 p hp
        unfold isTup1 at this
        split at this
        · exact ⟨_, _, rfl⟩
        · cases this
      · obtain ⟨t, ht, rfl⟩ := List.mem_map.mp hb
        exact s3 _ (List.mem_map.mpr ⟨t, ht, rfl⟩)
      · have c1 := List.map_mergeSort (f := fun t : D × V × PyData => (t.2.1, t.2.2)) (r := PySem.W.dataLe false fun t : D × V × PyData => t.2.2) (s := PySem.W.dataLe false fun b : V × PyData => b.2) (l := ts) (fun _ _ _ _ => rfl)
        have c2 := List.map_mergeSort (f := fun t : D × V × PyData => (t.1, t.2.2)) (r := PySem.W.dataLe false fun t : D × V × PyData => t.2.2) (s := PySem.W.dataLe false fun b : D × PyData => b.2) (l := ts) (fun _ _ _ _ => rfl)
        have m1 : ((ts.map fun t => (t.2.1, t.2.2)).mergeSort (PySem.W.dataLe false fun b : V × PyData => b.2)).map (·.1) = (ts.mergeSort (PySem.W.dataLe false fun t : D × V × PyData => t.2.2)).map (·.2.1) := by
          rw [← c1, List.map_map]
          rfl
        have m2 : (((ts.map (·.1)).zip (ts.map (·.2.2))).mergeSort (PySem.W.dataLe false fun b : D × PyData => b.2)).map (·.1) = (ts.mergeSort (PySem.W.dataLe false fun t : D × V × PyData => t.2.2)).map (·.1) := by
          rw [List.zip_map', ← c2, List.map_map]
          rfl
        rw [m1]
        obtain ⟨r2, p2⟩ := r.newO (o := .lst ((ts.mergeSort (PySem.W.dataLe false fun t : D × V × PyData => t.2.2)).map (·.2.1))) hp
        refine k F _ _ r2 p2 ⟨p, _, rfl, upd_same, ⟨_, rfl, ?_⟩, r.noF hp, r.noI hp, .inr hp⟩
        rw [m2]
        exact rds_ts fun t ht => (q t (List.mem_mergeSort.mp ht)).1
    · cases e
  · cases e
/-! ### o.f += a list -/
def sFldX (c : Nat) (f : Str) (mo mv : EM) : SM := fun ρ S => (eD mo ρ S).bind fun p => (insAt c p.1 p.2).bind fun u => (lkp f u.2).bind fun x => (eD mv ρ p.2).bind fun q => (lstD q.1 q.2).bind fun es => (cellL x q.2).bind fun g =>
  if szOk (g.2.length + es.length) = true then (insAt c p.1 (q.2.set g.1 (.lst (g.2 ++ es)))).bind fun u2 => if u2.2.length < 999 then some (.nx, ρ, (q.2.set g.1 (.lst (g.2 ++ es))).set u2.1 (.ins c (putD f x u2.2))) else none else none
theorem snd_fldX {c : Nat} {f : Str} {to tv : TE} {mo mv : EM} (ok : FldOk G c f) (ho : SndV G to mo) (hv : SndV G tv mv) : SndS G (sFldAug G.K to tv rExt2 f) (sFldX c f mo mv) := by
  intro F ι S ρ σ H fl ρ' S' s e W k
  unfold sFldX at e
  obtain ⟨⟨o, S1⟩, e1, e⟩ := Option.bind_eq_some_iff.mp e
  obtain ⟨⟨n, fs⟩, e2, e⟩ := Option.bind_eq_some_iff.mp e
  obtain ⟨x, e3, e⟩ := Option.bind_eq_some_iff.mp e
  obtain ⟨⟨y, S2⟩, e4, e⟩ := Option.bind_eq_some_iff.mp e
  obtain ⟨es, e5, e⟩ := Option.bind_eq_some_iff.mp e
  obtain ⟨⟨m, ds⟩, e6, e⟩ := Option.bind_eq_some_iff.mp e
  dsimp only at e
  split at e
  · rename_i hz
    obtain ⟨⟨n2, fs2⟩, e7, e⟩ := Option.bind_eq_some_iff.mp e
    dsimp only at e
    split at e
    · rename_i hf
      cases e
      refine snd_d ho s e1 _ fun F1 ι1 H1 vo s1 p1 ro => ?_
      obtain ⟨a, dx, kv, rfl, h1, h2, h3⟩ := ins_get s1.rep e2 ro
      obtain ⟨vx, q1, q2⟩ := (rks_lkp h3).1 x e3
      refine ⟨a, _, dx, kv, vx, rfl, h2, ok.cl, ok.na, q1, ?_⟩
      refine snd_d hv s1 e4 _ fun F2 ι2 H2 vy s2 p2 ry => ?_
      obtain ⟨l, us, rfl, g1, g2, g3, g4⟩ := cellL_get s2.rep (q2.mono p2.exF p2.pre) e6
      obtain ⟨b, zs, rfl, t1, t2⟩ := lst_get s2.rep ry e5
      refine ⟨l, b, us, zs, rfl, rfl, g3, t1, by rw [← g4.len, ← t2.len]; exact szOk_le hz, ?_⟩
      obtain ⟨r3, p3⟩ := cell_done s2.rep g1 g2 (g4.app t2)
      have pp := p2.trans p3
      obtain ⟨a', dx', kv', ea, h1', h2', h3'⟩ := ins_get r3 e7 (ro.mono pp.exF pp.pre)
      cases ea
      have rc : RC G F2 ι2 (.ins c (putD f x fs2)) (.ins (G.cl c) dx' (putF f (V.ref l) kv')) := ⟨dx', _, rfl, rks_put (q2.mono p2.exF p2.pre) h3'⟩
      obtain ⟨r4, p4⟩ := r3.put h1' (insAt_some e7).2 rfl rc
      refine ⟨dx', kv', h2', by rw [← rks_len h3']; omega, ?_⟩
      exact k F2 ι2 σ _ (s1.after r4 (pp.trans p4)).1 (stx_own ((p1.trans pp).trans p4))
    · cases e
  · cases e
/-! ### f(e, .., k = v, ..) -/
def eCallN (f : Den) (n m : Nat) (gD : List D → List D → List D) (a b : AM) : EM := fun ρ S => (a ρ S).bind fun p => (b ρ p.2).bind fun q => if p.1.length = n ∧ q.1.length = m then f (gD p.1 q.1) q.2 else none
theorem snd_callN {f : Den} {np n m : Nat} {t tk : TA} {ma mk : AM} {gV : List V → List V → List V} {gD : List D → List D → List D} {E : XK} (h : SndA G t ma) (hk : SndA G tk mk) (hg : ∀ F ι ds es vs zs, RDs G F ι ds vs → RDs G F ι es zs → RDs G F ι (gD ds es) (gV vs zs))
    (hn : ∀ ds S w S', f ds S = some (w, S') → ds.length = np) : SndV G (tCallN n m (spI G np f) gV E t tk) (eCallN f n m gD ma mk) := by
  intro F ι S ρ σ H w S' s e Q k
  unfold eCallN at e
  obtain ⟨⟨ds, S1⟩, e1, e⟩ := Option.bind_eq_some_iff.mp e
  obtain ⟨⟨es, S2⟩, e2, e⟩ := Option.bind_eq_some_iff.mp e
  dsimp only at e
  split at e
  · rename_i hl
    refine h s e1 _ fun F1 ι1 H1 vs s1 p1 rs => ?_
    refine hk s1 e2 _ fun F2 ι2 H2 zs s2 p2 rz => ?_
    have rs2 := hg F2 ι2 _ _ _ _ (rs.mono p2.exF p2.pre) rz
    have pp := p1.trans p2
    exact ⟨by rw [← rs.len]; exact hl.1, by rw [← rz.len]; exact hl.2, by rw [← rs2.len]; exact hn _ _ _ _ e, F2, ι2, S2, _, w, S', s2.rep, rs2, e, fun F' ι' H' v r' p' rv => k F' ι' H' v (s2.after r' p').1 (pp.trans p') (rv.back pp.back)⟩
  · cases e
end
section
variable {X : Cx} (K : PySem.W.Frag)
theorem op_eqNilK (hu : X.A.units + 64 < cLine) (h : X.K = K := by rfl) : OpR X (compareOp .Eq) (rEqNil K) := h ▸ op_eqNil hu
theorem call_sortedDK (hu : X.A.units + 64 < cLine) (h : X.K = K := by rfl) : CallR X (.builtin "sorted") (rSortedD K) := h ▸ cr_sortedD hu
theorem call_dictTK (hc : X.calm = true) (h : X.K = K := by rfl) : CallR X (.type "dict") (fun xs H Q => ∃ (a : Addr) (o : Obj) (ps : List Addr) (kvs : List (Key × V)), xs = [.ref a] ∧ H a = some (.frz o (.tup (ps.map V.ref))) ∧ o.dict = none ∧ Paired (fun p kv => SqT K H p [kV kv.1, kv.2]) ps kvs ∧
    ∀ p, H p = none → Q (.ref p) (upd H p (.dK (mergeK [] kvs)))) := h ▸ call_dictT hc
end
section
variable {G : Gm} {F : Hp} {ι : List Addr}
theorem rd_emp {a : Addr} (h : PlE G.K a) : RD G F ι (.tup []) (.ref a) := by
  obtain ⟨o, n, h1, h2, h3, h4⟩ := id h
  simp only [RD]
  exact ⟨a, [], rfl, .inr ⟨o, #[], n, h1, h2, h4, by simp, .nil⟩, .inr ⟨rfl, h⟩, rds_nil.mpr rfl⟩
theorem rd_int (i : Int) : RD G F ι (.int i) (.int i) := by simp only [RD]
end
section
variable {K : PySem.W.Frag} {x qual : Str} {params : Arguments} {body : List Stmt} {scope : Scope} {kws : List (Str × V)} {f : Addr} {fd : FuncData} {ps : List Str}
open PySem.Spec PyProof.Rows in
/-- no positional default; ms: the keyword-only parameters that lack -/
theorem kbinds0 (F : FunD K x qual params body scope [] kws f fd) (n : Nat) (ks : List Str) (ms : List (Str × V)) (g : {α : Type} → List α → List α → List α → List α) (hk : kws ≠ []) (hms : ∀ q ∈ ms, q ∈ kws)
    (hrel : ∀ {vs mz zs : List V} {us mv ws : List Value}, Vals vs us → Vals mz mv → Vals zs ws → Vals (g vs mz zs) (g us mv ws))
    (h : ∀ (D : Addr) (doc pm : Value) (an : Option Addr) (cdv ct : Value) (us mv ws : List Value), us.length = n → mv.length = ms.length → ws.length = ks.length →
      KwChain D ((ms.map (·.1)).zip mv) (bindArgs (PySem.W.fnOf x qual params body scope .none (.ref D) doc pm an cdv ct) ⟨us, ks.zip ws⟩) (ps.zip (g us mv ws))) :
    ∃ mv : List Value, KBn K fd ps n ks (fun us ws => g us mv ws) (fun vs zs => g vs (ms.map (·.2)) zs) := by
  obtain ⟨oc, od, dV, kV, doc, pm, an, cdv, ct, osl, rfl, lk, hcd, hD, hK⟩ := F.ex
  rcases hD with ⟨_, rfl⟩ | ⟨e, _⟩
  · rcases hK with e | ⟨D, rfl, hq⟩
    · exact absurd e hk
    · obtain ⟨mv, hl, rk, hks⟩ := kwd_vals (ms := ms) fun q hm => hq q (hms q hm)
      refine ⟨mv, ⟨fun s us ws X l1 l2 => ?_, fun r1 r2 => hrel r1 rk r2⟩⟩
      exact BindsTo.of_looks fun M => KwChain.looks X hks (h D doc pm an cdv ct us mv ws l1 hl l2)
  · exact absurd rfl e
end
/-- a comprehension over a settled list, or a cell -/
def isRf (m : EM) (ρ : Slt) (S : Sto) : Bool := match eD m ρ S with
  | some (.ref _, _) => true
  | _ => false
def eLcB (m : EM) (g : TM) (c : BM) (el : EM) (vs : List Nat) : EM := fun ρ S => if isRf m ρ S = true then eLcC (iC m) mkI g c el vs ρ S else eLc (iEv m) g c el vs ρ S
theorem snd_lcB {G : Gm} {te tl : TE} {me ml : EM} {tt : TT} {mt : BM} {g : TG} {mg : TM} {ws vs : List Nat} (hl : SndV G tl ml) (hg : SndG G g mg ws) (ht : SndT G tt mt) (he : SndV G te me) (hw : ∀ i ∈ ws, i ∈ vs) : SndV G (tLc (iSeq G.K tl) g tt te vs) (eLcB ml mg mt me vs) := by
  intro F ι S ρ σ H w S' s e Q k
  unfold eLcB at e
  split at e
  · exact snd_lcC (snd_iC hl) hg ht he hw s e Q k
  · exact snd_lc (snd_iseq hl) hg ht he hw s e Q k
theorem ple_sl {K : PySem.W.Frag} {a : Addr} {n : Nat} {sl : Array (Option Value)} (h : K.lookup a = some ⟨.type "tuple", none, .seq #[] n, sl⟩) : PlE K a := ⟨_, n, h, rfl, rfl, rfl⟩
theorem funD_mk {K : PySem.W.Frag} {x qual : Str} {st : Stmt} {kws : List (Str × V)} {f D : Addr} {fd : FuncData} {oc doc pm cdv ct : Value} {od an : Option Addr} {osl : Array (Option Value)} (hf : fd = PySem.W.fnOf x qual (defArgs st) (defBody st) (defScope st) .none (.ref D) doc pm an cdv ct) (lk : K.lookup f = some ⟨oc, od, .func fd, osl⟩) (hc : PySem.W.codeIn K cdv qual = true) (kp : PySem.W.keepIn K (.ref f) = true)
    (hq : ∀ q ∈ kws, ∃ u, PySem.W.nsIn K D q.1 = some (some u) ∧ RelV q.2 u) : FunD K x qual (defArgs st) (defBody st) (defScope st) [] kws f fd :=
  ⟨⟨oc, od, .none, .ref D, doc, pm, an, cdv, ct, osl, hf, lk, hc, .inl ⟨rfl, rfl⟩, .inr ⟨D, rfl, hq⟩⟩, kp⟩
/-! ### a, b = a settled list of two -/
def gL (n : Nat) (g : TMs) : TM := fun d ρ => match d with
  | .fl ds => if ds.length = n then g ds ρ else none
  | _ => none
theorem snd_glst {G : Gm} {n : Nat} {t : TGs} {m : TMs} {vs : List Nat} (h : SndGs G t m vs) : SndG G (gLst G.K n t) (gL n m) vs := by
  intro F ι S ρ σ H d v ρ' s r e Q k
  cases d with
  | fl ds =>
    simp only [RD] at r
    obtain ⟨a, vs, rfl, h1, h3⟩ := r
    unfold gL at e
    dsimp only at e
    split at e
    · rename_i hl
      exact ⟨a, vs, rfl, sql_ex s.rep.ex (SqL.of h1), h3.len ▸ hl, h s h3 e Q k⟩
    · cases e
  | _ => cases e
theorem pg_lstK {X : Cx} {K : PySem.W.Frag} {es : List Expr} {k : Nat} {pos : Pos} {t : TGs} {n : Nat} (hc : X.calm = true) (h0 : PGs X es t) (hn : (assignEach es X.env).length = n := by rfl) (hst : (assignEach es X.env).findIdx? (·.1) = none := by rfl) (h : X.K = K := by rfl) :
    PG X (.Tuple es k pos) (gLst K n t) := h ▸ pg_lst hc h0 hn hst
end Yi
/-! divmod. -/
namespace Yi
open PySem L2
theorem boot_divmod : bootBuiltins "divmod" = some (.builtin "divmod") := by decide +kernel
def fDivmod : List D → Sto → Option VV := fun xs _ => match xs with
  | [.int i, .int j] => if 0 < j ∧ j < 1000000 then some (.d (.tup [.int (i / j), .int (i % j)])) else none
  | _ => none
section
variable {G : Gm}
theorem snd_divmod : SndRL G (fun xs H Q => ∃ i j, xs = [.int i, .int j] ∧ CDiv i j ∧ ∀ p, H p = none → Q (.ref p) (upd H p (.tup [.int (i / j), .int (i % j)]))) fDivmod := by
  intro F ι S H xs vs w r rs e Q k
  unfold fDivmod at e
  split at e
  · rename_i i j
    split at e
    · rename_i hz
      cases e
      obtain ⟨v1, vr, rfl, h1, h2⟩ := rds_cons.mp rs
      obtain ⟨v2, rfl, h3⟩ := rds_1 h2
      simp only [RD] at h1 h3
      subst h1 h3
      refine ⟨i, j, rfl, ⟨by omega, by omega⟩, fun q hq => ?_⟩
      obtain ⟨r2, p2⟩ := r.newF (o := .tup [.int (i / j), .int (i % j)]) hq
      refine k _ _ _ r2 p2 ?_
      simp only [RV, RD]
      exact ⟨q, _, rfl, SqT.of upd_same, .inl upd_same, rds_cons.mpr ⟨_, _, rfl, by simp only [RD], rds_cons.mpr ⟨_, _, rfl, by simp only [RD], rds_nil.mpr rfl⟩⟩⟩
    · cases e
  · cases e
end
end Yi
/-! min of a list of tuples. -/
namespace Yi
open PySem L2 PySem.Spec PyProof.Rows
abbrev ltIx (ps : List PyData) : Nat → Nat → Bool := fun i j => PySem.W.dataLt (ps.getD i .none) (ps.getD j .none)
def rMinD (K : PySem.W.Frag) : List V → Hp → VK → Prop := fun vs H Q => ∃ (a : Addr) (bs : List (V × PyData)), vs = [V.ref a] ∧ SqL K H a (bs.map (·.1)) ∧ (∀ b ∈ bs, Dp K H b.1 b.2) ∧ PySem.W.AlikeAll (bs.map (·.2)) ∧ 0 < bs.length ∧ (∀ b ∈ bs, b.2.depth ≤ 60) ∧
  ∀ b, bs[argBest (ltIx (bs.map (·.2))) (bs.length - 1)]? = some b → Q b.1 H
section
variable {X : Cx}
theorem all_reads {h : Heap} {bs : List (V × PyData)} : ∀ {its : List Value}, PySem.W.EachIs (fun v b => ∃ as, Reads h v b.2 as) its bs → ∃ as, ReadsAll h its (bs.map (·.2)) as := by
  induction bs with
  | nil => intro its e; cases e; exact ⟨_, .nil⟩
  | cons b r ih =>
    intro its e
    cases e with
    | cons h1 h2 =>
      obtain ⟨as, h1⟩ := h1
      obtain ⟨cs, h2⟩ := ih h2
      exact ⟨_, .cons h1 h2⟩
theorem depth_le {n : Nat} : ∀ {ps : List PyData}, (∀ p ∈ ps, p.depth ≤ n) → PyData.depthAll ps ≤ n
  | [], _ => by simp [PyData.depthAll]
  | p :: r, h => by
    have h1 := h p (by simp)
    have h2 := depth_le (ps := r) fun q hq => h q (by simp [hq])
    simp only [PyData.depthAll]
    omega
theorem vals_at {vs : List V} : ∀ {us : List Value}, Vals vs us → ∀ {i : Nat} {u : Value}, us[i]? = some u → ∃ v, vs[i]? = some v ∧ RelV v u := by
  induction vs with
  | nil => intro us h i u e; cases h; simp at e
  | cons v r ih =>
    intro us h i u e
    cases h with
    | cons h1 h2 =>
      cases i with
      | zero => cases e; exact ⟨v, rfl, h1⟩
      | succ i => exact ih h2 (by simpa using e)
theorem min_ix {prog : Program} {w : World} {A : Around} {s : Shared} {Q E : Value → Shared → Prop} {l : Addr} {vs : Array Value} {xs : List PyData} {as : List Addr} (hA : A.handled = none) (hL : s.heap.IsList l vs) (hR : ReadsAll s.heap vs.toList xs as) (hal : PySem.W.AlikeAll xs) (h0 : 0 < xs.length) (hdu : A.units + 1 + PyData.depthAll xs < cLine)
    (k : ∀ v h' tk, vs[argBest (ltIx xs) (xs.length - 1)]? = some v → (∀ b o, s.heap.get? b = some o → h'.get? b = some o) → Q v { s with heap := h', toks := tk }) : wpAny (model prog w) A (call (.builtin "min") [.ref l]) Q E s := by
  have hz : vs.size = xs.length := PySem.W.readsAll_len hR
  refine PySem.call_min_walkH (PySem.W.iter_listW (A := A.in1) hA hL fun s2 e W st f1 f2 f3 => ⟨_, _, _, _, _, _, _, s.heap, _, rfl, W, st, f1, by omega, f2, f3, PySem.W.cmpIn_lt (A := A.in1) hR hal (by show A.units + 1 + _ < _; exact hdu), fun v s' hP m => ?_⟩)
  obtain ⟨h', tk, rfl, hk⟩ := PySem.W.moved_old e rfl m
  rw [hz] at hP
  exact k v h' tk hP hk
theorem cr_minD (hc : X.calm = true) (hu : X.A.units + 64 < cLine) : CallR X (.builtin "min") (rMinD X.K) := by
  intro pins s σ H vs us Q I r h
  obtain ⟨a, bs, rfl, hs, hd, hal, hne, hdp, q⟩ := h
  obtain ⟨its, rv, hl, hz⟩ := I.list hs
  obtain ⟨u, rfl, ru⟩ := vals1 r
  obtain rfl : u = Value.ref a := ru
  obtain ⟨as, hr⟩ := all_reads (each_reads I hd (each_vals rv))
  have hdep : PyData.depthAll (bs.map (·.2)) ≤ 60 := depth_le fun p hp => by
    obtain ⟨b, hb, rfl⟩ := List.mem_map.mp hp
    exact hdp b hb
  refine min_ix (I.ok.hd hc) hl.isList hr hal (by rw [List.length_map]; exact hne) (by omega) fun v h' tk hv hk => ?_
  rw [List.length_map] at hv
  have hv' : its[argBest (ltIx (bs.map (·.2))) (bs.length - 1)]? = some v := by
    rw [← Array.getElem?_toList] at hv
    exact hv
  obtain ⟨x, hx, rx⟩ := vals_at rv hv'
  rw [List.getElem?_map] at hx
  obtain ⟨b, hb, rfl⟩ := Option.map_eq_some_iff.mp hx
  exact ⟨b.1, H, I.kept hk, rx, q b hb⟩
end
section
variable {X : Cx} (K : PySem.W.Frag)
theorem call_minDK (hc : X.calm = true) (hu : X.A.units + 64 < cLine) (h : X.K = K := by rfl) : CallR X (.builtin "min") (rMinD K) := h ▸ cr_minD hc hu
end
/-- the first of the least -/
def fMinD : List D → Sto → Option VV := fun xs S => match xs with
  | [x] => (lstD x S).bind fun ds => (pyDs 12 S ds).bind fun ps => if okSort ps = true then (ds[argBest (ltIx ps) (ds.length - 1)]?).map .d else none
  | _ => none
section
variable {G : Gm}
theorem snd_minD : SndRL G (rMinD G.K) fMinD := by
  intro F ι S H xs vs w r rs e Q k
  unfold fMinD at e
  split at e
  · rename_i x
    obtain ⟨ds, e1, e⟩ := Option.bind_eq_some_iff.mp e
    obtain ⟨ps, e2, e⟩ := Option.bind_eq_some_iff.mp e
    split at e
    · rename_i hs
      obtain ⟨d, ed, rfl⟩ := Option.map_eq_some_iff.mp e
      obtain ⟨v, rfl, h1⟩ := rds_1 rs
      obtain ⟨a, us, rfl, h2, h3⟩ := lst_get r h1 e1
      obtain ⟨ts, rfl, rfl, rfl, q⟩ := sort_ts h3 (pyDs_dp r 12 h3 e2)
      simp only [okSort, Bool.and_eq_true, List.all_eq_true, decide_eq_true_eq] at hs
      obtain ⟨⟨s1, s2⟩, s3⟩ := hs
      have eb : (ts.map fun t => (t.2.1, t.2.2)).map (·.1) = ts.map (·.2.1) := by rw [List.map_map]; rfl
      have eb2 : (ts.map fun t => (t.2.1, t.2.2)).map (·.2) = ts.map (·.2.2) := by rw [List.map_map]; rfl
      have h0 : 0 < ts.length := by
        cases ts with
        | nil => simp at ed
        | cons t r => simp
      refine ⟨a, ts.map fun t => (t.2.1, t.2.2), rfl, by rw [eb]; exact SqL.of h2, fun b hb => ?_, ?_, by rw [List.length_map]; exact h0, fun b hb => ?_, fun b hb => ?_⟩
      · obtain ⟨t, ht, rfl⟩ := List.mem_map.mp hb
        exact (q t ht).2
      · rw [eb2]
        refine ⟨fun p hp p' hp' => s2 p hp p' hp', fun p hp z => ?_⟩
        have := s1 p hp
        rw [z] at this
        cases this
      · obtain ⟨t, ht, rfl⟩ := List.mem_map.mp hb
        exact s3 _ (List.mem_map.mpr ⟨t, ht, rfl⟩)
      · rw [eb2, List.length_map, List.getElem?_map] at hb
        rw [List.length_map, List.getElem?_map] at ed
        obtain ⟨t, ht, rfl⟩ := Option.map_eq_some_iff.mp hb
        rw [ht] at ed
        cases ed
        refine k F H _ r .refl ?_
        exact (q t (List.mem_of_getElem? ht)).1
    · cases e
  · cases e
/-! ### o.m() -/
section
variable {X : Cx} (K : PySem.W.Frag)
theorem pe_bm0K {T : String} {id : String} {name : Str} {r : V → List V → Hp → VK → Prop} {o : Expr} {to : TE} {apos cpos : Pos} (pa : PlainAttrs T) (slot : Slot T name id) (hty : typeOf (.builtin id) = pure (.type "method_descriptor")) (hm : MtR X id r) (ho : PE X o to)
    (hbase : attributeBase o name X.env (eval o X.env) = eval o X.env := by rfl) (hline : (apos.endLine == cpos.line) = true := by rfl) (h : X.K = K := by rfl) : PE X (.Call (.Attribute o name apos) [] [] cpos) (tBM0 K T r to) := h ▸ pe_bm0 pa slot hty hm ho hbase hline
end
/-! ### xs.clear() -/
def mClear : D → List D → Sto → Option (VV × Sto) := fun x xs S => match xs with
  | [] => (cellL x S).map fun p => (.d .non, S.set p.1 (.lst []))
  | _ => none
theorem snd_mClear : SndM G rClear mClear := by
  intro F ι S H x xs vx vs w S' r rx rs e Q k
  unfold mClear at e
  split at e
  · obtain ⟨⟨n, ds⟩, e1, e⟩ := Option.map_eq_some_iff.mp e
    cases e
    obtain ⟨a, us, rfl, h1, h2, h3, h4⟩ := cellL_get r rx e1
    rw [rds_nil] at rs
    subst rs
    obtain ⟨r2, p2⟩ := cell_done (vs' := []) r h1 h2 (rds_nil.mpr rfl)
    exact ⟨a, us, rfl, rfl, h3, k F _ _ r2 p2 (by simp only [RV, RD])⟩
  · cases e
end
end Yi
/-! sorted(d.items()), values plain; o.m(k = v). -/
namespace Yi
open PySem L2 PySem.Spec PyProof.Rows
/-! ### o.m(k = v) -/
section
variable {X : Cx} {CX : CXT} {k : Nat} {f C : Addr} {fd : FuncData} {ps ks : List Str} {sp : Sp} {E : XK} {m : Str} {p apos pos : Pos} {o : Expr} {kws : List Keyword} {ta : TE} {tk : TA} {g : List Value → List Value → List Value} {gV : List V → List V → List V}
def tMethK (C : Addr) (m : Str) (n : Nat) (sp : Sp) (gV : List V → List V → List V) (E : XK) (ta : TE) (tk : TA) : TE := fun σ H Q => ta σ H fun x H1 => ∃ a dx fs, x = .ref a ∧ H1 a = some (.ins C dx fs) ∧ fs.lookup m = none ∧
  tk σ H1 fun zs H2 => zs.length = n ∧ sp (gV [x] zs) H2 Q E
theorem pe_methK0 {pl : Sem Bool} (he : PE X o ta) (c : Cls X.K C) (hm : Meth X.K C m f) (F : FnOk X.prog X.w X.K X.mg X.base CX k f fd ps sp) (hr : Room k X.A) (hb : KBn X.K fd ps 1 ks g gV) (hx : Passes CX X E) (hkw : PK X kws tk)
    (hall : (backToKw pos (keywordEach kws X.env)).all (·.1.isSome) = true := by rfl) (hks : (backToKw pos (keywordEach kws X.env)).filterMap (·.1) = ks := by rfl)
    (hpl : ((backTo pos (starEach [] X.env)).any (·.1) || (backToKw pos (keywordEach kws X.env)).any (·.1.isNone)) = false := by rfl)
    (ht : eval (.Call (.Attribute o m apos) [] kws pos) X.env = (do
      let ov ← eval o X.env
      standAt apos.atName
      let (f, first) ← holding [ov] (getMethod ov m pl)
      callWith pos f first (backTo pos (starEach [] X.env)) (backToKw pos (keywordEach kws X.env))) := by rfl) :
    PE X (.Call (.Attribute o m apos) [] kws pos) (tMethK C m ks.length sp gV E ta tk) := by
  refine ⟨fun pins s σ H Q I h => ?_⟩
  refine PySem.W.methodCall_KW (pl := pl) (thn (he.run pins s σ H _ I h) fun u s1 ⟨x, H1, I1, rx, a, dx, fs, ex, ea, l, q⟩ => ?_) ht
  subst ex
  obtain rfl : u = Value.ref a := rx
  refine getmeth_ok I1 ea c hm l ?_
  refine PySem.W.callWith_KW0 (first := [.ref a]) (h₀ := X.base) I.ok.mod.kin hm.kp hall ?_ hpl
  refine thn (hkw.run pos pins s1 σ H1 _ I1 q) fun ws s2 ⟨zs, H2, I2, rz, l2, q2⟩ => ⟨I2.kIn, ?_⟩
  rw [hks]
  exact run_fnN (us := [.ref a]) (vs := [.ref a]) F hr hb hx I2 (.cons rfl .nil) rz rfl l2 q2
end
def eMethK (c : Nat) (m : Str) (f : Den) (mo : EM) (a : AM) : EM := fun ρ S => (eD mo ρ S).bind fun p => (insAt c p.1 p.2).bind fun u => if (lkp m u.2).isNone = true then (a ρ p.2).bind fun q => f (p.1 :: q.1) q.2 else none
theorem snd_methK {G : Gm} {c : Nat} {m : Str} {f : Den} {np : Nat} {to : TE} {mo : EM} {t : TA} {a : AM} {E : XK} (ho : SndV G to mo) (h : SndA G t a) (hn : ∀ ds S w S', f ds S = some (w, S') → ds.length = np + 1) :
    SndV G (tMethK (G.cl c) m np (spI G (np + 1) f) (fun vs zs => vs ++ zs) E to t) (eMethK c m f mo a) := by
  intro F ι S ρ σ H w S' s e Q k
  unfold eMethK at e
  obtain ⟨⟨o, S1⟩, e1, e⟩ := Option.bind_eq_some_iff.mp e
  obtain ⟨⟨n, fs⟩, e2, e⟩ := Option.bind_eq_some_iff.mp e
  dsimp only at e
  split at e
  · rename_i hl
    obtain ⟨⟨ds, S2⟩, e3, e⟩ := Option.bind_eq_some_iff.mp e
    refine snd_d ho s e1 _ fun F1 ι1 H1 vo s1 p1 ro => ?_
    obtain ⟨b, dx, kv, rfl, h1, h2, h3⟩ := ins_get s1.rep e2 ro
    refine ⟨b, dx, kv, rfl, h2, (rks_lkp h3).2 (Option.isNone_iff_eq_none.mp hl), ?_⟩
    refine h s1 e3 _ fun F2 ι2 H2 vs s2 p2 rs => ?_
    have rs2 : RDs G F2 ι2 (o :: ds) ([.ref b] ++ vs) := rds_cons.mpr ⟨_, _, rfl, ro.mono p2.exF p2.pre, rs⟩
    have pp := p1.trans p2
    have hl2 := hn _ _ _ _ e
    refine ⟨by rw [← rs.len]; simpa using hl2, by rw [← rs2.len]; exact hl2, F2, ι2, S2, _, w, S', s2.rep, rs2, e, fun F' ι' H' v r' p' rv => k F' ι' H' v (s2.after r' p').1 (pp.trans p') (rv.back pp.back)⟩
  · cases e
/-! ### sorted(d.items()) -/
def plV : V → Option PyData
  | .non => some .none
  | .bl b => some (.bool b)
  | .int i => some (.int i)
  | .str s => some (.str s)
  | _ => none
def kP : Key → PyData
  | .inl i => .int i
  | .inr s => .str s
theorem reads_pl {h : Heap} {v : V} {p : PyData} {u : Value} (e : plV v = some p) (r : RelV v u) : Reads h u p [] := by
  cases v with
  | non => cases e; cases r; exact .none
  | bl b => cases e; cases r; exact .bool b
  | int i => cases e; obtain ⟨t, rfl⟩ := r; exact .int i t
  | str s => cases e; obtain ⟨t, rfl⟩ := r; exact .str s t
  | _ => cases e
theorem reads_k {h : Heap} {k : Key} {u : Value} (r : RelV (kV k) u) : Reads h u (kP k) [] := by
  cases k with
  | inl i => exact reads_pl (v := .int i) rfl r
  | inr s => exact reads_pl (v := .str s) rfl r
def ItQ (Q : VK) : List (Key × V) → List (V × PyData) → Hp → Prop
  | [], bs, H => ∀ p, H p = none → Q (.ref p) (upd H p (.lst ((bs.mergeSort (PySem.W.dataLe false (·.2))).map (·.1))))
  | (k, v) :: r, bs, H => ∃ d, plV v = some d ∧ ∀ p, H p = none → ItQ Q r (bs ++ [(.ref p, .tuple [kP k, d])]) (upd H p (.tup [kV k, v]))
def tSortIt (td : TE) : TE := fun σ H Q => td σ H fun x H1 => ∃ (a : Addr) (kvs : List (Key × V)) (ds : List PyData), x = V.ref a ∧ H1 a = some (.dK kvs) ∧ kvs.map (fun q => plV q.2) = ds.map some ∧
  PySem.W.AllAlike ((kvs.zip ds).map fun q => PyData.tuple [kP q.1.1, q.2]) ∧ ItQ Q kvs [] H1
section
variable {X : Cx}
theorem it_inv {pins : List (Addr × Obj)} {σ : L2.St} {Q : VK} {s : Shared} {h' : Heap} {tk : Nat} {H0 : Hp} (I0 : Inv X pins σ H0 s) : ∀ (kvs : List (Key × V)) (as : List Addr) (ds : List PyData) (bs : List (V × PyData)) (H1 : Hp), kvs.map (fun q => plV q.2) = ds.map some → as.length = kvs.length → as.Nodup →
    (∀ (j : Nat) (b : Addr), as[j]? = some b → s.heap.objs.size ≤ b ∧ H1 b = none ∧ ∃ q, kvs[j]? = some q ∧ ∀ H2, ObjOk X.prog X.w H2 h' b (.tup [kV q.1, q.2])) → Inv X pins σ H1 { s with heap := h', toks := tk } → ItQ Q kvs bs H1 →
    ∃ H2, Inv X pins σ H2 { s with heap := h', toks := tk } ∧ (∀ b, b ∉ as → H2 b = H1 b) ∧ (∀ p, H2 p = none → Q (.ref p) (upd H2 p (.lst (((bs ++ (as.zip (kvs.zip ds)).map fun z => (V.ref z.1, PyData.tuple [kP z.2.1.1, z.2.2])).mergeSort (PySem.W.dataLe false (·.2))).map (·.1)))))
  | [], as, ds, bs, H1, hd, hl, nd, ha, I1, hq => by
    have : as = [] := List.length_eq_zero_iff.mp hl
    subst this
    refine ⟨H1, I1, fun _ _ => rfl, fun p hp => ?_⟩
    have := hq p hp
    rw [List.zip_nil_left, List.map_nil, List.append_nil]
    exact this
  | (k, v) :: r, [], ds, bs, H1, hd, hl, nd, ha, I1, hq => by simp at hl
  | (k, v) :: r, a :: as, ds, bs, H1, hd, hl, nd, ha, I1, hq => by
    obtain ⟨hb, hnone, q, e0, ok⟩ := ha 0 a rfl
    cases e0
    obtain ⟨d, ed, hq⟩ := hq
    cases ds with
    | nil => simp at hd
    | cons d' ds =>
      simp only [List.map_cons, List.cons.injEq] at hd
      obtain ⟨hd1, hd2⟩ := hd
      rw [ed] at hd1
      cases hd1
      obtain ⟨n1, n2⟩ := List.nodup_cons.mp nd
      have I2 : Inv X pins σ (upd H1 a (.tup [kV k, v])) { s with heap := h', toks := tk } := I1.take (h' := h') (t' := tk) (fun b ob _ e => e) (I0.fpOk hb hnone) (ok _)
      obtain ⟨H2, I3, g, qt⟩ := it_inv I0 r as ds (bs ++ [(.ref a, .tuple [kP k, d])]) _ hd2 (by simpa using hl) n2 (fun j b hj => by
        obtain ⟨c1, c2, q, c3, c4⟩ := ha (j + 1) b hj
        refine ⟨c1, ?_, q, c3, c4⟩
        rw [upd_ne (fun z => n1 (by rw [← z]; exact List.mem_of_getElem? hj))]
        exact c2) I2 (hq a hnone)
      refine ⟨H2, I3, fun b hb' => ?_, fun p hp => ?_⟩
      · rw [g b (fun z => hb' (List.mem_cons_of_mem _ z)), upd_ne (fun z => hb' (by rw [z]; simp))]
      · have := qt p hp
        rw [List.append_assoc] at this
        exact this
def itB (as : List Addr) (kvs : List (Key × V)) (ds : List PyData) : List (V × PyData) := (as.zip (kvs.zip ds)).map fun z => (V.ref z.1, PyData.tuple [kP z.2.1.1, z.2.2])
theorem it_each {h2 : Heap} {l : Addr} : ∀ (as : List Addr) (kvs : List (Key × V)) (ds : List PyData), as.length = kvs.length → kvs.map (fun q => plV q.2) = ds.map some → (∀ (j : Nat) (b : Addr), as[j]? = some b → ∃ q key u, kvs[j]? = some q ∧ RelV (kV q.1) key ∧ RelV q.2 u ∧ ∃ o n, h2.get? b = some o ∧ o.cls = .type "tuple" ∧ o.data = .seq #[key, u] n) →
    PySem.W.EachIs (fun v b => RelV b.1 v) (as.map Value.ref) (itB as kvs ds) ∧ PySem.W.EachIs (fun v b => ∃ cs, Reads h2 v b.2 cs ∧ l ∉ cs) (as.map Value.ref) (itB as kvs ds)
  | [], kvs, ds, hl, hd, ha => ⟨.nil, .nil⟩
  | a :: as, [], ds, hl, hd, ha => by simp at hl
  | a :: as, q :: r, [], hl, hd, ha => by simp at hd
  | a :: as, q :: r, d :: ds, hl, hd, ha => by
    simp only [List.map_cons, List.cons.injEq] at hd
    obtain ⟨q', key, u, e0, rk, ru, o, n, hg, hcl, hdt⟩ := ha 0 a rfl
    cases e0
    obtain ⟨i1, i2⟩ := it_each as r ds (by simpa using hl) hd.2 fun j b hj => ha (j + 1) b hj
    refine ⟨.cons rfl i1, .cons ⟨_, .tuple hg hcl hdt (.cons (reads_k rk) (.cons (reads_pl hd.1 ru) .nil)), by simp⟩ i2⟩
theorem it_len {as : List Addr} {kvs : List (Key × V)} {ds : List PyData} (h1 : as.length = kvs.length) (h2 : kvs.map (fun q => plV q.2) = ds.map some) : (itB as kvs ds).length = kvs.length := by
  have := congrArg List.length h2
  simp only [List.length_map] at this
  simp [itB, List.length_zip]
  omega
theorem it_snd : ∀ {as : List Addr} {kvs : List (Key × V)} {ds : List PyData}, as.length = kvs.length → kvs.map (fun q => plV q.2) = ds.map some → (itB as kvs ds).map (·.2) = (kvs.zip ds).map fun q => PyData.tuple [kP q.1.1, q.2]
  | [], [], ds, _, _ => rfl
  | a :: as, [], ds, h, _ => by simp at h
  | [], q :: r, ds, h, _ => by simp at h
  | a :: as, q :: r, [], _, h => by simp at h
  | a :: as, q :: r, d :: ds, h1, h2 => by
    simp only [List.map_cons, List.cons.injEq] at h2
    have := it_snd (as := as) (kvs := r) (ds := ds) (by simpa using h1) h2.2
    show _ :: (itB as r ds).map (·.2) = _
    rw [this]
    rfl
theorem pl_depth {v : V} {p : PyData} (h : plV v = some p) : p.depth ≤ 1 := by
  cases v <;> cases h <;> simp [PyData.depth]
theorem it_dep : ∀ {as : List Addr} {kvs : List (Key × V)} {ds : List PyData}, kvs.map (fun q => plV q.2) = ds.map some → ∀ b ∈ itB as kvs ds, b.2.depth ≤ 10
  | [], kvs, ds, _, b, hb => by cases hb
  | a :: as, [], ds, _, b, hb => by cases hb
  | a :: as, q :: r, [], _, b, hb => by cases hb
  | a :: as, q :: r, d :: ds, h2, b, hb => by
    simp only [List.map_cons, List.cons.injEq] at h2
    rcases List.mem_cons.mp (show b ∈ (V.ref a, PyData.tuple [kP q.1, d]) :: itB as r ds from hb) with e | hb
    · subst e
      have h1 := pl_depth h2.1
      have h0 : (kP q.1).depth ≤ 1 := by cases q.1 <;> simp [kP, PyData.depth]
      simp only [PyData.depth, PyData.depthAll]
      omega
    · exact it_dep h2.2 b hb
variable {o : Expr} {p pos apos mpos : Pos} {td : TE}
theorem pe_sortIt (hc : X.calm = true) (hu : X.A.units + 64 < cLine) (hg : Gl X "sorted") (hm : X.mg "sorted" = none) (hd : PE X o td) (hbase : attributeBase o "items" X.env (eval o X.env) = eval o X.env := by rfl) (hline : (apos.endLine == mpos.line) = true := by rfl)
    (na : starEach [Expr.Call (.Attribute o "items" apos) [] [] mpos] X.env = (false, eval (Expr.Call (.Attribute o "items" apos) [] [] mpos) X.env) :: starEach [] X.env := by rfl) :
    PE X (.Call (.Name "sorted" p) [.Call (.Attribute o "items" apos) [] [] mpos] [] pos) (tSortIt td) := by
  refine ⟨fun pins s σ H Q I h => Call_ (ld_blt I hg hm boot_sorted ?_)⟩
  refine callWith_builtin1 (args_cons ?_ na) na rfl
  refine wpAny_Call_method0_late hbase hline (thn (hd.run pins s σ H _ I h) fun v s1 ⟨x, H1, I1, r1, a, kvs, ds, ex, ha, hds, hal, q⟩ => ?_)
  subst ex
  obtain rfl : v = Value.ref a := r1
  obtain ⟨hz, hsys, vs, rel, dof⟩ := dk_of I1.hok ha
  obtain ⟨es, ep, raw, hsz, hent⟩ := PySem.Heap.DictOf.raw dof
  have raw' := raw
  obtain ⟨ob, ho, hex, hdat⟩ := raw'
  refine ⟨"dict", "dict.items", F.plainAttrs_dict, F.slot_dict_items, F.type_dict_items, ⟨ob, ho, hex.1⟩, fun b e => ?_, Calls.callWith_builtin rfl (PySem.evalArgs_none ?_)⟩
  · cases e
    exact ⟨ob, ho, hex.2.1⟩
  refine call_meetsIn F.slot_dict_items ⟨ob, ho, hex.1⟩ F.entry_dict_items (F.args_dict_items_1 _) (PySem.meets_dict_items_raw a hsys) ⟨⟨es, ep, raw⟩, ?_⟩
  refine args_nil ?_
  have k1 : ∀ b u, s1.heap.get? b = some u → (s1.heap.push { cls := .type "dict_items", data := .fields #[.ref a] }).get? b = some u := fun b u e => Heap.get?_push_of_some _ e
  have lkv : kvs.length = vs.length := KV.length rel
  have les : es.size = kvs.length := by omega
  have hh : X.A.handled = none := I1.ok.hd hc
  refine DT.sortedI (es := es) (ep := ep) hh ⟨_, Heap.get?_push_size _ rfl, rfl, rfl⟩ ⟨ob, k1 _ _ ho, hex, hdat⟩ (by omega) fun h' tk as hk hlt hl hG => ?_
  dsimp only at hk hlt hl hG
  have lak : as.length = kvs.length := by omega
  have nd : as.Nodup := List.Pairwise.imp (fun h => Nat.ne_of_lt h) hG.rise
  have pr : ∀ (j : Nat) (b : Addr), as[j]? = some b → ∃ q key u, kvs[j]? = some q ∧ RelV (kV q.1) key ∧ RelV q.2 u ∧ h'.get? b = some { cls := .type "tuple", data := .seq #[key, u] } := by
    intro j b hj
    obtain ⟨en, he, hgb⟩ := hG.pairs j b hj
    have hjl : j < es.size := (Array.getElem?_eq_some_iff.mp he).1
    have hjk : j < kvs.length := by omega
    obtain ⟨q, hq⟩ : ∃ q, kvs[j]? = some q := ⟨kvs[j], List.getElem?_eq_getElem hjk⟩
    obtain ⟨u, hu', ru⟩ := kv_get (k := q.1) (v := q.2) rel (by rw [hq])
    obtain ⟨e1, e2⟩ := hent j hjl _ _ hu'
    have e3 : es[j] = en := (Array.getElem?_eq_some_iff.mp he).2
    rw [e3] at e1 e2
    refine ⟨q, en.key, en.val, hq, relV_key (show keyIs q.1 en.key = true from e1), by rw [e2]; exact ru, hgb⟩
  have hob : (h'.push { cls := .type "list", data := .seq (as.map Value.ref).toArray }).get? h'.objs.size = some (seqObj "list" (as.map Value.ref).toArray 0) := Heap.get?_push_size _ rfl
  have kb : ∀ b u, s1.heap.get? b = some u → (h'.push { cls := .type "list", data := .seq (as.map Value.ref).toArray }).get? b = some u := fun b u e => Heap.get?_push_of_some _ (hk b u (k1 b u e))
  have ne0 : ∀ b u, h'.get? b = some u → b ≠ h'.objs.size := fun b u e => Nat.ne_of_lt (Heap.lt_size e)
  generalize hh2 : h'.push { cls := .type "list", data := .seq (as.map Value.ref).toArray } = h2 at hob kb ⊢
  have ka : ∀ b u, h'.get? b = some u → h2.get? b = some u := fun b u e => by rw [← hh2]; exact Heap.get?_push_of_some _ e
  obtain ⟨ea, er⟩ := it_each (h2 := h2) (l := h'.objs.size) as kvs ds lak hds fun j b hj => by
    obtain ⟨q, key, u, q1, q2, q3, q4⟩ := pr j b hj
    exact ⟨q, key, u, q1, q2, q3, _, 0, ka _ _ q4, rfl, rfl⟩
  have li := it_len lak hds
  have ei := it_snd lak hds
  refine PySem.W.list_sort_data (s := { s1 with heap := h2, toks := tk }) (enc := (·.2)) hob ea er (by rw [ei]; exact hal) (.inl fun z hz => ?_) (by rw [li]; exact hz) (fun b hb => ?_) fun out ho' he' => ?_
  · rw [ei] at hz
    obtain ⟨w, _, rfl⟩ := List.mem_map.mp hz
    exact ⟨_, _, rfl⟩
  · have hd2 := it_dep hds b hb
    have : X.A.units + 1 + 1 + b.2.depth < cLine := by omega
    exact this
  have kF : ∀ b u, b ≠ h'.objs.size → h2.get? b = some u → (sortedHeap h2 h'.objs.size (as.map Value.ref) (List.toArray out)).get? b = some u := fun b u hb e => (sortedHeap_old hb (Heap.lt_size e)).trans e
  have kS : ∀ b u, s1.heap.get? b = some u → (sortedHeap h2 h'.objs.size (as.map Value.ref) (List.toArray out)).get? b = some u := fun b u e => kF b u (ne0 _ _ (hk b u (k1 b u e))) (kb b u e)
  obtain ⟨eF, heF⟩ := sortedHeap_at (vs := as.map Value.ref) (out := List.toArray out) hob
  have I2 : Inv X pins σ H1 { s1 with heap := sortedHeap h2 h'.objs.size (as.map Value.ref) (List.toArray out), toks := tk } := I1.kept (t' := tk) kS
  have above : ∀ b ∈ as, s1.heap.objs.size ≤ b := fun b hb => by
    have := hG.above b hb
    rw [Heap.size_push] at this
    exact Nat.le_of_lt (Nat.lt_of_succ_lt this)
  obtain ⟨H2, I3, gs, qt⟩ := it_inv (Q := Q) I1 kvs as ds [] H1 hds lak nd (fun j b hj => by
    obtain ⟨q, key, u, q1, q2, q3, q4⟩ := pr j b hj
    have hb := above b (List.mem_of_getElem? hj)
    exact ⟨hb, I1.hok.fresh hb, q, q1, fun H2 => ⟨by show 2 ≤ sizeLine; decide, [key, u], .cons q2 (.cons q3 .nil), ⟨_, kF b _ (ne0 _ _ q4) (ka _ _ q4), rfl, _, rfl⟩⟩⟩) I2 q
  have hsl : s1.heap.objs.size ≤ h'.objs.size := by
    rw [Heap.size_push] at hlt
    exact Nat.le_of_lt (Nat.lt_of_succ_lt hlt)
  have nin : h'.objs.size ∉ as := fun hb => by
    obtain ⟨j, hj⟩ := List.mem_iff_getElem?.mp hb
    obtain ⟨_, _, _, _, _, _, q4⟩ := pr j _ hj
    exact ne0 _ _ q4 rfl
  have hn0 : H2 h'.objs.size = none := by rw [gs _ nin]; exact I1.hok.fresh hsl
  have qf := qt _ hn0
  have eb : (([] : List (V × PyData)) ++ (as.zip (kvs.zip ds)).map fun z => (V.ref z.1, PyData.tuple [kP z.2.1.1, z.2.2])) = itB as kvs ds := rfl
  rw [eb] at qf
  refine ⟨.ref h'.objs.size, upd H2 h'.objs.size (.lst (((itB as kvs ds).mergeSort (PySem.W.dataLe false (·.2))).map (·.1))), I3.take (h' := sortedHeap h2 h'.objs.size (as.map Value.ref) (List.toArray out)) (t' := tk) (fun b ob _ e => e) (I1.fpOk hsl hn0) ⟨?_, out, eF, vals_each he', ?_⟩, rfl, qf⟩
  · rw [List.length_map, List.length_mergeSort, li]
    exact hz
  · exact heF
end
/-! ### its meaning -/
def plD : D → Option PyData
  | .non => some .none
  | .bl b => some (.bool b)
  | .int i => some (.int i)
  | .str s => some (.str s)
  | _ => none
def plDs : List (Key × D) → Option (List PyData)
  | [] => some []
  | (_, d) :: r => (plD d).bind fun p => (plDs r).map fun l => p :: l
def itD : List (Key × D) → List PyData → List (D × PyData)
  | (k, d) :: r, p :: ps => (.tup [keyD k, d], .tuple [kP k, p]) :: itD r ps
  | _, _ => []
def okIt (l : List (D × PyData)) : Bool := l.all fun p => l.all fun q => PySem.W.alike p.2 q.2
def eSortIt (me : EM) : EM := fun ρ S => (eD me ρ S).bind fun p => match p.1 with
  | .ref n => match p.2[n]? with
    | some (.dk kvs) => (plDs kvs).bind fun ds => if okIt (itD kvs ds) = true then some (.own (.lst (((itD kvs ds).mergeSort (PySem.W.dataLe false (·.2))).map (·.1))), p.2) else none
    | _ => none
  | _ => none
section
variable {G : Gm}
theorem pl_rd {F : Hp} {ι : List Addr} {d : D} {v : V} {p : PyData} (r : RD G F ι d v) (h : plD d = some p) : plV v = some p := by
  cases d <;> cases h <;> (simp only [RD] at r; subst r; rfl)
theorem pls_rk {F : Hp} {ι : List Addr} : ∀ {kvs : List (Key × D)} {kv : List (Key × V)} {ds : List PyData}, RKs G F ι kvs kv → plDs kvs = some ds → kv.map (fun q => plV q.2) = ds.map some
  | [], kv, ds, r, h => by
    have : kv = [] := r
    subst this
    cases h
    rfl
  | (k, d) :: kvs, kv, ds, r, h => by
    obtain ⟨v, r', rfl, h1, h2⟩ := r
    unfold plDs at h
    obtain ⟨p, e1, h⟩ := Option.bind_eq_some_iff.mp h
    obtain ⟨l, e2, rfl⟩ := Option.map_eq_some_iff.mp h
    rw [List.map_cons, List.map_cons, pl_rd h1 e1, pls_rk h2 e2]
theorem it_rk {F : Hp} {ι : List Addr} : ∀ {kvs : List (Key × D)} {kv : List (Key × V)} {ds : List PyData}, RKs G F ι kvs kv → plDs kvs = some ds → ((kv.zip ds).map fun q => PyData.tuple [kP q.1.1, q.2]) = (itD kvs ds).map (·.2)
  | [], kv, ds, r, h => by
    have : kv = [] := r
    subst this
    rfl
  | (k, d) :: kvs, kv, ds, r, h => by
    obtain ⟨v, r', rfl, h1, h2⟩ := r
    unfold plDs at h
    obtain ⟨p, e1, h⟩ := Option.bind_eq_some_iff.mp h
    obtain ⟨l, e2, rfl⟩ := Option.map_eq_some_iff.mp h
    show _ :: ((r'.zip l).map fun q => PyData.tuple [kP q.1.1, q.2]) = _
    rw [it_rk h2 e2]
    rfl
theorem snd_it {S : Sto} {ι : List Addr} {Q : VK} : ∀ (kvs : List (Key × D)) {kv : List (Key × V)} {ds : List PyData} {F H : Hp} (ts : List (D × V × PyData)), Rep G F ι S H → RKs G F ι kvs kv → plDs kvs = some ds → (∀ t ∈ ts, RD G F ι t.1 t.2.1) →
    (∀ F' H' w, Rep G F' ι S H' → Stp F ι NoO H F' ι NoO H' → RV G F' ι NoO H H' (.own (.lst ((((ts.map fun t => (t.1, t.2.2)) ++ itD kvs ds).mergeSort (PySem.W.dataLe false (·.2))).map (·.1)))) w → Q w H') → ItQ Q kv (ts.map fun t => (t.2.1, t.2.2)) H
  | [], kv, ds, F, H, ts, r, rk, hp, q, k => by
    have : kv = [] := rk
    subst this
    intro p hp
    have c1 := List.map_mergeSort (f := fun t : D × V × PyData => (t.2.1, t.2.2)) (r := PySem.W.dataLe false fun t : D × V × PyData => t.2.2) (s := PySem.W.dataLe false fun b : V × PyData => b.2) (l := ts) (fun _ _ _ _ => rfl)
    have c2 := List.map_mergeSort (f := fun t : D × V × PyData => (t.1, t.2.2)) (r := PySem.W.dataLe false fun t : D × V × PyData => t.2.2) (s := PySem.W.dataLe false fun b : D × PyData => b.2) (l := ts) (fun _ _ _ _ => rfl)
    have m1 : ((ts.map fun t => (t.2.1, t.2.2)).mergeSort (PySem.W.dataLe false fun b : V × PyData => b.2)).map (·.1) = (ts.mergeSort (PySem.W.dataLe false fun t : D × V × PyData => t.2.2)).map (·.2.1) := by
      rw [← c1, List.map_map]
      rfl
    have m2 : (((ts.map fun t => (t.1, t.2.2)) ++ itD [] ds).mergeSort (PySem.W.dataLe false fun b : D × PyData => b.2)).map (·.1) = (ts.mergeSort (PySem.W.dataLe false fun t : D × V × PyData => t.2.2)).map (·.1) := by
      rw [show itD [] ds = [] from rfl, List.append_nil, ← c2, List.map_map]
      rfl
    rw [m1]
    obtain ⟨r2, p2⟩ := r.newO (o := .lst ((ts.mergeSort (PySem.W.dataLe false fun t : D × V × PyData => t.2.2)).map (·.2.1))) hp
    refine k F _ _ r2 p2 ⟨p, _, rfl, upd_same, ⟨_, rfl, ?_⟩, r.noF hp, r.noI hp, .inr hp⟩
    rw [m2]
    exact rds_ts fun t ht => q t (List.mem_mergeSort.mp ht)
  | (ke, d) :: kvs, kv, ds, F, H, ts, r, rk, hp, q, k => by
    obtain ⟨v, r', rfl, h1, h2⟩ := rk
    unfold plDs at hp
    obtain ⟨p0, e1, hp⟩ := Option.bind_eq_some_iff.mp hp
    obtain ⟨l, e2, rfl⟩ := Option.map_eq_some_iff.mp hp
    refine ⟨p0, pl_rd h1 e1, fun p hn => ?_⟩
    obtain ⟨r2, p2⟩ := r.newF (o := .tup [kV ke, v]) hn
    have rt : RD G (upd F p (.tup [kV ke, v])) ι (.tup [keyD ke, d]) (.ref p) := by
      simp only [RD]
      exact ⟨p, _, rfl, SqT.of upd_same, .inl upd_same, rds_cons.mpr ⟨_, _, rfl, rd_key ke, rds_cons.mpr ⟨_, _, rfl, h1.mono p2.exF p2.pre, rds_nil.mpr rfl⟩⟩⟩
    have ih := snd_it kvs (ts ++ [(.tup [keyD ke, d], .ref p, .tuple [kP ke, p0])]) r2 (h2.mono p2.exF p2.pre) e2 (fun t ht => by
      rcases List.mem_append.mp ht with z | z
      · exact (q t z).mono p2.exF p2.pre
      · have : t = (.tup [keyD ke, d], .ref p, .tuple [kP ke, p0]) := by simpa using z
        subst this
        exact rt) fun F' H' w r3 p3 rv => k F' H' w r3 (p2.trans p3) (by
        have := rv.back p2.back
        rw [List.map_append, List.append_assoc] at this
        exact this)
    rw [List.map_append] at ih
    exact ih
theorem snd_sortIt {te : TE} {me : EM} (h : SndV G te me) : SndV G (tSortIt te) (eSortIt me) := by
  intro F ι S ρ σ H w S' s e Q k
  unfold eSortIt at e
  obtain ⟨⟨x, S1⟩, e1, e⟩ := Option.bind_eq_some_iff.mp e
  dsimp only at e
  split at e
  · rename_i n
    split at e
    · rename_i kvs hn
      obtain ⟨ds, e2, e⟩ := Option.bind_eq_some_iff.mp e
      split at e
      · rename_i hal
        cases e
        refine snd_d h s e1 _ fun F1 ι1 H1 v s1 p1 r => ?_
        simp only [RD] at r
        obtain ⟨a, rfl, ha⟩ := r
        obtain ⟨b, o, h1, h2, kv, rfl, h3⟩ := s1.rep.cell n _ hn
        rw [ha] at h1
        cases h1
        refine ⟨a, kv, ds, rfl, h2, pls_rk h3 e2, ?_, ?_⟩
        · rw [it_rk h3 e2]
          unfold okIt at hal
          simp only [List.all_eq_true] at hal
          intro p hp q hq
          obtain ⟨p', hp', rfl⟩ := List.mem_map.mp hp
          obtain ⟨q', hq', rfl⟩ := List.mem_map.mp hq
          exact hal p' hp' q' hq'
        · exact snd_it kvs [] s1.rep h3 e2 (by simp) fun F' H' w' r3 p3 rv => k F' ι1 H' w' (s1.after r3 p3).1 (p1.trans p3) (rv.back p1.back)
      · cases e
    · cases e
  · cases e
end
section
variable {K : PySem.W.Frag} {x qual : Str} {st : Stmt} {f : Addr} {fd : FuncData} {ps ks : List Str}
/-- keyword-only parameters without defaults -/
theorem fun_kb (F : Fun K x qual st f fd) (n : Nat) (h : ∀ (kV doc pm : Value) (an : Option Addr) (cdv ct : Value) (us ws : List Value), us.length = n → ws.length = ks.length → bindArgs (PySem.W.fnOf x qual (defArgs st) (defBody st) (defScope st) .none kV doc pm an cdv ct) ⟨us, ks.zip ws⟩ = pure (ps.zip (us ++ ws))) :
    KBn K fd ps n ks (fun us ws => us ++ ws) (fun vs zs => vs ++ zs) := by
  obtain ⟨oc, od, kV, doc, pm, an, cdv, ct, osl, rfl, lk, hcd⟩ := F.ex
  exact ⟨fun s us ws _ l1 l2 => .of_eq (h kV doc pm an cdv ct us ws l1 l2), fun r1 r2 => r1.append r2⟩
end
end Yi
/-! x in a list of data of any depth. -/
namespace Yi
open PySem L2
section
variable {X : Cx} (K : PySem.W.Frag)
theorem op_inDK {k : Nat} (hr : Room k X.A) (h : X.K = K := by rfl) : OpR X (compareOp .In) (rInD K) := h ▸ op_inD (by have := hr.un; omega)
theorem op_notInDK {k : Nat} (hr : Room k X.A) (h : X.K = K := by rfl) : OpR X (compareOp .NotIn) (rNotInD K) := h ▸ op_notInD (by have := hr.un; omega)
end
section
variable {G : Gm}
def fInDp (neg : Bool) : D → D → Sto → Option VV := fun x y S => (pyD 12 S x).bind fun p => (pyD 12 S y).bind fun q => match q with
  | .list ds => if SeqAt.shaped p && SeqAt.shaped (.list ds) then some (.d (.bl (if neg then !(ds.any fun z => PyData.eqv z p) else ds.any fun z => PyData.eqv z p))) else none
  | _ => none
theorem snd_inDp : SndR2 G (rInD G.K) (fInDp false) := by
  intro F ι S H x y vx vy w r rx ry e Q k
  unfold fInDp at e
  obtain ⟨p, e1, e⟩ := Option.bind_eq_some_iff.mp e
  obtain ⟨q, e2, e⟩ := Option.bind_eq_some_iff.mp e
  split at e
  · split at e
    · rename_i hs
      cases e
      obtain ⟨s1, s2⟩ := Bool.and_eq_true_iff.mp hs
      exact ⟨p, _, pyD_dp r _ rx e1, pyD_dp r _ ry e2, s1, s2, k F H _ r .refl (by simp only [RV, RD]; rfl)⟩
    · cases e
  · cases e
theorem snd_notInDp : SndR2 G (rNotInD G.K) (fInDp true) := by
  intro F ι S H x y vx vy w r rx ry e Q k
  unfold fInDp at e
  obtain ⟨p, e1, e⟩ := Option.bind_eq_some_iff.mp e
  obtain ⟨q, e2, e⟩ := Option.bind_eq_some_iff.mp e
  split at e
  · split at e
    · rename_i hs
      cases e
      obtain ⟨s1, s2⟩ := Bool.and_eq_true_iff.mp hs
      exact ⟨p, _, pyD_dp r _ rx e1, pyD_dp r _ ry e2, s1, s2, k F H _ r .refl (by simp only [RV, RD]; rfl)⟩
    · cases e
  · cases e
end
/-! ### a tuple displayed, as the plain object that it is -/
def tTupP (t : TA) : TE := fun σ H Q => t σ H fun xs H1 => xs.length ≤ sizeLine ∧ ∀ (p : Addr) (o : Obj), H1 p = none → o.dict = none → Q (.ref p) (upd H1 p (.frz o (.tup xs)))
section
variable {X : Cx} {es : List Expr} {t : TA} {pos : Pos}
open PySem PySem.Spec PyProof.Rows in
theorem pe_tupP {x1} (h : PA X es t) : PE X (.Tuple es x1 pos) (tTupP t) := by
  refine ⟨fun pins s σ H Q I hq => ?_⟩
  refine wpAny_Tuple_spliced (thn (h.run pos pins s σ H _ I hq) fun us s1 ⟨xs, H1, I1, r, z, q⟩ => ⟨by rw [← r.length]; exact z, ?_⟩)
  have hf : H1 s1.heap.objs.size = none := I1.hok.fresh (Nat.le_refl _)
  refine ⟨.ref s1.heap.objs.size, upd H1 s1.heap.objs.size (.frz { cls := .type "tuple", data := .seq us.toArray } (.tup xs)), I1.laid (t' := s1.toks) (fun b u e => Heap.get?_push_of_some _ e) (Nat.le_refl _) ?_, rfl, q _ _ hf rfl⟩
  have g : (s1.heap.push { cls := .type "tuple", data := .seq us.toArray }).get? s1.heap.objs.size = some { cls := .type "tuple", data := .seq us.toArray } := Heap.get?_push_size _ rfl
  exact ⟨g, z, us, r, ⟨_, g, rfl, _, rfl⟩⟩
end
def eTupP (a : AM) : EM := fun ρ S => (a ρ S).bind fun p => if szOk p.1.length then some (.d (.pt p.1), p.2) else none
theorem snd_tupP {G : Gm} {t : TA} {m : AM} (h : SndA G t m) : SndV G (tTupP t) (eTupP m) := by
  intro F ι S ρ σ H w S' s e Q k
  unfold eTupP at e
  obtain ⟨⟨ds, S1⟩, e1, e⟩ := Option.bind_eq_some_iff.mp e
  dsimp only at e
  split at e
  · rename_i hz
    cases e
    refine h s e1 _ fun F1 ι1 H1 vs s1 p1 rs => ?_
    refine ⟨by rw [← rs.len]; exact szOk_le hz, fun p o hp ho => ?_⟩
    obtain ⟨r2, p2⟩ := s1.rep.newF (o := .frz o (.tup vs)) hp
    refine k _ ι1 _ _ (s1.after r2 p2).1 (p1.trans p2) ?_
    simp only [RV, RD]
    exact ⟨p, vs, rfl, .inl (.inr ⟨o, upd_same⟩), ⟨o, upd_same, ho⟩, rs.mono p2.exF p2.pre⟩
  · cases e
end Yi
/-! Plain Lean: that a meaning ends, and what then holds. -/
namespace Yi
open PySem L2
/-- it ends, with Q -/
def ok {α : Type} (o : Option α) (Q : α → Prop) : Prop := ∃ a, o = some a ∧ Q a
theorem ok_some {α : Type} {a : α} {Q : α → Prop} : ok (some a) Q ↔ Q a := ⟨fun ⟨b, e, q⟩ => by cases e; exact q, fun q => ⟨a, rfl, q⟩⟩
theorem ok_none {α : Type} {Q : α → Prop} : ok (none : Option α) Q ↔ False := ⟨fun h => (by obtain ⟨_, e, _⟩ := h; cases e), fun h => h.elim⟩
theorem ok_bind {α β : Type} {o : Option α} {f : α → Option β} {Q : β → Prop} : ok (o.bind f) Q ↔ ok o fun a => ok (f a) Q := by
  cases o with
  | none => simp [ok]
  | some a => simp [ok_some]
theorem ok_map {α β : Type} {o : Option α} {f : α → β} {Q : β → Prop} : ok (o.map f) Q ↔ ok o fun a => Q (f a) := by
  cases o with
  | none => simp [ok]
  | some a => simp [ok_some]
theorem ok_ite {α : Type} {c : Prop} [Decidable c] {a b : Option α} {Q : α → Prop} : ok (if c then a else b) Q ↔ (c → ok a Q) ∧ (¬c → ok b Q) := by
  by_cases h : c <;> simp [h]
theorem ok.mono {α : Type} {o : Option α} {Q R : α → Prop} (h : ok o Q) (k : ∀ a, Q a → R a) : ok o R := let ⟨a, e, q⟩ := h; ⟨a, e, k a q⟩
theorem ok_eq {α : Type} {o : Option α} {a : α} {Q : α → Prop} (e : o = some a) : ok o Q ↔ Q a := by rw [e, ok_some]
theorem ok.get {α : Type} {o : Option α} {a : α} (h : ok o fun b => b = a) : o = some a := by obtain ⟨b, e, q⟩ := h; rw [e, q]
/-- a def's call -/
theorem den_ok {n np : Nat} {m : SM} {ds : List D} {S : Sto} {Q : VV × Sto → Prop} (hl : ds.length = np)
    (h : ok (m (ds.map (fun d => some (.d d)) ++ List.replicate (n - ds.length) none) S) fun p => match p.1 with
      | .nx => Q (.d .non, p.2.2)
      | .rt v => Q (v, p.2.2)
      | _ => False) : ok (den n np m ds S) Q := by
  unfold den
  rw [if_pos hl, ok_bind]
  refine h.mono fun p => ?_
  cases hp : p.1 <;> simp [ok_some, ok_none]
theorem seq_ok {a b : SM} {ρ : Slt} {S : Sto} {Q : Fl × Slt × Sto → Prop} (h : ok (a ρ S) fun p => p.1 = .nx ∧ ok (b p.2.1 p.2.2) Q) : ok (sSeq a b ρ S) Q := by
  unfold sSeq
  rw [ok_bind]
  refine h.mono fun p ⟨e, q⟩ => ?_
  rw [e]
  exact q
theorem kb_NoneType_int : kitB "NoneType" "int" = some false := by decide +kernel
theorem kb_NoneType_bool : kitB "NoneType" "bool" = some false := by decide +kernel
theorem kb_NoneType_str : kitB "NoneType" "str" = some false := by decide +kernel
theorem kb_NoneType_tuple : kitB "NoneType" "tuple" = some false := by decide +kernel
theorem kb_NoneType_list : kitB "NoneType" "list" = some false := by decide +kernel
theorem kb_bool_int : kitB "bool" "int" = some true := by decide +kernel
theorem kb_bool_bool : kitB "bool" "bool" = some true := by decide +kernel
theorem kb_bool_str : kitB "bool" "str" = some false := by decide +kernel
theorem kb_bool_tuple : kitB "bool" "tuple" = some false := by decide +kernel
theorem kb_bool_list : kitB "bool" "list" = some false := by decide +kernel
theorem kb_int_int : kitB "int" "int" = some true := by decide +kernel
theorem kb_int_bool : kitB "int" "bool" = some false := by decide +kernel
theorem kb_int_str : kitB "int" "str" = some false := by decide +kernel
theorem kb_int_tuple : kitB "int" "tuple" = some false := by decide +kernel
theorem kb_int_list : kitB "int" "list" = some false := by decide +kernel
theorem kb_str_int : kitB "str" "int" = some false := by decide +kernel
theorem kb_str_bool : kitB "str" "bool" = some false := by decide +kernel
theorem kb_str_str : kitB "str" "str" = some true := by decide +kernel
theorem kb_str_tuple : kitB "str" "tuple" = some false := by decide +kernel
theorem kb_str_list : kitB "str" "list" = some false := by decide +kernel
theorem kb_tuple_int : kitB "tuple" "int" = some false := by decide +kernel
theorem kb_tuple_bool : kitB "tuple" "bool" = some false := by decide +kernel
theorem kb_tuple_str : kitB "tuple" "str" = some false := by decide +kernel
theorem kb_tuple_tuple : kitB "tuple" "tuple" = some true := by decide +kernel
theorem kb_tuple_list : kitB "tuple" "list" = some false := by decide +kernel
theorem kb_list_int : kitB "list" "int" = some false := by decide +kernel
theorem kb_list_bool : kitB "list" "bool" = some false := by decide +kernel
theorem kb_list_str : kitB "list" "str" = some false := by decide +kernel
theorem kb_list_tuple : kitB "list" "tuple" = some false := by decide +kernel
theorem kb_list_list : kitB "list" "list" = some true := by decide +kernel
end Yi
/-! Loops and comparisons in plain Lean. -/
namespace Yi
open PySem L2
theorem forL_ok {g : TM} {b : SM} (P : Nat → Slt → Sto → Prop) : ∀ (items : List D) (k : Nat) {ρ : Slt} {S : Sto}, P k ρ S →
    (∀ (i : Nat) (d : D), items[i]? = some d → ∀ ρ S, P (k + i) ρ S → ok (g d ρ) fun ρ1 => ok (b ρ1 S) fun p => p.1 = .nx ∧ P (k + i + 1) p.2.1 p.2.2) →
    ok (forL g b items ρ S) fun p => p.1 = .nx ∧ P (k + items.length) p.2.1 p.2.2
  | [], k, ρ, S, h0, hs => ⟨_, rfl, rfl, h0⟩
  | d :: r, k, ρ, S, h0, hs => by
    unfold forL
    rw [ok_bind]
    refine (hs 0 d rfl ρ S h0).mono fun ρ1 h1 => ?_
    rw [ok_bind]
    refine h1.mono fun ⟨f, ρ2, S2⟩ ⟨e, h2⟩ => ?_
    cases e
    refine (forL_ok P r (k + 1) (ρ := ρ2) (S := S2) h2 fun i d' hd ρ' S' hp => ?_).mono fun p hp => ?_
    · have := hs (i + 1) d' (by simpa using hd) ρ' S' (by rw [show k + (i + 1) = k + 1 + i by omega]; exact hp)
      rw [show k + (i + 1) + 1 = k + 1 + i + 1 by omega] at this
      exact this
    · rw [show k + (d :: r).length = k + 1 + r.length by simp; omega]
      exact hp
theorem compL_ok {g : TM} {c : BM} {m : EM} {ρ : Slt} (P : Nat → List D → Sto → Prop) (hz : ∀ i ys S, P i ys S → szOk ys.length = true) : ∀ (items : List D) (k : Nat) {ys : List D} {S : Sto}, P k ys S →
    (∀ (i : Nat) (d : D), items[i]? = some d → ∀ ys S, P (k + i) ys S → ok (g d ρ) fun ρ1 => ok (c ρ1 S) fun p => if p.1 = true then ok (eD m ρ1 p.2) fun q => P (k + i + 1) (ys ++ [q.1]) q.2 else P (k + i + 1) ys p.2) →
    ok (compL g c m ρ items ys S) fun p => P (k + items.length) p.1 p.2
  | [], k, ys, S, h0, hs => ⟨_, rfl, h0⟩
  | d :: r, k, ys, S, h0, hs => by
    unfold compL
    rw [ok_bind]
    refine (hs 0 d rfl ys S h0).mono fun ρ1 h1 => ?_
    rw [ok_bind]
    refine h1.mono fun ⟨b, S1⟩ h2 => ?_
    have next : ∀ zs S', P (k + 0 + 1) zs S' → ok (compL g c m ρ r zs S') fun p => P (k + (d :: r).length) p.1 p.2 := fun zs S' h3 => by
      refine (compL_ok P hz r (k + 1) (ys := zs) (S := S') h3 fun i d' hd ys' S'' hp => ?_).mono fun p hp => ?_
      · have := hs (i + 1) d' (by simpa using hd) ys' S'' (by rw [show k + (i + 1) = k + 1 + i by omega]; exact hp)
        rw [show k + (i + 1) + 1 = k + 1 + i + 1 by omega] at this
        exact this
      · rw [show k + (d :: r).length = k + 1 + r.length by simp; omega]
        exact hp
    cases b with
    | true =>
      rw [if_pos rfl] at h2 ⊢
      rw [ok_bind]
      refine h2.mono fun q hq => ?_
      rw [if_pos (hz _ _ _ h0)]
      exact next _ _ hq
    | false =>
      rw [if_neg Bool.false_ne_true] at h2 ⊢
      exact next _ _ h2
/-- a comprehension that leaves the store, keeps all -/
theorem compL_map {g : TM} {c : BM} {m : EM} {ρ : Slt} {S : Sto} (f : D → D) : ∀ (items ys : List D), ys.length + items.length ≤ 1000000 →
    (∀ d ∈ items, ∃ ρ1, g d ρ = some ρ1 ∧ c ρ1 S = some (true, S) ∧ eD m ρ1 S = some (f d, S)) → compL g c m ρ items ys S = some (ys ++ items.map f, S)
  | [], ys, _, _ => by simp [compL]
  | d :: r, ys, hl, h => by
    obtain ⟨ρ1, h1, h2, h3⟩ := h d (by simp)
    unfold compL
    rw [h1, Option.bind_some, h2, Option.bind_some, if_pos rfl, h3, Option.bind_some, if_pos (by simp [szOk]; simp at hl; omega), compL_map f r _ (by simp at hl ⊢; omega) fun d' hd => h d' (by simp [hd])]
    simp
/-! ### what is compared -/
mutual
def shp : Nat → D → PyData → Sto → Prop
  | _, .non, p, _ => p = .none
  | _, .bl b, p, _ => p = .bool b
  | _, .int i, p, _ => p = .int i
  | _, .str x, p, _ => p = .str x ∧ PyData.canLay0 (.str x) = true
  | n + 1, .tp _ ds, p, S => ∃ ps, p = .tuple ps ∧ shps n ds ps S
  | n + 1, .fl ds, p, S => ∃ ps, p = .list ps ∧ shps n ds ps S
  | n + 1, .ref k, p, S => ∃ ds ps, S[k]? = some (.lst ds) ∧ p = .list ps ∧ shps n ds ps S
  | _, _, _, _ => False
def shps : Nat → List D → List PyData → Sto → Prop
  | _, [], ps, _ => ps = []
  | n, d :: ds, ps, S => ∃ p r, ps = p :: r ∧ shp n d p S ∧ shps n ds r S
end
mutual
theorem shp_py : ∀ (n : Nat) {d : D} {p : PyData} {S : Sto}, shp n d p S → pyD n S d = some p ∧ p.canLay0 = true ∧ p.depth ≤ n
  | n, .non, p, S, h => by simp only [shp] at h; subst h; exact ⟨by simp only [pyD], by simp only [PyData.canLay0], by simp [PyData.depth]⟩
  | n, .bl b, p, S, h => by simp only [shp] at h; subst h; exact ⟨by simp only [pyD], by simp only [PyData.canLay0], by simp [PyData.depth]⟩
  | n, .int b, p, S, h => by simp only [shp] at h; subst h; exact ⟨by simp only [pyD], by simp only [PyData.canLay0], by simp [PyData.depth]⟩
  | n, .str b, p, S, h => by simp only [shp] at h; obtain ⟨rfl, h⟩ := h; exact ⟨by simp only [pyD], h, by simp [PyData.depth]⟩
  | 0, .tp _ ds, p, S, h => by simp only [shp] at h
  | n + 1, .tp _ ds, p, S, h => by
    simp only [shp] at h
    obtain ⟨ps, rfl, h⟩ := h
    obtain ⟨h1, h2, h3⟩ := shps_py n h
    exact ⟨by simp only [pyD]; rw [h1]; rfl, by simp only [PyData.canLay0]; exact h2, by simp only [PyData.depth]; omega⟩
  | 0, .fl ds, p, S, h => by simp only [shp] at h
  | n + 1, .fl ds, p, S, h => by
    simp only [shp] at h
    obtain ⟨ps, rfl, h⟩ := h
    obtain ⟨h1, h2, h3⟩ := shps_py n h
    exact ⟨by simp only [pyD]; rw [h1]; rfl, by simp only [PyData.canLay0]; exact h2, by simp only [PyData.depth]; omega⟩
  | 0, .ref k, p, S, h => by simp only [shp] at h
  | n + 1, .ref k, p, S, h => by
    simp only [shp] at h
    obtain ⟨ds, ps, h0, rfl, h⟩ := h
    obtain ⟨h1, h2, h3⟩ := shps_py n h
    exact ⟨by simp only [pyD]; rw [h0]; show (pyDs n S ds).map _ = _; rw [h1]; rfl, by simp only [PyData.canLay0]; exact h2, by simp only [PyData.depth]; omega⟩
  | n, .lk _, p, S, h => by cases n <;> simp only [shp] at h
  | n, .fn _, p, S, h => by cases n <;> simp only [shp] at h
  | n, .ty _, p, S, h => by cases n <;> simp only [shp] at h
  | n, .clo _ _, p, S, h => by cases n <;> simp only [shp] at h
  | n, .dcl _ _, p, S, h => by cases n <;> simp only [shp] at h
theorem shps_py : ∀ (n : Nat) {ds : List D} {ps : List PyData} {S : Sto}, shps n ds ps S → pyDs n S ds = some ps ∧ PyData.canLayAll0 ps = true ∧ PyData.depthAll ps ≤ n
  | n, [], ps, S, h => by simp only [shps] at h; subst h; exact ⟨by simp only [pyDs], by simp only [PyData.canLayAll0], by simp [PyData.depthAll]⟩
  | n, d :: ds, ps, S, h => by
    simp only [shps] at h
    obtain ⟨p, r, rfl, h1, h2⟩ := h
    obtain ⟨a1, a2, a3⟩ := shp_py n h1
    obtain ⟨b1, b2, b3⟩ := shps_py n h2
    refine ⟨by simp only [pyDs]; rw [a1, Option.bind_some, b1]; rfl, ?_, ?_⟩
    · simp only [PyData.canLayAll0, a2, b2, Bool.and_self]
    · simp only [PyData.depthAll]
      omega
end
theorem shp_eq {x y : D} {p q : PyData} {S : Sto} (h1 : shp 12 x p S) (h2 : shp 12 y q S) : eqD x y S = some (PyData.eqv p q) := by
  obtain ⟨a1, a2, a3⟩ := shp_py 12 h1
  obtain ⟨b1, b2, b3⟩ := shp_py 12 h2
  unfold eqD
  rw [a1, Option.bind_some, b1, Option.bind_some, if_pos]
  simp only [SeqAt.shaped, a2, b2, Bool.true_and, Bool.and_eq_true, decide_eq_true_eq]
  exact ⟨by omega, by omega⟩
mutual
theorem eqv_self : ∀ p : PyData, p.canLay0 = true → PyData.eqv p p = true
  | .none, _ => by simp [PyData.eqv]
  | .bool _, _ => by simp [PyData.eqv]
  | .int _, _ => by simp [PyData.eqv]
  | .str _, _ => by simp [PyData.eqv]
  | .list ps, h => by simp only [PyData.canLay0] at h; simp only [PyData.eqv]; exact eqvs_self ps h
  | .tuple ps, h => by simp only [PyData.canLay0] at h; simp only [PyData.eqv]; exact eqvs_self ps h
  | .dict _, h => by simp only [PyData.canLay0] at h; cases h
theorem eqvs_self : ∀ ps : List PyData, PyData.canLayAll0 ps = true → PyData.eqvAll ps ps = true
  | [], _ => by simp [PyData.eqvAll]
  | p :: ps, h => by
    simp only [PyData.canLayAll0, Bool.and_eq_true] at h
    simp only [PyData.eqvAll, eqv_self p h.1, eqvs_self ps h.2, Bool.and_self]
end
theorem eqD_same {x y : D} {p : PyData} {S : Sto} (h1 : shp 12 x p S) (h2 : shp 12 y p S) : eqD x y S = some true := by
  rw [shp_eq h1 h2, eqv_self p (shp_py 12 h1).2.1]
theorem shps_map {α : Type} {n : Nat} {S : Sto} {f : α → D} {g : α → PyData} : ∀ {l : List α}, (∀ a ∈ l, shp n (f a) (g a) S) → shps n (l.map f) (l.map g) S
  | [], _ => by simp only [List.map_nil, shps]
  | a :: r, h => by
    simp only [List.map_cons, shps]
    exact ⟨_, _, rfl, h a (by simp), shps_map fun b hb => h b (by simp [hb])⟩
theorem eq_int (i j : Int) (S : Sto) : eqD (.int i) (.int j) S = some (i == j) := by rw [shp_eq (p := .int i) (q := .int j) (by simp only [shp]) (by simp only [shp])]; simp only [PyData.eqv]
theorem eq_bl (i j : Bool) (S : Sto) : eqD (.bl i) (.bl j) S = some (i == j) := by rw [shp_eq (p := .bool i) (q := .bool j) (by simp only [shp]) (by simp only [shp])]; simp only [PyData.eqv]
theorem eq_str {i j : Str} {S : Sto} (h1 : PyData.canLay0 (.str i) = true) (h2 : PyData.canLay0 (.str j) = true) : eqD (.str i) (.str j) S = some (i == j) := by rw [shp_eq (p := .str i) (q := .str j) (by simp only [shp]; exact ⟨trivial, h1⟩) (by simp only [shp]; exact ⟨trivial, h2⟩)]; simp only [PyData.eqv]
/-- a list against the empty one -/
theorem eq_nilL {ds : List D} {ps : List PyData} {x : D} {S : Sto} (hx : lstD x S = some ds) (h : shps 11 ds ps S) : eqD x (.fl []) S = some ds.isEmpty := by
  have h1 : shp 12 x (.list ps) S := by
    cases x with
    | fl es => cases hx; simp only [shp]; exact ⟨_, rfl, h⟩
    | ref n =>
      simp only [lstD] at hx
      split at hx
      · rename_i q
        cases hx
        simp only [shp]
        exact ⟨_, _, q, rfl, h⟩
      · cases hx
    | _ => cases hx
  rw [shp_eq h1 (q := .list []) (by simp only [shp]; exact ⟨_, rfl, by simp only [shps]⟩)]
  cases ds with
  | nil => simp only [shps] at h; subst h; simp [PyData.eqv, PyData.eqvAll]
  | cons d r => simp only [shps] at h; obtain ⟨p, q, rfl, _, _⟩ := h; simp [PyData.eqv, PyData.eqvAll]
theorem ix0 {n : Nat} (h : 0 < n) : ixN n 0 = some 0 := by simp [ixN]; omega
theorem ixn {n : Nat} {i : Nat} (h : i < n) : ixN n (i : Int) = some i := by simp [ixN]; omega
theorem ixm {n : Nat} (h : 0 < n) : ixN n (-1) = some (n - 1) := by
  unfold ixN
  rw [if_neg (by omega), if_pos (by omega)]
  congr 1
  omega
theorem sz_0 : szOk 0 = true := by decide
theorem sz_1 : szOk 1 = true := by decide
theorem sz_2 : szOk 2 = true := by decide
theorem sz_3 : szOk 3 = true := by decide
theorem sz_4 : szOk 4 = true := by decide
theorem sz_5 : szOk 5 = true := by decide
theorem sz_6 : szOk 6 = true := by decide
theorem sz_7 : szOk 7 = true := by decide
theorem sz_8 : szOk 8 = true := by decide
theorem sz_9 : szOk 9 = true := by decide
theorem sz_10 : szOk 10 = true := by decide
theorem sz_11 : szOk 11 = true := by decide
theorem sz_12 : szOk 12 = true := by decide
theorem sz_13 : szOk 13 = true := by decide
theorem sz_14 : szOk 14 = true := by decide
theorem sz_15 : szOk 15 = true := by decide
theorem sz_16 : szOk 16 = true := by decide
theorem ix_1_0 : ixN 1 0 = some 0 := by decide
theorem ix_2_0 : ixN 2 0 = some 0 := by decide
theorem ix_2_1 : ixN 2 1 = some 1 := by decide
theorem ix_3_0 : ixN 3 0 = some 0 := by decide
theorem ix_3_1 : ixN 3 1 = some 1 := by decide
theorem ix_3_2 : ixN 3 2 = some 2 := by decide
theorem ix_4_0 : ixN 4 0 = some 0 := by decide
theorem ix_4_1 : ixN 4 1 = some 1 := by decide
theorem ix_4_2 : ixN 4 2 = some 2 := by decide
theorem ix_4_3 : ixN 4 3 = some 3 := by decide
theorem ix_5_0 : ixN 5 0 = some 0 := by decide
theorem ix_5_1 : ixN 5 1 = some 1 := by decide
theorem ix_5_2 : ixN 5 2 = some 2 := by decide
theorem ix_5_3 : ixN 5 3 = some 3 := by decide
theorem ix_5_4 : ixN 5 4 = some 4 := by decide
theorem ix_6_0 : ixN 6 0 = some 0 := by decide
theorem ix_6_1 : ixN 6 1 = some 1 := by decide
theorem ix_6_2 : ixN 6 2 = some 2 := by decide
theorem ix_6_3 : ixN 6 3 = some 3 := by decide
theorem ix_6_4 : ixN 6 4 = some 4 := by decide
theorem ix_6_5 : ixN 6 5 = some 5 := by decide
theorem ix_7_0 : ixN 7 0 = some 0 := by decide
theorem ix_7_1 : ixN 7 1 = some 1 := by decide
theorem ix_7_2 : ixN 7 2 = some 2 := by decide
theorem ix_7_3 : ixN 7 3 = some 3 := by decide
theorem ix_7_4 : ixN 7 4 = some 4 := by decide
theorem ix_7_5 : ixN 7 5 = some 5 := by decide
theorem ix_7_6 : ixN 7 6 = some 6 := by decide
theorem sI_0 : smallI 0 = true := by decide
theorem sI_1 : smallI 1 = true := by decide
theorem sI_48271 : smallI 48271 = true := by decide
theorem sI_69621 : smallI 69621 = true := by decide
theorem nx_ok {ρ : Slt} {S : Sto} {b : SM} {Q : Fl × Slt × Sto → Prop} (h : ok (b ρ S) Q) : (Fl.nx, ρ, S).1 = .nx ∧ ok (b (Fl.nx, ρ, S).2.1 (Fl.nx, ρ, S).2.2) Q := ⟨rfl, h⟩
theorem for_ok {i : AM} {g : TM} {b : SM} {ρ : Slt} {S : Sto} {Q : Fl × Slt × Sto → Prop} (h : ok (i ρ S) fun p => ok (forL g b p.1 ρ p.2) Q) : ok (sFor i g b ρ S) Q := by
  unfold sFor
  rw [ok_bind]
  exact h
theorem lc_ok {i : AM} {g : TM} {c : BM} {m : EM} {vs : List Nat} {ρ : Slt} {S : Sto} {Q : VV × Sto → Prop} (h : ok (i ρ S) fun p => ok (compL g c m (wipeS ρ vs) p.1 [] p.2) fun q => Q (.own (.lst q.1), q.2)) : ok (eLc i g c m vs ρ S) Q := by
  unfold eLc
  rw [ok_bind]
  refine h.mono fun p hp => ?_
  rw [ok_map]
  exact hp
theorem rng_get {lo : Int} {n i : Nat} {d : D} (h : (rngL lo n)[i]? = some d) : i < n ∧ d = .int (lo + i) := by
  unfold rngL at h
  rw [List.getElem?_map] at h
  obtain ⟨j, hj, rfl⟩ := Option.map_eq_some_iff.mp h
  have h1 := (List.getElem?_eq_some_iff.mp hj).1
  rw [List.getElem?_range (by simpa using h1)] at hj
  cases hj
  exact ⟨by simpa using h1, rfl⟩
theorem rng_len {lo : Int} {n : Nat} : (rngL lo n).length = n := by simp [rngL]
theorem smR {i : Int} (h0 : 0 ≤ i) (h1 : i ≤ 1000000) : smallR i = true := by simp [smallR]; omega
theorem forC_ok {n : Nat} {mk : Nat → D → D} {g : TM} {b : SM} (P : Nat → Slt → Sto → Prop) (ds : List D) (hc : ∀ i ρ S, P i ρ S → S[n]? = some (.lst ds))
    (hs : ∀ (i : Nat) (d : D), ds[i]? = some d → ∀ ρ S, P i ρ S → ok (g (mk i d) ρ) fun ρ1 => ok (b ρ1 S) fun p => p.1 = .nx ∧ P (i + 1) p.2.1 p.2.2) :
    ∀ (k i : Nat) {ρ : Slt} {S : Sto}, i + k = ds.length → P i ρ S → ok (forC n mk g b (k + 1) i ρ S) fun p => p.1 = .nx ∧ P ds.length p.2.1 p.2.2
  | 0, i, ρ, S, hi, hp => by
    unfold forC
    rw [hc _ _ _ hp]
    dsimp only
    rw [List.getElem?_eq_none (by omega)]
    refine ⟨_, rfl, rfl, ?_⟩
    have : i = ds.length := by omega
    rw [← this]
    exact hp
  | k + 1, i, ρ, S, hi, hp => by
    unfold forC
    rw [hc _ _ _ hp]
    dsimp only
    have hl : i < ds.length := by omega
    rw [List.getElem?_eq_getElem hl]
    dsimp only
    rw [ok_bind]
    refine (hs i ds[i] (List.getElem?_eq_getElem hl) ρ S hp).mono fun ρ1 h1 => ?_
    rw [ok_bind]
    refine h1.mono fun ⟨f, ρ2, S2⟩ ⟨e, h2⟩ => ?_
    cases e
    exact forC_ok P ds hc hs k (i + 1) (by omega) h2
theorem sforC_ok {n : Nat} {i : Slt → Sto → Option (Nat × Sto)} {mk : Nat → D → D} {g : TM} {b : SM} {ρ : Slt} {S S1 : Sto} {ds : List D} {Q : Fl × Slt × Sto → Prop} (hi : i ρ S = some (n, S1)) (P : Nat → Slt → Sto → Prop) (h0 : P 0 ρ S1)
    (hc : ∀ i ρ S, P i ρ S → S[n]? = some (.lst ds)) (hs : ∀ (i : Nat) (d : D), ds[i]? = some d → ∀ ρ S, P i ρ S → ok (g (mk i d) ρ) fun ρ1 => ok (b ρ1 S) fun p => p.1 = .nx ∧ P (i + 1) p.2.1 p.2.2)
    (hd : ∀ ρ' S', P ds.length ρ' S' → Q (.nx, ρ', S')) : ok (sForC i mk g b ρ S) Q := by
  unfold sForC
  rw [hi, Option.bind_some]
  have e : lenC n S1 = ds.length := by unfold lenC; rw [hc _ _ _ h0]
  dsimp only
  rw [e]
  refine (forC_ok P ds hc hs ds.length 0 (by omega) h0).mono fun ⟨f, ρ', S'⟩ ⟨e, h⟩ => ?_
  cases e
  exact hd ρ' S' h
theorem compC_map {n : Nat} {mk : Nat → D → D} {g : TM} {c : BM} {m : EM} {ρ : Slt} {S : Sto} {ds : List D} (f : Nat → D → D) (hc : S[n]? = some (.lst ds)) (hl : ds.length ≤ 1000000)
    (h : ∀ (i : Nat) (d : D), ds[i]? = some d → ∃ ρ1, g (mk i d) ρ = some ρ1 ∧ c ρ1 S = some (true, S) ∧ eD m ρ1 S = some (f i d, S)) :
    ∀ (k i : Nat) (ys : List D), i + k = ds.length → ys = (ds.take i).mapIdx f → compC n mk g c m ρ (k + 1) i ys S = some (ds.mapIdx f, S)
  | 0, i, ys, hi, e => by
    unfold compC
    rw [hc]
    dsimp only
    rw [List.getElem?_eq_none (by omega), e, List.take_of_length_le (by omega)]
  | k + 1, i, ys, hi, e => by
    unfold compC
    rw [hc]
    dsimp only
    have hil : i < ds.length := by omega
    rw [List.getElem?_eq_getElem hil]
    dsimp only
    obtain ⟨ρ1, h1, h2, h3⟩ := h i ds[i] (List.getElem?_eq_getElem hil)
    have hy : ys.length = i := by rw [e]; simp; omega
    rw [h1, Option.bind_some, h2, Option.bind_some, if_pos rfl, h3, Option.bind_some, if_pos (by simp [szOk]; omega)]
    refine compC_map f hc hl h k (i + 1) _ (by omega) ?_
    rw [e, List.take_add_one, List.getElem?_eq_getElem hil]
    have em : min i ds.length = i := Nat.min_eq_left (by omega)
    rw [List.mapIdx_append]
    simp only [Option.toList, List.mapIdx_cons, List.mapIdx_nil, List.length_take, em, Nat.zero_add]
theorem iR1_eq {a : AM} {ρ : Slt} {S S' : Sto} {n : Nat} (h : a ρ S = some ([.int n], S')) (hn : n ≤ 1000000) : iR1 a ρ S = some (rngL 0 n, S') := by
  have e : smallR (n : Int) = true := smR (by omega) (by omega)
  unfold iR1
  rw [h, Option.bind_some]
  exact if_pos e
end Yi
/-! Meanings that may raise. -/
namespace Yi
open PySem L2
/-- an exception: its class, its fields -/
structure Ex where
  c : Nat
  fs : List (Str × D)
def RX (G : Gm) (F : Hp) (ι : List Addr) (H : Hp) (e : Ex) (cls : Value) (d : Option Addr) : Prop := cls = .ref (G.xc e.c) ∧ ((e.fs = [] ∧ d = none) ∨ ∃ dd kv, d = some dd ∧ H dd = some (.xd kv) ∧ RKs G F ι e.fs kv)
/-- how it ends: as meant, or by an exception -/
abbrev Out (α : Type) := Option ((α × Sto) ⊕ (Ex × Sto))
abbrev XEM := Slt → Sto → Out VV
abbrev XM := Slt → Sto → Option ((Fl × Slt × Sto) ⊕ (Ex × Sto))
abbrev DenX := List D → Sto → Out VV
/-- what is wanted where an exception goes on -/
def EndX (G : Gm) (F : Hp) (ι : List Addr) (O : Addr → Prop) (H : Hp) (E : XK) (e : Ex) (S' : Sto) : Prop := ∀ F' ι' H' cls d, Rep G F' ι' S' H' → Stp F ι O H F' ι' NoO H' → RX G F' ι' H' e cls d → E cls d H'
def EndS (G : Gm) (F : Hp) (ι : List Addr) (O : Addr → Prop) (H : Hp) (E : XK) (D : Ends) : (Fl × Slt × Sto) ⊕ (Ex × Sto) → Prop
  | .inl p => EndW G F ι O H D p.2.1 p.2.2 p.1
  | .inr p => EndX G F ι O H E p.1 p.2
def SndXS (G : Gm) (E : XK) (t : TS) (x : XM) : Prop := ∀ {F : Hp} {ι : List Addr} {S : Sto} {ρ : Slt} {σ : St} {H : Hp} {o : (Fl × Slt × Sto) ⊕ (Ex × Sto)}, Sta G F ι S ρ σ H → x ρ S = some o → ∀ D : Ends, EndS G F ι (OwnA ρ σ) H E D o → t D σ H
def EndV (G : Gm) (F : Hp) (ι : List Addr) (ρ : Slt) (σ : St) (H : Hp) (E : XK) (Q : VK) : (VV × Sto) ⊕ (Ex × Sto) → Prop
  | .inl p => ∀ F' ι' H' v, Sta G F' ι' p.2 ρ σ H' → Stx F ι H F' ι' H' → RV G F' ι' NoO H H' p.1 v → Q v H'
  | .inr p => EndX G F ι NoO H E p.1 p.2
def SndXV (G : Gm) (E : XK) (t : TE) (x : XEM) : Prop := ∀ {F : Hp} {ι : List Addr} {S : Sto} {ρ : Slt} {σ : St} {H : Hp} {o : (VV × Sto) ⊕ (Ex × Sto)}, Sta G F ι S ρ σ H → x ρ S = some o → ∀ Q : VK, EndV G F ι ρ σ H E Q o → t σ H Q
section
variable {G : Gm} {E : XK} {F F' H H' : Hp} {ι ι' : List Addr} {S S' : Sto} {ρ ρ' : Slt} {σ σ' : St} {te : TE} {me : EM} {xe : XEM} {tt : TT} {mt : BM} {t t1 t2 : TS} {m : SM} {x x1 x2 : XM} {O O' : Addr → Prop}
theorem EndX.later {e : Ex} (k : EndX G F ι O H E e S') (p : Stp F ι O H F' ι' O' H') : EndX G F' ι' O' H' E e S' := fun F2 ι2 H2 cls d r q rx => k F2 ι2 H2 cls d r (p.trans q) rx
theorem EndS.later {D : Ends} {o : (Fl × Slt × Sto) ⊕ (Ex × Sto)} (k : EndS G F ι O H E D o) (p : Stp F ι O H F' ι' O' H') : EndS G F' ι' O' H' E D o := by
  cases o with
  | inl q => exact EndW.later p k
  | inr q => exact EndX.later k p
/-! ### what can't raise -/
def xs (m : SM) : XM := fun ρ S => (m ρ S).map .inl
theorem snd_xs (h : SndS G t m) : SndXS G E t (xs m) := by
  intro F ι S ρ σ H o s e D k
  unfold xs at e
  obtain ⟨⟨f, ρ', S'⟩, e1, rfl⟩ := Option.map_eq_some_iff.mp e
  exact h s e1 D k
def xv (m : EM) : XEM := fun ρ S => (m ρ S).map .inl
theorem snd_xv (h : SndV G te me) : SndXV G E te (xv me) := by
  intro F ι S ρ σ H o s e Q k
  unfold xv at e
  obtain ⟨⟨w, S'⟩, e1, rfl⟩ := Option.map_eq_some_iff.mp e
  exact h s e1 Q k
/-! ### statements -/
def xSeq (a b : XM) : XM := fun ρ S => (a ρ S).bind fun p => match p with
  | .inl (.nx, ρ1, S1) => b ρ1 S1
  | q => some q
theorem snd_xseq (h1 : SndXS G E t1 x1) (h2 : SndXS G E t2 x2) : SndXS G E (tSeq t1 t2) (xSeq x1 x2) := by
  intro F ι S ρ σ H o s e D k
  unfold xSeq at e
  obtain ⟨p, e1, e⟩ := Option.bind_eq_some_iff.mp e
  refine h1 s e1 _ ?_
  rcases p with ⟨g, ρ1, S1⟩ | ⟨e0, S1⟩
  · cases g with
    | nx => exact fun F1 ι1 σ1 H1 s1 p1 => h2 s1 e D (k.later p1)
    | bk => cases e; exact k
    | ct => cases e; exact k
    | rt w => cases e; exact k
  · cases e; exact k
def xIf (c : BM) (a b : XM) : XM := fun ρ S => (c ρ S).bind fun p => if p.1 = true then a ρ p.2 else b ρ p.2
theorem snd_xif (hc : SndT G tt mt) (h1 : SndXS G E t1 x1) (h2 : SndXS G E t2 x2) : SndXS G E (tIfS tt t1 t2) (xIf mt x1 x2) := by
  intro F ι S ρ σ H o s e D k
  unfold xIf at e
  obtain ⟨⟨c, S1⟩, e1, e⟩ := Option.bind_eq_some_iff.mp e
  refine hc s e1 _ fun F1 ι1 H1 s1 p1 => ?_
  cases c with
  | true => exact h1 s1 e D (k.later (stx_own p1))
  | false => exact h2 s1 e D (k.later (stx_own p1))
def xExpr (m : XEM) : XM := fun ρ S => (m ρ S).map fun p => match p with
  | .inl q => .inl (.nx, ρ, q.2)
  | .inr q => .inr q
theorem EndX.own {e : Ex} (k : EndX G F ι O H E e S') : EndX G F ι NoO H E e S' := fun F2 ι2 H2 cls d r q rx => k F2 ι2 H2 cls d r (q.own fun _ z => z.elim) rx
theorem snd_xexpr (h : SndXV G E te xe) : SndXS G E (tDrop te) (xExpr xe) := by
  intro F ι S ρ σ H o s e D k
  unfold xExpr at e
  obtain ⟨p, e1, rfl⟩ := Option.map_eq_some_iff.mp e
  refine h s e1 _ ?_
  rcases p with ⟨w, S1⟩ | ⟨e0, S1⟩
  · exact fun F1 ι1 H1 v s1 p1 r => k F1 ι1 σ H1 s1 (stx_own p1)
  · exact EndX.own k
def xRet (m : XEM) : XM := fun ρ S => (m ρ S).map fun p => match p with
  | .inl q => .inl (.rt q.1, ρ, q.2)
  | .inr q => .inr q
theorem snd_xret (h : SndXV G E te xe) : SndXS G E (tRet te) (xRet xe) := by
  intro F ι S ρ σ H o s e D k
  unfold xRet at e
  obtain ⟨p, e1, rfl⟩ := Option.map_eq_some_iff.mp e
  refine h s e1 _ ?_
  rcases p with ⟨w, S1⟩ | ⟨e0, S1⟩
  · exact fun F1 ι1 H1 v s1 p1 r => k F1 ι1 H1 v s1.rep (p1.own fun _ z => z.elim) r.up
  · exact EndX.own k
def xSet (i : Nat) (m : XEM) : XM := fun ρ S => (m ρ S).map fun p => match p with
  | .inl q => .inl (.nx, ρ.set i (some q.1), q.2)
  | .inr q => .inr q
theorem snd_xset {i : Nat} (h : SndXV G E te xe) : SndXS G E (tAsg te (gName i)) (xSet i xe) := by
  intro F ι S ρ σ H o s e D k
  unfold xSet at e
  obtain ⟨p, e1, rfl⟩ := Option.map_eq_some_iff.mp e
  refine h s e1 _ ?_
  rcases p with ⟨w, S1⟩ | ⟨e0, S1⟩
  · intro F1 ι1 H1 v s1 p1 r
    obtain ⟨s2, h2⟩ := s1.set (i := i) (O := NoO) (H0 := H) r fun a ha => s.notOwn ha
    refine k F1 ι1 _ H1 s2 ?_
    have q : Stp F ι (OwnA ρ σ) H F1 ι1 (OwnA ρ σ) H1 := stx_own p1
    exact ⟨q.exF, q.pre, q.fr, q.nF, q.nI, fun a ha => (h2 a ha).imp_left fun z => z, q.dom, q.fz⟩
  · exact EndX.own k
/-! ### for -/
def forX (g : TM) (b : XM) : List D → XM
  | [], ρ, S => some (.inl (.nx, ρ, S))
  | d :: r, ρ, S => (g d ρ).bind fun ρ1 => (b ρ1 S).bind fun p => match p with
    | .inl (.nx, ρ2, S2) => forX g b r ρ2 S2
    | .inl (.ct, ρ2, S2) => forX g b r ρ2 S2
    | .inl (.bk, ρ2, S2) => some (.inl (.nx, ρ2, S2))
    | .inl (.rt v, ρ2, S2) => some (.inl (.rt v, ρ2, S2))
    | .inr q => some (.inr q)
def xFor (i : AM) (g : TM) (b : XM) : XM := fun ρ S => (i ρ S).bind fun p => forX g b p.1 ρ p.2
theorem snd_xfor {wi : TI} {mi : AM} {g : TG} {mg : TM} {vs : List Nat} {tb : TS} {mb : XM} (hi : SndI G wi mi) (hg : SndG G g mg vs) (hb : SndXS G E tb mb) : SndXS G E (tFor wi g tb) (xFor mi mg mb) := by
  intro F ι S ρ σ H o s e W k
  unfold xFor at e
  obtain ⟨⟨items, S1⟩, e1, e⟩ := Option.bind_eq_some_iff.mp e
  dsimp only at e
  refine hi s e1 _ fun F1 ι1 H1 J s1 p1 hJ => ?_
  have k1 := k.later (stx_own (O := OwnA ρ σ) p1)
  refine ⟨fun i m σ2 H2 => m = items.length - i ∧ i ≤ items.length ∧ ∃ F2 ι2 S2 ρ2, Sta G F2 ι2 S2 ρ2 σ2 H2 ∧ Stp F1 ι1 (OwnA ρ σ) H1 F2 ι2 (OwnA ρ2 σ2) H2 ∧ forX mg mb (items.drop i) ρ2 S2 = some o, ⟨items.length, by simp, Nat.zero_le _, F1, ι1, S1, ρ, s1, .refl, by simpa using e⟩, ?_⟩
  rintro i m σ2 H2 ⟨rfl, hle, F2, ι2, S2, ρ2, s2, p2, e2⟩
  obtain ⟨j1, j2⟩ := hJ p2.exF p2.pre p2.fz s2.rep i
  by_cases hlt : i < items.length
  · have ed : items.drop i = items[i] :: items.drop (i + 1) := List.drop_eq_getElem_cons hlt
    rw [ed] at e2
    unfold forX at e2
    obtain ⟨ρ3, e3, e2⟩ := Option.bind_eq_some_iff.mp e2
    obtain ⟨p4, e4, e2⟩ := Option.bind_eq_some_iff.mp e2
    obtain ⟨go, yl⟩ := j1 items[i] (List.getElem?_eq_getElem hlt)
    refine .inr ⟨go, fun σ' H' => ∃ F2 ι2 S2 ρ2, Sta G F2 ι2 S2 ρ2 σ' H' ∧ Stp F1 ι1 (OwnA ρ σ) H1 F2 ι2 (OwnA ρ2 σ') H' ∧ forX mg mb (items.drop (i + 1)) ρ2 S2 = some o, fun σ' H' h => ⟨items.length - (i + 1), by omega, rfl, hlt, h⟩, fun x H3 y => ?_⟩
    obtain ⟨F3, r3, p3, rd⟩ := yl x H3 y
    have s3 := (s2.after r3 p3).1
    have pp : Stp F1 ι1 (OwnA ρ σ) H1 F3 ι2 (OwnA ρ2 σ2) H3 := p2.trans (stx_own p3)
    refine hg s3 rd e3 _ fun σ4 s4 o4 _ => ?_
    have p5 : Stp F1 ι1 (OwnA ρ σ) H1 F3 ι2 (OwnA ρ3 σ4) H3 := pp.trans (Stp.same o4)
    refine hb s4 e4 _ ?_
    rcases p4 with ⟨f4, ρ4, S4⟩ | ⟨x4, S4⟩
    · cases f4 with
      | nx => exact fun F5 ι5 σ5 H5 s5 p6 => ⟨F5, ι5, S4, ρ4, s5, p5.trans p6, e2⟩
      | ct => exact fun F5 ι5 σ5 H5 s5 p6 => ⟨F5, ι5, S4, ρ4, s5, p5.trans p6, e2⟩
      | bk => cases e2; exact fun F5 ι5 σ5 H5 s5 p6 => k1 F5 ι5 σ5 H5 s5 (p5.trans p6)
      | rt v => cases e2; exact EndS.later (o := .inl (.rt v, ρ4, S4)) k1 p5
    · cases e2
      exact EndX.later k1 p5
  · have ei : i = items.length := by omega
    subst ei
    rw [List.drop_length] at e2
    cases e2
    exact .inl ⟨j2 (Nat.le_refl _), k1 F2 ι2 σ2 H2 s2 p2⟩
/-! ### raise, of a class without its own __init__ -/
def xRz (c : Nat) : XM := fun _ S => some (.inr (⟨c, []⟩, S))
theorem snd_xrz {c : Nat} {C : Addr} (hC : C = G.xc c) : SndXS G E (fun _ σ H => (fun _ H Q => Q (.ref C) none H : St → Hp → XK → Prop) σ H fun cls d H' => E cls d H') (xRz c) := by
  intro F ι S ρ σ H o s e D k
  cases e
  refine k F ι H _ _ s.rep (Stp.same fun _ z => z.elim) ⟨by rw [hC], .inl ⟨rfl, rfl⟩⟩
/-! ### defs -/
def denX (n np : Nat) (x : XM) : DenX := fun ds S => if ds.length = np then (x (ds.map (fun d => some (.d d)) ++ List.replicate (n - ds.length) none) S).bind fun p => match p with
  | .inl (.nx, _, S') => some (.inl (.d .non, S'))
  | .inl (.rt v, _, S') => some (.inl (v, S'))
  | .inl _ => none
  | .inr q => some (.inr q)
  else none
def spX (G : Gm) (np : Nat) (f : DenX) : Sp := fun vs H Q E => vs.length = np ∧ ∃ F ι S ds o, Rep G F ι S H ∧ RDs G F ι ds vs ∧ f ds S = some o ∧ match o with
  | .inl (w, S') => ∀ F' ι' H' v, Rep G F' ι' S' H' → Stx F ι H F' ι' H' → RV G F' ι' NoO H H' w v → Q v H'
  | .inr (e, S') => EndX G F ι NoO H E e S'
theorem body_X {N : List Str} {np : Nat} (h : SndXS G E t x) {vs : List V} {Q : VK} (p : spX G np (denX N.length np x) vs H Q E) : t { nx := fun _ H' => Q .non H', rt := Q } (L2.start N vs) H := by
  obtain ⟨_, F, ι, S, ds, o, r, rs, e, k⟩ := p
  unfold denX at e
  split at e
  · obtain ⟨p1, e1, e⟩ := Option.bind_eq_some_iff.mp e
    obtain ⟨s, no⟩ := start_sta (N := N) r rs
    refine h s e1 _ ?_
    have nn : ∀ {F' : Hp} {ι' : List Addr} {H' : Hp} {O' : Addr → Prop}, Stp F ι (OwnA (ds.map (fun d => some (VV.d d)) ++ List.replicate (N.length - ds.length) none) (L2.start N vs)) H F' ι' O' H' → Stx F ι H F' ι' H' := fun p =>
      ⟨p.exF, p.pre, fun a o h1 h2 _ nt => p.fr a o h1 h2 (no a) nt, fun a h1 => (p.nF a h1).imp_right (Or.imp_right fun z => (no a z).elim), fun a h1 => (p.nI a h1).imp_right (Or.imp_right fun z => (no a z).elim), fun _ z => z.elim, p.dom, p.fz⟩
    rcases p1 with ⟨f, ρ', S1⟩ | ⟨e0, S1⟩
    · cases f with
      | nx =>
        cases e
        exact fun F' ι' σ' H' s' p' => k F' ι' H' _ s'.rep (nn p') (by simp only [RV, RD])
      | rt v =>
        cases e
        refine fun F' ι' H' u r' p' rv => k F' ι' H' u r' (nn p') ?_
        cases v with
        | d x => exact rv
        | own c =>
          obtain ⟨a, o, h1, h2, h3, h4, h5, h6⟩ := rv
          exact ⟨a, o, h1, h2, h3, h4, h5, .inr (h6.elim (fun z => (no a z).elim) id)⟩
      | bk => cases e
      | ct => cases e
    · cases e
      exact fun F' ι' H' cls d r' p' rx => k F' ι' H' cls d r' (nn p') rx
  · cases e
theorem denX_len {n np : Nat} {x : XM} : ∀ (ds : List D) (S : Sto) (o : (VV × Sto) ⊕ (Ex × Sto)), denX n np x ds S = some o → ds.length = np := fun ds S o e => by
  unfold denX at e
  split at e
  · assumption
  · cases e
/-! ### calls -/
def xCall (f : DenX) (a : AM) (dds : List D) : XEM := fun ρ S => (a ρ S).bind fun p => f (p.1 ++ dds) p.2
theorem snd_xcall {f : DenX} {np : Nat} {t : TA} {m : AM} {dvs : List V} {dds : List D} (h : SndA G t m) (hd : ∀ F ι, RDs G F ι dds dvs) (hn : ∀ ds S o, f ds S = some o → ds.length = np) : SndXV G E (tCall (spX G np f) dvs E t) (xCall f m dds) := by
  intro F ι S ρ σ H o s e Q k
  unfold xCall at e
  obtain ⟨⟨ds, S1⟩, e1, e⟩ := Option.bind_eq_some_iff.mp e
  refine h s e1 _ fun F1 ι1 H1 vs s1 p1 rs => ?_
  have rs2 := rs.app (hd F1 ι1)
  refine ⟨by rw [← rs2.len]; exact hn _ _ _ e, F1, ι1, S1, _, o, s1.rep, rs2, e, ?_⟩
  rcases o with ⟨w, S2⟩ | ⟨e0, S2⟩
  · exact fun F' ι' H' v r' p' rv => k F' ι' H' v (s1.after r' p').1 (p1.trans p') (rv.back p1.back)
  · exact fun F' ι' H' cls d r' p' rx => k F' ι' H' cls d r' (p1.trans p') rx
def xMeth (c : Nat) (m : Str) (f : DenX) (mo : EM) (a : AM) (dds : List D) : XEM := fun ρ S => (eD mo ρ S).bind fun p => (insAt c p.1 p.2).bind fun u => if (lkp m u.2).isNone = true then (a ρ p.2).bind fun q => f (p.1 :: (q.1 ++ dds)) q.2 else none
theorem snd_xmeth {c : Nat} {m : Str} {f : DenX} {np : Nat} {to : TE} {mo : EM} {t : TA} {a : AM} {dvs : List V} {dds : List D} (ho : SndV G to mo) (h : SndA G t a) (hd : ∀ F ι, RDs G F ι dds dvs) (hn : ∀ ds S o, f ds S = some o → ds.length = np) :
    SndXV G E (tMeth (G.cl c) m (spX G np f) dvs E to t) (xMeth c m f mo a dds) := by
  intro F ι S ρ σ H out s e Q k
  unfold xMeth at e
  obtain ⟨⟨o, S1⟩, e1, e⟩ := Option.bind_eq_some_iff.mp e
  obtain ⟨⟨n, fs⟩, e2, e⟩ := Option.bind_eq_some_iff.mp e
  dsimp only at e
  split at e
  · rename_i hl
    obtain ⟨⟨ds, S2⟩, e3, e⟩ := Option.bind_eq_some_iff.mp e
    refine snd_d ho s e1 _ fun F1 ι1 H1 vo s1 p1 ro => ?_
    obtain ⟨b, dx, kv, rfl, h1, h2, h3⟩ := ins_get s1.rep e2 ro
    refine ⟨b, dx, kv, rfl, h2, (rks_lkp h3).2 (Option.isNone_iff_eq_none.mp hl), ?_⟩
    refine h s1 e3 _ fun F2 ι2 H2 vs s2 p2 rs => ?_
    have rs2 : RDs G F2 ι2 (o :: (ds ++ dds)) (.ref b :: (vs ++ dvs)) := rds_cons.mpr ⟨_, _, rfl, ro.mono p2.exF p2.pre, rs.app (hd F2 ι2)⟩
    have pp := p1.trans p2
    refine ⟨by rw [← rs2.len]; exact hn _ _ _ e, F2, ι2, S2, _, out, s2.rep, rs2, e, ?_⟩
    rcases out with ⟨w, S3⟩ | ⟨e0, S3⟩
    · exact fun F' ι' H' v r' p' rv => k F' ι' H' v (s2.after r' p').1 (pp.trans p') (rv.back pp.back)
    · exact fun F' ι' H' cls d r' p' rx => k F' ι' H' cls d r' (pp.trans p') rx
  · cases e
end
end Yi
/-! What is asked of a caught exception. -/
namespace Yi
open PySem L2
/-- what isinstance asks of an own exception's class -/
structure XkC (K : PySem.W.Frag) (C : Addr) : Prop where
  cl : (PySem.W.clsIn K C).isSome = true
  ga : PySem.W.findIn K (.ref C) "__getattribute__" = some (some (.builtin "BaseException.__getattribute__"))
  gg : PySem.W.findIn K (.ref C) "__getattr__" = some none
  ex : PySem.W.subIn K (.ref C) (.type "BaseException") = some true
  kl : PySem.W.findIn K (.ref C) "__class__" = some (some (.builtin "object.__class__"))
  gt : PySem.W.specialIn K (.builtin "object.__class__") "__get__" = some (some (.builtin "getset_descriptor.__get__"))
  tk : PySem.W.takesIn K (.builtin "object.__class__") = some true
  mo : PySem.W.mroIn K C (.type "object") = some true
def xkB (K : PySem.W.Frag) (C : Addr) : Bool :=
  (PySem.W.clsIn K C).isSome && (decide (PySem.W.findIn K (.ref C) "__getattribute__" = some (some (.builtin "BaseException.__getattribute__"))) && (decide (PySem.W.findIn K (.ref C) "__getattr__" = some none) &&
  (decide (PySem.W.subIn K (.ref C) (.type "BaseException") = some true) && (decide (PySem.W.findIn K (.ref C) "__class__" = some (some (.builtin "object.__class__"))) &&
  (decide (PySem.W.specialIn K (.builtin "object.__class__") "__get__" = some (some (.builtin "getset_descriptor.__get__"))) && (decide (PySem.W.takesIn K (.builtin "object.__class__") = some true) && decide (PySem.W.mroIn K C (.type "object") = some true)))))))
theorem xkB_ok {K : PySem.W.Frag} {C : Addr} (h : xkB K C = true) : XkC K C := by
  unfold xkB at h
  simp only [Bool.and_eq_true, decide_eq_true_eq] at h
  obtain ⟨h1, h2, h3, h4, h5, h6, h7, h8⟩ := h
  exact ⟨h1, h2, h3, h4, h5, h6, h7, h8⟩
section
variable {X : Cx} {a C : Addr} {oe : Obj} {d : Option Addr} {pn : List (Addr × Obj)}
/-- isinstance(e, c): e the caught exception -/
def rIsx (K : PySem.W.Frag) (a C : Addr) (d : Option Addr) : List V → Hp → VK → Prop := fun xs H Q => ∃ (c : V) (t : Value) (b : Bool), xs = [.ref a, c] ∧ (∀ u, RelV c u → u = t) ∧ (d = none ∨ ∃ dd fs, d = some dd ∧ H dd = some (.xd fs)) ∧ PySem.W.kitOne K (.ref C) t = some b ∧ Q (.bl b) H
theorem call_isx (T : XkC X.K C) (hz : Zc (.ref C) d oe) (hf : ∃ vs, oe.data = .fields vs) : CallR (X.suite a ((a, oe) :: pn)) (.builtin "isinstance") (rIsx X.K a C d) := by
  rintro pins s σ H xs us Q I r ⟨c, t, b, rfl, hc, hd, e, q⟩
  obtain ⟨u1, u2, rfl, r1, r2⟩ := vals2 r
  cases (show u1 = Value.ref a from r1)
  cases hc u2 r2
  obtain ⟨ha, _⟩ := I.pin (a, oe) (List.mem_append_left _ List.mem_cons_self)
  obtain ⟨vs, hv⟩ := hf
  have no : PySem.W.notCls oe = true := by
    unfold PySem.W.notCls
    rw [hv]
  obtain ⟨od, J⟩ : ∃ od, PySem.W.InstAt s.heap a oe C od := by
    rcases hd with hn | ⟨dd, fs, hn, hx⟩
    · exact ⟨none, ha, hz.1, no, by rw [hz.2, hn]; trivial⟩
    · have ok : ObjOk X.prog X.w H s.heap dd (.xd fs) := I.hok dd _ hx
      obtain ⟨mA, hns, _⟩ := ok
      obtain ⟨od, ho, _⟩ := lookIn_ns hns
      exact ⟨some od, ha, hz.1, no, by rw [hz.2, hn]; exact ho⟩
  exact PySem.W.kia_one (PySem.W.kitx_exc T.cl T.ga T.gg T.ex T.kl T.gt T.tk T.mo) I.kIn J e (fun z => by cases z) fun tk => ⟨.bl b, H, I.tok tk, rfl, q⟩
end
end Yi
/-! xs.count(x) of flat values. -/
namespace Yi
open PySem L2
section
variable {X : Cx}
def rCnt (K : PySem.W.Frag) : V → List V → Hp → VK → Prop := fun x xs H Q => ∃ (a : Addr) (ys : List V) (y : V), x = V.ref a ∧ xs = [y] ∧ SqL K H a ys ∧ flatV y = true ∧ ys.all flatV = true ∧ Q (.int ((ys.filter fun z => eqV z y).length : Nat)) H
theorem cnt_eq {y : V} : ∀ {ys : List V} {us : List Value}, Vals ys us → ys.all flatV = true → us.countP (eqU y) = (ys.filter fun z => eqV z y).length
  | [], _, r, _ => by cases r; rfl
  | z :: zs, _, r, f => by
    cases r with
    | cons r1 r2 =>
      rw [List.all_cons, Bool.and_eq_true] at f
      rw [List.countP_cons, cnt_eq r2 f.2, eqU_of r1 f.1, List.filter_cons]
      cases eqV z y <;> simp
theorem mt_cnt : MtR X "list.count" (rCnt X.K) := by
  rintro pins s σ H x xs v us Q I r1 r2 ⟨a, ys, y, rfl, rfl, hs, fy, fys, q⟩
  cases r1
  obtain ⟨uy, rfl, ry⟩ := vals1 r2
  obtain ⟨its, rv, ⟨⟨cls, dd, data, sl⟩, n, ho, hc, _, hd⟩, _⟩ := I.list hs
  dsimp only at hc hd
  subst hc hd
  have ce := cnt_eq (y := y) rv fys
  refine call_meets PySem.F.slot_list_count ⟨_, ho, rfl⟩ PySem.F.entry_list_count (PySem.F.args_list_count_2 _ _) (SeqAt.list_countAt a its.toArray n dd sl uy (eqU y)) ⟨ho, fun u hu => mem_eqAt ry fy rv fys u (by simpa using hu), ?_⟩
  rw [show its.toArray.toList = its from rfl, ce]
  exact ⟨.int ((ys.filter fun z => eqV z y).length : Nat), H, I.tok _, ⟨_, rfl⟩, q⟩
theorem mt_cntK (K : PySem.W.Frag) (h : X.K = K := by rfl) : MtR X "list.count" (rCnt K) := h ▸ mt_cnt
end
end Yi
set_option maxHeartbeats 2000000
/-! A lambda's body entered, the captured cells told one by one. -/
namespace Yi
open PySem PySem.Spec PyProof.Rows L2
abbrev cloEnv (qual : Str) (sc : Scope) (L f c' : Addr) (cl : List (Str × Addr)) : Env := PySem.W.envX qual sc L f (.ref c') cl
/-- the context of a closure's body, entered at s -/
def cloCx (P : Program) (w : World) (K : PySem.W.Frag) (mg : Str → Option Value) (base : Heap) (N : List Str) (qual : Str) (sc : Scope) (f c' : Addr) (cl : List (Str × Addr)) (A : Around) (outer : List Env) (s : Shared) (H : Hp) (E : XK) : Cx where
  prog := P
  w := w
  K := K
  mg := mg
  base := base
  N := N
  A := A.deeper (cloEnv qual sc s.heap.objs.size f c' cl)
  env := cloEnv qual sc s.heap.objs.size f c' cl
  outer := outer
  stack := cloEnv qual sc s.heap.objs.size f c' cl :: outer
  s_0 := s
  H_0 := H
  ex := []
  pn := []
  fn := fun _ => false
  calm := true
  xe := fun e s' => wpAny (model P w) (A.deeper (cloEnv qual sc s.heap.objs.size f c' cl)) (leaving (cloEnv qual sc s.heap.objs.size f c' cl) e) (fun _ s2 => L2.CX P w outer H s E e s2) (fun e' s2 => L2.CX P w outer H s E e' s2) s'
/-- what is captured: each free name has its cell, no two the same; the cells are in no H; those in slots hold the slots' values -/
structure Cap (sc : Scope) (N : List Str) (σ : L2.St) (cl : List (Str × Addr)) (H : Hp) (h : Heap) : Prop where
  has : ∀ y, sc.names.lookup y = some .free → ∃ c, cl.lookup y = some c
  inj : ∀ y z c, cl.lookup y = some c → cl.lookup z = some c → y = z
  cell : ∀ y c, cl.lookup y = some c → H c = none ∧ ∃ v, h.IsCell c v
  val : ∀ (i : Nat) (y : Str) (v : V), N[i]? = some y → σ[i]? = some (some v) → sc.names.lookup y = some .free → ∃ c u, cl.lookup y = some c ∧ RelV v u ∧ h.IsCell c (some u)
  len : σ.length = N.length
/-- what the text tells of a lambda: no cell of its own, its parameter is no name of the maker, what it captures is a cell of the maker -/
structure LamOk (l : LamD) : Prop where
  kind : l.sc.kind = .function
  co : l.sc.isCoroutine = false
  gen : l.sc.isGenerator = false
  noc : ∀ y ∈ l.sc.names, y.2 ≠ .cell
  loc : ∀ y ∈ l.sc.names, y.2 = .local → y.1 ∉ l.N
  free : ∀ y ∈ l.sc.names, y.2 = .free → l.ms.names.lookup y.1 = some .cell
def lamOkB (l : LamD) : Bool :=
  decide (l.sc.kind = .function) && (!l.sc.isCoroutine && (!l.sc.isGenerator && l.sc.names.all fun y => !decide (y.2 = .cell) && ((!decide (y.2 = .local) || !decide (y.1 ∈ l.N)) && (!decide (y.2 = .free) || decide (l.ms.names.lookup y.1 = some .cell)))))
theorem lamOk_by {l : LamD} (h : lamOkB l = true) : LamOk l := by
  unfold lamOkB at h
  simp only [Bool.and_eq_true, Bool.or_eq_true, Bool.not_eq_true', decide_eq_true_eq, decide_eq_false_iff_not, List.all_eq_true] at h
  obtain ⟨h1, h2, h3, h4⟩ := h
  exact ⟨h1, h2, h3, fun y hy => (h4 y hy).1, fun y hy e => (h4 y hy).2.1.resolve_left fun z => z e, fun y hy e => (h4 y hy).2.2.resolve_left fun z => z e⟩
/-- its call without arguments binds just its parameter -/
def LamBind (l : LamD) : Prop := ∀ (s : Shared) (cl : List (Str × Addr)) (dV doc pm cv ctv : Value), (l.df = none ∧ dV = .none ∨ ∃ (k : Int) (a : Addr) (o : Obj) (n : Nat) (tk : Tok), l.df = some k ∧ dV = .ref a ∧ s.heap.get? a = some o ∧ o.data = .seq #[.int k tk] n) →
  ∃ binds : List (Str × Value), (∀ y ∈ binds, l.sc.names.lookup y.1 = some .local) ∧ BindsTo s (PySem.W.kdv_fn "<lambda>" l.qual l.ps (.expr l.body) l.sc cl dV doc pm cv ctv) ⟨[], []⟩ binds
section
variable {P : Program} {w : World} {K : PySem.W.Frag} {mg : Str → Option Value} {base : Heap} {N : List Str} {qual : Str} {sc : Scope} {f c' : Addr} {cl : List (Str × Addr)} {A : Around} {outer : List Env} {s : Shared} {H : Hp} {E : XK} {σ : L2.St}
theorem isCell_keep {h h1 : Heap} {c : Addr} {v : Option Value} (k : ∀ b o, h.get? b = some o → h1.get? b = some o) (i : h.IsCell c v) : h1.IsCell c v := by
  obtain ⟨o, q, e⟩ := i
  exact ⟨o, k _ _ q, e⟩
theorem clo_start {h1 : Heap} {tk : Nat} {m0 : Str → Option Value} (e0 : Env0 P w K mg base A outer s H) (calm : A.handled = none) (kind : sc.kind = .function) (noc : ∀ y ∈ sc.names, y.2 ≠ .cell) (loc : ∀ y ∈ sc.names, y.2 = .local → y.1 ∉ N) (C : Cap sc N σ cl H s.heap)
    (ns : h1.Ns s.heap.objs.size m0) (k : ∀ b o, s.heap.get? b = some o → h1.get? b = some o) :
    Inv (cloCx P w K mg base N qual sc f c' cl A outer s H E) [] σ H { s with heap := h1, toks := tk } := by
  have no : ∀ {b : Addr}, b ∉ (cloCx P w K mg base N qual sc f c' cl A outer s H E).ex := fun {b} z => by cases z
  have fr : ∀ {y : Str}, sc.names.lookup y = some .cell → False := fun {y} z => noc _ (PySem.mem_of_lookup z) rfl
  constructor
  · refine ⟨e0.mod, kind, rfl, rfl, Nat.le_refl _, C.inj, fun y hy => ?_, fun y c z _ => ?_, fun _ => calm, Around.frames_deeper e0.frames, .inr ⟨rfl, rfl⟩, fun b z => absurd z no, e0.bs, e0.bsz, fun b _ _ => no, fun b z => absurd z no, e0.funs, e0.frf⟩
    · rcases hy with hy | hy
      · exact (fr hy).elim
      · exact C.has y hy
    · cases (show false = true from z)
  · rfl
  · exact e0.bare
  · exact Un.kept k
  · refine ⟨_, ns, fun i y v e1 e2 e3 => ?_⟩
    rcases (show Vis sc y from e3) with z | z | z
    · exact absurd (List.mem_of_getElem? (show N[i]? = some y from e1)) (loc _ (PySem.mem_of_lookup z) rfl)
    · exact (fr z).elim
    · obtain ⟨c, u, q1, q2, q3⟩ := C.val i y v e1 e2 z
      exact ⟨u, q2, .inr ⟨.inr z, c, q1, isCell_keep k q3⟩⟩
  · intro y c e
    obtain ⟨_, v, q⟩ := C.cell y c e
    exact ⟨v, isCell_keep k q⟩
  · exact e0.hok.fresh (Nat.le_refl _)
  · exact fun y c e => (C.cell y c e).1
  · exact fun q hq => by cases (show q ∈ ([] : List (Addr × Obj)) ++ [] from hq)
  · exact e0.hok.kept k
  · exact C.len
end
/-! ### a maker's cells -/
theorem cells_inj : ∀ (ns : List (Str × NameKind)) (n : Nat) (acc : List (Str × Addr)), (∀ q ∈ acc, q.2 < n) → (∀ y z c, (y, c) ∈ acc → (z, c) ∈ acc → y = z) → ∀ y z c, (y, c) ∈ cellsFrom n ns acc → (z, c) ∈ cellsFrom n ns acc → y = z
  | [], n, acc, h, k => fun y z c h1 h2 => k y z c h1 h2
  | (x, d) :: r, n, acc, h, k => by
    unfold cellsFrom
    split
    · refine cells_inj r (n + 1) _ (fun q hq => ?_) fun y z c h1 h2 => ?_
      · rcases List.mem_cons.mp hq with e | e
        · rw [e]; exact Nat.lt_succ_self n
        · exact Nat.lt_succ_of_lt (h q e)
      · rcases List.mem_cons.mp h1 with e1 | e1
        · rcases List.mem_cons.mp h2 with e2 | e2
          · exact (congrArg Prod.fst e1).trans (congrArg Prod.fst e2).symm
          · exact absurd (h _ e2) (by rw [show c = n from congrArg Prod.snd e1]; exact Nat.lt_irrefl _)
        · rcases List.mem_cons.mp h2 with e2 | e2
          · exact absurd (h _ e1) (by rw [show c = n from congrArg Prod.snd e2]; exact Nat.lt_irrefl _)
          · exact k y z c e1 e2
    · exact cells_inj r n acc h k
theorem cells_ge : ∀ (ns : List (Str × NameKind)) (n m : Nat) (acc : List (Str × Addr)), m ≤ n → (∀ q ∈ acc, m ≤ q.2) → ∀ q ∈ cellsFrom n ns acc, m ≤ q.2
  | [], n, m, acc, h, k, q, z => k q (by unfold cellsFrom at z; exact z)
  | (y, d) :: r, n, m, acc, h, k, q, z => by
    unfold cellsFrom at z
    split at z
    · exact cells_ge r (n + 1) m _ (Nat.le_succ_of_le h) (fun p hp => by
        rcases List.mem_cons.mp hp with e | e
        · rw [e]; exact h
        · exact k p e) q z
    · exact cells_ge r n m acc h k q z
abbrev lamCl (l : LamD) (t : Addr) : List (Str × Addr) := cloFrom (mkCells l t) l.sc.names []
theorem lamCl_up {l : LamD} {t : Addr} (L : LamOk l) {y : Str} {c : Addr} (e : (lamCl l t).lookup y = some c) : (mkCells l t).lookup y = some c := by
  rcases cloFrom_mem (PySem.mem_of_lookup e) with z | ⟨h1, h2⟩
  · cases z
  · obtain ⟨d, hd⟩ := cell_has (n := t + 1) (L.free _ h1 rfl)
    have hd : (mkCells l t).lookup y = some d := hd
    have : c = d := by rw [h2, hd] <;> rfl
    rw [hd, this]
theorem lamCl_has {l : LamD} {t : Addr} {y : Str} (e : l.sc.names.lookup y = some .free) : ∃ c, (lamCl l t).lookup y = some c :=
  mem_lookup (cloFrom_has (cells := mkCells l t) (acc := []) (PySem.mem_of_lookup e))
end Yi
/-! Objects pinned in the abstract heap, and let go. -/
namespace Yi
open PySem L2
theorem pinO_ok {P : Program} {w : World} {H : Hp} {h : Heap} {b : Addr} {o : Obj} : ObjOk P w H h b (pinO o b) ↔ h.get? b = some o :=
  ⟨fun x => x.1, fun e => ⟨e, ⟨o, e⟩, fun _ _ p st => st _ p⟩⟩
abbrev Pins := List (Addr × Obj)
def addP (L : Pins) (H : Hp) : Hp := fun b => match L.lookup b with
  | some o => some (pinO o b)
  | none => H b
def delP (L : Pins) (H : Hp) : Hp := fun b => match L.lookup b with
  | some _ => none
  | none => H b
def Pd (L : Pins) (H : Hp) : Prop := ∀ b o, L.lookup b = some o → H b = some (pinO o b)
section
variable {P : Program} {w : World} {L : Pins} {H H1 : Hp} {h h1 : Heap} {fs : List Addr} {b : Addr} {o : Obj}
theorem addP_at (q : L.lookup b = some o) : addP L H b = some (pinO o b) := by unfold addP; rw [q]
theorem addP_no (q : L.lookup b = none) : addP L H b = H b := by unfold addP; rw [q]
theorem delP_at (q : L.lookup b = some o) : delP L H b = none := by unfold delP; rw [q]
theorem delP_no (q : L.lookup b = none) : delP L H b = H b := by unfold delP; rw [q]
theorem pd_add : Pd L (addP L H) := fun b o q => addP_at q
theorem pd_no (p : Pd L H) (n : ∀ o, H b ≠ some (pinO o b)) : L.lookup b = none := by
  cases q : L.lookup b with
  | none => rfl
  | some o => exact absurd (p b o q) (n o)
theorem pd_none (p : Pd L H) (n : H b = none) : L.lookup b = none := pd_no p fun o z => by rw [n] at z; cases z
theorem pin_at (p : Pd L H) (k : HOk P w H h) (q : L.lookup b = some o) : h.get? b = some o := pinO_ok.mp (k b _ (p b o q))
theorem ne_pin {u : HO} (e : H b = some u) (n : ∀ φ, u ≠ .ext φ) (o : Obj) : H b ≠ some (pinO o b) := fun z => n _ (Option.some.inj (e.symm.trans z))
theorem hok_del (k : HOk P w H h) (p : Pd L H) : HOk P w (delP L H) h := fun a u e => by
  cases q : L.lookup a with
  | some o => rw [delP_at q] at e; cases e
  | none =>
    rw [delP_no q] at e
    refine (k a u e).stay (fun b u _ z => z) (fun d z => ?_) fun d xs z => ?_
    · rw [delP_no (pd_no p (ne_pin z fun φ y => by cases y))]; exact z
    · rw [delP_no (pd_no p (ne_pin z fun φ y => by cases y))]; exact z
theorem hok_add (k : HOk P w H h) (p : ∀ b o, L.lookup b = some o → h.get? b = some o ∧ H b = none) : HOk P w (addP L H) h := fun a u e => by
  cases q : L.lookup a with
  | some o =>
    rw [addP_at q] at e
    cases e
    exact pinO_ok.mpr (p a o q).1
  | none =>
    rw [addP_no q] at e
    have no : ∀ {d : Addr} {x : HO}, H d = some x → addP L H d = some x := fun {d x} z => by
      cases y : L.lookup d with
      | some o => rw [(p d o y).2] at z; cases z
      | none => rw [addP_no y]; exact z
    exact (k a u e).stay (fun b u _ z => z) (fun d z => no z) fun d xs z => no z
/-- a body was run without the pinned: they are pinned again -/
theorem un_add (u : Un fs [] (delP L H) H1 h h1) (p : Pd L H) : Un fs [] H (addP L H1) h h1 where
  keep b o q n hb hx := u.keep b o q (by rw [delP_no (pd_none p n)]; exact n) hb hx
  slot b o q n hb hx := u.slot b o q (by rw [delP_no (pd_none p n)]; exact n) hb hx
  free b o q n hx := by rw [addP_no (pd_none p n)]; exact u.free b o q (by rw [delP_no (pd_none p n)]; exact n) hx
  there := u.there
  tups b xs e := by
    have n := pd_no p (ne_pin e fun φ y => by cases y)
    rw [addP_no n]
    exact u.tups b xs (by rw [delP_no n]; exact e)
  frzs b o x e := by
    have n := pd_no p (ne_pin e fun φ y => by cases y)
    rw [addP_no n]
    exact u.frzs b o x (by rw [delP_no n]; exact e)
  tbls b ps e := by
    have n := pd_no p (ne_pin e fun φ y => by cases y)
    rw [addP_no n]
    exact u.tbls b ps (by rw [delP_no n]; exact e)
/-- the pinned as they were, behind such a body -/
theorem un_pins (u : Un fs [] (delP L H) H1 h h1) (p : Pd L H) (k : HOk P w H h) (out : ∀ b o, L.lookup b = some o → b ∉ fs) : ∀ b o, L.lookup b = some o → h1.get? b = some o ∧ H1 b = none := fun b o q =>
  have e := pin_at p k q
  ⟨u.keep b o e (delP_at q) (out b o q) (by simp), u.free b o e (delP_at q) (by simp)⟩
/-- a call was made with more pinned: they are let go -/
theorem un_drop (u : Un fs [] (addP L H) H1 h h1) (k0 : HOk P w (addP L H) h) (k : HOk P w H1 h1) (p : Pd L H1) (n0 : ∀ b o, L.lookup b = some o → H b = none) : Un fs [] H (delP L H1) h h1 := by
  have same : ∀ {b : Addr} {o o' : Obj}, L.lookup b = some o' → h.get? b = some o → h1.get? b = some o := fun {b o o'} q e => by
    have e0 := pin_at pd_add k0 q
    rw [e] at e0
    cases e0
    exact pin_at p k q
  have lk : ∀ {b : Addr} {x : HO}, H b = some x → L.lookup b = none := fun {b x} e => by
    cases q : L.lookup b with
    | none => rfl
    | some o => rw [n0 b o q] at e; cases e
  refine ⟨fun b o q n hb hx => ?_, fun b o q n hb hx => ?_, fun b o q n hx => ?_, u.there, fun b xs e => ?_, fun b o x e => ?_, fun b ps e => ?_⟩
  · cases y : L.lookup b with
    | some o' => exact same y q
    | none => exact u.keep b o q (by rw [addP_no y]; exact n) hb hx
  · cases y : L.lookup b with
    | some o' => exact ⟨o.slots, same y q⟩
    | none => exact u.slot b o q (by rw [addP_no y]; exact n) hb hx
  · cases y : L.lookup b with
    | some o' => exact delP_at y
    | none => rw [delP_no y]; exact u.free b o q (by rw [addP_no y]; exact n) hx
  · rw [delP_no (pd_no p (ne_pin (u.tups b xs (by rw [addP_no (lk e)]; exact e)) fun φ y => by cases y))]
    exact u.tups b xs (by rw [addP_no (lk e)]; exact e)
  · rw [delP_no (pd_no p (ne_pin (u.frzs b o x (by rw [addP_no (lk e)]; exact e)) fun φ y => by cases y))]
    exact u.frzs b o x (by rw [addP_no (lk e)]; exact e)
  · obtain ⟨m, z⟩ := u.tbls b ps (by rw [addP_no (lk e)]; exact e)
    rw [delP_no (pd_no p (ne_pin z fun φ y => by cases y))]
    exact ⟨m, z⟩
end
end Yi
set_option maxHeartbeats 2000000
/-! A closure called, its cells pinned. -/
namespace Yi
open PySem PySem.Spec PyProof.Rows L2
/-- none of these is told by H -/
abbrev NoP (L : Pins) (H : Hp) : Prop := ∀ b o, L.lookup b = some o → H b = none
/-- the pinned are a maker's cells, with the values of its slots -/
structure CelL (ms : Scope) (N : List Str) (t : Addr) (σ : L2.St) (L : Pins) : Prop where
  cell : ∀ y c, (cellsFrom (t + 1) ms.names []).lookup y = some c → ∃ o v, L.lookup c = some o ∧ o.data = .cell v
  val : ∀ (i : Nat) (y : Str) (v : V), N[i]? = some y → σ[i]? = some (some v) → ms.names.lookup y = some .cell → ∃ c o u, (cellsFrom (t + 1) ms.names []).lookup y = some c ∧ L.lookup c = some o ∧ o.data = .cell (some u) ∧ RelV v u
  len : σ.length = N.length
section
variable {P : Program} {w : World} {K : PySem.W.Frag} {mg : Str → Option Value} {base : Heap} {L : Pins} {H : Hp} {A : Around} {stk : List Env} {s s' : Shared} {E : XK} {e : Value}
theorem env_del (e0 : Env0 P w K mg base A stk s H) (p : Pd L H) : Env0 P w K mg base A stk s (delP L H) := by
  have no : ∀ {b : Addr}, H b = none → delP L H b = none := fun {b} n => by rw [delP_no (pd_none p n)]; exact n
  exact ⟨e0.frames, e0.mod, fun b o q => ⟨(e0.bs b o q).1, no (e0.bs b o q).2⟩, e0.bsz, e0.funs, fun b q => no (e0.frf b q), hok_del e0.hok p, e0.bare⟩
theorem pd_out (e0 : Env0 P w K mg base A stk s H) (p : Pd L H) : ∀ b o, L.lookup b = some o → b ∉ frs stk := fun b o q z => by
  have := e0.frf b z
  rw [p b o q] at this
  cases this
/-- an exception let out of such a body -/
theorem cx_add (e0 : Env0 P w K mg base A stk s H) (p : Pd L H) (c : L2.CX P w stk (delP L H) s (fun cls d H1 => NoP L H1 → E cls d (addP L H1)) e s') : L2.CX P w stk H s E e s' := by
  obtain ⟨a, B, H', cls, d, rfl, fly, hok, u, na, os, ag, x⟩ := c
  have out := pd_out e0 p
  have at_ : ∀ b o, L.lookup b = some o → B.get? b = some o ∧ H' b = none := fun b o q =>
    have y := pin_at p e0.hok q
    ⟨u.keep b o y (delP_at q) (out b o q), u.free b o y (delP_at q)⟩
  have no : ∀ {b : Addr}, H b = none → L.lookup b = none ∧ delP L H b = none := fun {b} n => ⟨pd_none p n, by rw [delP_no (pd_none p n)]; exact n⟩
  refine ⟨a, B, addP L H', cls, d, rfl, fly, hok_add hok at_, ⟨fun b o q n hb => u.keep b o q (no n).2 hb, u.slot, fun b o q n => ?_, u.there, fun b xs z => ?_, fun b o y z => ?_, fun b ps z => ?_⟩, ?_, os, ag, x fun b o q => (at_ b o q).2⟩
  · rw [addP_no (no n).1]
    exact u.free b o q (no n).2
  · have n := pd_no p (ne_pin z fun φ y => by cases y)
    rw [addP_no n]
    exact u.tups b xs (by rw [delP_no n]; exact z)
  · have n := pd_no p (ne_pin z fun φ y => by cases y)
    rw [addP_no n]
    exact u.frzs b o y (by rw [delP_no n]; exact z)
  · have n := pd_no p (ne_pin z fun φ y => by cases y)
    rw [addP_no n]
    exact u.tbls b ps (by rw [delP_no n]; exact z)
  · cases q : L.lookup a with
    | none => rw [addP_no q]; exact na
    | some o =>
      exfalso
      have y := (at_ a o q).1
      rw [fly.2.1] at y
      cases y
theorem CelL.cap {l : LamD} {t : Addr} {σ : L2.St} (C : CelL l.ms l.N t σ L) (O : LamOk l) (p : Pd L H) (k : HOk P w H s.heap) : Cap l.sc l.N σ (lamCl l t) (delP L H) s.heap := by
  refine ⟨fun y e => lamCl_has e, fun y z c e1 e2 => ?_, fun y c q => ?_, fun i y v h1 h2 h3 => ?_, C.len⟩
  · exact cells_inj _ _ _ (fun q hq => by cases hq) (fun y z c h => by cases h) y z c (PySem.mem_of_lookup (lamCl_up O e1)) (PySem.mem_of_lookup (lamCl_up O e2))
  · obtain ⟨o, v, h1, h2⟩ := C.cell y c (lamCl_up O q)
    exact ⟨delP_at h1, v, o, pin_at p k h1, h2⟩
  · obtain ⟨c, o, u, g1, g2, g3, g4⟩ := C.val i y v h1 h2 (O.free _ (PySem.mem_of_lookup h3) rfl)
    obtain ⟨c', hc'⟩ := lamCl_has (l := l) (t := t) h3
    have := lamCl_up O hc'
    rw [g1] at this
    cases this
    exact ⟨_, u, hc', g4, o, pin_at p k g2, g3⟩
abbrev lcx (P : Program) (w : World) (K : PySem.W.Frag) (mg : Str → Option Value) (base : Heap) (l : LamD) (t f c' : Addr) (A : Around) (outer : List Env) (s : Shared) (H : Hp) (E : XK) : Cx := cloCx P w K mg base l.N l.qual l.sc f c' (lamCl l t) A outer s H E
/-- the reading of its body -/
def CloB (P : Program) (w : World) (K : PySem.W.Frag) (mg : Str → Option Value) (base : Heap) (k : Nat) (l : LamD) (tb : XK → TE) : Prop :=
  ∀ (t f c' : Addr) (A : Around) (outer : List Env) (s : Shared) (H : Hp) (E : XK), Room k (A.deeper (cloEnv l.qual l.sc s.heap.objs.size f c' (lamCl l t))) → PE (lcx P w K mg base l t f c' A outer s H E) l.body (tb E)
/-- what is asked of H for its call -/
def CloR (L : Pins) (l : LamD) (t : Addr) (σ : L2.St) (v : V) (tb : XK → TE) (E : XK) (H : Hp) (Q : VK) : Prop :=
  CloV H l t v ∧ Pd L H ∧ tb (fun cls d H1 => NoP L H1 → E cls d (addP L H1)) σ (delP L H) fun v H1 => NoP L H1 → Q v (addP L H1)
theorem dfv_bind {l : LamD} {dV : Value} (k : HOk P w H s.heap) (d : DfV H l.df dV) : l.df = none ∧ dV = .none ∨ ∃ (k : Int) (a : Addr) (o : Obj) (n : Nat) (tk : Tok), l.df = some k ∧ dV = .ref a ∧ s.heap.get? a = some o ∧ o.data = .seq #[.int k tk] n := by
  cases e : l.df with
  | none =>
    rw [e] at d
    exact .inl ⟨rfl, d⟩
  | some i =>
    rw [e] at d
    obtain ⟨a, rfl, ha⟩ := d
    obtain ⟨_, us, r, o, ho, _, n, hd⟩ := (show _ ∧ ∃ us, Vals [V.int i] us ∧ IsTup s.heap a us.toArray from k a _ ha)
    obtain ⟨u, rfl, ru⟩ := vals1 r
    obtain ⟨tk, rfl⟩ := ru
    exact .inr ⟨i, a, o, n, tk, rfl, rfl, ho, hd⟩
/-- a(), a in slot i: the closure v -/
theorem pe_clo {Z : Cx} {l : LamD} {t : Addr} {σ : L2.St} {v : V} {k i : Nat} {a : Str} {W : WX} {tb : XK → TE} {p1 p2 : Pos} (O : LamOk l) (B : LamBind l) (C : CelL l.ms l.N t σ L)
    (tk : Takes Z W) (hW : ∀ cls d σ' H', E cls d H' → W cls d σ' H') (hr : Room (k + 1) Z.A)
    (hbody : CloB Z.prog Z.w Z.K Z.mg Z.base k l tb)
    (hN : Z.N[i]? = some a) (hv : Vis Z.env.scope a) (nd : (a == ("__debug__" : Str)) = false := by decide) (nc : (a == ("__classdict__" : Str)) = false := by decide) :
    PE Z (.Call (.Name a p1) [] [] p2) (fun σZ HZ Q => σZ[i]? = some (some v) ∧ CloR L l t σ v tb E HZ Q) := by
  constructor
  rintro pinsZ sZ σZ HZ Q IZ ⟨hs, cv, hp, ht⟩
  have ld := (pe_var (pos := p1) (i := i) hN hv nd nc).run pinsZ sZ σZ HZ (fun v' H1 => v' = v ∧ H1 = HZ) IZ ⟨v, hs, rfl, rfl⟩
  refine wpAny_Call_Name_kw (thn ld ?_)
  rintro u s1 ⟨v', H1, J1, r1, ev, eH⟩
  subst ev
  subst eH
  have I1 : Inv _ pinsZ σZ H1 s1 := J1
  obtain ⟨f, c', dV, doc, pm, ctv, rfl, hf, hc, hdf⟩ := cv
  cases (show u = Value.ref f from r1)
  have e0 := I1.env0
  have atF : s1.heap.get? f = some (lamObj l t dV doc pm ctv c') := pinO_ok.mp (I1.hok f _ hf)
  obtain ⟨⟨oc, vs, tq, ho, hd, hx⟩, _⟩ := I1.hok c' _ hc
  have run : codeAny (model Z.prog Z.w) Z.A (.call (.ref f) ⟨[], []⟩) (CR (L2.CX Z.prog Z.w) Z.stack Z.prog Z.w H1 s1 Q E) s1 := by
    refine PySem.W.kla_callFunE hr.depth atF rfl O.co O.gen rfl ⟨c', oc, vs, tq, rfl, ho, hd, hx⟩ ?_
    obtain ⟨binds, hl, hb⟩ := B s1 (lamCl l t) dV doc pm (.ref c') ctv (dfv_bind I1.hok hdf)
    refine hb _ _ _ _ (wpAny_newFunctionEnv O.noc hl (fun h₁ hns hsb => ⟨I1.nolimit.fresh _ hsb, ?_⟩) O.kind)
    have kept : ∀ b o, s1.heap.get? b = some o → h₁.get? b = some o := fun b o e => by
      refine hsb.extBut b o ?_ (Heap.get?_push_of_some _ e)
      exact Nat.ne_of_lt (Heap.lt_size e)
    have inLam := clo_start (f := f) (c' := c') (qual := l.qual) (tk := s1.toks + binds.length) (E := fun cls d H1 => NoP L H1 → E cls d (addP L H1)) (env_del e0 hp) hr.hd O.kind O.noc O.loc (C.cap O hp I1.hok) hns kept
    refine PySem.W.kla_codeExpr ?_
    refine wpAny_mono ((hbody t f c' _ _ s1 _ _ (hr.deeper _)).run [] _ _ _ _ inLam ht) ?_ fun e s' hq => wpAny_mono hq (fun _ _ z => cx_add e0 hp z) fun _ _ z => cx_add e0 hp z
    rintro v s' ⟨w1, H4, J, rv, q⟩
    have pins := un_pins J.base hp I1.hok (pd_out e0 hp)
    exact ⟨w1, addP L H4, J.os, J.bare, un_add J.base hp, hok_add J.hok pins, rv, q fun b o z => (pins b o z).2⟩
  refine PySem.W.callWith_F0 ⟨_, _, _, _, atF⟩ (wpAny_call (codeAny_mono run ?_))
  rintro (e | fl) s' hq
  · exact passes_call tk hW pinsZ σZ H1 s1 e s' I1 hq
  · cases fl with
    | ret u => exact I1.after hq
    | next => exact hq.elim
    | brk => exact hq.elim
    | cont => exact hq.elim
end
end Yi
set_option maxHeartbeats 2000000
/-! A lambda is made: its object is pinned, the table of code objects has grown. -/
namespace Yi
open PySem PySem.Spec PyProof.Rows L2
/-- the code object at c' of the name q stood in the table at P, or is new there -/
def MkH (P : Addr) (q : Str) (H H1 : Hp) (c' : Addr) : Prop := ∃ ps : Array Value, H P = some (.tbl ps) ∧
  ((H1 = H ∧ ∃ pos, PySem.codeAmong pos ps.toList = some (.ref c')) ∨
    ∃ more : Array Value, H c' = none ∧ PySem.TriplesOk (ps ++ more).toList ∧ H1 = upd (upd H P (.tbl (ps ++ more))) c' (LamX.CodeO c' q) ∧ ∀ pos cv, PySem.codeAmong pos (ps ++ more).toList = some cv → PySem.codeAmong pos ps.toList = some cv ∨ cv = .ref c')
/-- what is laid for the default -/
def DfH (d : Option Int) (dV : Value) (H Hd : Hp) : Prop := (d = none ∧ dV = .none ∧ Hd = H) ∨ ∃ (k : Int) (a : Addr), d = some k ∧ dV = .ref a ∧ H a = none ∧ Hd = upd H a (.tup [.int k])
def tLamb (l : LamD) (t P : Addr) : TE := fun σ H Q => LamX.TabS H P l.qual ∧ ∀ (Hd H1 : Hp) (f c' : Addr) (dV doc pm ctv : Value), DfH l.df dV H Hd → MkH P l.qual Hd H1 c' → H1 f = none → Q (.ref f) (upd H1 f (pinO (lamObj l t dV doc pm ctv c') f))
section
variable {X : Cx} {pins : List (Addr × Obj)} {σ : L2.St} {H : Hp} {s : Shared} {l : LamD} {t c P : Addr} {pos : Pos}
theorem lam_tail {E : Value → Shared → Prop} {Q : VK} {dV : Value} {n : Nat} (I : Inv X pins σ H s) (TB : LamX.TabB X.base X.mg c P) (hcode : X.env.code = .ref c) (hq : X.env.qual ++ "<lambda>" = l.qual) (hc : X.env.cells = mkCells l t) (L : LamOk l)
    (hT : LamX.TabS H P l.qual) (h : ∀ (H1 : Hp) (f c' : Addr) (doc pm ctv : Value), MkH P l.qual H H1 c' → H1 f = none → Q (.ref f) (upd H1 f (pinO (lamObj l t dV doc pm ctv c') f))) :
    wpAny (model X.prog X.w) X.A (makeTail "<lambda>" l.qual l.ps (.expr l.body) l.sc X.env dV .none none pos n) (EP X pins σ Q) E s := by
  obtain ⟨ps, hP, ht, ha⟩ := hT
  have bP : s.heap.BuiltinsAt X.mg P := TB.bm.keeps I.bk
  have hP' : s.heap.get? P = some { cls := .none, data := .fields ps } := I.hok P _ hP
  have hfree : ∀ y ∈ l.sc.names, y.2 = .free → ∃ c, X.env.cells.lookup y.1 = some c := fun y hy e => by
    obtain ⟨d, hd⟩ := cell_has (n := t + 1) (L.free _ hy e)
    exact ⟨d, by rw [hc]; exact hd⟩
  have cl : closureFor l.sc X.env = pure (lamCl l t) := by
    rw [closure_ok hfree, hc]
  cases hca : codeAmong pos ps.toList with
  | none =>
    refine PySem.W.kdv_makeTail (mg := X.mg) (c := c) (P := P) (ps := ps) cl I.ok.glob (I.mod.glob.keeps I.bk) hcode (TB.code.keeps I.bk) hP' ht hca TB.gP bP fun c' ctv doc h' tk hx hge hlt hrec htb => ?_
    obtain ⟨c2, oc, vs, tq, e2, hoc, hd, hv⟩ := hrec
    cases e2
    have nC : H c' = none := I.hok.fresh hge
    have I1 := LamX.inv_table (t' := tk) (q := l.qual) (more := #[rawInt pos.line, rawInt pos.col, .ref c']) (h' := h') I hP (fun b o hb e => hx b o hb e) htb hge ⟨oc, vs, tq, hoc, hd, hv⟩
    have eL : (ps ++ #[rawInt pos.line, rawInt pos.col, .ref c']).toList = ps.toList ++ [rawInt pos.line, rawInt pos.col, .ref c'] := by simp
    refine ⟨.ref h'.objs.size, _, I1.laid (o := pinO (lamObj l t dV doc ((X.mg "__name__").getD .none) ctv c') h'.objs.size) (t' := tk) (fun b o e => Heap.get?_push_of_some _ e) (Nat.le_refl _) (pinO_ok.mpr (Heap.get?_push_size _ rfl)), rfl, ?_⟩
    refine h _ h'.objs.size c' doc _ ctv ⟨ps, hP, .inr ⟨_, nC, by rw [eL]; exact PySem.TriplesOk_snoc _ _ _ _ ht, rfl, fun p' cv hcv => ?_⟩⟩ (I1.hok.fresh (Nat.le_refl _))
    rw [eL] at hcv
    exact LamX.among_app _ ht hcv
  | some cv =>
    obtain ⟨c', e, hco⟩ := ha pos cv hca
    subst e
    refine PySem.W.kdv_makeTailHit (mg := X.mg) (c := c) (P := P) (ps := ps) cl I.ok.glob (I.mod.glob.keeps I.bk) hcode (TB.code.keeps I.bk) hP' ht hca bP fun ctv doc h' tk hx hsz => ?_
    have I1 : Inv X pins σ H { s with heap := h', toks := tk } := I.kept hx
    refine ⟨.ref h'.objs.size, _, I1.laid (o := pinO (lamObj l t dV doc ((X.mg "__name__").getD .none) ctv c') h'.objs.size) (t' := tk) (fun b o e => Heap.get?_push_of_some _ e) (Nat.le_refl _) (pinO_ok.mpr (Heap.get?_push_size _ rfl)), rfl, ?_⟩
    exact h _ h'.objs.size c' doc _ ctv ⟨ps, hP, .inl ⟨rfl, pos, hca⟩⟩ (I1.hok.fresh (Nat.le_refl _))
/-- lambda: e -/
theorem pe_lam0 (TB : LamX.TabB X.base X.mg c P) (hcode : X.env.code = .ref c) (hq : X.env.qual ++ "<lambda>" = l.qual) (hc : X.env.cells = mkCells l t) (L : LamOk l) (hdf : l.df = none) (hdef : defaultsOf l.ps X.env = ([], [])) :
    PE X (.Lambda l.ps l.body l.sc pos) (tLamb l t P) := by
  refine ⟨fun pins s σ H Q I h => ?_⟩
  obtain ⟨hT, h⟩ := h
  refine PySem.W.kla_eval hdef ?_
  rw [hq, makeFunction_eq]
  simp only [List.zip_nil_right, List.filterMap_nil, List.isEmpty_nil, if_true, pure_bind]
  exact lam_tail I TB hcode hq hc L hT fun H1 f c' doc pm ctv m n => h H H1 f c' .none doc pm ctv (.inl ⟨hdf, rfl, rfl⟩) m n
/-- lambda x=k: e -/
theorem pe_lam1 {k : Int} {j : Nat} {p : Pos} (TB : LamX.TabB X.base X.mg c P) (hcode : X.env.code = .ref c) (hq : X.env.qual ++ "<lambda>" = l.qual) (hc : X.env.cells = mkCells l t) (L : LamOk l) (hdf : l.df = some k) (h1 : l.ps.defaults = [.Constant (.int k) j p]) (h2 : l.ps.kw_defaults = []) :
    PE X (.Lambda l.ps l.body l.sc pos) (tLamb l t P) := by
  refine ⟨fun pins s σ H Q I h => ?_⟩
  obtain ⟨hT, h⟩ := h
  refine PySem.W.kdv_lam (by rw [h1]; rfl) h2 ?_
  rw [h1]
  refine PySem.W.kdv_all1 (wpAny_Constant_int (PySem.W.kdv_all0 ?_))
  have I0 := I.tok (s.toks + 1)
  rw [hq, makeFunction_eq]
  simp only [List.zip_nil_right, List.filterMap_nil, List.isEmpty_nil, if_true, pure_bind, List.isEmpty_cons, Bool.false_eq_true, if_false]
  refine wpAny_bind (wpAny_newTextTuple ?_)
  have nA : H s.heap.objs.size = none := I.hok.fresh (Nat.le_refl _)
  have I1 : Inv X pins σ (upd H s.heap.objs.size (.tup [.int k])) _ := I.laid (t' := s.toks + 1) (h' := s.heap.push { cls := .type "tuple", data := .seq [Value.int k s.toks].toArray }) (fun b u e => Heap.get?_push_of_some _ e) (Nat.le_refl _)
    ⟨by rw [sizeLine_eq]; exact Nat.le_of_ble_eq_true rfl, [.int k s.toks], .cons ⟨_, rfl⟩ .nil, _, Heap.get?_push_size _ rfl, rfl, _, rfl⟩
  refine lam_tail I1 TB hcode hq hc L ?_ fun H1 f c' doc pm ctv m n => h _ H1 f c' _ doc pm ctv (.inr ⟨k, _, hdf, rfl, nA, rfl⟩) m n
  exact hT.ext fun b o e => by rw [upd_ne (ne_of_none e nA)]; exact e
end
section
variable {G : Gm} {F F' H H' : Hp} {ι ι' : List Addr} {S S' : Sto}
/-- a table grows -/
theorem Rep.table {P c' : Addr} {q : Str} {H1 : Hp} (r : Rep G F ι S H) (m : MkH P q H H1 c') (hp : (P, q) ∈ G.tb) (hu : ∀ p ∈ G.tb, p.1 = P → p.2 = q) : ∃ F1, Rep G F1 ι S H1 ∧ Stx F ι H F1 ι H1 ∧ F1 c' = some (LamX.CodeO c' q) := by
  obtain ⟨ps, hP, hh⟩ := m
  obtain ⟨FP, ps', hP', ht, ha⟩ := r.tb _ hp
  have FP : F P = none := FP
  have hP'' : H P = some (.tbl ps') := hP'
  rw [hP] at hP''
  cases hP''
  rcases hh with ⟨rfl, pos, hc⟩ | ⟨more, nC, ht2, rfl, hm⟩
  · obtain ⟨c0, e1, e2⟩ := ha pos _ hc
    cases e1
    exact ⟨F, r, .refl, e2⟩
  · have nPc : P ≠ c' := ne_of_none hP nC
    have nF : F c' = none := r.noF nC
    have nI : c' ∉ ι := r.noI nC
    have eF : Same F (upd F c' (LamX.CodeO c' q)) := same_upd nF
    have hold : ∀ {b : Addr} {o : HO}, H b = some o → NT o → upd (upd H P (.tbl (ps ++ more))) c' (LamX.CodeO c' q) b = some o := fun {b o} e nt => by
      rw [upd_ne (ne_of_none e nC), upd_ne fun z => nt ps (Option.some.inj (e.symm.trans (by rw [z]; exact hP)))]
      exact e
    have dom : ∀ {b : Addr}, H b ≠ none → upd (upd H P (.tbl (ps ++ more))) c' (LamX.CodeO c' q) b ≠ none := fun {b} e => by
      by_cases h1 : b = c'
      · rw [h1, upd_same]; exact fun z => by cases z
      · rw [upd_ne h1]
        by_cases h2 : b = P
        · rw [h2, upd_same]; exact fun z => by cases z
        · rw [upd_ne h2]; exact e
    refine ⟨upd F c' (LamX.CodeO c' q), ⟨fun b u e => ?_, fun n d h => ?_, r.len, r.nd, fun b hb => ?_, fun p hp' => ?_⟩, ⟨eF, List.prefix_refl _, fun b o h _ _ nt => hold h nt, fun b h => ?_, fun b h => .inl h, fun b h => .inl h, fun b h => dom h, fun b ob u h => hold h fun ps z => by cases z⟩, upd_same⟩
    · by_cases h1 : b = c'
      · rw [h1] at e ⊢
        rw [upd_same] at e ⊢
        exact e
      · rw [upd_ne h1] at e ⊢
        rw [upd_ne fun z => by rw [z, FP] at e; cases e]
        exact r.ex _ _ e
    · obtain ⟨b, u, h1, h2, h3⟩ := r.cell n d h
      exact ⟨b, u, h1, hold h2 h3.nt, h3.mono eF (List.prefix_refl _)⟩
    · rw [upd_ne fun z => nI (by rw [← z]; exact hb)]
      exact r.sep b hb
    · by_cases h1 : p.1 = P
      · rw [hu p hp' h1, h1]
        refine ⟨by rw [upd_ne nPc]; exact FP, ps ++ more, by rw [upd_ne nPc, upd_same], ht2, fun pos cv hcv => ?_⟩
        rcases hm pos cv hcv with z | z
        · obtain ⟨c0, e1, e2⟩ := ha pos cv z
          exact ⟨c0, e1, eF _ _ e2⟩
        · exact ⟨c', z, upd_same⟩
      · obtain ⟨g0, ps2, g1, g2, g3⟩ := r.tb p hp'
        refine ⟨by rw [upd_ne (ne_of_none g1 nC)]; exact g0, ps2, by rw [upd_ne (ne_of_none g1 nC), upd_ne h1]; exact g1, g2, fun pos cv hcv => ?_⟩
        obtain ⟨c0, e1, e2⟩ := g3 pos cv hcv
        exact ⟨c0, e1, eF _ _ e2⟩
    · by_cases h1 : b = c'
      · rw [h1]; exact .inr (.inl nC)
      · rw [upd_ne h1] at h
        exact .inl h
def eLam (n t : Nat) : EM := fun _ S => some (.d (.clo n t), S)
theorem snd_lam {n : Nat} {l : LamD} {t P : Addr} (hn : G.lm n = some l) (hp : (P, l.qual) ∈ G.tb) (hu : ∀ p ∈ G.tb, p.1 = P → p.2 = l.qual) : SndV G (tLamb l t P) (eLam n t) := by
  intro F ι S ρ σ H w S' s e Q k
  cases e
  obtain ⟨_, ps, hP, ht, ha⟩ := s.rep.tb _ hp
  refine ⟨⟨ps, hP, ht, fun pos cv hc => let ⟨c, e1, e2⟩ := ha pos cv hc; ⟨c, e1, s.rep.ex _ _ e2⟩⟩, fun Hd H1 f c' dV doc pm ctv hd hm hf => ?_⟩
  obtain ⟨Fd, rd, pd, dd⟩ : ∃ Fd, Rep G Fd ι S Hd ∧ Stx F ι H Fd ι Hd ∧ DfV Fd l.df dV := by
    rcases hd with ⟨h1, rfl, rfl⟩ | ⟨i, a, h1, rfl, na, rfl⟩
    · exact ⟨F, s.rep, .refl, by rw [h1]; exact rfl⟩
    · obtain ⟨r2, p2⟩ := s.rep.newF (o := .tup [.int i]) na
      exact ⟨_, r2, p2, by rw [h1]; exact ⟨a, rfl, upd_same⟩⟩
  obtain ⟨F1, r1, p1, hc⟩ := rd.table hm hp hu
  obtain ⟨r2, p2⟩ := r1.newF (o := pinO (lamObj l t dV doc pm ctv c') f) hf
  have pp := (pd.trans p1).trans p2
  refine k _ ι _ _ (s.after r2 pp).1 pp ?_
  simp only [RV, RD]
  exact ⟨l, hn, f, c', dV, doc, pm, ctv, rfl, upd_same, p2.exF _ _ hc, dd.ex (p1.trans p2).exF⟩
end
end Yi
set_option maxHeartbeats 1000000
/-! What is told of an exception; the works of a maker, one by one. -/
namespace Yi
open PySem PySem.Spec PyProof.Rows L2
def tdW (c : Nat) : Str := (["BadBell", "BadDevice", "BadHears", "BadMoment", "BadNotices", "BadPerson", "BadRules", "BadText", "IsOff", "NotRinging"] : List Str).getD c "other"
/-- what else is told of an exception of class c -/
def tdF (c : Nat) (d : Option Addr) (H : Hp) (vs : List V) : Prop :=
  if c = 6 then ∃ dd fs p q, d = some dd ∧ H dd = some (.xd fs) ∧ fs.lookup ("person" : Str) = some p ∧ fs.lookup ("part" : Str) = some q ∧ vs = [p, q]
  else if c = 7 then ∃ dd fs p, d = some dd ∧ H dd = some (.xd fs) ∧ fs.lookup ("row" : Str) = some p ∧ vs = [p]
  else if c = 2 ∨ c = 4 then ∃ dd fs p, d = some dd ∧ H dd = some (.xd fs) ∧ fs.lookup ("number" : Str) = some p ∧ vs = [p]
  else vs = [.int 0]
/-- an exception of the ten, told -/
def XTold (xc : Nat → Addr) (Q : VK) : XK := fun cls d H => ∃ (c : Nat) (vs : List V), cls = .ref (xc c) ∧ c < 10 ∧ (d = none ∨ ∃ dd fs, d = some dd ∧ H dd = some (.xd fs)) ∧ tdF c d H vs ∧ ∀ p H1, H p = none → Evl.Ex H H1 → H1 p = some (.tup (.str (tdW c) :: vs)) → Q (.ref p) H1
def spTold (P : Program) (w : World) (K : PySem.W.Frag) (mg : Str → Option Value) (base : Heap) (k : Nat) (xc : Nat → Addr) : Sp := fun vs H Q _ =>
  ∃ (v : V) (l : LamD) (t : Addr) (L : Pins) (σ : L2.St) (tb : XK → TE), vs = [v] ∧ LamOk l ∧ LamBind l ∧ CelL l.ms l.N t σ L ∧ CloB P w K mg base k l tb ∧ CloR L l t σ v tb (XTold xc Q) H Q
/-- a promise, its wish made weaker -/
def upSp (sp : Sp) : Sp := fun vs H Q E => ∃ Q0 : VK, (∀ v H', Q0 v H' → Q v H') ∧ sp vs H Q0 E
/-- one by one: told, alike -/
def AR (spT spA : Sp) (W0 D : Addr) (ws : List V) (vd : V) (Q : Hp → Prop) : List V → Hp → Prop
  | [], H => Q H
  | f :: r, H => spT [f] H (fun v H1 => spA [v, vd] H1 (fun u H2 => u = .bl true ∧ H2 D = some (.lst []) ∧ H2 W0 = some (.lst ws) ∧ AR spT spA W0 D ws vd Q r H2) E0) E0
def spAll (spT spA : Sp) : Sp := fun vs H Q _ => ∃ (W0 : Addr) (vd : V) (ws : List V), vs = [.ref W0, vd] ∧ H W0 = some (.lst ws) ∧ ∀ D, H D = none → AR spT spA W0 D ws vd (fun H' => ∀ p, H' p = none → Q (.bl true) (upd H' p (.lst []))) ws (upd H D (.lst []))
section
variable {P : Program} {w : World} {K : PySem.W.Frag} {mg : Str → Option Value} {base : Heap}
theorem fn_up {k : Nat} {f : Addr} {fd : FuncData} {ps : List Str} {sp : Sp} (F : FnOk P w K mg base CX0 k f fd ps sp) : FnOk P w K mg base CX0 k f fd ps (upSp sp) := by
  refine ⟨fun vs H Q E ⟨Q0, _, h⟩ => F.len vs H Q0 E h, fun A outer s H args us vs Q E hr e0 hb r h => ?_⟩
  obtain ⟨Q0, m, h⟩ := h
  refine codeAny_mono (F.run A outer s H args us vs Q0 E hr e0 hb r h) fun r s' hq => ?_
  cases r with
  | error e => exact hq
  | ok fl =>
    cases fl with
    | ret u =>
      obtain ⟨v, H', h1, h2, h3, h4, h5, h6⟩ := hq
      exact ⟨v, H', h1, h2, h3, h4, h5, m v H' h6⟩
    | next => exact hq
    | brk => exact hq
    | cont => exact hq
end
/-! ### the maker calls with its cells pinned -/
/-- cells as they stand -/
def cellsOf (h : Heap) (cl : List (Str × Addr)) : Pins := (cl.filter fun q => cl.lookup q.1 == some q.2).filterMap fun q => (h.get? q.2).map fun o => (q.2, o)
theorem pinsOf_look {h : Heap} {c : Addr} {o : Obj} (e : h.get? c = some o) : ∀ {cl : List (Str × Addr)} {y : Str}, (y, c) ∈ cl → (cl.filterMap fun q => (h.get? q.2).map fun o => (q.2, o)).lookup c = some o
  | [], y, q => by cases q
  | (z, d) :: r, y, q => by
    rw [List.filterMap_cons]
    by_cases hd : d = c
    · subst hd
      rw [show ((h.get? (z, d).2).map fun o => ((z, d).2, o)) = some (d, o) from by rw [e]; rfl]
      simp
    · have q2 : (y, c) ∈ r := by
        rcases List.mem_cons.mp q with g | g
        · exact absurd (congrArg Prod.snd g).symm hd
        · exact g
      have ih := pinsOf_look e q2
      cases g : h.get? d with
      | none => exact ih
      | some x =>
        have : (c == d) = false := beq_eq_false_iff_ne.mpr fun w => hd w.symm
        show List.lookup c ((d, x) :: _) = _
        rw [List.lookup_cons, this]
        exact ih
theorem pinsOf_in {h : Heap} {c : Addr} {o : Obj} : ∀ {cl : List (Str × Addr)}, (cl.filterMap fun q => (h.get? q.2).map fun o => (q.2, o)).lookup c = some o → h.get? c = some o ∧ ∃ y, (y, c) ∈ cl
  | [], q => by cases q
  | (z, d) :: r, q => by
    have tl : (r.filterMap fun q => (h.get? q.2).map fun o => (q.2, o)).lookup c = some o → h.get? c = some o ∧ ∃ y, (y, c) ∈ (z, d) :: r := fun q => (pinsOf_in q).imp id fun ⟨y, m⟩ => ⟨y, List.mem_cons_of_mem _ m⟩
    rw [List.filterMap_cons] at q
    cases g : h.get? d with
    | none =>
      rw [g] at q
      exact tl q
    | some x =>
      rw [g] at q
      have q : List.lookup c ((d, x) :: (r.filterMap fun q => (h.get? q.2).map fun o => (q.2, o))) = some o := q
      rw [List.lookup_cons] at q
      split at q
      · rename_i hc
        have hc : c = d := by simpa using hc
        cases q
        rw [hc]
        exact ⟨g, z, by simp⟩
      · exact tl q
theorem cellsOf_look {h : Heap} {c : Addr} {o : Obj} {cl : List (Str × Addr)} {y : Str} (e : h.get? c = some o) (q : cl.lookup y = some c) : (cellsOf h cl).lookup c = some o :=
  pinsOf_look (y := y) e (List.mem_filter.mpr ⟨PySem.mem_of_lookup q, by rw [q]; exact beq_self_eq_true _⟩)
theorem cellsOf_in {h : Heap} {c : Addr} {o : Obj} {cl : List (Str × Addr)} (q : (cellsOf h cl).lookup c = some o) : h.get? c = some o ∧ ∃ y, cl.lookup y = some c := by
  obtain ⟨h1, y, m⟩ := pinsOf_in q
  exact ⟨h1, y, by simpa using (List.mem_filter.mp m).2⟩
section
variable {P : Program} {w : World} {K : PySem.W.Frag} {mg : Str → Option Value} {base : Heap} {A : Around} {stk : List Env} {s : Shared} {H : Hp} {L : Pins}
/-- more is pinned for a call -/
theorem env_add (e0 : Env0 P w K mg base A stk s H) (p : ∀ b o, L.lookup b = some o → s.heap.get? b = some o ∧ H b = none ∧ b ∉ frs stk ∧ base.objs.size ≤ b) : Env0 P w K mg base A stk s (addP L H) := by
  refine ⟨e0.frames, e0.mod, fun b o q => ⟨(e0.bs b o q).1, ?_⟩, e0.bsz, e0.funs, fun b q => ?_, hok_add e0.hok fun b o q => ⟨(p b o q).1, (p b o q).2.1⟩, e0.bare⟩
  · cases z : L.lookup b with
    | none => rw [addP_no z]; exact (e0.bs b o q).2
    | some x => exact absurd (Heap.lt_size q) (Nat.not_lt.mpr (p b x z).2.2.2)
  · cases z : L.lookup b with
    | none => rw [addP_no z]; exact e0.frf b q
    | some x => exact absurd q (p b x z).2.2.1
/-- back in the maker: what was pinned for the call is let go -/
theorem ce_drop {Q : VK} {u : Value} {s' : Shared} (p : ∀ b o, L.lookup b = some o → s.heap.get? b = some o ∧ H b = none) (k : HOk P w H s.heap) (c : CE stk P w (addP L H) s (fun v H' => Pd L H' ∧ Q v (delP L H')) u s') : CE stk P w H s Q u s' := by
  obtain ⟨v, H', h1, h2, h3, h4, h5, h6, h7⟩ := c
  exact ⟨v, delP L H', h1, h2, un_drop h3 (hok_add k p) h4 h6 fun b o q => (p b o q).2, hok_del h4 h6, h5, h7⟩
end
section
variable {X : Cx} {pins : List (Addr × Obj)} {σ : L2.St} {H : Hp} {s : Shared} {ms : Scope} {N : List Str} {t : Addr}
/-- the maker of a frame at t -/
structure Maker (X : Cx) (ms : Scope) (N : List Str) (t : Addr) : Prop where
  cells : X.env.cells = cellsFrom (t + 1) ms.names []
  loc : X.env.locals = t
  sc : X.env.scope = ms
  n : X.N = N
theorem maker_cells (I : Inv X pins σ H s) (M : Maker X ms N t) : CelL ms N t σ (cellsOf s.heap X.env.cells) := by
  refine ⟨fun y c e => ?_, fun i y v h1 h2 h3 => ?_, I.len.trans (congrArg _ M.n)⟩
  · have e : X.env.cells.lookup y = some c := by rw [M.cells]; exact e
    obtain ⟨v, o, ho, hd⟩ := I.cell y c e
    exact ⟨o, v, cellsOf_look ho e, hd⟩
  · obtain ⟨m, _, hl⟩ := I.loc
    have h1 : X.N[i]? = some y := by rw [M.n]; exact h1
    have h3 : X.env.scope.names.lookup y = some .cell := by rw [M.sc]; exact h3
    obtain ⟨u, r, q⟩ := hl i y v h1 h2 (.inr (.inl h3))
    rcases q with ⟨k, _⟩ | ⟨_, d, e, o, ho, hd⟩
    · have k : X.env.scope.names.lookup y = some .local := k
      rw [h3] at k
      cases k
    · exact ⟨d, o, u, by rw [← M.cells]; exact e, cellsOf_look ho e, hd, r⟩
theorem maker_pins (I : Inv X pins σ H s) (M : Maker X ms N t) : ∀ b o, (cellsOf s.heap X.env.cells).lookup b = some o → s.heap.get? b = some o ∧ H b = none ∧ b ∉ frs X.stack ∧ X.base.objs.size ≤ b := fun b o q => by
  obtain ⟨h1, y, h2⟩ := cellsOf_in q
  have ge : X.env.locals < b := by
    have h3 := h2
    rw [M.cells] at h3
    have := cells_ge _ (t + 1) (t + 1) [] (Nat.le_refl _) (fun q hq => by cases hq) _ (PySem.mem_of_lookup h3)
    rw [M.loc]
    exact this
  refine ⟨h1, I.freeC y b h2, fun z => ?_, Nat.le_trans (Nat.le_trans I.ok.bsz I.ok.above) (Nat.le_of_lt ge)⟩
  rcases List.mem_cons.mp (I.stkSub _ z) with e | e
  · rw [e] at ge
    exact Nat.lt_irrefl _ ge
  · obtain ⟨_, o', ho, _⟩ := I.ok.funs.mem e
    exact Nat.lt_irrefl _ (Nat.lt_of_lt_of_le (Nat.lt_trans ge (Heap.lt_size ho)) I.ok.above)
/-- what a call asks of H, the maker's cells pinned -/
def tPin (sp : Sp) (ms : Scope) (N : List Str) (t : Addr) (ta : TA) : TE := fun σ H Q => ta σ H fun vs H1 => ∀ L, CelL ms N t σ L → NoP L H1 → sp vs (addP L H1) (fun v H' => Pd L H' ∧ Q v (delP L H')) E0
theorem pe_callP {k : Nat} {f : Addr} {fd : FuncData} {ps : List Str} {sp : Sp} {x : Str} {e : Expr} {es : List Expr} {ta : TA} {p pos : Pos} (F : FnOk X.prog X.w X.K X.mg X.base CX0 k f fd ps sp) (hr : Room k X.A) (hg : Gl X x) (hm : X.mg x = some (.ref f)) (hk : PySem.W.keepIn X.K (.ref f) = true) (hb : L2.Binds X.K fd ps [])
    (M : Maker X ms N t) (ha : PA X (e :: es) ta) (hdb : (x == ("__debug__" : Str)) = false := by decide) (he : starEach (e :: es) X.env = (false, eval e X.env) :: starEach es X.env := by rfl) (hpl : (backTo pos (starEach es X.env)).any (·.1) = false := by rfl) :
    PE X (.Call (.Name x p) (e :: es) [] pos) (tPin sp ms N t ta) := by
  refine ⟨fun pins s σ H Q I h => ?_⟩
  refine wpAny_Call_Name_kw (ld_glob I hg hm ?_ hdb)
  refine PySem.W.callWith_K (h₀ := X.base) I.ok.mod.kin hk (thn (ha.run pos pins s σ H _ I h) fun us s1 ⟨vs, H1, I1, r, q⟩ => ⟨I1.kIn, ?_⟩) he hpl
  have pp := maker_pins I1 M
  have q := q _ (maker_cells I1 M) fun b o z => (pp b o z).2.1
  have hl : vs.length = ps.length := F.len _ _ _ _ q
  have hbt : BindsTo s1 fd ⟨us, []⟩ (ps.zip us) := by
    have := hb s1 us I1.kIn (by rw [List.append_nil, ← r.length]; exact hl)
    simpa using this
  refine wpAny_call (codeAny_mono (F.run X.A X.stack s1 _ ⟨us, []⟩ us vs _ _ hr (env_add I1.env0 pp) hbt r q) fun r s2 hq => ?_)
  cases r with
  | error e => exact (show False from hq).elim
  | ok fl =>
    cases fl with
    | ret u => exact I1.after (ce_drop (fun b o z => ⟨(pp b o z).1, (pp b o z).2.1⟩) I1.hok hq)
    | next => exact False.elim hq
    | brk => exact False.elim hq
    | cont => exact False.elim hq
end
end Yi
set_option maxHeartbeats 1000000
/-! What the works of a maker mean. -/
namespace Yi
open PySem L2
/-- an exception, told -/
def toldD (e : Ex) : Option D :=
  if e.c = 6 then (lkp (Str.ofString "person") e.fs).bind fun p => (lkp (Str.ofString "part") e.fs).map fun q => .tup [.str (tdW e.c), p, q]
  else if e.c = 7 then (lkp (Str.ofString "row") e.fs).map fun p => .tup [.str (tdW e.c), p]
  else if e.c = 2 ∨ e.c = 4 then (lkp (Str.ofString "number") e.fs).map fun p => .tup [.str (tdW e.c), p]
  else some (.tup [.str (tdW e.c), .int 0])
/-- each is refused as is due -/
def runA (t : Nat) (bodies : Nat → Option XEM) (alk : Den) (due : D) (ρ : Slt) : List D → Sto → Option Sto
  | [], S => some S
  | .clo n t' :: r, S => if t' = t then (bodies n).bind fun x => match x ρ S with
      | some (.inr (e, S1)) => if e.c < 10 then (toldD e).bind fun d => match alk [d, due] S1 with
          | some (.d (.bl true), S2) => runA t bodies alk due ρ r S2
          | _ => none
        else none
      | _ => none
    else none
  | _, _ => none
def eAllL (t : Nat) (bodies : Nat → Option XEM) (alk : Den) (a : AM) : EM := fun ρ S => (a ρ S).bind fun p => match p.1 with
  | [.fl cs, due] => (runA t bodies alk due ρ cs p.2).map fun S' => (.d (.bl true), S')
  | _ => none
section
variable {L : Pins} {H H' : Hp}
theorem addP_none {b : Addr} (h : addP L H b = none) : L.lookup b = none ∧ H b = none := by
  cases q : L.lookup b with
  | some o => rw [addP_at q] at h; cases h
  | none => rw [addP_no q] at h; exact ⟨rfl, h⟩
theorem nop_no (n : NoP L H) {b : Addr} {o : HO} (e : H b = some o) : L.lookup b = none := by
  cases q : L.lookup b with
  | none => rfl
  | some x => rw [n b x q] at e; cases e
theorem addP_of (n : NoP L H) {b : Addr} {o : HO} (e : H b = some o) : addP L H b = some o := by rw [addP_no (nop_no n e)]; exact e
theorem delP_addP (n : NoP L H) : delP L (addP L H) = H := by
  funext b
  cases q : L.lookup b with
  | none => rw [delP_no q, addP_no q]
  | some o => rw [delP_at q, n b o q]
theorem addP_delP (p : Pd L H) : addP L (delP L H) = H := by
  funext b
  cases q : L.lookup b with
  | none => rw [addP_no q, delP_no q]
  | some o => rw [addP_at q, p b o q]
theorem addP_upd {b : Addr} {o : HO} (q : L.lookup b = none) : addP L (upd H b o) = upd (addP L H) b o := by
  funext a
  by_cases h : a = b
  · rw [h, upd_same, addP_no q, upd_same]
  · rw [upd_ne h]
    cases z : L.lookup a with
    | none => rw [addP_no z, addP_no z, upd_ne h]
    | some x => rw [addP_at z, addP_at z]
theorem nop_del : NoP L (delP L H) := fun b o q => delP_at q
end
section
variable {G : Gm} {F F' H H' H1 H2 : Hp} {ι ι' ι2 : List Addr} {S S' : Sto} {L : Pins}
theorem Rep.addP (r : Rep G F ι S H) (n : NoP L H) : Rep G F ι S (addP L H) := by
  refine ⟨fun a u e => addP_of n (r.ex _ _ e), fun m c h => ?_, r.len, r.nd, r.sep, fun p hp => ?_⟩
  · obtain ⟨a, o, h1, h2, h3⟩ := r.cell m c h
    exact ⟨a, o, h1, addP_of n h2, h3⟩
  · obtain ⟨h0, ps, h1, h2⟩ := r.tb p hp
    exact ⟨h0, ps, addP_of n h1, h2⟩
/-- from pinned to let go: F1 may tell more than F' of what was not there -/
theorem rep_drop {F1 F2 : Hp} (n : NoP L H') (x : Evl.Ex (addP L H') H1) (r' : Rep G F' ι' S H') (sF : Same F' F1) (nF : ∀ b, F1 b ≠ none → F' b ≠ none ∨ addP L H' b = none) (r2 : Rep G F2 ι2 S' H2) (p2 : Stx F1 ι' H1 F2 ι2 H2) :
    Pd L H2 ∧ Rep G F2 ι2 S' (delP L H2) ∧ Stx F' ι' H' F2 ι2 (delP L H2) := by
  have pinT : ∀ {o : Obj} {b : Addr}, NT (pinO o b) := fun {o b} ps z => by cases z
  have at1 : ∀ b o, L.lookup b = some o → H1 b = some (pinO o b) := fun b o q => x _ _ (addP_at q)
  have nI : ∀ b o, L.lookup b = some o → b ∉ ι' := fun b o q z => by
    obtain ⟨_, _, u, _, _, h3, _⟩ := r'.live z
    rw [n b o q] at h3
    cases h3
  have pd : Pd L H2 := fun b o q => p2.fr b _ (at1 b o q) (nI b o q) (fun z => z) pinT
  have lF : ∀ b, F2 b ≠ none → L.lookup b = none := fun b h => by
    cases q : L.lookup b with
    | none => rfl
    | some o =>
      exfalso
      rcases p2.nF b h with z | z | z
      · rcases nF b z with y | y
        · refine y ?_
          cases e : F' b with
          | none => rfl
          | some u =>
            have := r'.ex _ _ e
            rw [n b o q] at this
            cases this
        · exact absurd (addP_none y).1 (by rw [q]; exact fun z => by cases z)
      · rw [at1 b o q] at z; cases z
      · exact z
  have lI : ∀ b, b ∈ ι2 → L.lookup b = none := fun b h => by
    cases q : L.lookup b with
    | none => rfl
    | some o =>
      exfalso
      rcases p2.nI b h with z | z | z
      · exact nI b o q z
      · rw [at1 b o q] at z; cases z
      · exact z
  have up : ∀ {b : Addr}, H1 b = none → H' b = none := fun {b} h => by
    cases e : addP L H' b with
    | some u => rw [x _ _ e] at h; cases h
    | none => exact (addP_none e).2
  refine ⟨pd, ⟨fun a u e => ?_, fun m c h => ?_, r2.len, r2.nd, r2.sep, fun p hp => ?_⟩, ⟨sF.trans p2.exF, p2.pre, fun a o h1 h2 _ nt => ?_, fun a h => ?_, fun a h => ?_, fun _ z => z.elim, fun a h => ?_, fun a ob u h => ?_⟩⟩
  · rw [delP_no (lF a fun z => by rw [e] at z; cases z)]
    exact r2.ex _ _ e
  · obtain ⟨a, o, h1, h2, h3⟩ := r2.cell m c h
    exact ⟨a, o, h1, by rw [delP_no (lI a (List.mem_of_getElem? h1))]; exact h2, h3⟩
  · obtain ⟨h0, ps, h1, h2⟩ := r2.tb p hp
    exact ⟨h0, ps, by rw [delP_no (pd_no pd (ne_pin h1 fun φ z => by cases z))]; exact h1, h2⟩
  · rw [delP_no (nop_no n h1)]
    exact p2.fr a o (x _ _ (addP_of n h1)) h2 (fun z => z) nt
  · rcases p2.nF a h with z | z | z
    · rcases nF a z with y | y
      · exact .inl y
      · exact .inr (.inl (addP_none y).2)
    · exact .inr (.inl (up z))
    · exact z.elim
  · rcases p2.nI a h with z | z | z
    · exact .inl z
    · exact .inr (.inl (up z))
    · exact z.elim
  · obtain ⟨o, ho⟩ := Option.ne_none_iff_exists'.mp h
    rw [delP_no (nop_no n ho)]
    exact p2.dom a (by rw [x _ _ (addP_of n ho)]; exact fun z => by cases z)
  · rw [delP_no (nop_no n h)]
    exact p2.fz a ob u (x _ _ (addP_of n h))
/-- it is told: the values behind its word -/
theorem told_vals {e : Ex} {cls : Value} {d : Option Addr} {x : D} (rx : RX G F ι H e cls d) (n : NoP L H) (h : toldD e = some x) :
    (d = none ∨ ∃ dd fs, d = some dd ∧ addP L H dd = some (.xd fs)) ∧ ∃ (ds : List D) (vs : List V), x = .tup (.str (tdW e.c) :: ds) ∧ tdF e.c d (addP L H) vs ∧ RDs G F ι ds vs := by
  obtain ⟨_, hx⟩ := rx
  refine ⟨hx.imp (fun z => z.2) fun ⟨dd, kv, h1, h2, _⟩ => ⟨dd, kv, h1, addP_of n h2⟩, ?_⟩
  have fld : ∀ {f : Str} {y : D}, lkp f e.fs = some y → ∃ dd fs v, d = some dd ∧ addP L H dd = some (.xd fs) ∧ fs.lookup f = some v ∧ RD G F ι y v ∧ RKs G F ι e.fs fs := fun {f y} q => by
    rcases hx with ⟨h1, _⟩ | ⟨dd, kv, h1, h2, h3⟩
    · rw [h1] at q
      cases q
    · obtain ⟨v, g1, g2⟩ := (rks_lkp h3).1 _ q
      exact ⟨dd, kv, v, h1, addP_of n h2, g1, g2, h3⟩
  unfold toldD at h
  by_cases h6 : e.c = 6
  · rw [if_pos h6] at h
    obtain ⟨p, q1, h⟩ := Option.bind_eq_some_iff.mp h
    obtain ⟨q, q2, rfl⟩ := Option.map_eq_some_iff.mp h
    obtain ⟨dd, fs, v, e1, e2, e3, e4, e5⟩ := fld q1
    obtain ⟨u, g1, g2⟩ := (rks_lkp e5).1 _ q2
    exact ⟨_, [v, u], rfl, by unfold tdF; rw [if_pos h6]; exact ⟨dd, fs, v, u, e1, e2, e3, g1, rfl⟩, rds_cons.mpr ⟨_, _, rfl, e4, RDs.one g2⟩⟩
  · rw [if_neg h6] at h
    by_cases h7 : e.c = 7
    · rw [if_pos h7] at h
      obtain ⟨p, q1, rfl⟩ := Option.map_eq_some_iff.mp h
      obtain ⟨dd, fs, v, e1, e2, e3, e4, e5⟩ := fld q1
      exact ⟨_, [v], rfl, by unfold tdF; rw [if_neg h6, if_pos h7]; exact ⟨dd, fs, v, e1, e2, e3, rfl⟩, RDs.one e4⟩
    · rw [if_neg h7] at h
      by_cases h2 : e.c = 2 ∨ e.c = 4
      · rw [if_pos h2] at h
        obtain ⟨p, q1, rfl⟩ := Option.map_eq_some_iff.mp h
        obtain ⟨dd, fs, v, e1, e2, e3, e4, e5⟩ := fld q1
        exact ⟨_, [v], rfl, by unfold tdF; rw [if_neg h6, if_neg h7, if_pos h2]; exact ⟨dd, fs, v, e1, e2, e3, rfl⟩, RDs.one e4⟩
      · rw [if_neg h2] at h
        cases h
        exact ⟨_, [.int 0], rfl, by unfold tdF; rw [if_neg h6, if_neg h7, if_neg h2], RDs.one (by simp only [RD])⟩
end
end Yi
set_option maxHeartbeats 1000000
/-! The works of a maker, run. -/
namespace Yi
open PySem L2
/-- the lambdas of a maker: their bodies' readings, and what these mean -/
def Bods (P : Program) (w : World) (mg : Str → Option Value) (base : Heap) (k : Nat) (G : Gm) (ms : Scope) (N : List Str) (bodies : Nat → Option XEM) : Prop :=
  ∀ n x, bodies n = some x → ∃ (l : LamD) (tb : XK → TE), G.lm n = some l ∧ LamOk l ∧ LamBind l ∧ l.ms = ms ∧ l.N = N ∧ CloB P w G.K mg base k l tb ∧ ∀ E, SndXV G E (tb E) x
section
variable {P : Program} {w : World} {mg : Str → Option Value} {base : Heap} {k : Nat} {G : Gm} {ms : Scope} {N : List Str} {bodies : Nat → Option XEM} {alk : Den} {t W0 D0 : Addr} {ws : List V} {ρ : Slt} {σ : L2.St} {L : Pins} {due : D} {vd : V}
theorem runA_ok (hB : Bods P w mg base k G ms N bodies) (C : CelL ms N t σ L) (hA : ∀ ds S w S', alk ds S = some (w, S') → ds.length = 2) : ∀ (cs : List D) (fs : List V) {F : Hp} {ι : List Addr} {S : Sto} {H : Hp} {S' : Sto}, Sta G F ι S ρ σ H → H D0 = some (.lst []) → D0 ∉ ι → F D0 = none → F W0 = some (.lst ws) → NoP L H → RDs G F ι cs fs → RD G F ι due vd →
    runA t bodies alk due ρ cs S = some S' → ∀ Qf : Hp → Prop, (∀ F' ι' H', Sta G F' ι' S' ρ σ H' → Stx F ι H F' ι' H' → NoP L H' → Qf (addP L H')) → AR (spTold P w G.K mg base k G.xc) (spI G 2 alk) W0 D0 ws vd Qf fs (addP L H)
  | [], fs, F, ι, S, H, S', s, hD, nD, fD, hW, n, rs, rd, e, Qf, q => by
    rw [rds_nil] at rs
    subst rs
    cases e
    exact q F ι H s .refl n
  | c :: cs, fs, F, ι, S, H, S', s, hD, nD, fD, hW, n, rs, rd, e, Qf, q => by
    obtain ⟨v, fr, rfl, r1, r2⟩ := rds_cons.mp rs
    match c, e with
    | .clo m t', e =>
      unfold runA at e
      split at e
      · rename_i ht
        obtain ⟨x, hx, e⟩ := Option.bind_eq_some_iff.mp e
        split at e
        · rename_i ex S1 ex1
          split at e
          · rename_i h10
            obtain ⟨d1, hd1, e⟩ := Option.bind_eq_some_iff.mp e
            split at e
            · rename_i S2 ea
              obtain ⟨l, tb, hl, O, B, hms, hN, cb, snd⟩ := hB m x hx
              have C' : CelL l.ms l.N t' σ L := by rw [hms, hN, ht]; exact C
              simp only [RD] at r1
              obtain ⟨l', hl', cv⟩ := r1
              rw [hl] at hl'
              cases hl'
              unfold AR
              refine ⟨v, l, t', L, σ, tb, rfl, O, B, C', cb, cv.ex fun a o e => addP_of n (s.rep.ex _ _ e), pd_add, ?_⟩
              rw [delP_addP n]
              refine snd _ s ex1 _ ?_
              intro F1 ι1 H1 cls d rep1 p1 rx n1
              obtain ⟨hd, ds, vs, rfl, htd, rdv⟩ := told_vals rx n1 hd1
              refine ⟨ex.c, vs, rx.1, h10, hd, htd, fun p H2 hp x2 h2 => ?_⟩
              have nF1 : F1 p = none := rep1.noF (addP_none hp).2
              have up : ∀ {b : Addr}, H2 b = none → H1 b = none := fun {b} h => by
                cases e : addP L H1 b with
                | some u => rw [x2 _ _ e] at h; cases h
                | none => exact (addP_none e).2
              have rep2 : Rep G (upd F1 p (.tup (.str (tdW ex.c) :: vs))) ι1 S1 H2 := by
                refine ⟨fun a u e => ?_, fun m c h => ?_, rep1.len, rep1.nd, fun a ha => ?_, fun p' hp' => ?_⟩
                · by_cases z : a = p
                  · rw [z] at e ⊢
                    rw [upd_same] at e
                    rw [h2, ← e]
                  · rw [upd_ne z] at e
                    exact x2 _ _ (addP_of n1 (rep1.ex _ _ e))
                · obtain ⟨a, o, g1, g2, g3⟩ := rep1.cell m c h
                  exact ⟨a, o, g1, x2 _ _ (addP_of n1 g2), g3.mono (same_upd nF1) (List.prefix_refl _)⟩
                · rw [upd_ne fun z => rep1.noI (addP_none hp).2 (by rw [← z]; exact ha)]
                  exact rep1.sep a ha
                · obtain ⟨g0, ps, g1, g2, g3⟩ := rep1.tb p' hp'
                  refine ⟨?_, ps, x2 _ _ (addP_of n1 g1), g2, fun pos cv hc => ?_⟩
                  · rw [upd_ne fun z => by rw [z, (addP_none hp).2] at g1; cases g1]
                    exact g0
                  · obtain ⟨c0, e1, e2⟩ := g3 pos cv hc
                    exact ⟨c0, e1, same_upd nF1 _ _ e2⟩
              have rdd : RD G (upd F1 p (.tup (.str (tdW ex.c) :: vs))) ι1 (.tup (.str (tdW ex.c) :: ds)) (.ref p) := by
                simp only [RD]
                exact ⟨p, _, rfl, SqT.of upd_same, .inl upd_same, rds_cons.mpr ⟨_, _, rfl, by simp only [RD], rdv.mono (same_upd nF1) (List.prefix_refl _)⟩⟩
              refine ⟨rfl, _, ι1, S1, [_, due], _, S2, rep2, rds_cons.mpr ⟨_, _, rfl, rdd, RDs.one (rd.mono (p1.exF.trans (same_upd nF1)) p1.pre)⟩, ea, fun F2 ι2 H3 u rep3 p3 ru => ?_⟩
              obtain ⟨pd3, rep4, p4⟩ := rep_drop n1 x2 rep1 (same_upd nF1) (fun b hb => by
                by_cases z : b = p
                · exact .inr (by rw [z]; exact hp)
                · rw [upd_ne z] at hb
                  exact .inl hb) rep3 p3
              have pp := p1.trans p4
              have s4 := (s.after rep4 pp).1
              have hD3 : delP L H3 D0 = some (.lst []) := pp.fr D0 _ hD nD (fun z => z) fun ps z => by cases z
              have nD3 : D0 ∉ ι2 := fun z => by
                rcases pp.nI D0 z with y | y | y
                · exact nD y
                · rw [hD] at y; cases y
                · exact y
              have fD3 : F2 D0 = none := Classical.byContradiction fun z => by
                rcases pp.nF D0 z with y | y | y
                · exact y fD
                · rw [hD] at y; cases y
                · exact y
              refine ⟨(by simpa only [RV, RD] using ru), ?_, ?_, ?_⟩
              · exact p3.fr D0 _ (x2 _ _ (addP_of n1 (p1.fr D0 _ hD nD (fun z => z) fun ps z => by cases z))) (fun z => by
                  rcases p1.nI D0 z with y | y | y
                  · exact nD y
                  · rw [hD] at y; cases y
                  · exact y) (fun z => z) fun ps z => by cases z
              · exact rep3.ex _ _ (p3.exF _ _ (same_upd nF1 _ _ (p1.exF _ _ hW)))
              · rw [← addP_delP pd3]
                refine runA_ok hB C hA cs fr s4 hD3 nD3 fD3 (pp.exF _ _ hW) nop_del (r2.mono pp.exF pp.pre) (rd.mono pp.exF pp.pre) e Qf fun F5 ι5 H5 s5 p5 n5 => ?_
                exact q F5 ι5 H5 s5 (pp.trans p5) n5
            · cases e
          · cases e
        · cases e
      · cases e
/-- _law_all(works, due) -/
theorem snd_allL {ta : TA} {a : AM} (hB : Bods P w mg base k G ms N bodies) (hA : ∀ ds S w S', alk ds S = some (w, S') → ds.length = 2) (ha : SndA G ta a) : SndV G (tPin (spAll (spTold P w G.K mg base k G.xc) (spI G 2 alk)) ms N t ta) (eAllL t bodies alk a) := by
  intro F ι S ρ σ H w' S' s e Q kk
  unfold eAllL at e
  obtain ⟨⟨ds, S1⟩, e1, e⟩ := Option.bind_eq_some_iff.mp e
  dsimp only at e
  split at e
  · rename_i cs due
    obtain ⟨S2, e2, e⟩ := Option.map_eq_some_iff.mp e
    cases e
    refine ha s e1 _ fun F1 ι1 H1 vs s1 p1 rs => ?_
    obtain ⟨v1, r, rfl, r1, rs2⟩ := rds_cons.mp rs
    obtain ⟨v2, r', rfl, r2, rs3⟩ := rds_cons.mp rs2
    rw [rds_nil] at rs3
    subst rs3
    simp only [RD] at r1
    obtain ⟨W0, ws, rfl, hW, rws⟩ := r1
    intro L C n
    refine ⟨W0, v2, ws, rfl, addP_of n (s1.rep.ex _ _ hW), fun D0 hD => ?_⟩
    obtain ⟨l0, h0⟩ := addP_none hD
    rw [← addP_upd l0]
    obtain ⟨rn, pn⟩ := s1.rep.newO (o := .lst []) h0
    have sn := (s1.after rn pn).1
    refine runA_ok hB C hA cs ws sn upd_same (s1.rep.noI h0) (s1.rep.noF h0) hW (fun b o q => ?_) rws r2 e2 _ fun F' ι' H' s' p' n' => fun p hp => ?_
    · rw [upd_ne fun z => by rw [z, l0] at q; cases q]
      exact n b o q
    · obtain ⟨lp, hp⟩ := addP_none hp
      rw [← addP_upd lp]
      obtain ⟨rq, pq⟩ := s'.rep.newO (o := .lst []) hp
      have nq : NoP L (upd H' p (.lst [])) := fun b o q => by
        rw [upd_ne fun z => by rw [z, lp] at q; cases q]
        exact n' b o q
      refine ⟨pd_add, ?_⟩
      rw [delP_addP nq]
      exact kk F' ι' _ _ (s'.after rq pq).1 (((p1.trans pn).trans p').trans pq) (by simp only [RV, RD])
  · cases e
end
end Yi
/-! Places of lambdas in a text; makers' promises; the law's end with tables of code objects. -/
namespace Yi
open PySem PySem.Spec L2
open PyProof.Rows (envOfC)
/-! ### places -/
def noE : Expr := .Name (Str.ofString "") ⟨0, 0, 0, 0⟩
def noS : Stmt := .Pass ⟨0, 0, 0, 0⟩
/-- the expression of a statement; its suites -/
def stE : Stmt → Expr
  | .Assign _ v _ => v
  | .Return (some v) _ => v
  | .If t _ _ _ => t
  | .Expr v _ => v
  | _ => noE
def stB (o : Bool) (i : Nat) : Stmt → Stmt
  | .If _ a b _ => (if o then b else a).getD i noS
  | .For _ _ a b _ => (if o then b else a).getD i noS
  | .While _ a b _ => (if o then b else a).getD i noS
  | _ => noS
/-- the i-th part of an expression -/
def exI (i : Nat) : Expr → Expr
  | .Call f as _ _ => (f :: as).getD i noE
  | .List es _ => es.getD i noE
  | .Tuple es _ _ => es.getD i noE
  | .BoolOp _ es _ => es.getD i noE
  | .BinOp a _ b _ => [a, b].getD i noE
  | .UnaryOp _ a _ => a
  | .Compare a _ bs _ => (a :: bs).getD i noE
  | .IfExp a b c _ => [a, b, c].getD i noE
  | _ => noE
def lamP : Expr → Arguments
  | .Lambda a _ _ _ => a
  | _ => { posonlyargs := [], args := [], vararg := none, kwonlyargs := [], kw_defaults := [], kwarg := none, defaults := [] }
def lamB : Expr → Expr
  | .Lambda _ b _ _ => b
  | _ => noE
def lamS : Expr → Scope
  | .Lambda _ _ s _ => s
  | _ => { kind := .function, names := [], isGenerator := false, isCoroutine := false }
abbrev lamD (q : Str) (st : Stmt) (N : List Str) (df : Option Int) (e : Expr) : LamD := ⟨q ++ "<lambda>", lamP e, lamB e, lamS e, defScope st, N, df⟩
theorem bind_none {l : LamD} (hd : l.df = none) (h : ∀ (cl : List (Str × Addr)) (doc pm cv ctv : Value), bindArgs (PySem.W.kdv_fn "<lambda>" l.qual l.ps (.expr l.body) l.sc cl .none doc pm cv ctv) ⟨[], []⟩ = pure []) : LamBind l := fun s cl dV doc pm cv ctv q => by
  rcases q with ⟨_, rfl⟩ | ⟨k, a, o, n, tk, h1, _⟩
  · exact ⟨[], fun y hy => (by cases hy), .of_eq (h cl doc pm cv ctv)⟩
  · rw [hd] at h1; cases h1
theorem bind_one {l : LamD} {k : Int} {x : Str} (hd : l.df = some k) (hx : l.sc.names.lookup x = some .local) (h : ∀ (s : Shared) (cl : List (Str × Addr)) (a : Addr) (o : Obj) (n : Nat) (tk : Tok) (doc pm cv ctv : Value), s.heap.get? a = some o → o.data = .seq #[.int k tk] n → BindsTo s (PySem.W.kdv_fn "<lambda>" l.qual l.ps (.expr l.body) l.sc cl (.ref a) doc pm cv ctv) ⟨[], []⟩ [(x, .int k tk)]) : LamBind l := fun s cl dV doc pm cv ctv q => by
  rcases q with ⟨h1, _⟩ | ⟨k', a, o, n, tk, h1, rfl, h2, h3⟩
  · rw [hd] at h1; cases h1
  · rw [hd] at h1
    cases h1
    refine ⟨_, fun y hy => ?_, h s cl a o n tk doc pm cv ctv h2 h3⟩
    rcases List.mem_cons.mp hy with e | e
    · rw [e]; exact hx
    · cases e
/-! ### makers -/
/-- a maker's meaning, whatever its frame's place -/
noncomputable def denT (n np : Nat) (m : Nat → SM) : Den := open Classical in fun ds S => if ∀ t, den n np (m t) ds S = den n np (m 0) ds S then den n np (m 0) ds S else none
theorem denT_at {n np : Nat} {m : Nat → SM} {ds : List D} {S : Sto} {r : VV × Sto} (h : denT n np m ds S = some r) (t : Nat) : den n np (m t) ds S = some r := by
  unfold denT at h
  split at h
  · rename_i q
    rw [q t]
    exact h
  · cases h
theorem denT_of {n np : Nat} {m : Nat → SM} {ds : List D} {S : Sto} {r : VV × Sto} (h : ∀ t, den n np (m t) ds S = some r) : denT n np m ds S = some r := by
  unfold denT
  rw [if_pos fun t => by rw [h, h], h]
theorem denT_len {n np : Nat} {m : Nat → SM} : ∀ ds S w S', denT n np m ds S = some (w, S') → ds.length = np := fun ds S w S' e => den_len ds S w S' (denT_at e 0)
section
variable {P : Program} {w : World} {K : PySem.W.Frag} {mg : Str → Option Value} {base : Heap} {G : Gm}
theorem Fun.okC {x qual : Str} {st : Stmt} {f c : Addr} {fd : FuncData} {N ps : List Str} {k : Nat} {sp : Sp} (F : Fun K x qual st f fd) (hc : fd.code = .ref c) (S : FnScope N ps (defScope st)) (len : ∀ vs H Q E, sp vs H Q E → vs.length = ps.length)
    (hbody : ∀ (A : Around) (outer : List Env) (s : Shared) (H : Hp) (vs : List V) (Q : VK) (E : XK), Room k (A.deeper (envOfC qual (defScope st) s.heap.objs.size f (.ref c))) → sp vs H Q E →
      ∃ t, PSs (cxOf CX0 P w K mg base N qual (defScope st) f (.ref c) A outer s H E).nox (defBody st) t ∧ t { nx := fun _ H' => Q .non H', rt := Q } (start N vs) H) : FnOk P w K mg base CX0 (k + 1) f fd ps sp := by
  obtain ⟨oc, od, kV, doc, pm, an, cdv, ct, osl, rfl, lk, hcd⟩ := F.ex
  cases (show cdv = .ref c from hc)
  refine fn_of lk hcd S len fun A outer s H vs Q E hr hsp => ?_
  obtain ⟨t, h, q⟩ := hbody A outer s H vs Q E hr hsp
  exact ⟨t, h.nox, q⟩
theorem fn_IT {x qual : Str} {st : Stmt} {f c : Addr} {fd : FuncData} {N ps : List Str} {k : Nat} {m : Nat → SM} (F : Fun K x qual st f fd) (hc : fd.code = .ref c) (S : FnScope N ps (defScope st))
    (hb : ∀ (A : Around) (outer : List Env) (s : Shared) (H : Hp) (E : XK), Room k (A.deeper (envOfC qual (defScope st) s.heap.objs.size f (.ref c))) →
      ∃ t, PSs (cxOf CX0 P w K mg base N qual (defScope st) f (.ref c) A outer s H E).nox (defBody st) t ∧ SndS G t (m s.heap.objs.size)) :
    FnOk P w K mg base CX0 (k + 1) f fd ps (spI G ps.length (denT N.length ps.length m)) := by
  refine Fun.okC F hc S (fun vs H Q E h => h.1) fun A outer s H vs Q E hr h => ?_
  obtain ⟨t, h1, h2⟩ := hb A outer s H E hr
  obtain ⟨hl, F', ι, S', ds, w', S1, r, rs, e, k'⟩ := h
  exact ⟨t, h1, body_I (E := E) h2 ⟨hl, F', ι, S', ds, w', S1, r, rs, denT_at e _, k'⟩⟩
/-- the law's promise, tables empty -/
def spLawT (K : PySem.W.Frag) (cs : List (Addr × Addr)) : Sp := fun vs H Q _ => ∃ (a : Addr) (ns : List Int), vs = [.ref a] ∧ SqL K H a (ns.map V.int) ∧ ns.length ≤ 63 ∧ (∀ p ∈ cs, H p.2 = some (.tbl #[])) ∧ ∀ H', Q (.bl true) H'
theorem law_start {H : Hp} {a : Addr} {ns : List Int} (hG : G.K = K) (hs : SqL K H a (ns.map V.int)) (hT : ∀ p ∈ G.tb, H p.1 = some (.tbl #[])) : ∃ F, Rep G F [] [] H ∧ (∀ b, F b ≠ none → H b ≠ none) ∧ RDs G F [] [.lk ns] [.ref a] := by
  have em : ∀ {F : Hp}, (∀ b o, F b = some o → H b = some o) → (∀ p ∈ G.tb, F p.1 = none) → Rep G F [] [] H := fun {F} e n => ⟨e, fun n c h => by simp at h, rfl, List.nodup_nil, fun a h => by simp at h, fun p hp => ⟨n p hp, #[], hT p hp, trivial, fun pos cv hc => by
    have z : codeAmong pos [] = some cv := hc
    simp [codeAmong] at z⟩⟩
  have fin : ∀ {F : Hp}, SqL K F a (ns.map V.int) → RDs G F [] [.lk ns] [.ref a] := fun {F} h => by
    refine rds_cons.mpr ⟨_, _, rfl, ?_, rds_nil.mpr rfl⟩
    simp only [RD]
    exact ⟨a, rfl, by rw [hG]; exact h⟩
  rcases hs with hs | hs
  · refine ⟨fun b => if b = a then H b else none, em (fun b o e => ?_) (fun p hp => ?_), fun b h => ?_, fin (.inl ?_)⟩
    · have e : (if b = a then H b else none) = some o := e
      by_cases z : b = a
      · rw [if_pos z] at e; exact e
      · rw [if_neg z] at e; cases e
    · by_cases z : p.1 = a
      · exfalso
        have t := hT p hp
        rw [z] at t
        rcases hs with q | ⟨o, q⟩
        · rw [q] at t; cases t
        · rw [q] at t; cases t
      · exact if_neg z
    · by_cases z : b = a
      · have h : (if b = a then H b else none) ≠ none := h
        rw [if_pos z] at h; exact h
      · exact absurd (if_neg z) h
    · rcases hs with q | ⟨o, q⟩
      · exact .inl ((if_pos rfl).trans q)
      · exact .inr ⟨o, (if_pos rfl).trans q⟩
  · exact ⟨fun _ => none, em (fun b o e => by cases e) (fun p hp => rfl), fun b h => absurd rfl h, fin (.inr hs)⟩
theorem law_done {x qual : Str} {st : Stmt} {f : Addr} {fd : FuncData} {N : List Str} {z : Str} {k : Nat} {cs : List (Addr × Addr)} {m : Nat → SM} (hG : G.K = K) (hcs : ∀ p ∈ G.tb, ∃ q ∈ cs, q.2 = p.1)
    (pl : ∀ (t : Nat) (ns : List Int), ns.length ≤ 63 → ∃ S', den N.length 1 (m t) [.lk ns] [] = some (.d (.bl true), S')) {t : TS} {tok : Nat} (h2 : SndS G t (m tok)) {vs : List V} {H : Hp} {Q : VK} {E : XK} (h : spLawT K cs vs H Q E) :
    t { nx := fun _ H' => Q .non H', rt := Q } (start N vs) H := by
  obtain ⟨a, ns, rfl, hs, hl, hT, q⟩ := h
  obtain ⟨S', e⟩ := pl tok ns hl
  obtain ⟨F, r, _, rs⟩ := law_start (G := G) hG hs fun p hp => let ⟨u, hu, e⟩ := hcs p hp; by rw [← e]; exact hT u hu
  refine body_I (np := 1) (E := E) h2 ⟨rfl, F, [], [], [.lk ns], _, S', r, rs, e, fun F' ι' H' v r p rv => ?_⟩
  simp only [RV, RD] at rv
  subst rv
  exact q H'
theorem law_IT {x qual : Str} {st : Stmt} {f c : Addr} {fd : FuncData} {N : List Str} {z : Str} {k : Nat} {m : Nat → SM} {cs : List (Addr × Addr)} (hG : G.K = K) (hcs : ∀ p ∈ G.tb, ∃ q ∈ cs, q.2 = p.1) (F : Fun K x qual st f fd) (hc : fd.code = .ref c) (S : FnScope N [z] (defScope st))
    (hb : ∀ (A : Around) (outer : List Env) (s : Shared) (H : Hp) (E : XK), Room k (A.deeper (envOfC qual (defScope st) s.heap.objs.size f (.ref c))) →
      ∃ t, PSs (cxOf CX0 P w K mg base N qual (defScope st) f (.ref c) A outer s H E).nox (defBody st) t ∧ SndS G t (m s.heap.objs.size))
    (pl : ∀ (t : Nat) (ns : List Int), ns.length ≤ 63 → ∃ S', den N.length 1 (m t) [.lk ns] [] = some (.d (.bl true), S')) :
    FnOk P w K mg base CX0 (k + 1) f fd [z] (spLawT K cs) := by
  refine Fun.okC F hc S (fun vs H Q E ⟨a, ns, e, _⟩ => by rw [e]; rfl) fun A outer s H vs Q E hr h => ?_
  obtain ⟨t, h1, h2⟩ := hb A outer s H E hr
  exact ⟨t, h1, law_done (x := x) (qual := qual) (st := st) (f := f) (fd := fd) (k := k) (z := z) hG hcs pl h2 h⟩
theorem law_IN {x qual : Str} {st : Stmt} {f : Addr} {fd : FuncData} {N : List Str} {z : Str} {k : Nat} {m : SM} {cs : List (Addr × Addr)} (hG : G.K = K) (hcs : ∀ p ∈ G.tb, ∃ q ∈ cs, q.2 = p.1) (F : Fun K x qual st f fd) (S : FnScope N [z] (defScope st))
    (hb : ∀ (cdv : Value) (A : Around) (outer : List Env) (s : Shared) (H : Hp) (E : XK), Room k (A.deeper (envOfC qual (defScope st) s.heap.objs.size f cdv)) →
      ∃ t, PSs (cxOf CX0 P w K mg base N qual (defScope st) f cdv A outer s H E).nox (defBody st) t ∧ SndS G t m)
    (pl : ∀ ns : List Int, ns.length ≤ 63 → ∃ S', den N.length 1 m [.lk ns] [] = some (.d (.bl true), S')) :
    FnOk P w K mg base CX0 (k + 1) f fd [z] (spLawT K cs) := by
  refine F.ok S (fun vs H Q E ⟨a, ns, e, _⟩ => by rw [e]; rfl) fun cdv A outer s H vs Q E hr h => ?_
  obtain ⟨t, h1, h2⟩ := hb cdv A outer s H E hr
  exact ⟨t, h1, law_done (x := x) (qual := qual) (st := st) (f := f) (fd := fd) (k := k) (z := z) (m := fun _ => m) (tok := 0) hG hcs (fun _ => pl) h2 h⟩
/-- a def that may raise -/
theorem fnX_I {x qual : Str} {st : Stmt} {f : Addr} {fd : FuncData} {N ps : List Str} {k : Nat} {m : XM} (F : Fun K x qual st f fd) (S : FnScope N ps (defScope st))
    (hb : ∀ (cdv : Value) (A : Around) (outer : List Env) (s : Shared) (H : Hp) (E : XK), Room k (A.deeper (envOfC qual (defScope st) s.heap.objs.size f cdv)) →
      ∃ t, PSs (cxOf (L2.CX P w) P w K mg base N qual (defScope st) f cdv A outer s H E) (defBody st) t ∧ SndXS G E t m) :
    FnOk P w K mg base (L2.CX P w) (k + 1) f fd ps (spX G ps.length (denX N.length ps.length m)) := by
  refine F.okX S (fun vs H Q E h => h.1) fun cdv A outer s H vs Q E hr h => ?_
  obtain ⟨t, h1, h2⟩ := hb cdv A outer s H E hr
  exact ⟨t, h1, body_X h2 h⟩
end
/-! ### the end -/
/-- the ground of the head is told on -/
theorem walk_T {l : PySem.W.OpenLaw} {n k : Nat} {q : Program} {loose : List Str} {XP : (Str → Option Value) → Heap → Prop} {YP : World → Heap → Prop} {d : DefRec} {K : Params → PySem.W.Frag} {CX : World → CXT} {x : Str}
    (hn : l.most = some n) (hn2 : n ≤ sizeLine) (hdf : d.params.defaults = []) (hr : Room k callerA) (hY : ∀ (w : World) (h : Heap), YP w h → (K w.params).In h)
    (F : ∀ (w : World) (mean : ExcName → Option Value) (mg mb : Str → Option Value) (fa : Addr) (h : Heap), YP w h → (K w.params).In h → PyProof.Rows.Top q (PySem.W.looseW q loose) mean mg mb h → mg d.name = some (.ref fa) → LamX.LawAtS l w (K w.params) (CX w) k n x mg fa h)
    (hCX : ∀ (w : World) (H : Hp) (s : Shared) (e : Value) (s' : Shared), CX w [] H s (fun _ _ _ => False) e s' → False) :
    PySem.W.WalkO q loose XP YP l.row.toRowW d [] (fun f vs => PySem.call f vs) := by
  refine Att.attach_callB hn hdf fun w s₀ s₁ mg mb fa o pm cd doc a vs ns G Y ho hd hcd hmg hobj hints hlen hbits hg => ?_
  have KX := hY w _ Y
  obtain ⟨fd, cs, sp, hT, nT, C, hb, hsp, hF⟩ := F w _ mg mb fa _ Y KX G.T hmg
  exact LamX.law_callTs KX G.T.g G.T.b G.T.builtins G.T.nolimit hg hT nT C G.T.bmain hobj hints (Nat.le_trans hlen hn2) hr hF hb (fun H hH hS => hsp H a ns hlen hbits hH hS) fun H e s' => hCX w H s₁ e s'
end Yi
/-! The ten classes of exceptions, what is asked of a caught one. -/
namespace Yi
open PySem L2 Evl
/-- what the text has of the classes that are asked for -/
structure Asked (K : PySem.W.Frag) (mg : Str → Option Value) (xc : Nat → Addr) : Prop where
  ni : mg "isinstance" = none
  nv : mg "ValueError" = none
  g0 : mg "BadBell" = some (.ref (xc 0))
  g1 : mg "BadDevice" = some (.ref (xc 1))
  g2 : mg "BadHears" = some (.ref (xc 2))
  g3 : mg "BadMoment" = some (.ref (xc 3))
  g4 : mg "BadNotices" = some (.ref (xc 4))
  g5 : mg "BadPerson" = some (.ref (xc 5))
  g6 : mg "BadRules" = some (.ref (xc 6))
  g7 : mg "BadText" = some (.ref (xc 7))
  g8 : mg "IsOff" = some (.ref (xc 8))
  g9 : mg "NotRinging" = some (.ref (xc 9))
/-! ### evaluated -/
section
variable {K : PySem.W.Frag} {σ : L2.St} {H : Hp} {ta tb : TE} {a C : Addr} {d : Option Addr}
theorem ev_isx {v : V} {t : Value} {b : Bool} (ha : Ev ta σ H (.ref a)) (hb : Ev tb σ H v) (hv : ∀ u, RelV v u → u = t) (hd : d = none ∨ ∃ dd fs, d = some dd ∧ H dd = some (.xd fs)) (hk : PySem.W.kitOne K (.ref C) t = some b) : Ev (tCB (rIsx K a C d) (tCons ta (tCons tb tNil))) σ H (.bl b) :=
  ev_cb (ea_cons ha (ea_cons hb ea_nil)) fun H1 e Q q => ⟨v, t, b, rfl, hv, hd.imp id fun ⟨dd, fs, h1, h2⟩ => ⟨dd, fs, h1, e _ _ h2⟩, hk, q H1 (Evl.Ex.refl H1)⟩
theorem el_cat {l : Addr} {xs zs : List V} (ha : Ev ta σ H (.ref l)) (hl : H l = some (.lst xs)) (hb : EvL tb σ H zs) (hz : xs.length + zs.length ≤ 100000) : EvL (tOp rCat ta tb) σ H (xs ++ zs) := fun H1 e Q q =>
  ha H1 e _ fun H2 e2 => hb H2 (e.trans e2) _ fun p H3 hp e3 h3 => ⟨l, p, xs, zs, rfl, rfl, e3 _ _ (e2 _ _ (e _ _ hl)), h3, sz_of hz, fun n hn => q n _ (fresh_back (e2.trans e3) hn) ((e2.trans e3).trans (Evl.Ex.new hn)) upd_same⟩
theorem tyV_l {l : Addr} {xs : List V} (hl : H l = some (.lst xs)) : tyV K "list" (.ref l) H := by
  exact .inl ⟨rfl, xs, SqL.of hl⟩
theorem ev_cnt {l : Addr} {xs : List V} {y : V} (ha : Ev ta σ H (.ref l)) (hl : H l = some (.lst xs)) (hb : Ev tb σ H y) (fy : flatV y = true) (fx : xs.all flatV = true) : Ev (tBM K "list" (rCnt K) ta (tCons tb tNil)) σ H (.int ((xs.filter fun z => eqV z y).length : Nat)) := fun H1 e Q q =>
  ha H1 e _ fun H2 e2 => ⟨tyV_l (e2 _ _ (e _ _ hl)), hb H2 (e.trans e2) _ fun H3 e3 => ⟨l, xs, y, rfl, rfl, sq_of (e3 _ _ (e2 _ _ (e _ _ hl))), fy, fx, q H3 (e2.trans e3)⟩⟩
theorem ev_index {l : Addr} {xs : List V} {y z : V} {j : Nat} (ha : Ev ta σ H (.ref l)) (hl : H l = some (.lst xs)) (hb : Ev tb σ H y) (fy : flatV y = true) (fx : xs.all flatV = true) (hz : xs[j]? = some z) (he : eqV z y = true) (hn : ∀ (m : Nat) (z' : V), m < j → xs[m]? = some z' → eqV z' y = false) :
    Ev (tBM K "list" (rIndex K) ta (tCons tb tNil)) σ H (.int (j : Nat)) := fun H1 e Q q =>
  ha H1 e _ fun H2 e2 => ⟨tyV_l (e2 _ _ (e _ _ hl)), hb H2 (e.trans e2) _ fun H3 e3 => ⟨l, xs, y, j, z, rfl, rfl, sq_of (e3 _ _ (e2 _ _ (e _ _ hl))), fy, fx, hz, he, hn, q H3 (e2.trans e3)⟩⟩
theorem ev_xf {dd : Addr} {fs : List (Str × V)} {v : V} {f : Str} (ha : Ev ta σ H (.ref a)) (hd : d = some dd) (hx : H dd = some (.xd fs)) (hf : fs.lookup f = some v) : Ev (tXf a (.ref C) d C f ta) σ H v := fun H1 e Q q =>
  ha H1 e _ fun H2 e2 => ⟨rfl, rfl, dd, fs, v, hd, e2 _ _ (e _ _ hx), hf, q H2 e2⟩
end
def tdB (c : Nat) : List V := [.bl (decide (c = 0)), .bl (decide (c = 1)), .bl (decide (c = 2)), .bl (decide (c = 3)), .bl (decide (c = 4)), .bl (decide (c = 5)), .bl (decide (c = 6)), .bl (decide (c = 7)), .bl (decide (c = 8)), .bl (decide (c = 9))]
theorem ten {Q : Nat → Prop} (h : Q 0 ∧ Q 1 ∧ Q 2 ∧ Q 3 ∧ Q 4 ∧ Q 5 ∧ Q 6 ∧ Q 7 ∧ Q 8 ∧ Q 9) {c : Nat} (hc : c < 10) : Q c := by
  obtain ⟨h0, h1, h2, h3, h4, h5, h6, h7, h8, h9⟩ := h
  rcases (show c = 0 ∨ c = 1 ∨ c = 2 ∨ c = 3 ∨ c = 4 ∨ c = 5 ∨ c = 6 ∨ c = 7 ∨ c = 8 ∨ c = 9 by omega) with q | q | q | q | q | q | q | q | q | q <;> (subst q; assumption)
theorem tdB_cnt {c : Nat} (hc : c < 10) : ((tdB c).filter fun z => eqV z (.bl true)).length = 1 := ten (Q := fun c => ((tdB c).filter fun z => eqV z (.bl true)).length = 1) ⟨rfl, rfl, rfl, rfl, rfl, rfl, rfl, rfl, rfl, rfl⟩ hc
theorem tdB_at {c : Nat} (hc : c < 10) : (tdB c)[c]? = some (.bl true) := ten (Q := fun c => (tdB c)[c]? = some (.bl true)) ⟨rfl, rfl, rfl, rfl, rfl, rfl, rfl, rfl, rfl, rfl⟩ hc
theorem tdB_get {c m : Nat} (hm : m < 10) : (tdB c)[m]? = some (.bl (decide (c = m))) := ten (Q := fun m => (tdB c)[m]? = some (.bl (decide (c = m)))) ⟨rfl, rfl, rfl, rfl, rfl, rfl, rfl, rfl, rfl, rfl⟩ hm
theorem tdW_at {c : Nat} (hc : c < 10) : atI ([.str "BadBell", .str "BadDevice", .str "BadHears", .str "BadMoment", .str "BadNotices", .str "BadPerson", .str "BadRules", .str "BadText"] ++ [.str "IsOff", .str "NotRinging"] : List V) (c : Int) = some (.str (tdW c)) :=
  ten (Q := fun c => atI ([.str "BadBell", .str "BadDevice", .str "BadHears", .str "BadMoment", .str "BadNotices", .str "BadPerson", .str "BadRules", .str "BadText"] ++ [.str "IsOff", .str "NotRinging"] : List V) (c : Int) = some (.str (tdW c))) ⟨rfl, rfl, rfl, rfl, rfl, rfl, rfl, rfl, rfl, rfl⟩ hc
theorem tdW_6 {c : Nat} (hc : c < 10) : decide (V.str (tdW c) = .str "BadRules") = decide (c = 6) := ten (Q := fun c => decide (V.str (tdW c) = .str "BadRules") = decide (c = 6)) (by decide +kernel) hc
theorem tdW_7 {c : Nat} (hc : c < 10) : decide (V.str (tdW c) = .str "BadText") = decide (c = 7) := ten (Q := fun c => decide (V.str (tdW c) = .str "BadText") = decide (c = 7)) (by decide +kernel) hc
theorem tdW_n {c : Nat} (hc : c < 10) : inV (V.str (tdW c)) [.str "BadNotices", .str "BadHears"] = decide (c = 2 ∨ c = 4) := ten (Q := fun c => inV (V.str (tdW c)) [.str "BadNotices", .str "BadHears"] = decide (c = 2 ∨ c = 4)) (by decide +kernel) hc
structure NoF (K : PySem.W.Frag) (C : Addr) : Prop where
  p : PySem.W.findIn K (.ref C) "person" = some none
  q : PySem.W.findIn K (.ref C) "part" = some none
  r : PySem.W.findIn K (.ref C) "row" = some none
  n : PySem.W.findIn K (.ref C) "number" = some none
/-- what holds of the ten classes -/
structure Ten (K : PySem.W.Frag) (xc : Nat → Addr) (NE : Addr) : Prop where
  xk : ∀ c, c < 10 → XkC K (xc c)
  xf : ∀ c, c < 10 → XfC K (xc c)
  no : ∀ c, c < 10 → NoF K (xc c)
  is_ : ∀ c j, c < 10 → j < 10 → PySem.W.kitOne K (.ref (xc c)) (.ref (xc j)) = some (decide (c = j))
  ve : ∀ c, c < 10 → PySem.W.kitOne K (.ref (xc c)) (.type "ValueError") = some true
  ne : ∀ c, c < 10 → PySem.W.exmOne K (.ref (xc c)) (.ref NE) = some true
def xcOf (a b c d e f g h i j : Addr) : Nat → Addr
  | 0 => a | 1 => b | 2 => c | 3 => d | 4 => e | 5 => f | 6 => g | 7 => h | 8 => i | 9 => j | _ => 0
def noB (K : PySem.W.Frag) (C : Addr) : Bool :=
  decide (PySem.W.findIn K (.ref C) "person" = some none) && (decide (PySem.W.findIn K (.ref C) "part" = some none) && (decide (PySem.W.findIn K (.ref C) "row" = some none) && decide (PySem.W.findIn K (.ref C) "number" = some none)))
theorem noB_ok {K : PySem.W.Frag} {C : Addr} (h : noB K C = true) : NoF K C := by
  unfold noB at h
  simp only [Bool.and_eq_true, decide_eq_true_eq] at h
  exact ⟨h.1, h.2.1, h.2.2.1, h.2.2.2⟩
def tenB (K : PySem.W.Frag) (xc : Nat → Addr) (NE : Addr) : Bool :=
  (List.range 10).all fun c => xkB K (xc c) && (xfB K (xc c) && (noB K (xc c) && ((List.range 10).all (fun j => decide (PySem.W.kitOne K (.ref (xc c)) (.ref (xc j)) = some (decide (c = j)))) &&
    (decide (PySem.W.kitOne K (.ref (xc c)) (.type "ValueError") = some true) && decide (PySem.W.exmOne K (.ref (xc c)) (.ref NE) = some true)))))
theorem tenB_ok {K : PySem.W.Frag} {xc : Nat → Addr} {NE : Addr} (h : tenB K xc NE = true) : Ten K xc NE := by
  unfold tenB at h
  have h := fun c (hc : c < 10) => List.all_eq_true.mp h c (List.mem_range.mpr hc)
  simp only [Bool.and_eq_true, decide_eq_true_eq] at h
  exact ⟨fun c hc => xkB_ok (h c hc).1, fun c hc => xfB_ok (h c hc).2.1, fun c hc => noB_ok (h c hc).2.2.1, fun c j hc hj => of_decide_eq_true (List.all_eq_true.mp (h c hc).2.2.2.1 j (List.mem_range.mpr hj)), fun c hc => (h c hc).2.2.2.2.1, fun c hc => (h c hc).2.2.2.2.2⟩
end Yi
set_option maxHeartbeats 1000000
/-! Exceptions with an own __init__; objects made, calls by keywords, that may raise; a maker's one work, told. -/
namespace Yi
open PySem PySem.Spec PyProof.Rows L2
/-! ### the __init__ of an own exception -/
section
variable {X : Cx} {e : Expr} {es : List Expr} {ta : TA} {p1 p2 pos : Pos} {x : Str} {NE : Addr}
/-- what the text has of the class on which they hang -/
structure NeC (K : PySem.W.Frag) (NE : Addr) : Prop where
  ga : PySem.W.specialIn K (.ref NE) "__getattribute__" = some (some (.builtin "type.__getattribute__"))
  rd : PySem.W.readsIn K NE (.type "type") = true
  fi : PySem.W.findCls K (.ref NE) (.type "type") "__init__" = some (.val (.builtin "ValueError.__init__"))
theorem pe_neinit {pl : Sem Bool} (N : NeC X.K NE) (hg : Gl X x) (hm : X.mg x = some (.ref NE)) (ha : PA X (e :: es) ta)
    (hdb : (x == ("__debug__" : Str)) = false := by decide)
    (hc : eval (.Call (.Attribute (.Name x p1) "__init__" p2) (e :: es) [] pos) X.env = (do
      let ov ← eval (.Name x p1) X.env
      standAt p2.atName
      let (f, first) ← holding [ov] (getMethod ov "__init__" pl)
      callWith pos f first (backTo pos (starEach (e :: es) X.env)) (backToKw pos (keywordEach [] X.env))) := by rfl)
    (he : starEach (e :: es) X.env = (false, eval e X.env) :: starEach es X.env := by rfl) (hpl : (backTo pos (starEach es X.env)).any (·.1) = false := by rfl) :
    PE X (.Call (.Attribute (.Name x p1) "__init__" p2) (e :: es) [] pos) (tVeI X.K ta) := by
  constructor
  intro pins s σ H Q I h
  refine PySem.W.methodCall_KW (ld_glob I hg hm ?_ hdb) hc
  refine PySem.W.method_cls I.kIn N.ga (PySem.W.cls_value I.kIn N.rd N.fi (by decide +kernel) ?_)
  show wpAny _ _ (callWith pos (Value.builtin "ValueError.__init__") [] (backTo pos (starEach (e :: es) X.env)) []) _ _ _
  refine PyProof.Rows.callWith_method1 (thn (ha.run pos pins _ σ H _ (I.tok _) h) ?_) he hpl
  rintro us s1 ⟨vs, H1, I1, r1, a, C, ws, ev, hl, T, ea, q⟩
  subst ev
  cases r1 with
  | @cons _ u0 _ ur ra rw' =>
    cases (show u0 = Value.ref a from ra)
    have hlen : ur.length ≤ sizeLine := by
      rw [← Paired.length rw', sizeLine_eq]
      omega
    exact oinit_ok T I1 ea hlen fun s' J => ⟨.non, H1, J, rfl, q⟩
end
/-- such a class with its own __init__, of fields fs -/
def oexB (K : PySem.W.Frag) (C : Addr) : Bool := match K.lookup C with
  | some ⟨.type "type", _, .cls cd, sl⟩ => (match cd.mro, sl.toList with
    | .ref C' :: bm, [_, _, _, _, some (.builtin n), _] => (C' == C && (n == "ValueError.__new__" && (!cd.hasDel && (cd.hasDict && PySem.HandSPX.refsVE bm)))) &&
      (decide (PySem.W.findIn K (.ref C) "__setattr__" = some (some (.builtin "object.__setattr__"))) && (decide (PySem.W.subIn K (.ref C) (.type "BaseException") = some true) && (decide (PySem.W.typeIn K (.ref C) = some (.type "type")) && PySem.W.keepIn K (.ref C))))
    | _, _ => false)
  | _ => false
theorem oexB_ok {K : PySem.W.Frag} {C : Addr} (q : oexB K C = true) : OexC K C := by
  unfold oexB at q
  split at q
  · rename_i dd cd sl ho
    split at q
    · rename_i C' bm k0 k1 k2 k3 n k5 hm hs
      simp only [Bool.and_eq_true, beq_iff_eq, Bool.not_eq_true', decide_eq_true_eq] at q
      obtain ⟨⟨rfl, rfl, hdel, hdic, hve⟩, h1, h2, h3, h4⟩ := q
      obtain ⟨nm, bs, mro, ns, qn, hd, sn, sub, ab, col, del⟩ := cd
      dsimp only at hm hdel hdic
      subst hm hdel hdic
      have hsl : sl = #[k0, k1, k2, k3, some (.builtin "ValueError.__new__"), k5] := by
        obtain ⟨l⟩ := sl
        simp only at hs
        rw [hs]
      subst hsl
      exact ⟨⟨nm, qn, ns, bs, bm, sn, sub, ab, col, dd, k0, k1, k2, k3, k5, ho, hve⟩, h1, h2, h3, h4⟩
    · cases q
  · cases q
/-- its promise: one field, two -/
def spEx1 (C : Addr) (f : Str) : Sp := fun vs H Q _ => ∃ (a : Addr) (y : V), vs = [.ref a, y] ∧ H a = some (exo a C none) ∧ ∀ dx, H dx = none → dx ≠ a → Q .non (upd (upd H dx (exd dx [(f, y)])) a (exo a C (some dx)))
def spEx2 (C : Addr) (f g : Str) : Sp := fun vs H Q _ => ∃ (a : Addr) (y z : V), vs = [.ref a, y, z] ∧ H a = some (exo a C none) ∧ ∀ dx, H dx = none → dx ≠ a → Q .non (upd (upd (upd H dx (exd dx [(f, y)])) a (exo a C (some dx))) dx (exd dx [(g, z), (f, y)]))
section
variable {K : PySem.W.Frag} {C : Addr} {f g m : Str} {N : List Str} {vs : List V} {H : Hp} {Q : VK} {E : XK}
theorem ex1_run (T : OexC K C) (hf : PySem.W.findIn K (.ref C) f = some none) (hN : N.length = 2) (h : spEx1 C f vs H Q E) :
    tSeq (tDrop (tVeI K (tCons (tVar 0) (tCons (tC (.str m)) tNil)))) (tOst K f (tVar 0) (tVar 1)) { nx := fun _ H' => Q .non H', rt := Q } (L2.start N vs) H := by
  obtain ⟨a, y, rfl, ha, q⟩ := h
  have e0 : (L2.start N [.ref a, y])[0]? = some (some (.ref a)) := rfl
  have e1 : (L2.start N [.ref a, y])[1]? = some (some y) := rfl
  exact ⟨.ref a, e0, a, C, [.str m], rfl, by simp, T, ha, y, e1, .ref a, e0, a, C, rfl, T, hf, .inl ⟨ha, q⟩⟩
theorem ex2_run (T : OexC K C) (hf : PySem.W.findIn K (.ref C) f = some none) (hg : PySem.W.findIn K (.ref C) g = some none) (hN : N.length = 3) (h : spEx2 C f g vs H Q E) :
    tSeq (tDrop (tVeI K (tCons (tVar 0) (tCons (tC (.str m)) tNil)))) (tSeq (tOst K f (tVar 0) (tVar 1)) (tOst K g (tVar 0) (tVar 2))) { nx := fun _ H' => Q .non H', rt := Q } (L2.start N vs) H := by
  obtain ⟨a, y, z, rfl, ha, q⟩ := h
  have e0 : (L2.start N [.ref a, y, z])[0]? = some (some (.ref a)) := rfl
  have e1 : (L2.start N [.ref a, y, z])[1]? = some (some y) := rfl
  have e2 : (L2.start N [.ref a, y, z])[2]? = some (some z) := rfl
  refine ⟨.ref a, e0, a, C, [.str m], rfl, by simp, T, ha, y, e1, .ref a, e0, a, C, rfl, T, hf, .inl ⟨ha, fun dx hd hne => ?_⟩⟩
  refine ⟨z, e2, .ref a, e0, a, C, rfl, T, hg, .inr ⟨dx, [(f, y)], upd_same, ?_, by simp, q dx hd hne⟩⟩
  rw [upd_ne hne, upd_same]
end
/-! ### raised -/
def xRi (c : Nat) (fs : List Str) (a : AM) : XM := fun ρ S => (a ρ S).bind fun p => if p.1.length = fs.length then some (.inr (⟨c, (fs.zip p.1).reverse⟩, p.2)) else none
section
variable {G : Gm} {E : XK} {C : Addr} {c : Nat} {f g : Str} {t : TA} {m : AM}
theorem upd_del {H : Hp} {a d : Addr} {u : HO} {H2 : Hp} (hn : H a = none) (he : ∀ b, b ≠ a → b ≠ d → H2 b = H b) (hd : d ≠ a) : upd (del H2 a) d u = upd H d u := by
  funext b
  by_cases h1 : b = d
  · rw [h1, upd_same, upd_same]
  · rw [upd_ne h1, upd_ne h1]
    by_cases h2 : b = a
    · rw [h2, del_same, hn]
    · rw [del_ne h2, he b h2 h1]
theorem snd_xri1 (hC : C = G.xc c) (h : SndA G t m) : SndXS G E (fun _ σ H => tMkO C (spEx1 C f) [] t σ H fun cls d H' => E cls d H') (xRi c [f] m) := by
  intro F ι S ρ σ H o s e D k
  unfold xRi at e
  obtain ⟨⟨ds, S1⟩, e1, e⟩ := Option.bind_eq_some_iff.mp e
  dsimp only at e
  split at e
  · rename_i hl
    cases e
    obtain ⟨d1, rfl⟩ : ∃ d1, ds = [d1] := by
      match ds, hl with
      | [d1], _ => exact ⟨d1, rfl⟩
    refine h s e1 _ fun F1 ι1 H1 vs s1 p1 rs => ?_
    obtain ⟨y, r, rfl, r1, rs2⟩ := rds_cons.mp rs
    rw [rds_nil] at rs2
    subst rs2
    refine ⟨by simp, fun a ha => ⟨a, y, rfl, upd_same, fun dx hd hne => ?_⟩⟩
    have hd1 : H1 dx = none := by rw [upd_ne hne] at hd; exact hd
    refine ⟨rfl, dx, [(f, y)], upd_same, by rw [upd_ne hne, upd_same], hd1, ?_⟩
    rw [upd_del (H := H1) ha (fun b h1 h2 => by rw [upd_ne h1, upd_ne h2, upd_ne h1]) hne]
    obtain ⟨r2, p2⟩ := s1.rep.newO (o := .xd [(f, y)]) hd1
    refine k F1 ι1 _ _ _ r2 ((p1.trans p2).own fun _ z => z.elim) ⟨by rw [hC], .inr ⟨dx, _, rfl, upd_same, ?_⟩⟩
    exact ⟨y, [], rfl, r1, rfl⟩
  · cases e
theorem snd_xri2 (hC : C = G.xc c) (h : SndA G t m) : SndXS G E (fun _ σ H => tMkO C (spEx2 C f g) [] t σ H fun cls d H' => E cls d H') (xRi c [f, g] m) := by
  intro F ι S ρ σ H o s e D k
  unfold xRi at e
  obtain ⟨⟨ds, S1⟩, e1, e⟩ := Option.bind_eq_some_iff.mp e
  dsimp only at e
  split at e
  · rename_i hl
    cases e
    obtain ⟨d1, d2, rfl⟩ : ∃ d1 d2, ds = [d1, d2] := by
      match ds, hl with
      | [d1, d2], _ => exact ⟨d1, d2, rfl⟩
    refine h s e1 _ fun F1 ι1 H1 vs s1 p1 rs => ?_
    obtain ⟨y, r, rfl, r1, rs2⟩ := rds_cons.mp rs
    obtain ⟨z, r, rfl, r2, rs3⟩ := rds_cons.mp rs2
    rw [rds_nil] at rs3
    subst rs3
    refine ⟨by simp, fun a ha => ⟨a, y, z, rfl, upd_same, fun dx hd hne => ?_⟩⟩
    have hd1 : H1 dx = none := by rw [upd_ne hne] at hd; exact hd
    refine ⟨rfl, dx, [(g, z), (f, y)], by rw [upd_ne (Ne.symm hne), upd_same], upd_same, hd1, ?_⟩
    rw [upd_del (H := H1) ha (fun b h1 h2 => by rw [upd_ne h2, upd_ne h1, upd_ne h2, upd_ne h1]) hne]
    obtain ⟨rn, pn⟩ := s1.rep.newO (o := .xd [(g, z), (f, y)]) hd1
    refine k F1 ι1 _ _ _ rn ((p1.trans pn).own fun _ z => z.elim) ⟨by rw [hC], .inr ⟨dx, _, rfl, upd_same, ?_⟩⟩
    exact ⟨z, _, rfl, r2, y, [], rfl, r1, rfl⟩
  · cases e
/-! ### objects made, calls by keywords -/
def xMake (c : Nat) (f : DenX) (a : AM) (dds : List D) : XEM := fun ρ S => (a ρ S).bind fun p => (f (.ref p.2.length :: (p.1 ++ dds)) (p.2 ++ [.ins c []])).bind fun q => match q with
  | .inl (.d .non, S') => some (.inl (.d (.ref p.2.length), S'))
  | .inl _ => none
  | .inr x => some (.inr x)
theorem snd_xmake {c : Nat} {f : DenX} {np : Nat} {t : TA} {a : AM} {dvs : List V} {dds : List D} (h : SndA G t a) (hd : ∀ F ι, RDs G F ι dds dvs) (hn : ∀ ds S o, f ds S = some o → ds.length = np) :
    SndXV G E (tMake (G.cl c) (spX G np f) dvs E t) (xMake c f a dds) := by
  intro F ι S ρ σ H o s e Q k
  unfold xMake at e
  obtain ⟨⟨ds, S1⟩, e1, e⟩ := Option.bind_eq_some_iff.mp e
  obtain ⟨u, e2, e⟩ := Option.bind_eq_some_iff.mp e
  refine h s e1 _ fun F1 ι1 H1 vs s1 p1 rs x dx hx hdx hne => ?_
  obtain ⟨r2, p2⟩ := s1.rep.newO (o := .own x) hdx
  have hx2 : upd H1 dx (.own x) x = none := by rw [upd_ne (Ne.symm hne)]; exact hx
  obtain ⟨r3, p3⟩ := r2.newO (o := .ins (G.cl c) dx []) hx2
  have r4 := r3.box (c := .ins c []) upd_same ⟨dx, [], rfl, rfl⟩ (s1.rep.noF hx) (s1.rep.noI hx)
  have p4 : Stx F1 ι1 H1 F1 (ι1 ++ [x]) (upd (upd H1 dx (.own x)) x (.ins (G.cl c) dx [])) := by
    have pp := p2.trans p3
    exact ⟨pp.exF, List.prefix_append _ _, pp.fr, pp.nF, fun b hb => by
      rcases List.mem_append.mp hb with z | z
      · exact .inl z
      · have : b = x := by simpa using z
        subst this
        exact .inr (.inl hx), pp.nO, pp.dom, pp.fz⟩
  have rx : RD G F1 (ι1 ++ [x]) (.ref S1.length) (.ref x) := by
    simp only [RD]
    exact ⟨x, rfl, by rw [← s1.rep.len, List.getElem?_append_right (Nat.le_refl _), Nat.sub_self]; rfl⟩
  have rs2 : RDs G F1 (ι1 ++ [x]) (.ref S1.length :: (ds ++ dds)) (.ref x :: (vs ++ dvs)) := rds_cons.mpr ⟨_, _, rfl, rx, (rs.mono (Same.refl _) (List.prefix_append _ _)).app (hd _ _)⟩
  refine ⟨by rw [← rs2.len]; exact hn _ _ _ e2, F1, ι1 ++ [x], _, _, u, r4, rs2, e2, ?_⟩
  rcases u with ⟨w, S2⟩ | ⟨e0, S2⟩
  · intro F' ι' H' v r' p' rv
    match w, e, rv with
    | .d .non, e, rv =>
      cases e
      simp only [RV, RD] at rv
      have pp := p4.trans p'
      exact ⟨rv, k F' ι' H' _ (s1.after r' pp).1 (p1.trans pp) (rx.mono p'.exF p'.pre)⟩
  · cases e
    exact fun F' ι' H' cls d r' p' rx' => k F' ι' H' cls d r' (p1.trans (p4.trans p')) rx'
def xCallN (f : DenX) (n m : Nat) (gD : List D → List D → List D) (a b : AM) : XEM := fun ρ S => (a ρ S).bind fun p => (b ρ p.2).bind fun q => if p.1.length = n ∧ q.1.length = m then f (gD p.1 q.1) q.2 else none
theorem snd_xcallN {f : DenX} {np n m : Nat} {t tk : TA} {ma mk : AM} {gV : List V → List V → List V} {gD : List D → List D → List D} (h : SndA G t ma) (hk : SndA G tk mk) (hg : ∀ F ι ds es vs zs, RDs G F ι ds vs → RDs G F ι es zs → RDs G F ι (gD ds es) (gV vs zs))
    (hn : ∀ ds S o, f ds S = some o → ds.length = np) : SndXV G E (tCallN n m (spX G np f) gV E t tk) (xCallN f n m gD ma mk) := by
  intro F ι S ρ σ H o s e Q k
  unfold xCallN at e
  obtain ⟨⟨ds, S1⟩, e1, e⟩ := Option.bind_eq_some_iff.mp e
  obtain ⟨⟨es, S2⟩, e2, e⟩ := Option.bind_eq_some_iff.mp e
  dsimp only at e
  split at e
  · rename_i hl
    refine h s e1 _ fun F1 ι1 H1 vs s1 p1 rs => ?_
    refine hk s1 e2 _ fun F2 ι2 H2 zs s2 p2 rz => ?_
    have rs2 := hg F2 ι2 _ _ _ _ (rs.mono p2.exF p2.pre) rz
    have pp := p1.trans p2
    refine ⟨by rw [← rs.len]; exact hl.1, by rw [← rz.len]; exact hl.2, by rw [← rs2.len]; exact hn _ _ _ e, F2, ι2, S2, _, o, s2.rep, rs2, e, ?_⟩
    rcases o with ⟨w, S3⟩ | ⟨e0, S3⟩
    · exact fun F' ι' H' v r' p' rv => k F' ι' H' v (s2.after r' p').1 (pp.trans p') (rv.back pp.back)
    · exact fun F' ι' H' cls d r' p' rx => k F' ι' H' cls d r' (pp.trans p') rx
  · cases e
end
end Yi
/-! x is not True. -/
namespace Yi
open PySem PySem.Spec PyProof.Rows L2
def rNotT : R2 := fun x y H Q => y = .bl true ∧ (x = .non ∨ (∃ i, x = .int i) ∨ ∃ b, x = .bl b) ∧ Q (.bl (!decide (x = .bl true))) H
theorem op_notT {X : Cx} : OpR X (compareOp .IsNot) rNotT := by
  intro pins s σ H x y v u Q I rx ry h
  obtain ⟨rfl, hx, q⟩ := h
  cases (show u = Value.bool true from ry)
  rcases hx with rfl | ⟨i, rfl⟩ | ⟨b, rfl⟩
  · cases (show v = Value.none from rx)
    exact wpAny_isNot_other rfl (fun z => by cases z) ⟨.bl true, H, I, rfl, by simpa using q⟩
  · obtain ⟨t, rfl⟩ := (show ∃ t, v = Value.int i t from rx)
    exact wpAny_isNot_other rfl (fun z => by cases z) ⟨.bl true, H, I, rfl, by simpa using q⟩
  · cases (show v = Value.bool b from rx)
    cases b with
    | true => exact wpAny_isNot_self rfl ⟨.bl false, H, I, rfl, by simpa using q⟩
    | false => exact wpAny_isNot_other rfl (fun z => by cases z) ⟨.bl true, H, I, rfl, by simpa using q⟩
def fNotT : D → D → Sto → Option VV := fun x y _ => match y, x with
  | .bl true, .non => some (.d (.bl true))
  | .bl true, .int _ => some (.d (.bl true))
  | .bl true, .bl b => some (.d (.bl (!b)))
  | _, _ => none
theorem snd_notT {G : Gm} : SndR2 G rNotT fNotT := by
  intro F ι S H x y vx vy w r rx ry e Q k
  unfold fNotT at e
  split at e
  · cases e
    simp only [RD] at rx ry
    subst rx ry
    exact ⟨rfl, .inl rfl, k F H _ r .refl (by simp [RV, RD])⟩
  · cases e
    simp only [RD] at rx ry
    subst rx ry
    exact ⟨rfl, .inr (.inl ⟨_, rfl⟩), k F H _ r .refl (by simp [RV, RD])⟩
  · cases e
    simp only [RD] at rx ry
    subst rx ry
    refine ⟨rfl, .inr (.inr ⟨_, rfl⟩), k F H _ r .refl ?_⟩
    rename_i b
    cases b <;> simp [RV, RD]
  · cases e
end Yi
namespace Wk
open PySem L2 Yi
noncomputable section
/-! ### the text by places -/
def top (i : Nat) : Stmt := PySem.Challenge.pw_hushnotice_k02_hours.main.body.getD i (.Pass ⟨0, 0, 0, 0⟩)
abbrev s_is_number : Stmt := top 23
abbrev n_is_number : List Str := ["part", "low", "high"]
theorem sc_is_number : FnScope n_is_number ["part", "low", "high"] (defScope s_is_number) := ⟨rfl, rfl, rfl, by decide +kernel, rfl, by decide +kernel, by decide +kernel⟩
abbrev s_is_stretch : Stmt := top 25
abbrev n_is_stretch : List Str := ["pair"]
theorem sc_is_stretch : FnScope n_is_stretch ["pair"] (defScope s_is_stretch) := ⟨rfl, rfl, rfl, by decide +kernel, rfl, by decide +kernel, by decide +kernel⟩
abbrev s_is_gathered : Stmt := top 26
abbrev n_is_gathered : List Str := ["pair"]
theorem sc_is_gathered : FnScope n_is_gathered ["pair"] (defScope s_is_gathered) := ⟨rfl, rfl, rfl, by decide +kernel, rfl, by decide +kernel, by decide +kernel⟩
abbrev s_are_pairs : Stmt := top 24
abbrev n_are_pairs : List Str := ["some", "most", "is_good", "pair"]
theorem sc_are_pairs : FnScope n_are_pairs ["some", "most", "is_good"] (defScope s_are_pairs) := ⟨rfl, rfl, rfl, by decide +kernel, rfl, by decide +kernel, by decide +kernel⟩
abbrev s_bad_part : Stmt := top 27
abbrev n_bad_part : List Str := ["rule", "many", "kinds", "good", "hushed", "least", "gather", "wait", "further", "pair"]
theorem sc_bad_part : FnScope n_bad_part ["rule", "many"] (defScope s_bad_part) := ⟨rfl, rfl, rfl, by decide +kernel, rfl, by decide +kernel, by decide +kernel⟩
abbrev s_need_rules : Stmt := top 28
abbrev n_need_rules : List Str := ["rules", "person", "rule", "part"]
theorem sc_need_rules : FnScope n_need_rules ["rules"] (defScope s_need_rules) := ⟨rfl, rfl, rfl, by decide +kernel, rfl, by decide +kernel, by decide +kernel⟩
abbrev s_need_person : Stmt := top 29
abbrev n_need_person : List Str := ["rules", "person"]
theorem sc_need_person : FnScope n_need_person ["rules", "person"] (defScope s_need_person) := ⟨rfl, rfl, rfl, by decide +kernel, rfl, by decide +kernel, by decide +kernel⟩
abbrev s_need_moment : Stmt := top 30
abbrev n_need_moment : List Str := ["moment"]
theorem sc_need_moment : FnScope n_need_moment ["moment"] (defScope s_need_moment) := ⟨rfl, rfl, rfl, by decide +kernel, rfl, by decide +kernel, by decide +kernel⟩
abbrev s_is_in : Stmt := top 31
abbrev n_is_in : List Str := ["stretch", "hour", "begin", "end"]
theorem sc_is_in : FnScope n_is_in ["stretch", "hour"] (defScope s_is_in) := ⟨rfl, rfl, rfl, by decide +kernel, rfl, by decide +kernel, by decide +kernel⟩
abbrev s_hush_at : Stmt := top 32
abbrev n_hush_at : List Str := ["rule", "moment", "stretch"]
theorem sc_hush_at : FnScope n_hush_at ["rule", "moment"] (defScope s_hush_at) := ⟨rfl, rfl, rfl, by decide +kernel, rfl, by decide +kernel, by decide +kernel⟩
abbrev s_is_hushed : Stmt := top 34
abbrev n_is_hushed : List Str := ["rules", "person", "moment"]
theorem sc_is_hushed : FnScope n_is_hushed ["rules", "person", "moment"] (defScope s_is_hushed) := ⟨rfl, rfl, rfl, by decide +kernel, rfl, by decide +kernel, by decide +kernel⟩
abbrev s_free_at : Stmt := top 33
abbrev n_free_at : List Str := ["rule", "moment", "some", "later"]
theorem sc_free_at : FnScope n_free_at ["rule", "moment"] (defScope s_free_at) := ⟨rfl, rfl, rfl, by decide +kernel, rfl, by decide +kernel, by decide +kernel⟩
abbrev s_free_from : Stmt := top 35
abbrev n_free_from : List Str := ["rules", "person", "moment"]
theorem sc_free_from : FnScope n_free_from ["rules", "person", "moment"] (defScope s_free_from) := ⟨rfl, rfl, rfl, by decide +kernel, rfl, by decide +kernel, by decide +kernel⟩
abbrev s_hushed_between : Stmt := top 36
abbrev n_hushed_between : List Str := ["rules", "person", "begin", "end", "rule", "each", "days", "left", "hour", "moment"]
theorem sc_hushed_between : FnScope n_hushed_between ["rules", "person", "begin", "end"] (defScope s_hushed_between) := ⟨rfl, rfl, rfl, by decide +kernel, rfl, by decide +kernel, by decide +kernel⟩
abbrev s_law_begun : Stmt := top 38
abbrev n_law_begun : List Str := ["_law_script", "_law_stirred", "_law_cell"]
theorem sc_law_begun : FnScope n_law_begun ["_law_script"] (defScope s_law_begun) := ⟨rfl, rfl, rfl, by decide +kernel, rfl, by decide +kernel, by decide +kernel⟩
abbrev s_law_take : Stmt := top 39
abbrev n_law_take : List Str := ["_law_box", "_law_many", "_law_number"]
theorem sc_law_take : FnScope n_law_take ["_law_box", "_law_many"] (defScope s_law_take) := ⟨rfl, rfl, rfl, by decide +kernel, rfl, by decide +kernel, by decide +kernel⟩
abbrev s_law_alike : Stmt := top 40
abbrev n_law_alike : List Str := ["_law_found", "_law_due", "_law_k"]
theorem sc_law_alike : FnScope n_law_alike ["_law_found", "_law_due"] (defScope s_law_alike) := ⟨rfl, rfl, rfl, by decide +kernel, rfl, by decide +kernel, by decide +kernel⟩
abbrev s_law_stretches : Stmt := top 43
abbrev n_law_stretches : List Str := ["_law_box", "_law_found", "_law_turn", "_law_begin"]
theorem sc_law_stretches : FnScope n_law_stretches ["_law_box"] (defScope s_law_stretches) := ⟨rfl, rfl, rfl, by decide +kernel, rfl, by decide +kernel, by decide +kernel⟩
abbrev s_law_rule : Stmt := top 44
abbrev n_law_rule : List Str := ["_law_box", "_law_many", "_law_gather", "_law_kind", "_law_wait", "_law_further"]
theorem sc_law_rule : FnScope n_law_rule ["_law_box", "_law_many"] (defScope s_law_rule) := ⟨rfl, rfl, rfl, by decide +kernel, rfl, by decide +kernel, by decide +kernel⟩
abbrev s_law_rules : Stmt := top 45
abbrev n_law_rules : List Str := ["_law_box", "_law_many", "_law_person"]
theorem sc_law_rules : FnScope n_law_rules ["_law_box"] (defScope s_law_rules) := ⟨rfl, rfl, rfl, by decide +kernel, rfl, by decide +kernel, by decide +kernel⟩
abbrev s_law_hush : Stmt := top 46
abbrev n_law_hush : List Str := ["_law_rule_here", "_law_moment", "_law_hour", "_law_some", "_law_begin", "_law_end"]
theorem sc_law_hush : FnScope n_law_hush ["_law_rule_here", "_law_moment"] (defScope s_law_hush) := ⟨rfl, rfl, rfl, by decide +kernel, rfl, by decide +kernel, by decide +kernel⟩
abbrev s_law_is_refused : Stmt := top 47
abbrev n_law_is_refused : List Str := ["_law_box", "_law_rules_here", "_law_moment", "_law_far", "_law_out", "_law_ago", "_law_works"]
theorem sc_law_is_refused : FnScope n_law_is_refused ["_law_box", "_law_rules_here", "_law_moment"] (defScope s_law_is_refused) := ⟨rfl, rfl, rfl, by decide +kernel, rfl, by decide +kernel, by decide +kernel⟩
abbrev s_law : Stmt := top 48
abbrev n_law : List Str := ["_law_script", "_law_box", "_law_turn", "_law_rules_here", "_law_person", "_law_begin", "_law_end", "_law_day", "_law_free", "_law_many", "_law_again", "_law_found", "_law_hour", "_law_moment"]
theorem sc_law : FnScope n_law ["_law_script"] (defScope s_law) := ⟨rfl, rfl, rfl, by decide +kernel, rfl, by decide +kernel, by decide +kernel⟩
/-! ### lambdas -/
abbrev e_lam_0 : Expr := (exI 0 (stE ((defBody s_law_is_refused).getD 3 noS)))
abbrev lam_0 : LamD := lamD (("_law_is_refused" : Str) ++ ".<locals>." : Str) s_law_is_refused n_law_is_refused none e_lam_0
theorem lamok_0 : LamOk lam_0 := lamOk_by (by decide +kernel)
theorem lambind_0 : LamBind lam_0 := bind_none rfl fun _ _ _ _ _ => rfl
abbrev e_lam_1 : Expr := (exI 1 (stE ((defBody s_law_is_refused).getD 3 noS)))
abbrev lam_1 : LamD := lamD (("_law_is_refused" : Str) ++ ".<locals>." : Str) s_law_is_refused n_law_is_refused (some 0) e_lam_1
theorem lamok_1 : LamOk lam_1 := lamOk_by (by decide +kernel)
theorem lambind_1 : LamBind lam_1 := bind_one (k := 0) (x := "_law_a") rfl rfl fun s cl a o n tk doc pm cv ctv h1 h2 => PySem.BindsTo.of_defaults rfl h1 h2 rfl rfl
abbrev e_lam_2 : Expr := (exI 0 (exI 1 (exI 1 (exI 0 (stE ((defBody s_law_is_refused).getD 4 noS))))))
abbrev lam_2 : LamD := lamD (("_law_is_refused" : Str) ++ ".<locals>." : Str) s_law_is_refused n_law_is_refused (some 0) e_lam_2
theorem lamok_2 : LamOk lam_2 := lamOk_by (by decide +kernel)
theorem lambind_2 : LamBind lam_2 := bind_one (k := 0) (x := "_law_b") rfl rfl fun s cl a o n tk doc pm cv ctv h1 h2 => PySem.BindsTo.of_defaults rfl h1 h2 rfl rfl
abbrev e_lam_3 : Expr := (exI 0 (stE ((defBody s_law_is_refused).getD 5 noS)))
abbrev lam_3 : LamD := lamD (("_law_is_refused" : Str) ++ ".<locals>." : Str) s_law_is_refused n_law_is_refused none e_lam_3
theorem lamok_3 : LamOk lam_3 := lamOk_by (by decide +kernel)
theorem lambind_3 : LamBind lam_3 := bind_none rfl fun _ _ _ _ _ => rfl
abbrev e_lam_4 : Expr := (exI 1 (stE ((defBody s_law_is_refused).getD 5 noS)))
abbrev lam_4 : LamD := lamD (("_law_is_refused" : Str) ++ ".<locals>." : Str) s_law_is_refused n_law_is_refused (some 0) e_lam_4
theorem lamok_4 : LamOk lam_4 := lamOk_by (by decide +kernel)
theorem lambind_4 : LamBind lam_4 := bind_one (k := 0) (x := "_law_a") rfl rfl fun s cl a o n tk doc pm cv ctv h1 h2 => PySem.BindsTo.of_defaults rfl h1 h2 rfl rfl
abbrev e_lam_5 : Expr := (exI 0 (exI 1 (stE ((defBody s_law_is_refused).getD 6 noS))))
abbrev lam_5 : LamD := lamD (("_law_is_refused" : Str) ++ ".<locals>." : Str) s_law_is_refused n_law_is_refused (some 0) e_lam_5
theorem lamok_5 : LamOk lam_5 := lamOk_by (by decide +kernel)
theorem lambind_5 : LamBind lam_5 := bind_one (k := 0) (x := "_law_b") rfl rfl fun s cl a o n tk doc pm cv ctv h1 h2 => PySem.BindsTo.of_defaults rfl h1 h2 rfl rfl
abbrev e_lam_6 : Expr := (exI 1 (stE ((defBody s_law_is_refused).getD 7 noS)))
abbrev lam_6 : LamD := lamD (("_law_is_refused" : Str) ++ ".<locals>." : Str) s_law_is_refused n_law_is_refused (some 0) e_lam_6
theorem lamok_6 : LamOk lam_6 := lamOk_by (by decide +kernel)
theorem lambind_6 : LamBind lam_6 := bind_one (k := 0) (x := "_law_c") rfl rfl fun s cl a o n tk doc pm cv ctv h1 h2 => PySem.BindsTo.of_defaults rfl h1 h2 rfl rfl
/-! ### what each def means -/
def m_is_number : SM := (sRet (eAnd (eCB fIsi (aCons (eNm 0) (aCons (eC (.ty "int")) aNil))) (eAnd (eNot (eCB fIsi (aCons (eNm 0) (aCons (eC (.ty "bool")) aNil)))) (eChain fLe fLe (eNm 1) (eNm 0) (eNm 2)))))
abbrev d_is_number : Den := den 3 3 m_is_number
def m_is_stretch : SM := (sRet (eAnd (eCall d_is_number (aCons (eOp fIx (eNm 0) (eC (.int 0))) (aCons (eC (.int 0)) (aCons (eOp fSub (eC (.int 24)) (eC (.int 1))) aNil))) []) (eAnd (eCall d_is_number (aCons (eOp fIx (eNm 0) (eC (.int 1))) (aCons (eC (.int 0)) (aCons (eOp fSub (eC (.int 24)) (eC (.int 1))) aNil))) []) (eOp fNe (eOp fIx (eNm 0) (eC (.int 0))) (eOp fIx (eNm 0) (eC (.int 1)))))))
abbrev d_is_stretch : Den := den 1 1 m_is_stretch
def m_is_gathered : SM := (sRet (eAnd (eCall d_is_number (aCons (eOp fIx (eNm 0) (eC (.int 0))) (aCons (eC (.int 0)) (aCons (eC (.int 7)) aNil))) []) (eCall d_is_number (aCons (eOp fIx (eNm 0) (eC (.int 1))) (aCons (eC (.int 1)) (aCons (eC (.int 12)) aNil))) [])))
abbrev d_is_gathered : Den := den 1 1 m_is_gathered
def fns_are_pairs_is_good : Nat → Option Den
  | 1 => some d_is_stretch
  | 0 => some d_is_gathered
  | _ => none
def m_are_pairs : SM := (sSeq (sIf (bOr (bNot (bV (eCB fIsi (aCons (eNm 0) (aCons (eC (.ty "tuple")) aNil))))) (bV (eOp fGt (eCB fLen (aCons (eNm 0) aNil)) (eNm 1)))) (sRet (eC (.bl false))) sNext)
    (sRet (eCB fAll (aCons (eLc (iEv (eNm 0)) (gNm 3) bYes (eAnd (eCB fIsi (aCons (eNm 3) (aCons (eC (.ty "tuple")) aNil))) (eAnd (eOp fEq (eCB fLen (aCons (eNm 3) aNil)) (eC (.int 2))) (eCallF 2 fns_are_pairs_is_good (aCons (eNm 3) aNil)))) [3]) aNil))))
abbrev d_are_pairs : Den := den 4 3 m_are_pairs
def m_bad_part : SM := (sSeq (sIf (bOr (bNot (bV (eCB fIsi (aCons (eNm 0) (aCons (eC (.ty "tuple")) aNil))))) (bV (eOp fNe (eCB fLen (aCons (eNm 0) aNil)) (eC (.int 5))))) (sRet (eUn fNeg (eC (.int 1)))) sNext)
    (sSeq (sAsg (gT 5 (gsCons (gNm 4) (gsCons (gNm 5) (gsCons (gNm 6) (gsCons (gNm 7) (gsCons (gNm 8) gsNil)))))) (eNm 0))
    (sSeq (sSet 2 (eV (eD (eIf (bV (eCall d_are_pairs (aCons (eNm 6) (aCons (eC (.int 4)) (aCons (eC (.fn 0)) aNil))) [])) (eLc (iEv (eNm 6)) (gNm 9) bYes (eOp fIx (eNm 9) (eC (.int 0))) [9]) (eLst (aCons (eC (.int 1)) (aCons (eC (.int 0)) aNil)))))))
    (sSeq (sSet 3 (eLst (aCons (eCall d_are_pairs (aCons (eNm 4) (aCons (eC (.int 3)) (aCons (eC (.fn 1)) aNil))) []) (aCons (eCall d_is_number (aCons (eNm 5) (aCons (eC (.int 0)) (aCons (eOp fAdd (eC (.int 3)) (eC (.int 1))) aNil))) []) aNil))))
    (sSeq (sExtO 3 (eLst (aCons (eOp fEq (eNm 2) (eSortSet (eNm 2))) (aCons (eOr (eOp fIsN (eNm 7) (eC .non)) (eCall d_is_number (aCons (eNm 7) (aCons (eC (.int 1)) (aCons (eC (.int 24)) aNil))) [])) aNil))))
    (sSeq (sAppO 3 (eOr (eOp fIsN (eNm 8) (eC .non)) (eCall d_is_number (aCons (eNm 8) (aCons (eC (.int 0)) (aCons (eOp fSub (eNm 1) (eC (.int 1))) aNil))) [])))
    (sFrz 3 (sRet (eIf (bV (eOp (fIn false) (eC (.bl false)) (eNm 3))) (eBM isLstD mIdx (eNm 3) (aCons (eC (.bl false)) aNil)) (eC .non))))))))))
abbrev d_bad_part : Den := den 10 2 m_bad_part
def m_need_rules_1 : SM := (sSeq (sSet 3 (eCall d_bad_part (aCons (eNm 2) (aCons (eCB fLen (aCons (eNm 0) aNil)) aNil)) []))
    (sIf (bOr (bV (eOp fGe (eNm 1) (eC (.int 6)))) (bV (eOp fNotN (eNm 3) (eC .non)))) sNever sNext))
def m_need_rules : SM := (sSeq (sIf (bOr (bNot (bV (eCB fIsi (aCons (eNm 0) (aCons (eC (.ty "tuple")) aNil))))) (bV (eOp fEq (eNm 0) (eTup aNil)))) sNever sNext)
    (sFor (iEnS (aCons (eNm 0) aNil)) (gT 2 (gsCons (gNm 1) (gsCons (gNm 2) gsNil))) (m_need_rules_1)))
abbrev d_need_rules : Den := den 4 1 m_need_rules
def x_need_person : XM := (xIf (bNot (bV (eCall d_is_number (aCons (eNm 1) (aCons (eC (.int 0)) (aCons (eOp fSub (eCB fLen (aCons (eNm 0) aNil)) (eC (.int 1))) aNil))) []))) (xRz 5) (xs sNext))
abbrev dx_need_person : DenX := denX 2 2 x_need_person
def m_need_person : SM := (sIf (bNot (bV (eCall d_is_number (aCons (eNm 1) (aCons (eC (.int 0)) (aCons (eOp fSub (eCB fLen (aCons (eNm 0) aNil)) (eC (.int 1))) aNil))) []))) sNever sNext)
abbrev d_need_person : Den := den 2 2 m_need_person
def x_need_moment : XM := (xIf (bNot (bV (eCall d_is_number (aCons (eNm 0) (aCons (eC (.int 0)) (aCons (eC (.int 1000000)) aNil))) []))) (xRz 3) (xs sNext))
abbrev dx_need_moment : DenX := denX 1 1 x_need_moment
def m_need_moment : SM := (sIf (bNot (bV (eCall d_is_number (aCons (eNm 0) (aCons (eC (.int 0)) (aCons (eC (.int 1000000)) aNil))) []))) sNever sNext)
abbrev d_need_moment : Den := den 1 1 m_need_moment
def m_is_in : SM := (sSeq (sAsg (gT 2 (gsCons (gNm 2) (gsCons (gNm 3) gsNil))) (eNm 0))
    (sSeq (sIf (bV (eOp fLt (eNm 2) (eNm 3))) (sRet (eChain fLe fLt (eNm 2) (eNm 1) (eNm 3))) sNext)
    (sRet (eOr (eOp fGe (eNm 1) (eNm 2)) (eOp fLt (eNm 1) (eNm 3))))))
abbrev d_is_in : Den := den 4 2 m_is_in
def m_hush_at : SM := (sRet (eCB fAny (aCons (eLc (iEv (eOp fIx (eNm 0) (eC (.int 0)))) (gNm 2) bYes (eCall d_is_in (aCons (eNm 2) (aCons (eOp fMod (eNm 1) (eC (.int 24))) aNil)) []) [2]) aNil)))
abbrev d_hush_at : Den := den 3 2 m_hush_at
def x_is_hushed : XM := (xSeq (xs (sExpr (eCall d_need_rules (aCons (eNm 0) aNil) [])))
    (xSeq (xExpr (xCall dx_need_person (aCons (eNm 0) (aCons (eNm 1) aNil)) []))
    (xSeq (xExpr (xCall dx_need_moment (aCons (eNm 2) aNil) []))
    (xs (sRet (eCall d_hush_at (aCons (eOp fIx (eNm 0) (eNm 1)) (aCons (eNm 2) aNil)) []))))))
abbrev dx_is_hushed : DenX := denX 3 3 x_is_hushed
def m_is_hushed : SM := (sSeq (sExpr (eCall d_need_rules (aCons (eNm 0) aNil) []))
    (sSeq (sExpr (eCall d_need_person (aCons (eNm 0) (aCons (eNm 1) aNil)) []))
    (sSeq (sExpr (eCall d_need_moment (aCons (eNm 2) aNil) []))
    (sRet (eCall d_hush_at (aCons (eOp fIx (eNm 0) (eNm 1)) (aCons (eNm 2) aNil)) [])))))
abbrev d_is_hushed : Den := den 3 3 m_is_hushed
def m_free_at : SM := (sSeq (sSet 2 (eV (eD (eLc (iR2 (aCons (eNm 1) (aCons (eOp fAdd (eNm 1) (eC (.int 24))) aNil))) (gNm 3) (bNot (bV (eCall d_hush_at (aCons (eNm 0) (aCons (eNm 3) aNil)) []))) (eNm 3) [3]))))
    (sRet (eIf (bV (eOp fNe (eNm 2) (eLst aNil))) (eOp fIx (eNm 2) (eC (.int 0))) (eC .non))))
abbrev d_free_at : Den := den 4 2 m_free_at
def x_free_from : XM := (xSeq (xs (sExpr (eCall d_need_rules (aCons (eNm 0) aNil) [])))
    (xSeq (xExpr (xCall dx_need_person (aCons (eNm 0) (aCons (eNm 1) aNil)) []))
    (xSeq (xExpr (xCall dx_need_moment (aCons (eNm 2) aNil) []))
    (xs (sRet (eCall d_free_at (aCons (eOp fIx (eNm 0) (eNm 1)) (aCons (eNm 2) aNil)) []))))))
abbrev dx_free_from : DenX := denX 3 3 x_free_from
def m_free_from : SM := (sSeq (sExpr (eCall d_need_rules (aCons (eNm 0) aNil) []))
    (sSeq (sExpr (eCall d_need_person (aCons (eNm 0) (aCons (eNm 1) aNil)) []))
    (sSeq (sExpr (eCall d_need_moment (aCons (eNm 2) aNil) []))
    (sRet (eCall d_free_at (aCons (eOp fIx (eNm 0) (eNm 1)) (aCons (eNm 2) aNil)) [])))))
abbrev d_free_from : Den := den 3 3 m_free_from
def x_hushed_between : XM := (xSeq (xs (sExpr (eCall d_need_rules (aCons (eNm 0) aNil) [])))
    (xSeq (xExpr (xCall dx_need_person (aCons (eNm 0) (aCons (eNm 1) aNil)) []))
    (xSeq (xExpr (xCall dx_need_moment (aCons (eNm 2) aNil) []))
    (xSeq (xExpr (xCall dx_need_moment (aCons (eNm 3) aNil) []))
    (xSeq (xs (sSet 4 (eOp fIx (eNm 0) (eNm 1))))
    (xSeq (xs (sAsg (gT 2 (gsCons (gNm 6) (gsCons (gNm 7) gsNil))) (eCB fDivmod (aCons (eCB fMax (aCons (eC (.int 0)) (aCons (eOp fSub (eNm 3) (eNm 2)) aNil))) (aCons (eC (.int 24)) aNil)))))
    (xSeq (xs (sSet 5 (eCB fLen (aCons (eLc (iR1 (aCons (eC (.int 24)) aNil)) (gNm 8) (bV (eCall d_hush_at (aCons (eNm 4) (aCons (eNm 8) aNil)) [])) (eNm 8) [8]) aNil))))
    (xs (sRet (eOp fAdd (eOp fMul (eNm 6) (eNm 5)) (eCB fLen (aCons (eLc (iR2 (aCons (eNm 2) (aCons (eOp fAdd (eNm 2) (eNm 7)) aNil))) (gNm 9) (bV (eCall d_hush_at (aCons (eNm 4) (aCons (eNm 9) aNil)) [])) (eNm 9) [9]) aNil))))))))))))
abbrev dx_hushed_between : DenX := denX 10 4 x_hushed_between
def m_hushed_between : SM := (sSeq (sExpr (eCall d_need_rules (aCons (eNm 0) aNil) []))
    (sSeq (sExpr (eCall d_need_person (aCons (eNm 0) (aCons (eNm 1) aNil)) []))
    (sSeq (sExpr (eCall d_need_moment (aCons (eNm 2) aNil) []))
    (sSeq (sExpr (eCall d_need_moment (aCons (eNm 3) aNil) []))
    (sSeq (sSet 4 (eOp fIx (eNm 0) (eNm 1)))
    (sSeq (sAsg (gT 2 (gsCons (gNm 6) (gsCons (gNm 7) gsNil))) (eCB fDivmod (aCons (eCB fMax (aCons (eC (.int 0)) (aCons (eOp fSub (eNm 3) (eNm 2)) aNil))) (aCons (eC (.int 24)) aNil))))
    (sSeq (sSet 5 (eCB fLen (aCons (eLc (iR1 (aCons (eC (.int 24)) aNil)) (gNm 8) (bV (eCall d_hush_at (aCons (eNm 4) (aCons (eNm 8) aNil)) [])) (eNm 8) [8]) aNil)))
    (sRet (eOp fAdd (eOp fMul (eNm 6) (eNm 5)) (eCB fLen (aCons (eLc (iR2 (aCons (eNm 2) (aCons (eOp fAdd (eNm 2) (eNm 7)) aNil))) (gNm 9) (bV (eCall d_hush_at (aCons (eNm 4) (aCons (eNm 9) aNil)) [])) (eNm 9) [9]) aNil)))))))))))
abbrev d_hushed_between : Den := den 10 4 m_hushed_between
def m_law_begun_1 : SM := (sSet 1 (eOp fMod (eOp fAdd (eOp fAdd (eOp fMul (eNm 1) (eC (.int 48271))) (eOp fMul (eNm 2) (eC (.int 69621)))) (eC (.int 11))) (eC (.int 2147483647))))
def m_law_begun : SM := (sSeq (sSet 1 (eC (.int 0)))
    (sSeq (sFor (iEv (eNm 0)) (gNm 2) (m_law_begun_1))
    (sRet (eLst (aCons (eBox (eCB fList (aCons (eNm 0) aNil))) (aCons (eOp fMul (eNm 1) (eCB fInt (aCons (eOp fGt (eCB fLen (aCons (eNm 0) aNil)) (eC (.int 2))) aNil))) aNil))))))
abbrev d_law_begun : Den := den 3 1 m_law_begun
def m_law_take : SM := (sSeq (sIf (bV (eOp fEq (eOp fIx (eNm 0) (eC (.int 0))) (eLst aNil))) (sSeq (sSetIx (eNm 0) (eC (.int 1)) (eOp fMod (eOp fMul (eOp fIx (eNm 0) (eC (.int 1))) (eC (.int 48271))) (eC (.int 2147483647))))
    (sRet (eOp fMod (eOp fDiv (eOp fIx (eNm 0) (eC (.int 1))) (eC (.int 7))) (eNm 1)))) sNext)
    (sSeq (sSet 2 (eOp fIx (eOp fIx (eNm 0) (eC (.int 0))) (eC (.int 0))))
    (sSeq (sSetIx (eOp fIx (eNm 0) (eC (.int 0))) (eC (.int 0)) (eOp fDiv (eNm 2) (eNm 1)))
    (sSeq (sIf (bOr (bV (eOp fEq (eOp fIx (eOp fIx (eNm 0) (eC (.int 0))) (eC (.int 0))) (eC (.int 0)))) (bV (eOp fEq (eOp fIx (eOp fIx (eNm 0) (eC (.int 0))) (eC (.int 0))) (eUn fNeg (eC (.int 1)))))) (sExpr (eBM isLstD mPopAt (eOp fIx (eNm 0) (eC (.int 0))) (aCons (eC (.int 0)) aNil))) sNext)
    (sRet (eOp fMod (eNm 2) (eNm 1)))))))
abbrev d_law_take : Den := den 3 2 m_law_take
def m_law_alike_1 (fr : Den) : SM := (sIf (bNot (bV (eCall fr (aCons (eOp fIx (eNm 0) (eNm 2)) (aCons (eOp fIx (eNm 1) (eNm 2)) aNil)) []))) (sRet (eC (.bl false))) sNext)
def m_law_alike (fr : Den) : SM := (sSeq (sIf (bV (eOp fIsN (eNm 1) (eC .non))) (sRet (eOp fIsN (eNm 0) (eC .non))) sNext)
    (sSeq (sIf (bV (eCB fIsi (aCons (eNm 1) (aCons (eC (.ty "bool")) aNil)))) (sRet (eAnd (eCB fIsi (aCons (eNm 0) (aCons (eC (.ty "bool")) aNil))) (eOp fEq (eNm 0) (eNm 1)))) sNext)
    (sSeq (sIf (bV (eCB fIsi (aCons (eNm 1) (aCons (eC (.ty "int")) aNil)))) (sRet (eAnd (eCB fIsi (aCons (eNm 0) (aCons (eC (.ty "int")) aNil))) (eAnd (eNot (eCB fIsi (aCons (eNm 0) (aCons (eC (.ty "bool")) aNil)))) (eOp fEq (eNm 0) (eNm 1))))) sNext)
    (sSeq (sIf (bV (eCB fIsi (aCons (eNm 1) (aCons (eC (.ty "str")) aNil)))) (sRet (eAnd (eCB fIsi (aCons (eNm 0) (aCons (eC (.ty "str")) aNil))) (eOp fEq (eNm 0) (eNm 1)))) sNext)
    (sSeq (sIf (bOr (bV (eOp fNe (eCB fIsi (aCons (eNm 1) (aCons (eC (.ty "tuple")) aNil))) (eCB fIsi (aCons (eNm 0) (aCons (eC (.ty "tuple")) aNil))))) (bV (eOp fNe (eCB fIsi (aCons (eNm 1) (aCons (eC (.ty "list")) aNil))) (eCB fIsi (aCons (eNm 0) (aCons (eC (.ty "list")) aNil)))))) (sRet (eC (.bl false))) sNext)
    (sSeq (sIf (bV (eOp fNe (eCB fLen (aCons (eNm 0) aNil)) (eCB fLen (aCons (eNm 1) aNil)))) (sRet (eC (.bl false))) sNext)
    (sSeq (sFor (iR1 (aCons (eCB fLen (aCons (eNm 1) aNil)) aNil)) (gNm 2) (m_law_alike_1 fr))
    (sRet (eC (.bl true))))))))))
def dr_law_alike : Nat → Den
  | 0 => fun _ _ => none
  | n + 1 => den 3 2 (m_law_alike (dr_law_alike n))
abbrev d_law_alike : Den := dr_law_alike 8
def m_law_stretches_1 : SM := (sSeq (sSet 3 (eCall d_law_take (aCons (eNm 0) (aCons (eC (.int 24)) aNil)) []))
    (sAppO 1 (eTup (aCons (eNm 3) (aCons (eOp fMod (eOp fAdd (eOp fAdd (eNm 3) (eC (.int 1))) (eCall d_law_take (aCons (eNm 0) (aCons (eOp fIx (eLst (aCons (eC (.int 23)) (aCons (eC (.int 9)) aNil))) (eCall d_law_take (aCons (eNm 0) (aCons (eC (.int 2)) aNil)) [])) aNil)) [])) (eC (.int 24))) aNil)))))
def m_law_stretches : SM := (sSeq (sSet 1 (eLst aNil))
    (sSeq (sFor (iR1 (aCons (eCall d_law_take (aCons (eNm 0) (aCons (eC (.int 4)) aNil)) []) aNil)) (gNm 2) (m_law_stretches_1))
    (sFrz 1 (sRet (eCB fTuple (aCons (eNm 1) aNil))))))
abbrev d_law_stretches : Den := den 4 1 m_law_stretches
def m_law_rule_1 : SM := (sIf (bAnd (bV (eOp fLt (oLen 2) (eC (.int 4)))) (bV (eOp fEq (eCall d_law_take (aCons (eNm 0) (aCons (eC (.int 3)) aNil)) []) (eC (.int 0))))) (sAppO 2 (eTup (aCons (eNm 3) (aCons (eOp fAdd (eC (.int 1)) (eCall d_law_take (aCons (eNm 0) (aCons (eOp fIx (eLst (aCons (eC (.int 3)) (aCons (eC (.int 12)) aNil))) (eCall d_law_take (aCons (eNm 0) (aCons (eC (.int 2)) aNil)) [])) aNil)) [])) aNil)))) sNext)
def m_law_rule : SM := (sSeq (sSet 2 (eLst aNil))
    (sSeq (sFor (iR1 (aCons (eC (.int 8)) aNil)) (gNm 3) (m_law_rule_1))
    (sSeq (sSet 4 (eOp fIx (eLst (aCons (eC .non) (aCons (eOp fAdd (eC (.int 1)) (eCall d_law_take (aCons (eNm 0) (aCons (eOp fIx (eLst (aCons (eC (.int 6)) (aCons (eC (.int 24)) aNil))) (eCall d_law_take (aCons (eNm 0) (aCons (eC (.int 2)) aNil)) [])) aNil)) [])) (aCons (eC (.int 2)) aNil)))) (eCall d_law_take (aCons (eNm 0) (aCons (eC (.int 3)) aNil)) [])))
    (sSeq (sSet 5 (eOp fIx (eLst (aCons (eC .non) (aCons (eCall d_law_take (aCons (eNm 0) (aCons (eNm 1) aNil)) []) (aCons (eCall d_law_take (aCons (eNm 0) (aCons (eNm 1) aNil)) []) aNil)))) (eCall d_law_take (aCons (eNm 0) (aCons (eC (.int 3)) aNil)) [])))
    (sFrz 2 (sRet (eTup (aCons (eCall d_law_stretches (aCons (eNm 0) aNil) []) (aCons (eCall d_law_take (aCons (eNm 0) (aCons (eC (.int 5)) aNil)) []) (aCons (eCB fTuple (aCons (eNm 2) aNil)) (aCons (eNm 4) (aCons (eNm 5) aNil))))))))))))
abbrev d_law_rule : Den := den 6 2 m_law_rule
def m_law_rules : SM := (sSeq (sSet 1 (eOp fAdd (eC (.int 1)) (eCall d_law_take (aCons (eNm 0) (aCons (eC (.int 6)) aNil)) [])))
    (sRet (eCB fTuple (aCons (eLc (iR1 (aCons (eNm 1) aNil)) (gNm 2) bYes (eCall d_law_rule (aCons (eNm 0) (aCons (eNm 1) aNil)) []) [2]) aNil))))
abbrev d_law_rules : Den := den 3 1 m_law_rules
def m_law_hush : SM := (sSeq (sSet 2 (eOp fMod (eNm 1) (eC (.int 24))))
    (sSeq (sSet 3 (eV (eD (eLc (iEv (eOp fIx (eNm 0) (eC (.int 0)))) (gT 2 (gsCons (gNm 4) (gsCons (gNm 5) gsNil))) (bV (eOp fLt (eOp fMod (eOp fSub (eNm 2) (eNm 4)) (eC (.int 24))) (eOp fMod (eOp fSub (eNm 5) (eNm 4)) (eC (.int 24))))) (eTup (aCons (eNm 4) (aCons (eNm 5) aNil))) [4, 5]))))
    (sRet (eOp fNe (eNm 3) (eLst aNil)))))
abbrev d_law_hush : Den := den 6 2 m_law_hush
def bods_law_is_refused : Nat → Option XEM
  | 0 => some (xCall dx_is_hushed (aCons (eNm 1) (aCons (eNm 4) (aCons (eNm 5) aNil))) [])
  | 1 => some (xCall dx_free_from (aCons (eNm 1) (aCons (eNm 4) (aCons (eNm 5) aNil))) [])
  | 2 => some (xCall dx_hushed_between (aCons (eNm 1) (aCons (eNm 4) (aCons (eNm 5) (aCons (eNm 5) aNil)))) [])
  | 3 => some (xCall dx_is_hushed (aCons (eNm 1) (aCons (eC (.int 0)) (aCons (eNm 5) aNil))) [])
  | 4 => some (xCall dx_free_from (aCons (eNm 1) (aCons (eC (.int 0)) (aCons (eNm 5) aNil))) [])
  | 5 => some (xCall dx_hushed_between (aCons (eNm 1) (aCons (eC (.int 0)) (aCons (eNm 5) (aCons (eNm 2) aNil)))) [])
  | 6 => some (xCall dx_hushed_between (aCons (eNm 1) (aCons (eC (.int 0)) (aCons (eNm 2) (aCons (eNm 5) aNil)))) [])
  | _ => none
def m_law_is_refused (tk : Nat) : SM := (sSeq (sSet 3 (eCall d_law_take (aCons (eNm 0) (aCons (eOp fIx (eLst (aCons (eC (.int 2)) (aCons (eOp fPow (eC (.int 10)) (eC (.int 18))) aNil))) (eCall d_law_take (aCons (eNm 0) (aCons (eC (.int 2)) aNil)) [])) aNil)) []))
    (sSeq (sSet 4 (eOp fIx (eLst (aCons (eOp fAdd (eCB fLen (aCons (eNm 1) aNil)) (eNm 3)) (aCons (eOp fSub (eUn fNeg (eC (.int 1))) (eNm 3)) (aCons (eC .non) (aCons (eC (.bl true)) aNil))))) (eCall d_law_take (aCons (eNm 0) (aCons (eC (.int 4)) aNil)) [])))
    (sSeq (sSet 5 (eOp fIx (eLst (aCons (eOp fSub (eUn fNeg (eC (.int 1))) (eNm 3)) (aCons (eOp fAdd (eOp fAdd (eOp fPow (eC (.int 10)) (eC (.int 6))) (eC (.int 1))) (eNm 3)) (aCons (eC .non) (aCons (eC (.bl true)) aNil))))) (eCall d_law_take (aCons (eNm 0) (aCons (eC (.int 4)) aNil)) [])))
    (sSeq (sSet 6 (eLst (aCons (eLam 0 tk) (aCons (eLam 1 tk) aNil))))
    (sSeq (sFrz 6 (sIf (bNot (bV (eAllL tk bods_law_is_refused d_law_alike (aCons (eOp fAdd (eNm 6) (eLst (aCons (eLam 2 tk) aNil))) (aCons (eTup (aCons (eC (.str "BadPerson")) (aCons (eC (.int 0)) aNil))) aNil))))) (sRet (eC (.bl false))) sNext))
    (sSeq (sSet 6 (eLst (aCons (eLam 3 tk) (aCons (eLam 4 tk) aNil))))
    (sSeq (sFrz 6 (sSet 6 (eOp fAdd (eNm 6) (eLst (aCons (eLam 5 tk) aNil)))))
    (sSeq (sAppO 6 (eLam 6 tk))
    (sFrz 6 (sRet (eAllL tk bods_law_is_refused d_law_alike (aCons (eNm 6) (aCons (eTup (aCons (eC (.str "BadMoment")) (aCons (eC (.int 0)) aNil))) aNil)))))))))))))
noncomputable def d_law_is_refused : Den := denT 7 3 m_law_is_refused
def m_law_1 : SM := (sSeq (sSet 11 (eV (eD (eLst (aCons (eCall d_is_hushed (aCons (eNm 3) (aCons (eNm 4) (aCons (eNm 5) aNil))) []) (aCons (eCall d_free_from (aCons (eNm 3) (aCons (eNm 4) (aCons (eNm 5) aNil))) []) aNil))))))
    (sIf (bOr (bNot (bV (eCall d_law_alike (aCons (eNm 11) (aCons (eLst (aCons (eOp fIx (eNm 7) (eC (.int 0))) (aCons (eNm 8) aNil))) aNil)) []))) (bNot (bV (eCall d_law_alike (aCons (eCall d_hushed_between (aCons (eNm 3) (aCons (eNm 4) (aCons (eNm 5) (aCons (eNm 6) aNil)))) []) (aCons (eNm 9) aNil)) [])))) (sRet (eC (.bl false))) sNext))
def m_law_2 : SM := (sSeq (sSet 3 (eCall d_law_rules (aCons (eNm 1) aNil) []))
    (sSeq (sSet 4 (eCall d_law_take (aCons (eNm 1) (aCons (eCB fLen (aCons (eNm 3) aNil)) aNil)) []))
    (sSeq (sIf (bV (eOp fEq (eCall d_law_take (aCons (eNm 1) (aCons (eC (.int 6)) aNil)) []) (eC (.int 0)))) (sSeq (sSet 5 (eCall d_law_take (aCons (eNm 1) (aCons (eC (.int 24)) aNil)) []))
    (sSeq (sSet 3 (eV (eD (eOp fAdd (eTup (aCons (eOp fAdd (eTup (aCons (eTup (aCons (eTup (aCons (eNm 5) (aCons (eOp fMod (eOp fAdd (eNm 5) (eC (.int 9))) (eC (.int 24))) aNil))) (aCons (eTup (aCons (eOp fMod (eOp fAdd (eNm 5) (eC (.int 9))) (eC (.int 24))) (aCons (eNm 5) aNil))) aNil))) aNil)) (eSl (eOp fIx (eNm 3) (eC (.int 0))) (oPart (eC (.int 1))) oNo)) aNil)) (eSl (eNm 3) (oPart (eC (.int 1))) oNo)))))
    (sSet 4 (eC (.int 0))))) sNext)
    (sSeq (sSet 5 (eOp fIx (eLst (aCons (eCall d_law_take (aCons (eNm 1) (aCons (eC (.int 60)) aNil)) []) (aCons (eCall d_law_take (aCons (eNm 1) (aCons (eOp fAdd (eOp fPow (eC (.int 10)) (eC (.int 6))) (eC (.int 1))) aNil)) []) aNil))) (eCall d_law_take (aCons (eNm 1) (aCons (eC (.int 2)) aNil)) [])))
    (sSeq (sSet 6 (eCB fMin (aCons (eOp fPow (eC (.int 10)) (eC (.int 6))) (aCons (eCB fMax (aCons (eC (.int 0)) (aCons (eOp fSub (eOp fAdd (eNm 5) (eCall d_law_take (aCons (eNm 1) (aCons (eOp fIx (eLst (aCons (eC (.int 30)) (aCons (eC (.int 200)) aNil))) (eCall d_law_take (aCons (eNm 1) (aCons (eC (.int 2)) aNil)) [])) aNil)) [])) (eC (.int 9))) aNil))) aNil))))
    (sSeq (sSet 7 (eV (eD (eLc (iR2 (aCons (eNm 5) (aCons (eOp fAdd (eNm 5) (eC (.int 24))) aNil))) (gNm 12) bYes (eCall d_law_hush (aCons (eOp fIx (eNm 3) (eNm 4)) (aCons (eNm 12) aNil)) []) [12]))))
    (sSeq (sSet 8 (eIf (bV (eOp (fIn false) (eC (.bl false)) (eNm 7))) (eOp fAdd (eNm 5) (eBM isLstD mIdx (eNm 7) (aCons (eC (.bl false)) aNil))) (eC .non)))
    (sSeq (sSet 9 (eCB fLen (aCons (eLc (iR2 (aCons (eNm 5) (aCons (eNm 6) aNil))) (gNm 13) (bV (eCall d_law_hush (aCons (eOp fIx (eNm 3) (eNm 4)) (aCons (eNm 13) aNil)) [])) (eNm 13) [13]) aNil)))
    (sSeq (sFor (iR1 (aCons (eC (.int 2)) aNil)) (gNm 10) (m_law_1))
    (sIf (bNot (bV (eCall d_law_is_refused (aCons (eNm 1) (aCons (eNm 3) (aCons (eNm 5) aNil))) []))) (sRet (eC (.bl false))) sNext))))))))))
def m_law : SM := (sSeq (sSet 1 (eBox (eCall d_law_begun (aCons (eNm 0) aNil) [])))
    (sSeq (sFor (iR1 (aCons (eC (.int 4)) aNil)) (gNm 2) (m_law_2))
    (sRet (eC (.bl true)))))
abbrev d_law : Den := den 14 1 m_law
end
end Wk
namespace Wk
open PySem L2 Yi Evl
abbrev s_law_told : Stmt := top 41
abbrev n_law_told : List Str := ["_law_work", "e", "_law_kinds", "_law_words", "_law_word"]
theorem sc_law_told : FnScope n_law_told ["_law_work"] (defScope s_law_told) := ⟨rfl, rfl, rfl, by decide +kernel, rfl, by decide +kernel, by decide +kernel⟩
def suiteOf (st : Stmt) : List Stmt := match defBody st with
  | [.Try _ [.ExceptHandler _ _ b _] _ _ _] => b
  | _ => []
section
variable {P : Program} {w : World} {K : PySem.W.Frag} {mg : Str → Option Value} {base : Heap} {xc : Nat → Addr} {NE : Addr}
theorem suite_ps (T : Asked K mg xc) {f : Addr} {cdv : Value} {A0 : Around} {outer : List Env} {s : Shared} {H0 : Hp} {E : XK} {a C : Addr} {oe : Obj} {d : Option Addr} {pn : List (Addr × Obj)} (hu : A0.units + 200 < cLine)
    (X : Cx) (hX : X = (cxOf C8.CX0 P w K mg base n_law_told "_law_told" (defScope s_law_told) f cdv A0 outer s H0 E))
    (N : NoF K C) (TC : XkC K C) (TF : XfC K C) (hz : Zc (.ref C) d oe) (hf : ∃ vs, oe.data = .fields vs) :
    ∃ t, PSs (X.suite a ((a, oe) :: pn)) (suiteOf s_law_told) t ∧ ∀ {c : Nat}, c < 10 → ∀ {H : Hp} {D : Ends} {vs : List V} {x0 x2 x3 x4 : Option V}, (∀ j, j < 10 → PySem.W.kitOne K (.ref C) (.ref (xc j)) = some (decide (c = j))) → PySem.W.kitOne K (.ref C) (.type "ValueError") = some true →
      (d = none ∨ ∃ dd fs, d = some dd ∧ H dd = some (.xd fs)) → tdF c d H vs → (∀ p H1, H p = none → Evl.Ex H H1 → H1 p = some (.tup (.str (tdW c) :: vs)) → D.rt (.ref p) H1) → t D [x0, some (.ref a), x2, x3, x4] H := by
  subst hX
  refine ⟨_, (pss_cons (ps_set (i := 2) sc_law_told.nd rfl (by first | exact Or.inl rfl | exact Or.inr rfl) (pe_lst (pa_cons (pe_callB (call_isx TC hz hf) (by rfl) T.ni PyProof.Rows.boot_isinstance (pa_cons (pv 1) (pa_cons (pe_glob (v := .ref (xc 0)) rfl T.g0 rfl) pa_nil))) (pa_cons (pe_callB (call_isx TC hz hf) (by rfl) T.ni PyProof.Rows.boot_isinstance (pa_cons (pv 1) (pa_cons (pe_glob (v := .ref (xc 1)) rfl T.g1 rfl) pa_nil))) (pa_cons (pe_callB (call_isx TC hz hf) (by rfl) T.ni PyProof.Rows.boot_isinstance (pa_cons (pv 1) (pa_cons (pe_glob (v := .ref (xc 2)) rfl T.g2 rfl) pa_nil))) (pa_cons (pe_callB (call_isx TC hz hf) (by rfl) T.ni PyProof.Rows.boot_isinstance (pa_cons (pv 1) (pa_cons (pe_glob (v := .ref (xc 3)) rfl T.g3 rfl) pa_nil))) pa_nil))))))
    (pss_cons (ps_set (i := 2) sc_law_told.nd rfl (by first | exact Or.inl rfl | exact Or.inr rfl) (pe_op op_cat (pv 2) (pe_lst (pa_cons (pe_callB (call_isx TC hz hf) (by rfl) T.ni PyProof.Rows.boot_isinstance (pa_cons (pv 1) (pa_cons (pe_glob (v := .ref (xc 4)) rfl T.g4 rfl) pa_nil))) (pa_cons (pe_callB (call_isx TC hz hf) (by rfl) T.ni PyProof.Rows.boot_isinstance (pa_cons (pv 1) (pa_cons (pe_glob (v := .ref (xc 5)) rfl T.g5 rfl) pa_nil))) (pa_cons (pe_callB (call_isx TC hz hf) (by rfl) T.ni PyProof.Rows.boot_isinstance (pa_cons (pv 1) (pa_cons (pe_glob (v := .ref (xc 6)) rfl T.g6 rfl) pa_nil))) pa_nil))))))
    (pss_cons (ps_set (i := 2) sc_law_told.nd rfl (by first | exact Or.inl rfl | exact Or.inr rfl) (pe_op op_cat (pv 2) (pe_lst (pa_cons (pe_callB (call_isx TC hz hf) (by rfl) T.ni PyProof.Rows.boot_isinstance (pa_cons (pv 1) (pa_cons (pe_glob (v := .ref (xc 7)) rfl T.g7 rfl) pa_nil))) (pa_cons (pe_callB (call_isx TC hz hf) (by rfl) T.ni PyProof.Rows.boot_isinstance (pa_cons (pv 1) (pa_cons (pe_glob (v := .ref (xc 8)) rfl T.g8 rfl) pa_nil))) (pa_cons (pe_callB (call_isx TC hz hf) (by rfl) T.ni PyProof.Rows.boot_isinstance (pa_cons (pv 1) (pa_cons (pe_glob (v := .ref (xc 9)) rfl T.g9 rfl) pa_nil))) pa_nil))))))
    (pss_cons (ps_if (PW.pt (pw_or (pt_cmpR op_ne (pe_bmK K PySem.F.plainAttrs_list PySem.F.slot_list_count PySem.F.type_list_count (mt_cntK K) (pv 2) (pa_cons pe_bl pa_nil)) pe_int (nomark _)) (pw_or1 (pt_not (pt_val (pe_callB (call_isx TC hz hf) (by rfl) T.ni PyProof.Rows.boot_isinstance (pa_cons (pv 1) (pa_cons (pe_bltn (v := .ty "ValueError") (by rfl) T.nv PyProof.Rows.Boot.«ValueError» rfl) pa_nil)))))))) (pss_one (ps_ret (pe_tup (pa_cons pe_str (pa_cons pe_int pa_nil))))) pss_nil)
    (pss_cons (ps_set (i := 3) sc_law_told.nd rfl (by first | exact Or.inl rfl | exact Or.inr rfl) (pe_lst (pa_cons pe_str (pa_cons pe_str (pa_cons pe_str (pa_cons pe_str (pa_cons pe_str (pa_cons pe_str (pa_cons pe_str (pa_cons pe_str pa_nil))))))))))
    (pss_cons (ps_set (i := 4) sc_law_told.nd rfl (by first | exact Or.inl rfl | exact Or.inr rfl) (pe_ix ix_list (pe_op op_cat (pv 3) (pe_lst (pa_cons pe_str (pa_cons pe_str pa_nil)))) (pe_bmK K PySem.F.plainAttrs_list PySem.F.slot_list_index PySem.F.type_list_index (mt_indexK K) (pv 2) (pa_cons pe_bl pa_nil)) (fun _ _ => rfl)))
    (pss_cons (ps_if (pt_cmpR op_eq (pv 4) pe_str (nomark _)) (pss_one (ps_ret (pe_tup (pa_cons (pv 4) (pa_cons (pe_xf TF N.p hz hf (pv 1)) (pa_cons (pe_xf TF N.q hz hf (pv 1)) pa_nil)))))) pss_nil)
    (pss_cons (ps_if (pt_cmpR op_eq (pv 4) pe_str (nomark _)) (pss_one (ps_ret (pe_tup (pa_cons (pv 4) (pa_cons (pe_xf TF N.r hz hf (pv 1)) pa_nil))))) pss_nil)
    (pss_one (ps_ret (pe_tup (pa_cons (pv 4) (pa_cons (pe_ifExp (pt_cmpR (op_inK K) (pv 4) (pe_tup (pa_cons pe_str (pa_cons pe_str pa_nil))) (by with_unfolding_all rfl)) (pe_xf TF N.n hz hf (pv 1)) pe_int) pa_nil))))))))))))), ?_⟩
  intro c hc H D vs x0 x2 x3 x4 hk hve hd hF k
  have hd' : ∀ {H' : Hp}, Evl.Ex H H' → d = none ∨ ∃ dd fs, d = some dd ∧ H' dd = some (.xd fs) := fun e => hd.imp id fun ⟨dd, fs, h1, h2⟩ => ⟨dd, fs, h1, e _ _ h2⟩
  have is_ : ∀ (j : Nat) {σ' : L2.St} {H' : Hp}, j < 10 → σ'[1]? = some (some (.ref a)) → Evl.Ex H H' → Ev (tCB (rIsx K a C d) (tCons (tVar 1) (tCons (tC (.ref (xc j))) tNil))) σ' H' (.bl (decide (c = j))) := fun j _ _ hj h1 e => ev_isx (ev_var h1) ev_c (fun u r => r) (hd' e) (hk j hj)
  refine q_asgL (xs := [.bl (decide (c = 0)), .bl (decide (c = 1)), .bl (decide (c = 2)), .bl (decide (c = 3))]) (el_lst (ea_cons (is_ 0 (by omega) rfl (Evl.Ex.refl H)) (ea_cons (is_ 1 (by omega) rfl (Evl.Ex.refl H)) (ea_cons (is_ 2 (by omega) rfl (Evl.Ex.refl H)) (ea_cons (is_ 3 (by omega) rfl (Evl.Ex.refl H)) ea_nil)))) (by simp)) fun l1 H1 _ e1 h1 => ?_
  refine q_asgL (el_cat (zs := [.bl (decide (c = 4)), .bl (decide (c = 5)), .bl (decide (c = 6))]) (ev_var rfl) h1 (el_lst (ea_cons (is_ 4 (by omega) rfl e1) (ea_cons (is_ 5 (by omega) rfl e1) (ea_cons (is_ 6 (by omega) rfl e1) ea_nil))) (by simp)) (by simp)) fun l2 H2 _ e2 h2 => ?_
  have e2 := e1.trans e2
  refine q_asgL (el_cat (zs := [.bl (decide (c = 7)), .bl (decide (c = 8)), .bl (decide (c = 9))]) (ev_var rfl) h2 (el_lst (ea_cons (is_ 7 (by omega) rfl e2) (ea_cons (is_ 8 (by omega) rfl e2) (ea_cons (is_ 9 (by omega) rfl e2) ea_nil))) (by simp)) (by simp)) fun l3 H3 _ e3 h3 => ?_
  have e3 := e2.trans e3
  have h3 : H3 l3 = some (.lst (tdB c)) := h3
  refine q_when (b := false) ?_ (fun z => by cases z) fun _ H4 e4 => ?_
  · refine et_is (et_or (et_test (ev_op (ev_cnt (ev_var rfl) h3 ev_c rfl rfl) ev_c (rv_ne rfl))) fun _ => et_not (et_B (ev_isx (t := .type "ValueError") (ev_var rfl) ev_c (fun u r => r) (hd' e3) hve))) ?_
    rw [tdB_cnt hc]
    rfl
  have e4' := e3.trans e4
  refine q_asgL (xs := [.str "BadBell", .str "BadDevice", .str "BadHears", .str "BadMoment", .str "BadNotices", .str "BadPerson", .str "BadRules", .str "BadText"]) (el_lst (ea_cons ev_c (ea_cons ev_c (ea_cons ev_c (ea_cons ev_c (ea_cons ev_c (ea_cons ev_c (ea_cons ev_c (ea_cons ev_c ea_nil)))))))) (by simp)) fun l5 H5 _ e5 h5 => ?_
  have e5' := e4'.trans e5
  refine q_asg (v := .str (tdW c)) ?_ fun H6 e6 => ?_
  · refine ev_opL1 (y := .int (c : Nat)) (el_cat (zs := [.str "IsOff", .str "NotRinging"]) (ev_var rfl) h5 (el_lst (ea_cons ev_c (ea_cons ev_c ea_nil)) (by simp)) (by simp)) (fun H' e' => ev_index (ev_var rfl) (e' _ _ (e5 _ _ (e4 _ _ h3))) ev_c rfl rfl (tdB_at hc) rfl fun m z' hm hz => ?_) fun p H' h' _ => rv_ixL (sq_of h') (tdW_at hc)
    rw [tdB_get (by omega)] at hz
    cases hz
    rw [decide_eq_false (by omega)]
    rfl
  have e6' := e5'.trans e6
  have fin : ∀ {H' : Hp} {p : Addr} {H2 : Hp}, Evl.Ex H H' → H' p = none → Evl.Ex H' H2 → H2 p = some (.tup (.str (tdW c) :: vs)) → D.rt (.ref p) H2 := fun e hp e2 h => k _ _ (fresh_back e hp) (e.trans e2) h
  refine q_when (b := decide (c = 6)) (et_is (et_test (ev_op (ev_var rfl) ev_c (rv_eq rfl))) (tdW_6 hc)) (fun q H7 e7 => ?_) fun q H7 e7 => ?_
  · have q := of_decide_eq_true q
    unfold tdF at hF
    rw [if_pos q] at hF
    obtain ⟨dd, fs, v1, v2, g1, g2, g3, g4, rfl⟩ := hF
    have e7' := e6'.trans e7
    exact s_retU (eu_tup (ea_cons (ev_var rfl) (ea_cons (ev_xf (ev_var rfl) g1 (e7' _ _ g2) g3) (ea_cons (ev_xf (ev_var rfl) g1 (e7' _ _ g2) g4) ea_nil))) (by simp)) fun p H2 hp e2 h2 => fin e7' hp e2 h2
  have q6 := of_decide_eq_false q
  have e7' := e6'.trans e7
  refine q_when (b := decide (c = 7)) (et_is (et_test (ev_op (ev_var rfl) ev_c (rv_eq rfl))) (tdW_7 hc)) (fun q H8 e8 => ?_) fun q H8 e8 => ?_
  · have q := of_decide_eq_true q
    unfold tdF at hF
    rw [if_neg q6, if_pos q] at hF
    obtain ⟨dd, fs, v1, g1, g2, g3, rfl⟩ := hF
    have e8' := e7'.trans e8
    exact s_retU (eu_tup (ea_cons (ev_var rfl) (ea_cons (ev_xf (ev_var rfl) g1 (e8' _ _ g2) g3) ea_nil)) (by simp)) fun p H2 hp e2 h2 => fin e8' hp e2 h2
  have q7 := of_decide_eq_false q
  have e8' := e7'.trans e8
  unfold tdF at hF
  rw [if_neg q6, if_neg q7] at hF
  obtain ⟨v, rfl, hv⟩ : ∃ v, vs = [v] ∧ ((c = 2 ∨ c = 4) → ∃ dd fs, d = some dd ∧ H dd = some (.xd fs) ∧ fs.lookup ("number" : Str) = some v) ∧ (¬ (c = 2 ∨ c = 4) → v = .int 0) := by
    by_cases z : c = 2 ∨ c = 4
    · rw [if_pos z] at hF
      obtain ⟨dd, fs, v, g1, g2, g3, rfl⟩ := hF
      exact ⟨v, rfl, fun _ => ⟨dd, fs, g1, g2, g3⟩, fun y => absurd z y⟩
    · rw [if_neg z] at hF
      exact ⟨_, hF, fun y => absurd y z, fun _ => rfl⟩
  refine s_retU (eu_tup (ea_cons (ev_var rfl) (ea_cons (x := v) (ev_if (b := decide (c = 2 ∨ c = 4)) (et_is (et_test (ev_inU (ev_var rfl) (eu_tup (ea_cons ev_c (ea_cons ev_c ea_nil)) (by simp)) rfl rfl)) (tdW_n hc)) (fun z => ?_) fun z => ?_) ea_nil)) (by simp)) fun p H2 hp e2 h2 => fin e8' hp e2 h2
  · obtain ⟨dd, fs, g1, g2, g3⟩ := hv.1 (of_decide_eq_true z)
    exact ev_xf (ev_var rfl) g1 (e8' _ _ g2) g3
  · rw [hv.2 (of_decide_eq_false z)]
    exact ev_c
def tsT (xc : Nat → Addr) (a : Addr) (cls : Value) (d : Option Addr) : TS := fun D σ H => (∃ σ0 : L2.St, σ = σ0.set 1 (some (.ref a))) ∧ XTold xc D.rt cls d H
theorem told_run (T : Asked K mg xc) (N : Ten K xc NE) (gN : mg "NoticeError" = some (.ref NE)) {g : Addr} {v : V} {cdv : Value} {A0 : Around} {outer : List Env} {s : Shared} {H : Hp} {Q : VK} {tl : XK → Hp → VK → Prop} (hu : A0.units + 200 < cLine)
    (act : ∀ (W : WX) (pn : List (Addr × Obj)) (xe : Value → Shared → Prop) (E : XK) (p1 p2 : Pos), Takes ((cxOf C8.CX0 P w K mg base n_law_told "_law_told" (defScope s_law_told) g cdv A0 outer s H C8.E0).tr pn xe) W → (∀ cls d σ' H', E cls d H' → W cls d σ' H') →
      PE ((cxOf C8.CX0 P w K mg base n_law_told "_law_told" (defScope s_law_told) g cdv A0 outer s H C8.E0).tr pn xe) (.Call (.Name "_law_work" p1) [] [] p2) (fun σZ HZ Q => σZ[0]? = some (some v) ∧ tl E HZ Q))
    (h : tl (XTold xc Q) H Q) :
    ∃ t, PSs (cxOf C8.CX0 P w K mg base n_law_told "_law_told" (defScope s_law_told) g cdv A0 outer s H C8.E0).nox (defBody s_law_told) t ∧ t { nx := fun _ H' => Q .non H', rt := Q } (L2.start n_law_told [v]) H := by
  refine ⟨_, pss_one (ps_try_as (X := (cxOf C8.CX0 P w K mg base n_law_told "_law_told" (defScope s_law_told) g cdv A0 outer s H C8.E0).nox) (c := .ref NE) (i := 1)
      (tb := fun W D σ H => ∃ Ech : XK, (∀ cls d σ' H', Ech cls d H' → W cls d σ' H') ∧ σ[0]? = some (some v) ∧ tl Ech H D.rt) (ts := tsT xc)
      rfl rfl sc_law_told.nd rfl rfl ⟨by rfl, by decide, .inl gN⟩ takes0 (fun W pn xe tk _ => ?_) (fun a oe cls d pn hz hf => ?_)), ?_⟩
  · refine ⟨fun pins s' σ H' D I h' => ?_⟩
    obtain ⟨Ech, hW, h1, h3⟩ := h'
    exact (pss_one (ps_ret (act W pn xe Ech _ _ tk hW))).run pins s' σ H' D I ⟨h1, h3⟩
  · refine ⟨fun pins s' σ H' D I h' => ?_⟩
    obtain ⟨⟨σ0, rfl⟩, c, vs, rfl, hc10, hd, hF, k⟩ := h'
    obtain ⟨x0, x1, x2, x3, x4, rfl⟩ : ∃ x0 x1 x2 x3 x4, σ0 = [x0, x1, x2, x3, x4] := by
      have hl : (σ0.set 1 (some (.ref a))).length = 5 := I.len
      rw [List.length_set] at hl
      match σ0, hl with
      | [x0, x1, x2, x3, x4], _ => exact ⟨x0, x1, x2, x3, x4, rfl⟩
    obtain ⟨t, ht, hev⟩ := suite_ps (P := P) (w := w) (base := base) (f := g) (cdv := cdv) (A0 := A0) (outer := outer) (s := s) (H0 := H) (E := C8.E0) (a := a) (pn := pn) T hu _ rfl (N.no c hc10) (N.xk c hc10) (N.xf c hc10) hz hf
    exact ht.run pins s' _ H' D I (hev hc10 (fun j hj => N.is_ c j hc10 hj) (N.ve c hc10) hd hF k)
  · refine ⟨XTold xc Q, fun cls d σ' H' hx => ?_, rfl, h⟩
    obtain ⟨c, vs, rfl, hc10, hd, hF, k⟩ := hx
    exact ⟨true, N.ne c hc10, fun _ a ha => ⟨⟨σ', rfl⟩, c, vs, rfl, hc10, hd, hF, k⟩, fun z => by cases z⟩
theorem ok_told (T : Asked K mg xc) (N : Ten K xc NE) (gN : mg "NoticeError" = some (.ref NE)) {ft : Addr} {fdt : FuncData} (F : Fun K "_law_told" "_law_told" s_law_told ft fdt) (k : Nat) : FnOk P w K mg base CX0 (k + 2) ft fdt ["_law_work"] (spTold P w K mg base k xc) := by
  refine F.ok sc_law_told (fun vs H Q E h => by obtain ⟨v, l, t, L, σ, tb, rfl, _⟩ := h; rfl) fun cdv A outer s H vs Q E hr h => ?_
  obtain ⟨v, l, t', L, σ, tb, rfl, O, B, C, cb, hrun⟩ := h
  have hu : A.units + 200 < cLine := by
    have h1 := hr.un
    have h2 : A.units + 3 + 16 * (k + 1) + 200 < cLine := h1
    omega
  obtain ⟨t, h1, h2⟩ := told_run (P := P) (w := w) (base := base) (g := ft) (v := v) (cdv := cdv) (A0 := A) (outer := outer) (s := s) (H := H) (Q := Q) (tl := CloR L l t' σ v tb) T N gN hu (fun W pn xe Eb p1 p2 tk hW =>
    pe_clo (k := k) (i := 0) O B C tk hW hr cb rfl (by first | exact Or.inl rfl | exact Or.inr (Or.inl rfl) | exact Or.inr (Or.inr rfl))) hrun
  exact ⟨t, h1, h2⟩
/-! ### _law_all -/
abbrev s_law_all : Stmt := top 42
abbrev n_law_all : List Str := ["_law_works", "_law_due", "_law_work"]
theorem sc_law_all : FnScope n_law_all ["_law_works", "_law_due"] (defScope s_law_all) := ⟨rfl, rfl, rfl, by decide +kernel, rfl, by decide +kernel, by decide +kernel⟩
theorem ok_all {fl ft fa : Addr} {fdl fdt fda : FuncData} {spT spA : Sp} {kt ka kk : Nat} (F : Fun K "_law_all" "_law_all" s_law_all fl fdl) (FT : FnOk P w K mg base CX0 kt ft fdt ["_law_work"] spT) (gT : mg "_law_told" = some (.ref ft)) (kpT : PySem.W.keepIn K (.ref ft) = true) (bT : Binds K fdt ["_law_work"] [])
    (FA : FnOk P w K mg base CX0 ka fa fda ["_law_found", "_law_due"] spA) (gA : mg "_law_alike" = some (.ref fa)) (kpA : PySem.W.keepIn K (.ref fa) = true) (bA : Binds K fda ["_law_found", "_law_due"] []) (h1 : kt ≤ kk) (h2 : ka ≤ kk) : FnOk P w K mg base CX0 (kk + 1) fl fdl ["_law_works", "_law_due"] (spAll spT spA) := by
  refine F.ok sc_law_all (fun vs H Q E h => by obtain ⟨W0, vd, ws, rfl, _⟩ := h; rfl) fun cdv A outer s H vs Q E hr h => ?_
  obtain ⟨W0, vd, ws, rfl, hW, hq⟩ := h
  refine ⟨_, (pss_one (ps_ret (pe_cmpR (op_eqNilK K hr.units) (pe_lc (own := [("_law_work", 2)]) rfl sc_law_all.nd (pi_seqK K (pv 0)) (blkOk_by (N := n_law_all) (sc := defScope s_law_all) (own := [("_law_work", 2)]) (by decide +kernel)) (fun _ _ _ _ _ => (pg_name (i := 2) sc_law_all.nd rfl (by first | exact Or.inl rfl | exact Or.inr rfl))) (fun _ _ _ _ _ => pts_one (pt_not (pt_val (pe_call (fn_up FA) (hr.mono h2) rfl gA kpA bA .nil pass0 (pa_cons (pe_call (fn_up FT) (hr.mono h1) rfl gT kpT bT .nil pass0 (pa_cons (pv 2) pa_nil)) (pa_cons (pv 1) pa_nil)))))) (fun _ _ _ _ _ => (pv 2))) (pe_lst pa_nil) (nomark _)))), ?_⟩
  have nW : ∀ {D : Addr}, H D = none → W0 ≠ D := fun {D} n z => by rw [← z, hW] at n; cases n
  refine ⟨.ref W0, rfl, W0, rfl, .inl ⟨⟨ws, Or.inl (Or.inl hW)⟩, fun D hD => lc_list (K := K) (xs := ws) (fun i H' => H' D = some (.lst []) ∧ H' W0 = some (.lst ws) ∧ AR spT spA W0 D ws vd (fun H' => ∀ p, H' p = none → Q (.bl true) (upd H' p (.lst []))) (ws.drop i) H') ⟨upd_same, by rw [upd_ne (nW hD)]; exact hW, hq D hD⟩ (fun i H' _ p => Or.inl (Or.inl p.2.1)) (fun i x H' hx p => ?_) fun H' p => ?_⟩⟩
  · obtain ⟨p1, p2, p3⟩ := p
    obtain ⟨hi, rfl⟩ := List.getElem?_eq_some_iff.mp hx
    rw [List.drop_eq_getElem_cons hi] at p3
    unfold AR at p3
    refine ⟨rfl, ?_⟩
    show ∃ v, _ ∧ _
    refine ⟨ws[i], rfl, _, fun v H1 hv => ⟨vd, rfl, _, fun u H2 hu => ?_, hv⟩, p3⟩
    obtain ⟨rfl, g1, g2, g3⟩ := hu
    exact ⟨true, rfl, g1, g2, g3⟩
  · obtain ⟨p1, p2, p3⟩ := p
    rw [List.drop_length] at p3
    have nD : ∀ {q : Addr}, H' q = none → D ≠ q := fun {q} n z => by rw [← z, p1] at n; cases n
    exact ⟨by simp, fun q hq' => ⟨D, q, [], rfl, rfl, Or.inl (Or.inl (by rw [upd_ne (nD hq')]; exact p1)), Or.inl (Or.inl upd_same), p3 q hq'⟩⟩
end
end Wk
namespace Wk
open PySem L2 Yi
theorem is_number_ok (i lo hi : Int) (S : Sto) : d_is_number [.int i, .int lo, .int hi] S = some (.d (.bl (decide (lo ≤ i) && decide (i ≤ hi))), S) := by
  refine ok.get (den_ok rfl ?_)
  simp [m_is_number, sNext, sIf, sBreak, sCont, sNever, sExpr, sRet, sRetO, sRetN, sSet, sAsg, gNm, gsNil, gsCons, gT, gL, eD, eV, eBox, eNm, eC, eOp, eUn, aNil, aCons, eTup, eLst, eCB, bV, bAnd, bOr, bNot, eAnd, eOr, eNot, eIf, eChain, eCall, eFld, sFldS, sFldA, eMeth, eMake, bYes, fSub, fLt, fLe, fGt, fGe, fDiv, fMod, fPow, fNeg, fAdd, fMul, fIsN, fNotN, Yi.isNon, fEq, fNe, fIn, fInS, fIx, intR, oNo, oPart, fSl, eSl, eRev, sAppO, sExtO, sAug, oIx, oIn, oEq, sPar, sPar3, sSetIx, eDGet, eDIn, eDGet2, sDPutS, eDPop1, eDPop2, eDNewK, eDNewT, oDGet, oDIn, eBM, mApp, mExt, mPopAt, mIdx, cellL, iEv, iR1, iR2, iC, fLen, oLen, fMax, fMin, fAll, fAny, fSum, fSortI, fList, fTuple, fInt, fStr, fIsi, tyD, isLstD, isStrD, isDD, lstD, seqD, stD, eCallF, nAt, iSt, mJoin, mSplit, fAddI, sStar, iEnS, eSortSet, fSet, eLenSet, insAt, lkp, putD, ok_some, ok_none, ok_bind, ok_map, eq_int, eq_bl, sAsg, kb_NoneType_int, kb_NoneType_bool, kb_NoneType_str, kb_NoneType_tuple, kb_NoneType_list, kb_bool_int, kb_bool_bool, kb_bool_str, kb_bool_tuple, kb_bool_list, kb_int_int, kb_int_bool, kb_int_str, kb_int_tuple, kb_int_list, kb_str_int, kb_str_bool, kb_str_str, kb_str_tuple, kb_str_list, kb_tuple_int, kb_tuple_bool, kb_tuple_str, kb_tuple_tuple, kb_tuple_list, kb_list_int, kb_list_bool, kb_list_str, kb_list_tuple, kb_list_list, sz_0, sz_1, sz_2, sz_3, sz_4, sz_5, sz_6, sz_7, sz_8, sz_9, sz_10, sz_11, sz_12, sz_13, sz_14, sz_15, sz_16, ix_1_0, ix_2_0, ix_2_1, ix_3_0, ix_3_1, ix_3_2, ix_4_0, ix_4_1, ix_4_2, ix_4_3, ix_5_0, ix_5_1, ix_5_2, ix_5_3, ix_5_4, ix_6_0, ix_6_1, ix_6_2, ix_6_3, ix_6_4, ix_6_5, ix_7_0, ix_7_1, ix_7_2, ix_7_3, ix_7_4, ix_7_5, ix_7_6, sI_0, sI_1, sI_48271, sI_69621]
  by_cases h : lo ≤ i <;> simp [h, sNext, sIf, sBreak, sCont, sNever, sExpr, sRet, sRetO, sRetN, sSet, sAsg, gNm, gsNil, gsCons, gT, gL, eD, eV, eBox, eNm, eC, eOp, eUn, aNil, aCons, eTup, eLst, eCB, bV, bAnd, bOr, bNot, eAnd, eOr, eNot, eIf, eChain, eCall, eFld, sFldS, sFldA, eMeth, eMake, bYes, fSub, fLt, fLe, fGt, fGe, fDiv, fMod, fPow, fNeg, fAdd, fMul, fIsN, fNotN, Yi.isNon, fEq, fNe, fIn, fInS, fIx, intR, oNo, oPart, fSl, eSl, eRev, sAppO, sExtO, sAug, oIx, oIn, oEq, sPar, sPar3, sSetIx, eDGet, eDIn, eDGet2, sDPutS, eDPop1, eDPop2, eDNewK, eDNewT, oDGet, oDIn, eBM, mApp, mExt, mPopAt, mIdx, cellL, iEv, iR1, iR2, iC, fLen, oLen, fMax, fMin, fAll, fAny, fSum, fSortI, fList, fTuple, fInt, fStr, fIsi, tyD, isLstD, isStrD, isDD, lstD, seqD, stD, eCallF, nAt, iSt, mJoin, mSplit, fAddI, sStar, iEnS, eSortSet, fSet, eLenSet, insAt, lkp, putD, ok_some, ok_none, ok_bind, ok_map, eq_int, eq_bl, sAsg, kb_NoneType_int, kb_NoneType_bool, kb_NoneType_str, kb_NoneType_tuple, kb_NoneType_list, kb_bool_int, kb_bool_bool, kb_bool_str, kb_bool_tuple, kb_bool_list, kb_int_int, kb_int_bool, kb_int_str, kb_int_tuple, kb_int_list, kb_str_int, kb_str_bool, kb_str_str, kb_str_tuple, kb_str_list, kb_tuple_int, kb_tuple_bool, kb_tuple_str, kb_tuple_tuple, kb_tuple_list, kb_list_int, kb_list_bool, kb_list_str, kb_list_tuple, kb_list_list, sz_0, sz_1, sz_2, sz_3, sz_4, sz_5, sz_6, sz_7, sz_8, sz_9, sz_10, sz_11, sz_12, sz_13, sz_14, sz_15, sz_16, ix_1_0, ix_2_0, ix_2_1, ix_3_0, ix_3_1, ix_3_2, ix_4_0, ix_4_1, ix_4_2, ix_4_3, ix_5_0, ix_5_1, ix_5_2, ix_5_3, ix_5_4, ix_6_0, ix_6_1, ix_6_2, ix_6_3, ix_6_4, ix_6_5, ix_7_0, ix_7_1, ix_7_2, ix_7_3, ix_7_4, ix_7_5, ix_7_6, sI_0, sI_1, sI_48271, sI_69621]
theorem is_number_non (lo hi : Int) (S : Sto) : d_is_number [.non, .int lo, .int hi] S = some (.d (.bl false), S) := by
  refine ok.get (den_ok rfl ?_)
  simp [m_is_number, sNext, sIf, sBreak, sCont, sNever, sExpr, sRet, sRetO, sRetN, sSet, sAsg, gNm, gsNil, gsCons, gT, gL, eD, eV, eBox, eNm, eC, eOp, eUn, aNil, aCons, eTup, eLst, eCB, bV, bAnd, bOr, bNot, eAnd, eOr, eNot, eIf, eChain, eCall, eFld, sFldS, sFldA, eMeth, eMake, bYes, fSub, fLt, fLe, fGt, fGe, fDiv, fMod, fPow, fNeg, fAdd, fMul, fIsN, fNotN, Yi.isNon, fEq, fNe, fIn, fInS, fIx, intR, oNo, oPart, fSl, eSl, eRev, sAppO, sExtO, sAug, oIx, oIn, oEq, sPar, sPar3, sSetIx, eDGet, eDIn, eDGet2, sDPutS, eDPop1, eDPop2, eDNewK, eDNewT, oDGet, oDIn, eBM, mApp, mExt, mPopAt, mIdx, cellL, iEv, iR1, iR2, iC, fLen, oLen, fMax, fMin, fAll, fAny, fSum, fSortI, fList, fTuple, fInt, fStr, fIsi, tyD, isLstD, isStrD, isDD, lstD, seqD, stD, eCallF, nAt, iSt, mJoin, mSplit, fAddI, sStar, iEnS, eSortSet, fSet, eLenSet, insAt, lkp, putD, ok_some, ok_none, ok_bind, ok_map, eq_int, eq_bl, sAsg, kb_NoneType_int, kb_NoneType_bool, kb_NoneType_str, kb_NoneType_tuple, kb_NoneType_list, kb_bool_int, kb_bool_bool, kb_bool_str, kb_bool_tuple, kb_bool_list, kb_int_int, kb_int_bool, kb_int_str, kb_int_tuple, kb_int_list, kb_str_int, kb_str_bool, kb_str_str, kb_str_tuple, kb_str_list, kb_tuple_int, kb_tuple_bool, kb_tuple_str, kb_tuple_tuple, kb_tuple_list, kb_list_int, kb_list_bool, kb_list_str, kb_list_tuple, kb_list_list, sz_0, sz_1, sz_2, sz_3, sz_4, sz_5, sz_6, sz_7, sz_8, sz_9, sz_10, sz_11, sz_12, sz_13, sz_14, sz_15, sz_16, ix_1_0, ix_2_0, ix_2_1, ix_3_0, ix_3_1, ix_3_2, ix_4_0, ix_4_1, ix_4_2, ix_4_3, ix_5_0, ix_5_1, ix_5_2, ix_5_3, ix_5_4, ix_6_0, ix_6_1, ix_6_2, ix_6_3, ix_6_4, ix_6_5, ix_7_0, ix_7_1, ix_7_2, ix_7_3, ix_7_4, ix_7_5, ix_7_6, sI_0, sI_1, sI_48271, sI_69621]
/-- the drawer: cells 0 and 1 -/
def Box (S : Sto) : Prop := ∃ (ns : List Int) (z : Int), S[0]? = some (.lst (ns.map .int)) ∧ S[1]? = some (.lst [.ref 0, .int z])
def Kp (S S' : Sto) : Prop := S.length ≤ S'.length ∧ ∀ n, 2 ≤ n → n < S.length → S'[n]? = S[n]?
theorem Kp.refl (S : Sto) : Kp S S := ⟨Nat.le_refl _, fun _ _ _ => rfl⟩
theorem Kp.trans {S S' S'' : Sto} (a : Kp S S') (b : Kp S' S'') : Kp S S'' := ⟨Nat.le_trans a.1 b.1, fun n h1 h2 => (b.2 n h1 (Nat.lt_of_lt_of_le h2 a.1)).trans (a.2 n h1 h2)⟩
theorem take_ok {S : Sto} {k : Int} (hb : Box S) (h0 : 0 < k) (h1 : k < 2 ^ 80) {Q : VV × Sto → Prop} (hQ : ∀ r S', 0 ≤ r → r < k → Box S' → Kp S S' → Q (.d (.int r), S')) : ok (d_law_take [.ref 1, .int k] S) Q := by
  obtain ⟨ns, z, e0, e1⟩ := hb
  have hl : 2 ≤ S.length := by
    have := (List.getElem?_eq_some_iff.mp e1).1
    omega
  have z0 : szOk 0 = true := by decide
  have z1 : szOk 1 = true := by decide
  have i20 : ixN 2 0 = some 0 := by decide
  have i21 : ixN 2 1 = some 1 := by decide
  have hn : ∀ z : Int, 0 ≤ z % k ∧ z % k < k := fun z => ⟨Int.emod_nonneg _ (by omega), Int.emod_lt_of_pos _ h0⟩
  have kp : ∀ x y : Cell, Kp S ((S.set 0 x).set 1 y) := fun x y => ⟨by simp, fun n h2 h3 => by rw [List.getElem?_set_ne (by omega), List.getElem?_set_ne (by omega)]⟩
  have sh : ∀ ns : List Int, shps 11 (ns.map .int) (ns.map .int) S := fun ns => shps_map fun a _ => by simp only [shp]
  have el : eqD (.ref 0) (.fl []) S = some (ns.map D.int).isEmpty := eq_nilL (x := .ref 0) (by simp only [lstD]; rw [e0]) (sh ns)
  refine den_ok rfl ?_
  cases ns with
  | nil =>
    simp only [List.map_nil, List.isEmpty_nil] at el e0
    have w := kp (.lst []) (.lst [.ref 0, .int (z * 48271 % 2147483647)])
    have s0 : (S.set 1 (.lst [.ref 0, .int (z * 48271 % 2147483647)])) = (S.set 0 (.lst [])).set 1 (.lst [.ref 0, .int (z * 48271 % 2147483647)]) := by
      congr 1
      apply List.ext_getElem?
      intro i
      by_cases hi : i = 0
      · subst hi
        rw [List.getElem?_set_self (by omega), e0]
      · rw [List.getElem?_set_ne (Ne.symm hi)]
    have g0 : (S.set 1 (.lst [.ref 0, .int (z * 48271 % 2147483647)]))[1]? = some (.lst [.ref 0, .int (z * 48271 % 2147483647)]) := List.getElem?_set_self (by omega)
    have g1 : (S.set 1 (.lst [.ref 0, .int (z * 48271 % 2147483647)]))[0]? = some (.lst []) := by rw [List.getElem?_set_ne (by omega), e0]
    have sm : smallI 48271 = true := by decide
    simp [m_law_take, sSeq, sFrz, sBox, sNext, sIf, sBreak, sCont, sNever, sExpr, sRet, sRetO, sRetN, sSet, sAsg, gNm, gsNil, gsCons, gT, gL, eD, eV, eBox, eNm, eC, eOp, eUn, aNil, aCons, eTup, eLst, eCB, bV, bAnd, bOr, bNot, eAnd, eOr, eNot, eIf, eChain, eCall, eFld, sFldS, sFldA, eMeth, eMake, bYes, fSub, fLt, fLe, fGt, fGe, fDiv, fMod, fPow, fNeg, fAdd, fMul, fIsN, fNotN, Yi.isNon, fEq, fNe, fIn, fInS, fIx, intR, oNo, oPart, fSl, eSl, eRev, sAppO, sExtO, sAug, oIx, oIn, oEq, sPar, sPar3, sSetIx, eDGet, eDIn, eDGet2, sDPutS, eDPop1, eDPop2, eDNewK, eDNewT, oDGet, oDIn, eBM, mApp, mExt, mPopAt, mIdx, cellL, iEv, iR1, iR2, iC, fLen, oLen, fMax, fMin, fAll, fAny, fSum, fSortI, fList, fTuple, fInt, fStr, fIsi, tyD, isLstD, isStrD, isDD, lstD, seqD, stD, eCallF, nAt, iSt, mJoin, mSplit, fAddI, sStar, iEnS, eSortSet, fSet, eLenSet, insAt, lkp, putD, ok_some, ok_none, ok_bind, ok_map, eq_int, eq_bl, sAsg, kb_NoneType_int, kb_NoneType_bool, kb_NoneType_str, kb_NoneType_tuple, kb_NoneType_list, kb_bool_int, kb_bool_bool, kb_bool_str, kb_bool_tuple, kb_bool_list, kb_int_int, kb_int_bool, kb_int_str, kb_int_tuple, kb_int_list, kb_str_int, kb_str_bool, kb_str_str, kb_str_tuple, kb_str_list, kb_tuple_int, kb_tuple_bool, kb_tuple_str, kb_tuple_tuple, kb_tuple_list, kb_list_int, kb_list_bool, kb_list_str, kb_list_tuple, kb_list_list, sz_0, sz_1, sz_2, sz_3, sz_4, sz_5, sz_6, sz_7, sz_8, sz_9, sz_10, sz_11, sz_12, sz_13, sz_14, sz_15, sz_16, ix_1_0, ix_2_0, ix_2_1, ix_3_0, ix_3_1, ix_3_2, ix_4_0, ix_4_1, ix_4_2, ix_4_3, ix_5_0, ix_5_1, ix_5_2, ix_5_3, ix_5_4, ix_6_0, ix_6_1, ix_6_2, ix_6_3, ix_6_4, ix_6_5, ix_7_0, ix_7_1, ix_7_2, ix_7_3, ix_7_4, ix_7_5, ix_7_6, sI_0, sI_1, sI_48271, sI_69621, e0, e1, atI, z0, i20, i21, el, g0, sm, h0]
    exact hQ _ _ (hn _).1 (hn _).2 ⟨[], _, g1, g0⟩ (s0 ▸ w)
  | cons n r =>
    simp only [List.map_cons, List.isEmpty_cons] at el e0
    have ir : ixN (r.length + 1) 0 = some 0 := ix0 (by omega)
    have g0 : (S.set 0 (.lst (.int (n / k) :: r.map .int)))[0]? = some (.lst (.int (n / k) :: r.map .int)) := List.getElem?_set_self (by omega)
    have g1 : (S.set 0 (.lst (.int (n / k) :: r.map .int)))[1]? = some (.lst [.ref 0, .int z]) := by rw [List.getElem?_set_ne (by omega), e1]
    have w := kp (.lst (.int (n / k) :: r.map .int)) (.lst [.ref 0, .int z])
    have back : ∀ c : Cell, (S.set 0 c).set 1 (.lst [.ref 0, .int z]) = S.set 0 c := fun c => by
      apply List.ext_getElem?
      intro i
      by_cases hi : i = 1
      · subst hi
        rw [List.getElem?_set_self (by simp; omega), List.getElem?_set_ne (by omega), e1]
      · rw [List.getElem?_set_ne (Ne.symm hi)]
    have h2 : k < 1208925819614629174706176 := by omega
    simp [m_law_take, sSeq, sFrz, sBox, sNext, sIf, sBreak, sCont, sNever, sExpr, sRet, sRetO, sRetN, sSet, sAsg, gNm, gsNil, gsCons, gT, gL, eD, eV, eBox, eNm, eC, eOp, eUn, aNil, aCons, eTup, eLst, eCB, bV, bAnd, bOr, bNot, eAnd, eOr, eNot, eIf, eChain, eCall, eFld, sFldS, sFldA, eMeth, eMake, bYes, fSub, fLt, fLe, fGt, fGe, fDiv, fMod, fPow, fNeg, fAdd, fMul, fIsN, fNotN, Yi.isNon, fEq, fNe, fIn, fInS, fIx, intR, oNo, oPart, fSl, eSl, eRev, sAppO, sExtO, sAug, oIx, oIn, oEq, sPar, sPar3, sSetIx, eDGet, eDIn, eDGet2, sDPutS, eDPop1, eDPop2, eDNewK, eDNewT, oDGet, oDIn, eBM, mApp, mExt, mPopAt, mIdx, cellL, iEv, iR1, iR2, iC, fLen, oLen, fMax, fMin, fAll, fAny, fSum, fSortI, fList, fTuple, fInt, fStr, fIsi, tyD, isLstD, isStrD, isDD, lstD, seqD, stD, eCallF, nAt, iSt, mJoin, mSplit, fAddI, sStar, iEnS, eSortSet, fSet, eLenSet, insAt, lkp, putD, ok_some, ok_none, ok_bind, ok_map, eq_int, eq_bl, sAsg, kb_NoneType_int, kb_NoneType_bool, kb_NoneType_str, kb_NoneType_tuple, kb_NoneType_list, kb_bool_int, kb_bool_bool, kb_bool_str, kb_bool_tuple, kb_bool_list, kb_int_int, kb_int_bool, kb_int_str, kb_int_tuple, kb_int_list, kb_str_int, kb_str_bool, kb_str_str, kb_str_tuple, kb_str_list, kb_tuple_int, kb_tuple_bool, kb_tuple_str, kb_tuple_tuple, kb_tuple_list, kb_list_int, kb_list_bool, kb_list_str, kb_list_tuple, kb_list_list, sz_0, sz_1, sz_2, sz_3, sz_4, sz_5, sz_6, sz_7, sz_8, sz_9, sz_10, sz_11, sz_12, sz_13, sz_14, sz_15, sz_16, ix_1_0, ix_2_0, ix_2_1, ix_3_0, ix_3_1, ix_3_2, ix_4_0, ix_4_1, ix_4_2, ix_4_3, ix_5_0, ix_5_1, ix_5_2, ix_5_3, ix_5_4, ix_6_0, ix_6_1, ix_6_2, ix_6_3, ix_6_4, ix_6_5, ix_7_0, ix_7_1, ix_7_2, ix_7_3, ix_7_4, ix_7_5, ix_7_6, sI_0, sI_1, sI_48271, sI_69621, e0, e1, atI, z0, i20, i21, el, ir, h0, h2, g0, g1, eq_int, seqIndex?, ok_ite]
    have sm : smallI 0 = true := by decide
    have q1 : Q (.d (.int (n % k)), S.set 0 (.lst (r.map .int))) := hQ _ _ (hn _).1 (hn _).2 ⟨r, z, List.getElem?_set_self (by omega), by rw [List.getElem?_set_ne (by omega), e1]⟩ (back _ ▸ kp (.lst (r.map .int)) (.lst [.ref 0, .int z]))
    exact ⟨fun _ => q1, fun _ => ⟨fun _ => q1, fun _ => hQ _ _ (hn _).1 (hn _).2 ⟨n / k :: r, z, g0, g1⟩ (back _ ▸ w)⟩⟩
/-! ### rules and notices as data -/
structure Rl where
  hs : List (Int × Int)
  least : Int
  gs : List (Int × Int)
  wait : Option Int
  fur : Option Int
  hb : Bool
  tb : Bool
instance : Inhabited Rl := ⟨⟨[], 0, [], none, none, true, true⟩⟩
def oD : Option Int → D
  | none => .non
  | some i => .int i
def pD (p : Int × Int) : D := .tup [.int p.1, .int p.2]
def rD (r : Rl) : D := .tup [.tp r.hb (r.hs.map pD), .int r.least, .pt (r.gs.map pD), oD r.wait, oD r.fur]
/-- what kind of tuple the rules are -/
def tgL (rs : List Rl) : Bool := (rs.headD default).tb
theorem tgL_true {rs : List Rl} (h : ∀ r ∈ rs, r.tb = true) : tgL rs = true := by
  cases rs with
  | nil => rfl
  | cons r t => exact h r (by simp)
structure Nt where
  person : Int
  rank : Int
  kind : Int
  born : Int
def nD (n : Nt) : D := .tup [.int n.person, .int n.rank, .int n.kind, .int n.born]
structure Rl.Good (r : Rl) (many : Nat) : Prop where
  hl : r.hs.length ≤ 3
  hh : ∀ p ∈ r.hs, 0 ≤ p.1 ∧ p.1 ≤ 23 ∧ 0 ≤ p.2 ∧ p.2 ≤ 23 ∧ p.1 ≠ p.2
  l0 : 0 ≤ r.least
  l4 : r.least ≤ 4
  gl : r.gs.length ≤ 4
  gk : ∀ p ∈ r.gs, 0 ≤ p.1 ∧ p.1 ≤ 7 ∧ 1 ≤ p.2 ∧ p.2 ≤ 12
  gr : (r.gs.map (·.1)).Pairwise (· < ·)
  w : ∀ i, r.wait = some i → 1 ≤ i ∧ i ≤ 24
  f : ∀ i, r.fur = some i → 0 ≤ i ∧ i < many
end Wk
namespace Wk
open PySem L2 Yi
def GoodHp (hs : List (Int × Int)) : Prop := ∀ p ∈ hs, 0 ≤ p.1 ∧ p.1 ≤ 23 ∧ 0 ≤ p.2 ∧ p.2 ≤ 23 ∧ p.1 ≠ p.2
def InvH (S : Sto) (n i : Nat) (ρ : Slt) (S2 : Sto) : Prop := ∃ (hs : List (Int × Int)) (a b : Option VV), ρ = [some (.d (.ref 1)), some (.own (.lst (hs.map pD))), a, b] ∧ hs.length ≤ i ∧ i ≤ n ∧ GoodHp hs ∧ Box S2 ∧ Kp S S2
theorem stretches_ok {S : Sto} (hb : Box S) {Q : VV × Sto → Prop} (hQ : ∀ (hs : List (Int × Int)) S', hs.length ≤ 3 → GoodHp hs → Box S' → Kp S S' → Q (.d (.pt (hs.map pD)), S')) : ok (d_law_stretches [.ref 1] S) Q := by
  refine den_ok rfl (seq_ok ?_)
  simp [sNext, sIf, sBreak, sCont, sNever, sExpr, sRet, sRetO, sRetN, sSet, sAsg, gNm, gsNil, gsCons, gT, gL, eD, eV, eBox, eNm, eC, eOp, eUn, aNil, aCons, eTup, eLst, eCB, bV, bAnd, bOr, bNot, eAnd, eOr, eNot, eIf, eChain, eCall, eFld, sFldS, sFldA, eMeth, eMake, bYes, fSub, fLt, fLe, fGt, fGe, fDiv, fMod, fPow, fNeg, fAdd, fMul, fIsN, fNotN, Yi.isNon, fEq, fNe, fIn, fInS, fIx, intR, oNo, oPart, fSl, eSl, eRev, sAppO, sExtO, sAug, oIx, oIn, oEq, sPar, sPar3, sSetIx, eDGet, eDIn, eDGet2, sDPutS, eDPop1, eDPop2, eDNewK, eDNewT, oDGet, oDIn, eBM, mApp, mExt, mPopAt, mIdx, cellL, iEv, iR1, iR2, iC, fLen, oLen, fMax, fMin, fAll, fAny, fSum, fSortI, fList, fTuple, fInt, fStr, fIsi, tyD, isLstD, isStrD, isDD, lstD, seqD, stD, eCallF, nAt, iSt, mJoin, mSplit, fAddI, sStar, iEnS, eSortSet, fSet, eLenSet, insAt, lkp, putD, ok_some, ok_none, ok_bind, ok_map, eq_int, eq_bl, sAsg, kb_NoneType_int, kb_NoneType_bool, kb_NoneType_str, kb_NoneType_tuple, kb_NoneType_list, kb_bool_int, kb_bool_bool, kb_bool_str, kb_bool_tuple, kb_bool_list, kb_int_int, kb_int_bool, kb_int_str, kb_int_tuple, kb_int_list, kb_str_int, kb_str_bool, kb_str_str, kb_str_tuple, kb_str_list, kb_tuple_int, kb_tuple_bool, kb_tuple_str, kb_tuple_tuple, kb_tuple_list, kb_list_int, kb_list_bool, kb_list_str, kb_list_tuple, kb_list_list, sz_0, sz_1, sz_2, sz_3, sz_4, sz_5, sz_6, sz_7, sz_8, sz_9, sz_10, sz_11, sz_12, sz_13, sz_14, sz_15, sz_16, ix_1_0, ix_2_0, ix_2_1, ix_3_0, ix_3_1, ix_3_2, ix_4_0, ix_4_1, ix_4_2, ix_4_3, ix_5_0, ix_5_1, ix_5_2, ix_5_3, ix_5_4, ix_6_0, ix_6_1, ix_6_2, ix_6_3, ix_6_4, ix_6_5, ix_7_0, ix_7_1, ix_7_2, ix_7_3, ix_7_4, ix_7_5, ix_7_6, sI_0, sI_1, sI_48271, sI_69621]
  refine seq_ok (for_ok ?_)
  simp [sNext, sIf, sBreak, sCont, sNever, sExpr, sRet, sRetO, sRetN, sSet, sAsg, gNm, gsNil, gsCons, gT, gL, eD, eV, eBox, eNm, eC, eOp, eUn, aNil, aCons, eTup, eLst, eCB, bV, bAnd, bOr, bNot, eAnd, eOr, eNot, eIf, eChain, eCall, eFld, sFldS, sFldA, eMeth, eMake, bYes, fSub, fLt, fLe, fGt, fGe, fDiv, fMod, fPow, fNeg, fAdd, fMul, fIsN, fNotN, Yi.isNon, fEq, fNe, fIn, fInS, fIx, intR, oNo, oPart, fSl, eSl, eRev, sAppO, sExtO, sAug, oIx, oIn, oEq, sPar, sPar3, sSetIx, eDGet, eDIn, eDGet2, sDPutS, eDPop1, eDPop2, eDNewK, eDNewT, oDGet, oDIn, eBM, mApp, mExt, mPopAt, mIdx, cellL, iEv, iR1, iR2, iC, fLen, oLen, fMax, fMin, fAll, fAny, fSum, fSortI, fList, fTuple, fInt, fStr, fIsi, tyD, isLstD, isStrD, isDD, lstD, seqD, stD, eCallF, nAt, iSt, mJoin, mSplit, fAddI, sStar, iEnS, eSortSet, fSet, eLenSet, insAt, lkp, putD, ok_some, ok_none, ok_bind, ok_map, eq_int, eq_bl, sAsg, kb_NoneType_int, kb_NoneType_bool, kb_NoneType_str, kb_NoneType_tuple, kb_NoneType_list, kb_bool_int, kb_bool_bool, kb_bool_str, kb_bool_tuple, kb_bool_list, kb_int_int, kb_int_bool, kb_int_str, kb_int_tuple, kb_int_list, kb_str_int, kb_str_bool, kb_str_str, kb_str_tuple, kb_str_list, kb_tuple_int, kb_tuple_bool, kb_tuple_str, kb_tuple_tuple, kb_tuple_list, kb_list_int, kb_list_bool, kb_list_str, kb_list_tuple, kb_list_list, sz_0, sz_1, sz_2, sz_3, sz_4, sz_5, sz_6, sz_7, sz_8, sz_9, sz_10, sz_11, sz_12, sz_13, sz_14, sz_15, sz_16, ix_1_0, ix_2_0, ix_2_1, ix_3_0, ix_3_1, ix_3_2, ix_4_0, ix_4_1, ix_4_2, ix_4_3, ix_5_0, ix_5_1, ix_5_2, ix_5_3, ix_5_4, ix_6_0, ix_6_1, ix_6_2, ix_6_3, ix_6_4, ix_6_5, ix_7_0, ix_7_1, ix_7_2, ix_7_3, ix_7_4, ix_7_5, ix_7_6, sI_0, sI_1, sI_48271, sI_69621]
  refine take_ok hb (by decide) (by decide) fun n S1 h0 h4 b1 k1 => ?_
  simp [sNext, sIf, sBreak, sCont, sNever, sExpr, sRet, sRetO, sRetN, sSet, sAsg, gNm, gsNil, gsCons, gT, gL, eD, eV, eBox, eNm, eC, eOp, eUn, aNil, aCons, eTup, eLst, eCB, bV, bAnd, bOr, bNot, eAnd, eOr, eNot, eIf, eChain, eCall, eFld, sFldS, sFldA, eMeth, eMake, bYes, fSub, fLt, fLe, fGt, fGe, fDiv, fMod, fPow, fNeg, fAdd, fMul, fIsN, fNotN, Yi.isNon, fEq, fNe, fIn, fInS, fIx, intR, oNo, oPart, fSl, eSl, eRev, sAppO, sExtO, sAug, oIx, oIn, oEq, sPar, sPar3, sSetIx, eDGet, eDIn, eDGet2, sDPutS, eDPop1, eDPop2, eDNewK, eDNewT, oDGet, oDIn, eBM, mApp, mExt, mPopAt, mIdx, cellL, iEv, iR1, iR2, iC, fLen, oLen, fMax, fMin, fAll, fAny, fSum, fSortI, fList, fTuple, fInt, fStr, fIsi, tyD, isLstD, isStrD, isDD, lstD, seqD, stD, eCallF, nAt, iSt, mJoin, mSplit, fAddI, sStar, iEnS, eSortSet, fSet, eLenSet, insAt, lkp, putD, ok_some, ok_none, ok_bind, ok_map, eq_int, eq_bl, sAsg, kb_NoneType_int, kb_NoneType_bool, kb_NoneType_str, kb_NoneType_tuple, kb_NoneType_list, kb_bool_int, kb_bool_bool, kb_bool_str, kb_bool_tuple, kb_bool_list, kb_int_int, kb_int_bool, kb_int_str, kb_int_tuple, kb_int_list, kb_str_int, kb_str_bool, kb_str_str, kb_str_tuple, kb_str_list, kb_tuple_int, kb_tuple_bool, kb_tuple_str, kb_tuple_tuple, kb_tuple_list, kb_list_int, kb_list_bool, kb_list_str, kb_list_tuple, kb_list_list, sz_0, sz_1, sz_2, sz_3, sz_4, sz_5, sz_6, sz_7, sz_8, sz_9, sz_10, sz_11, sz_12, sz_13, sz_14, sz_15, sz_16, ix_1_0, ix_2_0, ix_2_1, ix_3_0, ix_3_1, ix_3_2, ix_4_0, ix_4_1, ix_4_2, ix_4_3, ix_5_0, ix_5_1, ix_5_2, ix_5_3, ix_5_4, ix_6_0, ix_6_1, ix_6_2, ix_6_3, ix_6_4, ix_6_5, ix_7_0, ix_7_1, ix_7_2, ix_7_3, ix_7_4, ix_7_5, ix_7_6, sI_0, sI_1, sI_48271, sI_69621, smR h0 (by omega)]
  refine (forL_ok (InvH S n.toNat) (rngL 0 n.toNat) 0 ⟨[], none, none, rfl, by simp, by simp, by simp [GoodHp], b1, k1⟩ ?_).mono ?_
  · rintro i d hd ρ S2 ⟨hs, a, b, rfl, hl, hn, hg, b2, k2⟩
    obtain ⟨hi, rfl⟩ := rng_get hd
    simp [gNm, m_law_stretches_1, sNext, sIf, sBreak, sCont, sNever, sExpr, sRet, sRetO, sRetN, sSet, sAsg, gNm, gsNil, gsCons, gT, gL, eD, eV, eBox, eNm, eC, eOp, eUn, aNil, aCons, eTup, eLst, eCB, bV, bAnd, bOr, bNot, eAnd, eOr, eNot, eIf, eChain, eCall, eFld, sFldS, sFldA, eMeth, eMake, bYes, fSub, fLt, fLe, fGt, fGe, fDiv, fMod, fPow, fNeg, fAdd, fMul, fIsN, fNotN, Yi.isNon, fEq, fNe, fIn, fInS, fIx, intR, oNo, oPart, fSl, eSl, eRev, sAppO, sExtO, sAug, oIx, oIn, oEq, sPar, sPar3, sSetIx, eDGet, eDIn, eDGet2, sDPutS, eDPop1, eDPop2, eDNewK, eDNewT, oDGet, oDIn, eBM, mApp, mExt, mPopAt, mIdx, cellL, iEv, iR1, iR2, iC, fLen, oLen, fMax, fMin, fAll, fAny, fSum, fSortI, fList, fTuple, fInt, fStr, fIsi, tyD, isLstD, isStrD, isDD, lstD, seqD, stD, eCallF, nAt, iSt, mJoin, mSplit, fAddI, sStar, iEnS, eSortSet, fSet, eLenSet, insAt, lkp, putD, ok_some, ok_none, ok_bind, ok_map, eq_int, eq_bl, sAsg, kb_NoneType_int, kb_NoneType_bool, kb_NoneType_str, kb_NoneType_tuple, kb_NoneType_list, kb_bool_int, kb_bool_bool, kb_bool_str, kb_bool_tuple, kb_bool_list, kb_int_int, kb_int_bool, kb_int_str, kb_int_tuple, kb_int_list, kb_str_int, kb_str_bool, kb_str_str, kb_str_tuple, kb_str_list, kb_tuple_int, kb_tuple_bool, kb_tuple_str, kb_tuple_tuple, kb_tuple_list, kb_list_int, kb_list_bool, kb_list_str, kb_list_tuple, kb_list_list, sz_0, sz_1, sz_2, sz_3, sz_4, sz_5, sz_6, sz_7, sz_8, sz_9, sz_10, sz_11, sz_12, sz_13, sz_14, sz_15, sz_16, ix_1_0, ix_2_0, ix_2_1, ix_3_0, ix_3_1, ix_3_2, ix_4_0, ix_4_1, ix_4_2, ix_4_3, ix_5_0, ix_5_1, ix_5_2, ix_5_3, ix_5_4, ix_6_0, ix_6_1, ix_6_2, ix_6_3, ix_6_4, ix_6_5, ix_7_0, ix_7_1, ix_7_2, ix_7_3, ix_7_4, ix_7_5, ix_7_6, sI_0, sI_1, sI_48271, sI_69621]
    refine seq_ok ?_
    simp [sNext, sIf, sBreak, sCont, sNever, sExpr, sRet, sRetO, sRetN, sSet, sAsg, gNm, gsNil, gsCons, gT, gL, eD, eV, eBox, eNm, eC, eOp, eUn, aNil, aCons, eTup, eLst, eCB, bV, bAnd, bOr, bNot, eAnd, eOr, eNot, eIf, eChain, eCall, eFld, sFldS, sFldA, eMeth, eMake, bYes, fSub, fLt, fLe, fGt, fGe, fDiv, fMod, fPow, fNeg, fAdd, fMul, fIsN, fNotN, Yi.isNon, fEq, fNe, fIn, fInS, fIx, intR, oNo, oPart, fSl, eSl, eRev, sAppO, sExtO, sAug, oIx, oIn, oEq, sPar, sPar3, sSetIx, eDGet, eDIn, eDGet2, sDPutS, eDPop1, eDPop2, eDNewK, eDNewT, oDGet, oDIn, eBM, mApp, mExt, mPopAt, mIdx, cellL, iEv, iR1, iR2, iC, fLen, oLen, fMax, fMin, fAll, fAny, fSum, fSortI, fList, fTuple, fInt, fStr, fIsi, tyD, isLstD, isStrD, isDD, lstD, seqD, stD, eCallF, nAt, iSt, mJoin, mSplit, fAddI, sStar, iEnS, eSortSet, fSet, eLenSet, insAt, lkp, putD, ok_some, ok_none, ok_bind, ok_map, eq_int, eq_bl, sAsg, kb_NoneType_int, kb_NoneType_bool, kb_NoneType_str, kb_NoneType_tuple, kb_NoneType_list, kb_bool_int, kb_bool_bool, kb_bool_str, kb_bool_tuple, kb_bool_list, kb_int_int, kb_int_bool, kb_int_str, kb_int_tuple, kb_int_list, kb_str_int, kb_str_bool, kb_str_str, kb_str_tuple, kb_str_list, kb_tuple_int, kb_tuple_bool, kb_tuple_str, kb_tuple_tuple, kb_tuple_list, kb_list_int, kb_list_bool, kb_list_str, kb_list_tuple, kb_list_list, sz_0, sz_1, sz_2, sz_3, sz_4, sz_5, sz_6, sz_7, sz_8, sz_9, sz_10, sz_11, sz_12, sz_13, sz_14, sz_15, sz_16, ix_1_0, ix_2_0, ix_2_1, ix_3_0, ix_3_1, ix_3_2, ix_4_0, ix_4_1, ix_4_2, ix_4_3, ix_5_0, ix_5_1, ix_5_2, ix_5_3, ix_5_4, ix_6_0, ix_6_1, ix_6_2, ix_6_3, ix_6_4, ix_6_5, ix_7_0, ix_7_1, ix_7_2, ix_7_3, ix_7_4, ix_7_5, ix_7_6, sI_0, sI_1, sI_48271, sI_69621]
    refine take_ok b2 (by decide) (by decide) fun x S3 x0 x1 b3 k3 => ?_
    simp [sNext, sIf, sBreak, sCont, sNever, sExpr, sRet, sRetO, sRetN, sSet, sAsg, gNm, gsNil, gsCons, gT, gL, eD, eV, eBox, eNm, eC, eOp, eUn, aNil, aCons, eTup, eLst, eCB, bV, bAnd, bOr, bNot, eAnd, eOr, eNot, eIf, eChain, eCall, eFld, sFldS, sFldA, eMeth, eMake, bYes, fSub, fLt, fLe, fGt, fGe, fDiv, fMod, fPow, fNeg, fAdd, fMul, fIsN, fNotN, Yi.isNon, fEq, fNe, fIn, fInS, fIx, intR, oNo, oPart, fSl, eSl, eRev, sAppO, sExtO, sAug, oIx, oIn, oEq, sPar, sPar3, sSetIx, eDGet, eDIn, eDGet2, sDPutS, eDPop1, eDPop2, eDNewK, eDNewT, oDGet, oDIn, eBM, mApp, mExt, mPopAt, mIdx, cellL, iEv, iR1, iR2, iC, fLen, oLen, fMax, fMin, fAll, fAny, fSum, fSortI, fList, fTuple, fInt, fStr, fIsi, tyD, isLstD, isStrD, isDD, lstD, seqD, stD, eCallF, nAt, iSt, mJoin, mSplit, fAddI, sStar, iEnS, eSortSet, fSet, eLenSet, insAt, lkp, putD, ok_some, ok_none, ok_bind, ok_map, eq_int, eq_bl, sAsg, kb_NoneType_int, kb_NoneType_bool, kb_NoneType_str, kb_NoneType_tuple, kb_NoneType_list, kb_bool_int, kb_bool_bool, kb_bool_str, kb_bool_tuple, kb_bool_list, kb_int_int, kb_int_bool, kb_int_str, kb_int_tuple, kb_int_list, kb_str_int, kb_str_bool, kb_str_str, kb_str_tuple, kb_str_list, kb_tuple_int, kb_tuple_bool, kb_tuple_str, kb_tuple_tuple, kb_tuple_list, kb_list_int, kb_list_bool, kb_list_str, kb_list_tuple, kb_list_list, sz_0, sz_1, sz_2, sz_3, sz_4, sz_5, sz_6, sz_7, sz_8, sz_9, sz_10, sz_11, sz_12, sz_13, sz_14, sz_15, sz_16, ix_1_0, ix_2_0, ix_2_1, ix_3_0, ix_3_1, ix_3_2, ix_4_0, ix_4_1, ix_4_2, ix_4_3, ix_5_0, ix_5_1, ix_5_2, ix_5_3, ix_5_4, ix_6_0, ix_6_1, ix_6_2, ix_6_3, ix_6_4, ix_6_5, ix_7_0, ix_7_1, ix_7_2, ix_7_3, ix_7_4, ix_7_5, ix_7_6, sI_0, sI_1, sI_48271, sI_69621]
    refine take_ok b3 (by decide) (by decide) fun y S4 y0 y1 b4 k4 => ?_
    have go : ∀ lim : Int, 0 < lim → lim ≤ 23 → ∀ {R : VV × Sto → Prop}, (∀ r S', 0 ≤ r → r < 23 → Box S' → Kp S S' → R (.d (.int r), S')) → ok (d_law_take [.ref 1, .int lim] S4) R := fun lim l0 l1 R hR =>
      take_ok b4 l0 (by omega) fun r S5 r0 r1 b5 k5 => hR r S5 r0 (by omega) b5 (((k2.trans k3).trans k4).trans k5)
    have len : szOk hs.length = true := by simp [szOk]; omega
    have fin : ∀ (r : Int) (S5 : Sto) (a b : Option VV), 0 ≤ r → r < 23 → Box S5 → Kp S S5 → InvH S n.toNat (i + 1) [some (.d (.ref 1)), some (.own (.lst (hs.map pD ++ [.tup [.int x, .int ((x + 1 + r) % 24)]]))), a, b] S5 :=
      fun r S5 a b r0 r1 b5 k5 => ⟨hs ++ [(x, (x + 1 + r) % 24)], a, b, by simp [pD], by simp; omega, by omega, by
        intro p hp
        rcases List.mem_append.mp hp with q | q
        · exact hg p q
        · have e : p = (x, (x + 1 + r) % 24) := by simpa using q
          subst e
          dsimp only
          omega, b5, k5⟩
    rcases (by omega : y = 0 ∨ y = 1) with rfl | rfl
    · simp [sNext, sIf, sBreak, sCont, sNever, sExpr, sRet, sRetO, sRetN, sSet, sAsg, gNm, gsNil, gsCons, gT, gL, eD, eV, eBox, eNm, eC, eOp, eUn, aNil, aCons, eTup, eLst, eCB, bV, bAnd, bOr, bNot, eAnd, eOr, eNot, eIf, eChain, eCall, eFld, sFldS, sFldA, eMeth, eMake, bYes, fSub, fLt, fLe, fGt, fGe, fDiv, fMod, fPow, fNeg, fAdd, fMul, fIsN, fNotN, Yi.isNon, fEq, fNe, fIn, fInS, fIx, intR, oNo, oPart, fSl, eSl, eRev, sAppO, sExtO, sAug, oIx, oIn, oEq, sPar, sPar3, sSetIx, eDGet, eDIn, eDGet2, sDPutS, eDPop1, eDPop2, eDNewK, eDNewT, oDGet, oDIn, eBM, mApp, mExt, mPopAt, mIdx, cellL, iEv, iR1, iR2, iC, fLen, oLen, fMax, fMin, fAll, fAny, fSum, fSortI, fList, fTuple, fInt, fStr, fIsi, tyD, isLstD, isStrD, isDD, lstD, seqD, stD, eCallF, nAt, iSt, mJoin, mSplit, fAddI, sStar, iEnS, eSortSet, fSet, eLenSet, insAt, lkp, putD, ok_some, ok_none, ok_bind, ok_map, eq_int, eq_bl, sAsg, kb_NoneType_int, kb_NoneType_bool, kb_NoneType_str, kb_NoneType_tuple, kb_NoneType_list, kb_bool_int, kb_bool_bool, kb_bool_str, kb_bool_tuple, kb_bool_list, kb_int_int, kb_int_bool, kb_int_str, kb_int_tuple, kb_int_list, kb_str_int, kb_str_bool, kb_str_str, kb_str_tuple, kb_str_list, kb_tuple_int, kb_tuple_bool, kb_tuple_str, kb_tuple_tuple, kb_tuple_list, kb_list_int, kb_list_bool, kb_list_str, kb_list_tuple, kb_list_list, sz_0, sz_1, sz_2, sz_3, sz_4, sz_5, sz_6, sz_7, sz_8, sz_9, sz_10, sz_11, sz_12, sz_13, sz_14, sz_15, sz_16, ix_1_0, ix_2_0, ix_2_1, ix_3_0, ix_3_1, ix_3_2, ix_4_0, ix_4_1, ix_4_2, ix_4_3, ix_5_0, ix_5_1, ix_5_2, ix_5_3, ix_5_4, ix_6_0, ix_6_1, ix_6_2, ix_6_3, ix_6_4, ix_6_5, ix_7_0, ix_7_1, ix_7_2, ix_7_3, ix_7_4, ix_7_5, ix_7_6, sI_0, sI_1, sI_48271, sI_69621, atI]
      refine go 23 (by decide) (by decide) fun r S5 r0 r1 b5 k5 => ?_
      simp [sNext, sIf, sBreak, sCont, sNever, sExpr, sRet, sRetO, sRetN, sSet, sAsg, gNm, gsNil, gsCons, gT, gL, eD, eV, eBox, eNm, eC, eOp, eUn, aNil, aCons, eTup, eLst, eCB, bV, bAnd, bOr, bNot, eAnd, eOr, eNot, eIf, eChain, eCall, eFld, sFldS, sFldA, eMeth, eMake, bYes, fSub, fLt, fLe, fGt, fGe, fDiv, fMod, fPow, fNeg, fAdd, fMul, fIsN, fNotN, Yi.isNon, fEq, fNe, fIn, fInS, fIx, intR, oNo, oPart, fSl, eSl, eRev, sAppO, sExtO, sAug, oIx, oIn, oEq, sPar, sPar3, sSetIx, eDGet, eDIn, eDGet2, sDPutS, eDPop1, eDPop2, eDNewK, eDNewT, oDGet, oDIn, eBM, mApp, mExt, mPopAt, mIdx, cellL, iEv, iR1, iR2, iC, fLen, oLen, fMax, fMin, fAll, fAny, fSum, fSortI, fList, fTuple, fInt, fStr, fIsi, tyD, isLstD, isStrD, isDD, lstD, seqD, stD, eCallF, nAt, iSt, mJoin, mSplit, fAddI, sStar, iEnS, eSortSet, fSet, eLenSet, insAt, lkp, putD, ok_some, ok_none, ok_bind, ok_map, eq_int, eq_bl, sAsg, kb_NoneType_int, kb_NoneType_bool, kb_NoneType_str, kb_NoneType_tuple, kb_NoneType_list, kb_bool_int, kb_bool_bool, kb_bool_str, kb_bool_tuple, kb_bool_list, kb_int_int, kb_int_bool, kb_int_str, kb_int_tuple, kb_int_list, kb_str_int, kb_str_bool, kb_str_str, kb_str_tuple, kb_str_list, kb_tuple_int, kb_tuple_bool, kb_tuple_str, kb_tuple_tuple, kb_tuple_list, kb_list_int, kb_list_bool, kb_list_str, kb_list_tuple, kb_list_list, sz_0, sz_1, sz_2, sz_3, sz_4, sz_5, sz_6, sz_7, sz_8, sz_9, sz_10, sz_11, sz_12, sz_13, sz_14, sz_15, sz_16, ix_1_0, ix_2_0, ix_2_1, ix_3_0, ix_3_1, ix_3_2, ix_4_0, ix_4_1, ix_4_2, ix_4_3, ix_5_0, ix_5_1, ix_5_2, ix_5_3, ix_5_4, ix_6_0, ix_6_1, ix_6_2, ix_6_3, ix_6_4, ix_6_5, ix_7_0, ix_7_1, ix_7_2, ix_7_3, ix_7_4, ix_7_5, ix_7_6, sI_0, sI_1, sI_48271, sI_69621, len]
      exact fin r S5 _ _ r0 r1 b5 k5
    · simp [sNext, sIf, sBreak, sCont, sNever, sExpr, sRet, sRetO, sRetN, sSet, sAsg, gNm, gsNil, gsCons, gT, gL, eD, eV, eBox, eNm, eC, eOp, eUn, aNil, aCons, eTup, eLst, eCB, bV, bAnd, bOr, bNot, eAnd, eOr, eNot, eIf, eChain, eCall, eFld, sFldS, sFldA, eMeth, eMake, bYes, fSub, fLt, fLe, fGt, fGe, fDiv, fMod, fPow, fNeg, fAdd, fMul, fIsN, fNotN, Yi.isNon, fEq, fNe, fIn, fInS, fIx, intR, oNo, oPart, fSl, eSl, eRev, sAppO, sExtO, sAug, oIx, oIn, oEq, sPar, sPar3, sSetIx, eDGet, eDIn, eDGet2, sDPutS, eDPop1, eDPop2, eDNewK, eDNewT, oDGet, oDIn, eBM, mApp, mExt, mPopAt, mIdx, cellL, iEv, iR1, iR2, iC, fLen, oLen, fMax, fMin, fAll, fAny, fSum, fSortI, fList, fTuple, fInt, fStr, fIsi, tyD, isLstD, isStrD, isDD, lstD, seqD, stD, eCallF, nAt, iSt, mJoin, mSplit, fAddI, sStar, iEnS, eSortSet, fSet, eLenSet, insAt, lkp, putD, ok_some, ok_none, ok_bind, ok_map, eq_int, eq_bl, sAsg, kb_NoneType_int, kb_NoneType_bool, kb_NoneType_str, kb_NoneType_tuple, kb_NoneType_list, kb_bool_int, kb_bool_bool, kb_bool_str, kb_bool_tuple, kb_bool_list, kb_int_int, kb_int_bool, kb_int_str, kb_int_tuple, kb_int_list, kb_str_int, kb_str_bool, kb_str_str, kb_str_tuple, kb_str_list, kb_tuple_int, kb_tuple_bool, kb_tuple_str, kb_tuple_tuple, kb_tuple_list, kb_list_int, kb_list_bool, kb_list_str, kb_list_tuple, kb_list_list, sz_0, sz_1, sz_2, sz_3, sz_4, sz_5, sz_6, sz_7, sz_8, sz_9, sz_10, sz_11, sz_12, sz_13, sz_14, sz_15, sz_16, ix_1_0, ix_2_0, ix_2_1, ix_3_0, ix_3_1, ix_3_2, ix_4_0, ix_4_1, ix_4_2, ix_4_3, ix_5_0, ix_5_1, ix_5_2, ix_5_3, ix_5_4, ix_6_0, ix_6_1, ix_6_2, ix_6_3, ix_6_4, ix_6_5, ix_7_0, ix_7_1, ix_7_2, ix_7_3, ix_7_4, ix_7_5, ix_7_6, sI_0, sI_1, sI_48271, sI_69621, atI]
      refine go 9 (by decide) (by decide) fun r S5 r0 r1 b5 k5 => ?_
      simp [sNext, sIf, sBreak, sCont, sNever, sExpr, sRet, sRetO, sRetN, sSet, sAsg, gNm, gsNil, gsCons, gT, gL, eD, eV, eBox, eNm, eC, eOp, eUn, aNil, aCons, eTup, eLst, eCB, bV, bAnd, bOr, bNot, eAnd, eOr, eNot, eIf, eChain, eCall, eFld, sFldS, sFldA, eMeth, eMake, bYes, fSub, fLt, fLe, fGt, fGe, fDiv, fMod, fPow, fNeg, fAdd, fMul, fIsN, fNotN, Yi.isNon, fEq, fNe, fIn, fInS, fIx, intR, oNo, oPart, fSl, eSl, eRev, sAppO, sExtO, sAug, oIx, oIn, oEq, sPar, sPar3, sSetIx, eDGet, eDIn, eDGet2, sDPutS, eDPop1, eDPop2, eDNewK, eDNewT, oDGet, oDIn, eBM, mApp, mExt, mPopAt, mIdx, cellL, iEv, iR1, iR2, iC, fLen, oLen, fMax, fMin, fAll, fAny, fSum, fSortI, fList, fTuple, fInt, fStr, fIsi, tyD, isLstD, isStrD, isDD, lstD, seqD, stD, eCallF, nAt, iSt, mJoin, mSplit, fAddI, sStar, iEnS, eSortSet, fSet, eLenSet, insAt, lkp, putD, ok_some, ok_none, ok_bind, ok_map, eq_int, eq_bl, sAsg, kb_NoneType_int, kb_NoneType_bool, kb_NoneType_str, kb_NoneType_tuple, kb_NoneType_list, kb_bool_int, kb_bool_bool, kb_bool_str, kb_bool_tuple, kb_bool_list, kb_int_int, kb_int_bool, kb_int_str, kb_int_tuple, kb_int_list, kb_str_int, kb_str_bool, kb_str_str, kb_str_tuple, kb_str_list, kb_tuple_int, kb_tuple_bool, kb_tuple_str, kb_tuple_tuple, kb_tuple_list, kb_list_int, kb_list_bool, kb_list_str, kb_list_tuple, kb_list_list, sz_0, sz_1, sz_2, sz_3, sz_4, sz_5, sz_6, sz_7, sz_8, sz_9, sz_10, sz_11, sz_12, sz_13, sz_14, sz_15, sz_16, ix_1_0, ix_2_0, ix_2_1, ix_3_0, ix_3_1, ix_3_2, ix_4_0, ix_4_1, ix_4_2, ix_4_3, ix_5_0, ix_5_1, ix_5_2, ix_5_3, ix_5_4, ix_6_0, ix_6_1, ix_6_2, ix_6_3, ix_6_4, ix_6_5, ix_7_0, ix_7_1, ix_7_2, ix_7_3, ix_7_4, ix_7_5, ix_7_6, sI_0, sI_1, sI_48271, sI_69621, len]
      exact fin r S5 _ _ r0 r1 b5 k5
  · rintro ⟨f, ρ, S2⟩ ⟨rfl, hs, a, b, rfl, hl, hn, hg, b2, k2⟩
    simp [sFrz, sBox, sNext, sIf, sBreak, sCont, sNever, sExpr, sRet, sRetO, sRetN, sSet, sAsg, gNm, gsNil, gsCons, gT, gL, eD, eV, eBox, eNm, eC, eOp, eUn, aNil, aCons, eTup, eLst, eCB, bV, bAnd, bOr, bNot, eAnd, eOr, eNot, eIf, eChain, eCall, eFld, sFldS, sFldA, eMeth, eMake, bYes, fSub, fLt, fLe, fGt, fGe, fDiv, fMod, fPow, fNeg, fAdd, fMul, fIsN, fNotN, Yi.isNon, fEq, fNe, fIn, fInS, fIx, intR, oNo, oPart, fSl, eSl, eRev, sAppO, sExtO, sAug, oIx, oIn, oEq, sPar, sPar3, sSetIx, eDGet, eDIn, eDGet2, sDPutS, eDPop1, eDPop2, eDNewK, eDNewT, oDGet, oDIn, eBM, mApp, mExt, mPopAt, mIdx, cellL, iEv, iR1, iR2, iC, fLen, oLen, fMax, fMin, fAll, fAny, fSum, fSortI, fList, fTuple, fInt, fStr, fIsi, tyD, isLstD, isStrD, isDD, lstD, seqD, stD, eCallF, nAt, iSt, mJoin, mSplit, fAddI, sStar, iEnS, eSortSet, fSet, eLenSet, insAt, lkp, putD, ok_some, ok_none, ok_bind, ok_map, eq_int, eq_bl, sAsg, kb_NoneType_int, kb_NoneType_bool, kb_NoneType_str, kb_NoneType_tuple, kb_NoneType_list, kb_bool_int, kb_bool_bool, kb_bool_str, kb_bool_tuple, kb_bool_list, kb_int_int, kb_int_bool, kb_int_str, kb_int_tuple, kb_int_list, kb_str_int, kb_str_bool, kb_str_str, kb_str_tuple, kb_str_list, kb_tuple_int, kb_tuple_bool, kb_tuple_str, kb_tuple_tuple, kb_tuple_list, kb_list_int, kb_list_bool, kb_list_str, kb_list_tuple, kb_list_list, sz_0, sz_1, sz_2, sz_3, sz_4, sz_5, sz_6, sz_7, sz_8, sz_9, sz_10, sz_11, sz_12, sz_13, sz_14, sz_15, sz_16, ix_1_0, ix_2_0, ix_2_1, ix_3_0, ix_3_1, ix_3_2, ix_4_0, ix_4_1, ix_4_2, ix_4_3, ix_5_0, ix_5_1, ix_5_2, ix_5_3, ix_5_4, ix_6_0, ix_6_1, ix_6_2, ix_6_3, ix_6_4, ix_6_5, ix_7_0, ix_7_1, ix_7_2, ix_7_3, ix_7_4, ix_7_5, ix_7_6, sI_0, sI_1, sI_48271, sI_69621]
    exact hQ hs S2 (by simp [rng_len] at hl; omega) hg b2 k2
/-! ### a rule -/
def GoodG (gs : List (Int × Int)) (lim : Int) : Prop := gs.length ≤ 4 ∧ (∀ p ∈ gs, 0 ≤ p.1 ∧ p.1 < lim ∧ p.1 ≤ 7 ∧ 1 ≤ p.2 ∧ p.2 ≤ 12) ∧ (gs.map (·.1)).Pairwise (· < ·)
def InvG (S : Sto) (m : Int) (i : Nat) (ρ : Slt) (S2 : Sto) : Prop := ∃ (gs : List (Int × Int)) (a b c : Option VV), ρ = [some (.d (.ref 1)), some (.d (.int m)), some (.own (.lst (gs.map pD))), a, b, c] ∧ GoodG gs i ∧ i ≤ 8 ∧ Box S2 ∧ Kp S S2
theorem rule_ok {S : Sto} {m : Nat} (hb : Box S) (m0 : 0 < m) (m6 : m ≤ 6) {Q : VV × Sto → Prop} (hQ : ∀ (r : Rl) S', r.Good m → r.tb = true → Box S' → Kp S S' → Q (.d (rD r), S')) : ok (d_law_rule [.ref 1, .int m] S) Q := by
  refine den_ok rfl (seq_ok ?_)
  simp [sNext, sIf, sBreak, sCont, sNever, sExpr, sRet, sRetO, sRetN, sSet, sAsg, gNm, gsNil, gsCons, gT, gL, eD, eV, eBox, eNm, eC, eOp, eUn, aNil, aCons, eTup, eLst, eCB, bV, bAnd, bOr, bNot, eAnd, eOr, eNot, eIf, eChain, eCall, eFld, sFldS, sFldA, eMeth, eMake, bYes, fSub, fLt, fLe, fGt, fGe, fDiv, fMod, fPow, fNeg, fAdd, fMul, fIsN, fNotN, Yi.isNon, fEq, fNe, fIn, fInS, fIx, intR, oNo, oPart, fSl, eSl, eRev, sAppO, sExtO, sAug, oIx, oIn, oEq, sPar, sPar3, sSetIx, eDGet, eDIn, eDGet2, sDPutS, eDPop1, eDPop2, eDNewK, eDNewT, oDGet, oDIn, eBM, mApp, mExt, mPopAt, mIdx, cellL, iEv, iR1, iR2, iC, fLen, oLen, fMax, fMin, fAll, fAny, fSum, fSortI, fList, fTuple, fInt, fStr, fIsi, tyD, isLstD, isStrD, isDD, lstD, seqD, stD, eCallF, nAt, iSt, mJoin, mSplit, fAddI, sStar, iEnS, eSortSet, fSet, eLenSet, insAt, lkp, putD, ok_some, ok_none, ok_bind, ok_map, eq_int, eq_bl, sAsg, kb_NoneType_int, kb_NoneType_bool, kb_NoneType_str, kb_NoneType_tuple, kb_NoneType_list, kb_bool_int, kb_bool_bool, kb_bool_str, kb_bool_tuple, kb_bool_list, kb_int_int, kb_int_bool, kb_int_str, kb_int_tuple, kb_int_list, kb_str_int, kb_str_bool, kb_str_str, kb_str_tuple, kb_str_list, kb_tuple_int, kb_tuple_bool, kb_tuple_str, kb_tuple_tuple, kb_tuple_list, kb_list_int, kb_list_bool, kb_list_str, kb_list_tuple, kb_list_list, sz_0, sz_1, sz_2, sz_3, sz_4, sz_5, sz_6, sz_7, sz_8, sz_9, sz_10, sz_11, sz_12, sz_13, sz_14, sz_15, sz_16, ix_1_0, ix_2_0, ix_2_1, ix_3_0, ix_3_1, ix_3_2, ix_4_0, ix_4_1, ix_4_2, ix_4_3, ix_5_0, ix_5_1, ix_5_2, ix_5_3, ix_5_4, ix_6_0, ix_6_1, ix_6_2, ix_6_3, ix_6_4, ix_6_5, ix_7_0, ix_7_1, ix_7_2, ix_7_3, ix_7_4, ix_7_5, ix_7_6, sI_0, sI_1, sI_48271, sI_69621]
  refine seq_ok (for_ok ?_)
  simp [sNext, sIf, sBreak, sCont, sNever, sExpr, sRet, sRetO, sRetN, sSet, sAsg, gNm, gsNil, gsCons, gT, gL, eD, eV, eBox, eNm, eC, eOp, eUn, aNil, aCons, eTup, eLst, eCB, bV, bAnd, bOr, bNot, eAnd, eOr, eNot, eIf, eChain, eCall, eFld, sFldS, sFldA, eMeth, eMake, bYes, fSub, fLt, fLe, fGt, fGe, fDiv, fMod, fPow, fNeg, fAdd, fMul, fIsN, fNotN, Yi.isNon, fEq, fNe, fIn, fInS, fIx, intR, oNo, oPart, fSl, eSl, eRev, sAppO, sExtO, sAug, oIx, oIn, oEq, sPar, sPar3, sSetIx, eDGet, eDIn, eDGet2, sDPutS, eDPop1, eDPop2, eDNewK, eDNewT, oDGet, oDIn, eBM, mApp, mExt, mPopAt, mIdx, cellL, iEv, iR1, iR2, iC, fLen, oLen, fMax, fMin, fAll, fAny, fSum, fSortI, fList, fTuple, fInt, fStr, fIsi, tyD, isLstD, isStrD, isDD, lstD, seqD, stD, eCallF, nAt, iSt, mJoin, mSplit, fAddI, sStar, iEnS, eSortSet, fSet, eLenSet, insAt, lkp, putD, ok_some, ok_none, ok_bind, ok_map, eq_int, eq_bl, sAsg, kb_NoneType_int, kb_NoneType_bool, kb_NoneType_str, kb_NoneType_tuple, kb_NoneType_list, kb_bool_int, kb_bool_bool, kb_bool_str, kb_bool_tuple, kb_bool_list, kb_int_int, kb_int_bool, kb_int_str, kb_int_tuple, kb_int_list, kb_str_int, kb_str_bool, kb_str_str, kb_str_tuple, kb_str_list, kb_tuple_int, kb_tuple_bool, kb_tuple_str, kb_tuple_tuple, kb_tuple_list, kb_list_int, kb_list_bool, kb_list_str, kb_list_tuple, kb_list_list, sz_0, sz_1, sz_2, sz_3, sz_4, sz_5, sz_6, sz_7, sz_8, sz_9, sz_10, sz_11, sz_12, sz_13, sz_14, sz_15, sz_16, ix_1_0, ix_2_0, ix_2_1, ix_3_0, ix_3_1, ix_3_2, ix_4_0, ix_4_1, ix_4_2, ix_4_3, ix_5_0, ix_5_1, ix_5_2, ix_5_3, ix_5_4, ix_6_0, ix_6_1, ix_6_2, ix_6_3, ix_6_4, ix_6_5, ix_7_0, ix_7_1, ix_7_2, ix_7_3, ix_7_4, ix_7_5, ix_7_6, sI_0, sI_1, sI_48271, sI_69621, smR (i := 8) (by decide) (by decide)]
  refine (forL_ok (InvG S m) (rngL 0 8) 0 ⟨[], none, none, none, rfl, ⟨by simp, by simp, by simp⟩, by omega, hb, .refl S⟩ ?_).mono ?_
  · rintro i d hd ρ S2 ⟨gs, a, b, c, rfl, ⟨g1, g2, g3⟩, hi8, b2, k2⟩
    obtain ⟨hi, rfl⟩ := rng_get hd
    have keep : ∀ (S3 : Sto) (a b c : Option VV), Box S3 → Kp S2 S3 → InvG S m (i + 1) [some (.d (.ref 1)), some (.d (.int m)), some (.own (.lst (gs.map pD))), a, b, c] S3 := fun S3 a b c b3 k3 =>
      ⟨gs, a, b, c, rfl, ⟨g1, fun p hp => by have := g2 p hp; omega, g3⟩, by omega, b3, k2.trans k3⟩
    have len : szOk gs.length = true := by simp [szOk]; omega
    simp [gNm, m_law_rule_1, sNext, sIf, sBreak, sCont, sNever, sExpr, sRet, sRetO, sRetN, sSet, sAsg, gNm, gsNil, gsCons, gT, gL, eD, eV, eBox, eNm, eC, eOp, eUn, aNil, aCons, eTup, eLst, eCB, bV, bAnd, bOr, bNot, eAnd, eOr, eNot, eIf, eChain, eCall, eFld, sFldS, sFldA, eMeth, eMake, bYes, fSub, fLt, fLe, fGt, fGe, fDiv, fMod, fPow, fNeg, fAdd, fMul, fIsN, fNotN, Yi.isNon, fEq, fNe, fIn, fInS, fIx, intR, oNo, oPart, fSl, eSl, eRev, sAppO, sExtO, sAug, oIx, oIn, oEq, sPar, sPar3, sSetIx, eDGet, eDIn, eDGet2, sDPutS, eDPop1, eDPop2, eDNewK, eDNewT, oDGet, oDIn, eBM, mApp, mExt, mPopAt, mIdx, cellL, iEv, iR1, iR2, iC, fLen, oLen, fMax, fMin, fAll, fAny, fSum, fSortI, fList, fTuple, fInt, fStr, fIsi, tyD, isLstD, isStrD, isDD, lstD, seqD, stD, eCallF, nAt, iSt, mJoin, mSplit, fAddI, sStar, iEnS, eSortSet, fSet, eLenSet, insAt, lkp, putD, ok_some, ok_none, ok_bind, ok_map, eq_int, eq_bl, sAsg, kb_NoneType_int, kb_NoneType_bool, kb_NoneType_str, kb_NoneType_tuple, kb_NoneType_list, kb_bool_int, kb_bool_bool, kb_bool_str, kb_bool_tuple, kb_bool_list, kb_int_int, kb_int_bool, kb_int_str, kb_int_tuple, kb_int_list, kb_str_int, kb_str_bool, kb_str_str, kb_str_tuple, kb_str_list, kb_tuple_int, kb_tuple_bool, kb_tuple_str, kb_tuple_tuple, kb_tuple_list, kb_list_int, kb_list_bool, kb_list_str, kb_list_tuple, kb_list_list, sz_0, sz_1, sz_2, sz_3, sz_4, sz_5, sz_6, sz_7, sz_8, sz_9, sz_10, sz_11, sz_12, sz_13, sz_14, sz_15, sz_16, ix_1_0, ix_2_0, ix_2_1, ix_3_0, ix_3_1, ix_3_2, ix_4_0, ix_4_1, ix_4_2, ix_4_3, ix_5_0, ix_5_1, ix_5_2, ix_5_3, ix_5_4, ix_6_0, ix_6_1, ix_6_2, ix_6_3, ix_6_4, ix_6_5, ix_7_0, ix_7_1, ix_7_2, ix_7_3, ix_7_4, ix_7_5, ix_7_6, sI_0, sI_1, sI_48271, sI_69621, ok_ite]
    refine ⟨fun h4 => ?_, fun _ => keep S2 _ _ _ b2 (.refl _)⟩
    refine take_ok b2 (by decide) (by decide) fun x S3 x0 x1 b3 k3 => ?_
    simp [sNext, sIf, sBreak, sCont, sNever, sExpr, sRet, sRetO, sRetN, sSet, sAsg, gNm, gsNil, gsCons, gT, gL, eD, eV, eBox, eNm, eC, eOp, eUn, aNil, aCons, eTup, eLst, eCB, bV, bAnd, bOr, bNot, eAnd, eOr, eNot, eIf, eChain, eCall, eFld, sFldS, sFldA, eMeth, eMake, bYes, fSub, fLt, fLe, fGt, fGe, fDiv, fMod, fPow, fNeg, fAdd, fMul, fIsN, fNotN, Yi.isNon, fEq, fNe, fIn, fInS, fIx, intR, oNo, oPart, fSl, eSl, eRev, sAppO, sExtO, sAug, oIx, oIn, oEq, sPar, sPar3, sSetIx, eDGet, eDIn, eDGet2, sDPutS, eDPop1, eDPop2, eDNewK, eDNewT, oDGet, oDIn, eBM, mApp, mExt, mPopAt, mIdx, cellL, iEv, iR1, iR2, iC, fLen, oLen, fMax, fMin, fAll, fAny, fSum, fSortI, fList, fTuple, fInt, fStr, fIsi, tyD, isLstD, isStrD, isDD, lstD, seqD, stD, eCallF, nAt, iSt, mJoin, mSplit, fAddI, sStar, iEnS, eSortSet, fSet, eLenSet, insAt, lkp, putD, ok_some, ok_none, ok_bind, ok_map, eq_int, eq_bl, sAsg, kb_NoneType_int, kb_NoneType_bool, kb_NoneType_str, kb_NoneType_tuple, kb_NoneType_list, kb_bool_int, kb_bool_bool, kb_bool_str, kb_bool_tuple, kb_bool_list, kb_int_int, kb_int_bool, kb_int_str, kb_int_tuple, kb_int_list, kb_str_int, kb_str_bool, kb_str_str, kb_str_tuple, kb_str_list, kb_tuple_int, kb_tuple_bool, kb_tuple_str, kb_tuple_tuple, kb_tuple_list, kb_list_int, kb_list_bool, kb_list_str, kb_list_tuple, kb_list_list, sz_0, sz_1, sz_2, sz_3, sz_4, sz_5, sz_6, sz_7, sz_8, sz_9, sz_10, sz_11, sz_12, sz_13, sz_14, sz_15, sz_16, ix_1_0, ix_2_0, ix_2_1, ix_3_0, ix_3_1, ix_3_2, ix_4_0, ix_4_1, ix_4_2, ix_4_3, ix_5_0, ix_5_1, ix_5_2, ix_5_3, ix_5_4, ix_6_0, ix_6_1, ix_6_2, ix_6_3, ix_6_4, ix_6_5, ix_7_0, ix_7_1, ix_7_2, ix_7_3, ix_7_4, ix_7_5, ix_7_6, sI_0, sI_1, sI_48271, sI_69621, eq_int, ok_ite]
    refine ⟨fun e0 => ?_, fun _ => keep S3 _ _ _ b3 k3⟩
    refine take_ok b3 (by decide) (by decide) fun y S4 y0 y1 b4 k4 => ?_
    have go : ∀ lim : Int, 0 < lim → lim ≤ 12 → ∀ {R : VV × Sto → Prop}, (∀ r S', 0 ≤ r → r < 12 → Box S' → Kp S2 S' → R (.d (.int r), S')) → ok (d_law_take [.ref 1, .int lim] S4) R := fun lim l0 l1 R hR =>
      take_ok b4 l0 (by omega) fun r S5 r0 r1 b5 k5 => hR r S5 r0 (by omega) b5 ((k3.trans k4).trans k5)
    have fin : ∀ (r : Int) (S5 : Sto) (a b c : Option VV), 0 ≤ r → r < 12 → Box S5 → Kp S2 S5 → InvG S m (i + 1) [some (.d (.ref 1)), some (.d (.int m)), some (.own (.lst (gs.map pD ++ [.tup [.int i, .int (1 + r)]]))), a, b, c] S5 :=
      fun r S5 a b c r0 r1 b5 k5 => ⟨gs ++ [((i : Int), 1 + r)], a, b, c, by simp [pD], ⟨by simp; omega, by
        intro p hp
        rcases List.mem_append.mp hp with q | q
        · have := g2 p q
          omega
        · have e : p = ((i : Int), 1 + r) := by simpa using q
          subst e
          dsimp only
          omega, by
        rw [List.map_append]
        refine List.pairwise_append.mpr ⟨g3, by simp, fun u hu v hv => ?_⟩
        obtain ⟨p, hp, rfl⟩ := List.mem_map.mp hu
        have e : v = (i : Int) := by simpa using hv
        have := g2 p hp
        omega⟩, by omega, b5, k2.trans k5⟩
    rcases (by omega : y = 0 ∨ y = 1) with rfl | rfl
    · simp [sNext, sIf, sBreak, sCont, sNever, sExpr, sRet, sRetO, sRetN, sSet, sAsg, gNm, gsNil, gsCons, gT, gL, eD, eV, eBox, eNm, eC, eOp, eUn, aNil, aCons, eTup, eLst, eCB, bV, bAnd, bOr, bNot, eAnd, eOr, eNot, eIf, eChain, eCall, eFld, sFldS, sFldA, eMeth, eMake, bYes, fSub, fLt, fLe, fGt, fGe, fDiv, fMod, fPow, fNeg, fAdd, fMul, fIsN, fNotN, Yi.isNon, fEq, fNe, fIn, fInS, fIx, intR, oNo, oPart, fSl, eSl, eRev, sAppO, sExtO, sAug, oIx, oIn, oEq, sPar, sPar3, sSetIx, eDGet, eDIn, eDGet2, sDPutS, eDPop1, eDPop2, eDNewK, eDNewT, oDGet, oDIn, eBM, mApp, mExt, mPopAt, mIdx, cellL, iEv, iR1, iR2, iC, fLen, oLen, fMax, fMin, fAll, fAny, fSum, fSortI, fList, fTuple, fInt, fStr, fIsi, tyD, isLstD, isStrD, isDD, lstD, seqD, stD, eCallF, nAt, iSt, mJoin, mSplit, fAddI, sStar, iEnS, eSortSet, fSet, eLenSet, insAt, lkp, putD, ok_some, ok_none, ok_bind, ok_map, eq_int, eq_bl, sAsg, kb_NoneType_int, kb_NoneType_bool, kb_NoneType_str, kb_NoneType_tuple, kb_NoneType_list, kb_bool_int, kb_bool_bool, kb_bool_str, kb_bool_tuple, kb_bool_list, kb_int_int, kb_int_bool, kb_int_str, kb_int_tuple, kb_int_list, kb_str_int, kb_str_bool, kb_str_str, kb_str_tuple, kb_str_list, kb_tuple_int, kb_tuple_bool, kb_tuple_str, kb_tuple_tuple, kb_tuple_list, kb_list_int, kb_list_bool, kb_list_str, kb_list_tuple, kb_list_list, sz_0, sz_1, sz_2, sz_3, sz_4, sz_5, sz_6, sz_7, sz_8, sz_9, sz_10, sz_11, sz_12, sz_13, sz_14, sz_15, sz_16, ix_1_0, ix_2_0, ix_2_1, ix_3_0, ix_3_1, ix_3_2, ix_4_0, ix_4_1, ix_4_2, ix_4_3, ix_5_0, ix_5_1, ix_5_2, ix_5_3, ix_5_4, ix_6_0, ix_6_1, ix_6_2, ix_6_3, ix_6_4, ix_6_5, ix_7_0, ix_7_1, ix_7_2, ix_7_3, ix_7_4, ix_7_5, ix_7_6, sI_0, sI_1, sI_48271, sI_69621, atI]
      refine go 3 (by decide) (by decide) fun r S5 r0 r1 b5 k5 => ?_
      simp [sNext, sIf, sBreak, sCont, sNever, sExpr, sRet, sRetO, sRetN, sSet, sAsg, gNm, gsNil, gsCons, gT, gL, eD, eV, eBox, eNm, eC, eOp, eUn, aNil, aCons, eTup, eLst, eCB, bV, bAnd, bOr, bNot, eAnd, eOr, eNot, eIf, eChain, eCall, eFld, sFldS, sFldA, eMeth, eMake, bYes, fSub, fLt, fLe, fGt, fGe, fDiv, fMod, fPow, fNeg, fAdd, fMul, fIsN, fNotN, Yi.isNon, fEq, fNe, fIn, fInS, fIx, intR, oNo, oPart, fSl, eSl, eRev, sAppO, sExtO, sAug, oIx, oIn, oEq, sPar, sPar3, sSetIx, eDGet, eDIn, eDGet2, sDPutS, eDPop1, eDPop2, eDNewK, eDNewT, oDGet, oDIn, eBM, mApp, mExt, mPopAt, mIdx, cellL, iEv, iR1, iR2, iC, fLen, oLen, fMax, fMin, fAll, fAny, fSum, fSortI, fList, fTuple, fInt, fStr, fIsi, tyD, isLstD, isStrD, isDD, lstD, seqD, stD, eCallF, nAt, iSt, mJoin, mSplit, fAddI, sStar, iEnS, eSortSet, fSet, eLenSet, insAt, lkp, putD, ok_some, ok_none, ok_bind, ok_map, eq_int, eq_bl, sAsg, kb_NoneType_int, kb_NoneType_bool, kb_NoneType_str, kb_NoneType_tuple, kb_NoneType_list, kb_bool_int, kb_bool_bool, kb_bool_str, kb_bool_tuple, kb_bool_list, kb_int_int, kb_int_bool, kb_int_str, kb_int_tuple, kb_int_list, kb_str_int, kb_str_bool, kb_str_str, kb_str_tuple, kb_str_list, kb_tuple_int, kb_tuple_bool, kb_tuple_str, kb_tuple_tuple, kb_tuple_list, kb_list_int, kb_list_bool, kb_list_str, kb_list_tuple, kb_list_list, sz_0, sz_1, sz_2, sz_3, sz_4, sz_5, sz_6, sz_7, sz_8, sz_9, sz_10, sz_11, sz_12, sz_13, sz_14, sz_15, sz_16, ix_1_0, ix_2_0, ix_2_1, ix_3_0, ix_3_1, ix_3_2, ix_4_0, ix_4_1, ix_4_2, ix_4_3, ix_5_0, ix_5_1, ix_5_2, ix_5_3, ix_5_4, ix_6_0, ix_6_1, ix_6_2, ix_6_3, ix_6_4, ix_6_5, ix_7_0, ix_7_1, ix_7_2, ix_7_3, ix_7_4, ix_7_5, ix_7_6, sI_0, sI_1, sI_48271, sI_69621, len]
      exact fin r S5 _ _ _ r0 r1 b5 k5
    · simp [sNext, sIf, sBreak, sCont, sNever, sExpr, sRet, sRetO, sRetN, sSet, sAsg, gNm, gsNil, gsCons, gT, gL, eD, eV, eBox, eNm, eC, eOp, eUn, aNil, aCons, eTup, eLst, eCB, bV, bAnd, bOr, bNot, eAnd, eOr, eNot, eIf, eChain, eCall, eFld, sFldS, sFldA, eMeth, eMake, bYes, fSub, fLt, fLe, fGt, fGe, fDiv, fMod, fPow, fNeg, fAdd, fMul, fIsN, fNotN, Yi.isNon, fEq, fNe, fIn, fInS, fIx, intR, oNo, oPart, fSl, eSl, eRev, sAppO, sExtO, sAug, oIx, oIn, oEq, sPar, sPar3, sSetIx, eDGet, eDIn, eDGet2, sDPutS, eDPop1, eDPop2, eDNewK, eDNewT, oDGet, oDIn, eBM, mApp, mExt, mPopAt, mIdx, cellL, iEv, iR1, iR2, iC, fLen, oLen, fMax, fMin, fAll, fAny, fSum, fSortI, fList, fTuple, fInt, fStr, fIsi, tyD, isLstD, isStrD, isDD, lstD, seqD, stD, eCallF, nAt, iSt, mJoin, mSplit, fAddI, sStar, iEnS, eSortSet, fSet, eLenSet, insAt, lkp, putD, ok_some, ok_none, ok_bind, ok_map, eq_int, eq_bl, sAsg, kb_NoneType_int, kb_NoneType_bool, kb_NoneType_str, kb_NoneType_tuple, kb_NoneType_list, kb_bool_int, kb_bool_bool, kb_bool_str, kb_bool_tuple, kb_bool_list, kb_int_int, kb_int_bool, kb_int_str, kb_int_tuple, kb_int_list, kb_str_int, kb_str_bool, kb_str_str, kb_str_tuple, kb_str_list, kb_tuple_int, kb_tuple_bool, kb_tuple_str, kb_tuple_tuple, kb_tuple_list, kb_list_int, kb_list_bool, kb_list_str, kb_list_tuple, kb_list_list, sz_0, sz_1, sz_2, sz_3, sz_4, sz_5, sz_6, sz_7, sz_8, sz_9, sz_10, sz_11, sz_12, sz_13, sz_14, sz_15, sz_16, ix_1_0, ix_2_0, ix_2_1, ix_3_0, ix_3_1, ix_3_2, ix_4_0, ix_4_1, ix_4_2, ix_4_3, ix_5_0, ix_5_1, ix_5_2, ix_5_3, ix_5_4, ix_6_0, ix_6_1, ix_6_2, ix_6_3, ix_6_4, ix_6_5, ix_7_0, ix_7_1, ix_7_2, ix_7_3, ix_7_4, ix_7_5, ix_7_6, sI_0, sI_1, sI_48271, sI_69621, atI]
      refine go 12 (by decide) (by decide) fun r S5 r0 r1 b5 k5 => ?_
      simp [sNext, sIf, sBreak, sCont, sNever, sExpr, sRet, sRetO, sRetN, sSet, sAsg, gNm, gsNil, gsCons, gT, gL, eD, eV, eBox, eNm, eC, eOp, eUn, aNil, aCons, eTup, eLst, eCB, bV, bAnd, bOr, bNot, eAnd, eOr, eNot, eIf, eChain, eCall, eFld, sFldS, sFldA, eMeth, eMake, bYes, fSub, fLt, fLe, fGt, fGe, fDiv, fMod, fPow, fNeg, fAdd, fMul, fIsN, fNotN, Yi.isNon, fEq, fNe, fIn, fInS, fIx, intR, oNo, oPart, fSl, eSl, eRev, sAppO, sExtO, sAug, oIx, oIn, oEq, sPar, sPar3, sSetIx, eDGet, eDIn, eDGet2, sDPutS, eDPop1, eDPop2, eDNewK, eDNewT, oDGet, oDIn, eBM, mApp, mExt, mPopAt, mIdx, cellL, iEv, iR1, iR2, iC, fLen, oLen, fMax, fMin, fAll, fAny, fSum, fSortI, fList, fTuple, fInt, fStr, fIsi, tyD, isLstD, isStrD, isDD, lstD, seqD, stD, eCallF, nAt, iSt, mJoin, mSplit, fAddI, sStar, iEnS, eSortSet, fSet, eLenSet, insAt, lkp, putD, ok_some, ok_none, ok_bind, ok_map, eq_int, eq_bl, sAsg, kb_NoneType_int, kb_NoneType_bool, kb_NoneType_str, kb_NoneType_tuple, kb_NoneType_list, kb_bool_int, kb_bool_bool, kb_bool_str, kb_bool_tuple, kb_bool_list, kb_int_int, kb_int_bool, kb_int_str, kb_int_tuple, kb_int_list, kb_str_int, kb_str_bool, kb_str_str, kb_str_tuple, kb_str_list, kb_tuple_int, kb_tuple_bool, kb_tuple_str, kb_tuple_tuple, kb_tuple_list, kb_list_int, kb_list_bool, kb_list_str, kb_list_tuple, kb_list_list, sz_0, sz_1, sz_2, sz_3, sz_4, sz_5, sz_6, sz_7, sz_8, sz_9, sz_10, sz_11, sz_12, sz_13, sz_14, sz_15, sz_16, ix_1_0, ix_2_0, ix_2_1, ix_3_0, ix_3_1, ix_3_2, ix_4_0, ix_4_1, ix_4_2, ix_4_3, ix_5_0, ix_5_1, ix_5_2, ix_5_3, ix_5_4, ix_6_0, ix_6_1, ix_6_2, ix_6_3, ix_6_4, ix_6_5, ix_7_0, ix_7_1, ix_7_2, ix_7_3, ix_7_4, ix_7_5, ix_7_6, sI_0, sI_1, sI_48271, sI_69621, len]
      exact fin r S5 _ _ _ r0 r1 b5 k5
  · rintro ⟨f, ρ, S2⟩ ⟨rfl, gs, a, b, c, rfl, ⟨g1, g2, g3⟩, hi8, b2, k2⟩
    refine ⟨rfl, seq_ok ?_⟩
    simp [sNext, sIf, sBreak, sCont, sNever, sExpr, sRet, sRetO, sRetN, sSet, sAsg, gNm, gsNil, gsCons, gT, gL, eD, eV, eBox, eNm, eC, eOp, eUn, aNil, aCons, eTup, eLst, eCB, bV, bAnd, bOr, bNot, eAnd, eOr, eNot, eIf, eChain, eCall, eFld, sFldS, sFldA, eMeth, eMake, bYes, fSub, fLt, fLe, fGt, fGe, fDiv, fMod, fPow, fNeg, fAdd, fMul, fIsN, fNotN, Yi.isNon, fEq, fNe, fIn, fInS, fIx, intR, oNo, oPart, fSl, eSl, eRev, sAppO, sExtO, sAug, oIx, oIn, oEq, sPar, sPar3, sSetIx, eDGet, eDIn, eDGet2, sDPutS, eDPop1, eDPop2, eDNewK, eDNewT, oDGet, oDIn, eBM, mApp, mExt, mPopAt, mIdx, cellL, iEv, iR1, iR2, iC, fLen, oLen, fMax, fMin, fAll, fAny, fSum, fSortI, fList, fTuple, fInt, fStr, fIsi, tyD, isLstD, isStrD, isDD, lstD, seqD, stD, eCallF, nAt, iSt, mJoin, mSplit, fAddI, sStar, iEnS, eSortSet, fSet, eLenSet, insAt, lkp, putD, ok_some, ok_none, ok_bind, ok_map, eq_int, eq_bl, sAsg, kb_NoneType_int, kb_NoneType_bool, kb_NoneType_str, kb_NoneType_tuple, kb_NoneType_list, kb_bool_int, kb_bool_bool, kb_bool_str, kb_bool_tuple, kb_bool_list, kb_int_int, kb_int_bool, kb_int_str, kb_int_tuple, kb_int_list, kb_str_int, kb_str_bool, kb_str_str, kb_str_tuple, kb_str_list, kb_tuple_int, kb_tuple_bool, kb_tuple_str, kb_tuple_tuple, kb_tuple_list, kb_list_int, kb_list_bool, kb_list_str, kb_list_tuple, kb_list_list, sz_0, sz_1, sz_2, sz_3, sz_4, sz_5, sz_6, sz_7, sz_8, sz_9, sz_10, sz_11, sz_12, sz_13, sz_14, sz_15, sz_16, ix_1_0, ix_2_0, ix_2_1, ix_3_0, ix_3_1, ix_3_2, ix_4_0, ix_4_1, ix_4_2, ix_4_3, ix_5_0, ix_5_1, ix_5_2, ix_5_3, ix_5_4, ix_6_0, ix_6_1, ix_6_2, ix_6_3, ix_6_4, ix_6_5, ix_7_0, ix_7_1, ix_7_2, ix_7_3, ix_7_4, ix_7_5, ix_7_6, sI_0, sI_1, sI_48271, sI_69621]
    have m80 : (m : Int) < 2 ^ 80 := by omega
    have m0' : (0 : Int) < m := by omega
    -- the wait
    refine take_ok b2 (by decide) (by decide) fun y S3 y0 y1 b3 k3 => ?_
    have go : ∀ lim : Int, 0 < lim → lim ≤ 24 → ∀ {R : VV × Sto → Prop}, (∀ r S', 0 ≤ r → r < 24 → Box S' → Kp S S' → R (.d (.int r), S')) → ok (d_law_take [.ref 1, .int lim] S3) R := fun lim l0 l1 R hR =>
      take_ok b3 l0 (by omega) fun r S5 r0 r1 b5 k5 => hR r S5 r0 (by omega) b5 ((k2.trans k3).trans k5)
    -- what follows the wait
    have rest : ∀ (w : Option Int) (S3 : Sto), (∀ i, w = some i → 1 ≤ i ∧ i ≤ 24) → Box S3 → Kp S S3 → ok (sSeq (sSet 5 (eOp fIx (eLst (aCons (eC .non) (aCons (eCall d_law_take (aCons (eNm 0) (aCons (eNm 1) aNil)) []) (aCons (eCall d_law_take (aCons (eNm 0) (aCons (eNm 1) aNil)) []) aNil)))) (eCall d_law_take (aCons (eNm 0) (aCons (eC (.int 3)) aNil)) [])))
    (sFrz 2 (sRet (eTup (aCons (eCall d_law_stretches (aCons (eNm 0) aNil) []) (aCons (eCall d_law_take (aCons (eNm 0) (aCons (eC (.int 5)) aNil)) []) (aCons (eCB fTuple (aCons (eNm 2) aNil)) (aCons (eNm 4) (aCons (eNm 5) aNil)))))))) [some (.d (.ref 1)), some (.d (.int m)), some (.own (.lst (gs.map pD))), a, some (.d (oD w)), c] S3) fun p => match p.1 with
      | .nx => Q (.d .non, p.2.2)
      | .rt v => Q (v, p.2.2)
      | _ => False := by
      intro w S3 hw b3 k3
      refine seq_ok ?_
      simp [sNext, sIf, sBreak, sCont, sNever, sExpr, sRet, sRetO, sRetN, sSet, sAsg, gNm, gsNil, gsCons, gT, gL, eD, eV, eBox, eNm, eC, eOp, eUn, aNil, aCons, eTup, eLst, eCB, bV, bAnd, bOr, bNot, eAnd, eOr, eNot, eIf, eChain, eCall, eFld, sFldS, sFldA, eMeth, eMake, bYes, fSub, fLt, fLe, fGt, fGe, fDiv, fMod, fPow, fNeg, fAdd, fMul, fIsN, fNotN, Yi.isNon, fEq, fNe, fIn, fInS, fIx, intR, oNo, oPart, fSl, eSl, eRev, sAppO, sExtO, sAug, oIx, oIn, oEq, sPar, sPar3, sSetIx, eDGet, eDIn, eDGet2, sDPutS, eDPop1, eDPop2, eDNewK, eDNewT, oDGet, oDIn, eBM, mApp, mExt, mPopAt, mIdx, cellL, iEv, iR1, iR2, iC, fLen, oLen, fMax, fMin, fAll, fAny, fSum, fSortI, fList, fTuple, fInt, fStr, fIsi, tyD, isLstD, isStrD, isDD, lstD, seqD, stD, eCallF, nAt, iSt, mJoin, mSplit, fAddI, sStar, iEnS, eSortSet, fSet, eLenSet, insAt, lkp, putD, ok_some, ok_none, ok_bind, ok_map, eq_int, eq_bl, sAsg, kb_NoneType_int, kb_NoneType_bool, kb_NoneType_str, kb_NoneType_tuple, kb_NoneType_list, kb_bool_int, kb_bool_bool, kb_bool_str, kb_bool_tuple, kb_bool_list, kb_int_int, kb_int_bool, kb_int_str, kb_int_tuple, kb_int_list, kb_str_int, kb_str_bool, kb_str_str, kb_str_tuple, kb_str_list, kb_tuple_int, kb_tuple_bool, kb_tuple_str, kb_tuple_tuple, kb_tuple_list, kb_list_int, kb_list_bool, kb_list_str, kb_list_tuple, kb_list_list, sz_0, sz_1, sz_2, sz_3, sz_4, sz_5, sz_6, sz_7, sz_8, sz_9, sz_10, sz_11, sz_12, sz_13, sz_14, sz_15, sz_16, ix_1_0, ix_2_0, ix_2_1, ix_3_0, ix_3_1, ix_3_2, ix_4_0, ix_4_1, ix_4_2, ix_4_3, ix_5_0, ix_5_1, ix_5_2, ix_5_3, ix_5_4, ix_6_0, ix_6_1, ix_6_2, ix_6_3, ix_6_4, ix_6_5, ix_7_0, ix_7_1, ix_7_2, ix_7_3, ix_7_4, ix_7_5, ix_7_6, sI_0, sI_1, sI_48271, sI_69621]
      refine take_ok b3 m0' m80 fun f1 S4 f10 f11 b4 k4 => ?_
      simp [sNext, sIf, sBreak, sCont, sNever, sExpr, sRet, sRetO, sRetN, sSet, sAsg, gNm, gsNil, gsCons, gT, gL, eD, eV, eBox, eNm, eC, eOp, eUn, aNil, aCons, eTup, eLst, eCB, bV, bAnd, bOr, bNot, eAnd, eOr, eNot, eIf, eChain, eCall, eFld, sFldS, sFldA, eMeth, eMake, bYes, fSub, fLt, fLe, fGt, fGe, fDiv, fMod, fPow, fNeg, fAdd, fMul, fIsN, fNotN, Yi.isNon, fEq, fNe, fIn, fInS, fIx, intR, oNo, oPart, fSl, eSl, eRev, sAppO, sExtO, sAug, oIx, oIn, oEq, sPar, sPar3, sSetIx, eDGet, eDIn, eDGet2, sDPutS, eDPop1, eDPop2, eDNewK, eDNewT, oDGet, oDIn, eBM, mApp, mExt, mPopAt, mIdx, cellL, iEv, iR1, iR2, iC, fLen, oLen, fMax, fMin, fAll, fAny, fSum, fSortI, fList, fTuple, fInt, fStr, fIsi, tyD, isLstD, isStrD, isDD, lstD, seqD, stD, eCallF, nAt, iSt, mJoin, mSplit, fAddI, sStar, iEnS, eSortSet, fSet, eLenSet, insAt, lkp, putD, ok_some, ok_none, ok_bind, ok_map, eq_int, eq_bl, sAsg, kb_NoneType_int, kb_NoneType_bool, kb_NoneType_str, kb_NoneType_tuple, kb_NoneType_list, kb_bool_int, kb_bool_bool, kb_bool_str, kb_bool_tuple, kb_bool_list, kb_int_int, kb_int_bool, kb_int_str, kb_int_tuple, kb_int_list, kb_str_int, kb_str_bool, kb_str_str, kb_str_tuple, kb_str_list, kb_tuple_int, kb_tuple_bool, kb_tuple_str, kb_tuple_tuple, kb_tuple_list, kb_list_int, kb_list_bool, kb_list_str, kb_list_tuple, kb_list_list, sz_0, sz_1, sz_2, sz_3, sz_4, sz_5, sz_6, sz_7, sz_8, sz_9, sz_10, sz_11, sz_12, sz_13, sz_14, sz_15, sz_16, ix_1_0, ix_2_0, ix_2_1, ix_3_0, ix_3_1, ix_3_2, ix_4_0, ix_4_1, ix_4_2, ix_4_3, ix_5_0, ix_5_1, ix_5_2, ix_5_3, ix_5_4, ix_6_0, ix_6_1, ix_6_2, ix_6_3, ix_6_4, ix_6_5, ix_7_0, ix_7_1, ix_7_2, ix_7_3, ix_7_4, ix_7_5, ix_7_6, sI_0, sI_1, sI_48271, sI_69621]
      refine take_ok b4 m0' m80 fun f2 S5 f20 f21 b5 k5 => ?_
      simp [sNext, sIf, sBreak, sCont, sNever, sExpr, sRet, sRetO, sRetN, sSet, sAsg, gNm, gsNil, gsCons, gT, gL, eD, eV, eBox, eNm, eC, eOp, eUn, aNil, aCons, eTup, eLst, eCB, bV, bAnd, bOr, bNot, eAnd, eOr, eNot, eIf, eChain, eCall, eFld, sFldS, sFldA, eMeth, eMake, bYes, fSub, fLt, fLe, fGt, fGe, fDiv, fMod, fPow, fNeg, fAdd, fMul, fIsN, fNotN, Yi.isNon, fEq, fNe, fIn, fInS, fIx, intR, oNo, oPart, fSl, eSl, eRev, sAppO, sExtO, sAug, oIx, oIn, oEq, sPar, sPar3, sSetIx, eDGet, eDIn, eDGet2, sDPutS, eDPop1, eDPop2, eDNewK, eDNewT, oDGet, oDIn, eBM, mApp, mExt, mPopAt, mIdx, cellL, iEv, iR1, iR2, iC, fLen, oLen, fMax, fMin, fAll, fAny, fSum, fSortI, fList, fTuple, fInt, fStr, fIsi, tyD, isLstD, isStrD, isDD, lstD, seqD, stD, eCallF, nAt, iSt, mJoin, mSplit, fAddI, sStar, iEnS, eSortSet, fSet, eLenSet, insAt, lkp, putD, ok_some, ok_none, ok_bind, ok_map, eq_int, eq_bl, sAsg, kb_NoneType_int, kb_NoneType_bool, kb_NoneType_str, kb_NoneType_tuple, kb_NoneType_list, kb_bool_int, kb_bool_bool, kb_bool_str, kb_bool_tuple, kb_bool_list, kb_int_int, kb_int_bool, kb_int_str, kb_int_tuple, kb_int_list, kb_str_int, kb_str_bool, kb_str_str, kb_str_tuple, kb_str_list, kb_tuple_int, kb_tuple_bool, kb_tuple_str, kb_tuple_tuple, kb_tuple_list, kb_list_int, kb_list_bool, kb_list_str, kb_list_tuple, kb_list_list, sz_0, sz_1, sz_2, sz_3, sz_4, sz_5, sz_6, sz_7, sz_8, sz_9, sz_10, sz_11, sz_12, sz_13, sz_14, sz_15, sz_16, ix_1_0, ix_2_0, ix_2_1, ix_3_0, ix_3_1, ix_3_2, ix_4_0, ix_4_1, ix_4_2, ix_4_3, ix_5_0, ix_5_1, ix_5_2, ix_5_3, ix_5_4, ix_6_0, ix_6_1, ix_6_2, ix_6_3, ix_6_4, ix_6_5, ix_7_0, ix_7_1, ix_7_2, ix_7_3, ix_7_4, ix_7_5, ix_7_6, sI_0, sI_1, sI_48271, sI_69621]
      refine take_ok b5 (by decide) (by decide) fun z S6 z0 z1 b6 k6 => ?_
      have last : ∀ (f : Option Int), (∀ i, f = some i → 0 ≤ i ∧ i < m) → ok (sFrz 2 (sRet (eTup (aCons (eCall d_law_stretches (aCons (eNm 0) aNil) []) (aCons (eCall d_law_take (aCons (eNm 0) (aCons (eC (.int 5)) aNil)) []) (aCons (eCB fTuple (aCons (eNm 2) aNil)) (aCons (eNm 4) (aCons (eNm 5) aNil))))))) [some (.d (.ref 1)), some (.d (.int m)), some (.own (.lst (gs.map pD))), a, some (.d (oD w)), some (.d (oD f))] S6) fun p => match p.1 with
        | .nx => Q (.d .non, p.2.2)
        | .rt v => Q (v, p.2.2)
        | _ => False := by
        intro f hf
        simp [sFrz, sBox, sNext, sIf, sBreak, sCont, sNever, sExpr, sRet, sRetO, sRetN, sSet, sAsg, gNm, gsNil, gsCons, gT, gL, eD, eV, eBox, eNm, eC, eOp, eUn, aNil, aCons, eTup, eLst, eCB, bV, bAnd, bOr, bNot, eAnd, eOr, eNot, eIf, eChain, eCall, eFld, sFldS, sFldA, eMeth, eMake, bYes, fSub, fLt, fLe, fGt, fGe, fDiv, fMod, fPow, fNeg, fAdd, fMul, fIsN, fNotN, Yi.isNon, fEq, fNe, fIn, fInS, fIx, intR, oNo, oPart, fSl, eSl, eRev, sAppO, sExtO, sAug, oIx, oIn, oEq, sPar, sPar3, sSetIx, eDGet, eDIn, eDGet2, sDPutS, eDPop1, eDPop2, eDNewK, eDNewT, oDGet, oDIn, eBM, mApp, mExt, mPopAt, mIdx, cellL, iEv, iR1, iR2, iC, fLen, oLen, fMax, fMin, fAll, fAny, fSum, fSortI, fList, fTuple, fInt, fStr, fIsi, tyD, isLstD, isStrD, isDD, lstD, seqD, stD, eCallF, nAt, iSt, mJoin, mSplit, fAddI, sStar, iEnS, eSortSet, fSet, eLenSet, insAt, lkp, putD, ok_some, ok_none, ok_bind, ok_map, eq_int, eq_bl, sAsg, kb_NoneType_int, kb_NoneType_bool, kb_NoneType_str, kb_NoneType_tuple, kb_NoneType_list, kb_bool_int, kb_bool_bool, kb_bool_str, kb_bool_tuple, kb_bool_list, kb_int_int, kb_int_bool, kb_int_str, kb_int_tuple, kb_int_list, kb_str_int, kb_str_bool, kb_str_str, kb_str_tuple, kb_str_list, kb_tuple_int, kb_tuple_bool, kb_tuple_str, kb_tuple_tuple, kb_tuple_list, kb_list_int, kb_list_bool, kb_list_str, kb_list_tuple, kb_list_list, sz_0, sz_1, sz_2, sz_3, sz_4, sz_5, sz_6, sz_7, sz_8, sz_9, sz_10, sz_11, sz_12, sz_13, sz_14, sz_15, sz_16, ix_1_0, ix_2_0, ix_2_1, ix_3_0, ix_3_1, ix_3_2, ix_4_0, ix_4_1, ix_4_2, ix_4_3, ix_5_0, ix_5_1, ix_5_2, ix_5_3, ix_5_4, ix_6_0, ix_6_1, ix_6_2, ix_6_3, ix_6_4, ix_6_5, ix_7_0, ix_7_1, ix_7_2, ix_7_3, ix_7_4, ix_7_5, ix_7_6, sI_0, sI_1, sI_48271, sI_69621]
        refine stretches_ok b6 fun hs S7 l3 hg b7 k7 => ?_
        simp [sNext, sIf, sBreak, sCont, sNever, sExpr, sRet, sRetO, sRetN, sSet, sAsg, gNm, gsNil, gsCons, gT, gL, eD, eV, eBox, eNm, eC, eOp, eUn, aNil, aCons, eTup, eLst, eCB, bV, bAnd, bOr, bNot, eAnd, eOr, eNot, eIf, eChain, eCall, eFld, sFldS, sFldA, eMeth, eMake, bYes, fSub, fLt, fLe, fGt, fGe, fDiv, fMod, fPow, fNeg, fAdd, fMul, fIsN, fNotN, Yi.isNon, fEq, fNe, fIn, fInS, fIx, intR, oNo, oPart, fSl, eSl, eRev, sAppO, sExtO, sAug, oIx, oIn, oEq, sPar, sPar3, sSetIx, eDGet, eDIn, eDGet2, sDPutS, eDPop1, eDPop2, eDNewK, eDNewT, oDGet, oDIn, eBM, mApp, mExt, mPopAt, mIdx, cellL, iEv, iR1, iR2, iC, fLen, oLen, fMax, fMin, fAll, fAny, fSum, fSortI, fList, fTuple, fInt, fStr, fIsi, tyD, isLstD, isStrD, isDD, lstD, seqD, stD, eCallF, nAt, iSt, mJoin, mSplit, fAddI, sStar, iEnS, eSortSet, fSet, eLenSet, insAt, lkp, putD, ok_some, ok_none, ok_bind, ok_map, eq_int, eq_bl, sAsg, kb_NoneType_int, kb_NoneType_bool, kb_NoneType_str, kb_NoneType_tuple, kb_NoneType_list, kb_bool_int, kb_bool_bool, kb_bool_str, kb_bool_tuple, kb_bool_list, kb_int_int, kb_int_bool, kb_int_str, kb_int_tuple, kb_int_list, kb_str_int, kb_str_bool, kb_str_str, kb_str_tuple, kb_str_list, kb_tuple_int, kb_tuple_bool, kb_tuple_str, kb_tuple_tuple, kb_tuple_list, kb_list_int, kb_list_bool, kb_list_str, kb_list_tuple, kb_list_list, sz_0, sz_1, sz_2, sz_3, sz_4, sz_5, sz_6, sz_7, sz_8, sz_9, sz_10, sz_11, sz_12, sz_13, sz_14, sz_15, sz_16, ix_1_0, ix_2_0, ix_2_1, ix_3_0, ix_3_1, ix_3_2, ix_4_0, ix_4_1, ix_4_2, ix_4_3, ix_5_0, ix_5_1, ix_5_2, ix_5_3, ix_5_4, ix_6_0, ix_6_1, ix_6_2, ix_6_3, ix_6_4, ix_6_5, ix_7_0, ix_7_1, ix_7_2, ix_7_3, ix_7_4, ix_7_5, ix_7_6, sI_0, sI_1, sI_48271, sI_69621]
        refine take_ok b7 (by decide) (by decide) fun l S8 l0 l1 b8 k8 => ?_
        simp [sNext, sIf, sBreak, sCont, sNever, sExpr, sRet, sRetO, sRetN, sSet, sAsg, gNm, gsNil, gsCons, gT, gL, eD, eV, eBox, eNm, eC, eOp, eUn, aNil, aCons, eTup, eLst, eCB, bV, bAnd, bOr, bNot, eAnd, eOr, eNot, eIf, eChain, eCall, eFld, sFldS, sFldA, eMeth, eMake, bYes, fSub, fLt, fLe, fGt, fGe, fDiv, fMod, fPow, fNeg, fAdd, fMul, fIsN, fNotN, Yi.isNon, fEq, fNe, fIn, fInS, fIx, intR, oNo, oPart, fSl, eSl, eRev, sAppO, sExtO, sAug, oIx, oIn, oEq, sPar, sPar3, sSetIx, eDGet, eDIn, eDGet2, sDPutS, eDPop1, eDPop2, eDNewK, eDNewT, oDGet, oDIn, eBM, mApp, mExt, mPopAt, mIdx, cellL, iEv, iR1, iR2, iC, fLen, oLen, fMax, fMin, fAll, fAny, fSum, fSortI, fList, fTuple, fInt, fStr, fIsi, tyD, isLstD, isStrD, isDD, lstD, seqD, stD, eCallF, nAt, iSt, mJoin, mSplit, fAddI, sStar, iEnS, eSortSet, fSet, eLenSet, insAt, lkp, putD, ok_some, ok_none, ok_bind, ok_map, eq_int, eq_bl, sAsg, kb_NoneType_int, kb_NoneType_bool, kb_NoneType_str, kb_NoneType_tuple, kb_NoneType_list, kb_bool_int, kb_bool_bool, kb_bool_str, kb_bool_tuple, kb_bool_list, kb_int_int, kb_int_bool, kb_int_str, kb_int_tuple, kb_int_list, kb_str_int, kb_str_bool, kb_str_str, kb_str_tuple, kb_str_list, kb_tuple_int, kb_tuple_bool, kb_tuple_str, kb_tuple_tuple, kb_tuple_list, kb_list_int, kb_list_bool, kb_list_str, kb_list_tuple, kb_list_list, sz_0, sz_1, sz_2, sz_3, sz_4, sz_5, sz_6, sz_7, sz_8, sz_9, sz_10, sz_11, sz_12, sz_13, sz_14, sz_15, sz_16, ix_1_0, ix_2_0, ix_2_1, ix_3_0, ix_3_1, ix_3_2, ix_4_0, ix_4_1, ix_4_2, ix_4_3, ix_5_0, ix_5_1, ix_5_2, ix_5_3, ix_5_4, ix_6_0, ix_6_1, ix_6_2, ix_6_3, ix_6_4, ix_6_5, ix_7_0, ix_7_1, ix_7_2, ix_7_3, ix_7_4, ix_7_5, ix_7_6, sI_0, sI_1, sI_48271, sI_69621]
        exact hQ ⟨hs, l, gs, w, f, true, true⟩ S8 ⟨l3, hg, l0, Int.le_of_lt_add_one l1, g1, fun p hp => by have := g2 p hp; omega, g3, hw, hf⟩ rfl b8 (((((k3.trans k4).trans k5).trans k6).trans k7).trans k8)
      rcases (by omega : z = 0 ∨ z = 1 ∨ z = 2) with rfl | rfl | rfl
      · simp [sNext, sIf, sBreak, sCont, sNever, sExpr, sRet, sRetO, sRetN, sSet, sAsg, gNm, gsNil, gsCons, gT, gL, eD, eV, eBox, eNm, eC, eOp, eUn, aNil, aCons, eTup, eLst, eCB, bV, bAnd, bOr, bNot, eAnd, eOr, eNot, eIf, eChain, eCall, eFld, sFldS, sFldA, eMeth, eMake, bYes, fSub, fLt, fLe, fGt, fGe, fDiv, fMod, fPow, fNeg, fAdd, fMul, fIsN, fNotN, Yi.isNon, fEq, fNe, fIn, fInS, fIx, intR, oNo, oPart, fSl, eSl, eRev, sAppO, sExtO, sAug, oIx, oIn, oEq, sPar, sPar3, sSetIx, eDGet, eDIn, eDGet2, sDPutS, eDPop1, eDPop2, eDNewK, eDNewT, oDGet, oDIn, eBM, mApp, mExt, mPopAt, mIdx, cellL, iEv, iR1, iR2, iC, fLen, oLen, fMax, fMin, fAll, fAny, fSum, fSortI, fList, fTuple, fInt, fStr, fIsi, tyD, isLstD, isStrD, isDD, lstD, seqD, stD, eCallF, nAt, iSt, mJoin, mSplit, fAddI, sStar, iEnS, eSortSet, fSet, eLenSet, insAt, lkp, putD, ok_some, ok_none, ok_bind, ok_map, eq_int, eq_bl, sAsg, kb_NoneType_int, kb_NoneType_bool, kb_NoneType_str, kb_NoneType_tuple, kb_NoneType_list, kb_bool_int, kb_bool_bool, kb_bool_str, kb_bool_tuple, kb_bool_list, kb_int_int, kb_int_bool, kb_int_str, kb_int_tuple, kb_int_list, kb_str_int, kb_str_bool, kb_str_str, kb_str_tuple, kb_str_list, kb_tuple_int, kb_tuple_bool, kb_tuple_str, kb_tuple_tuple, kb_tuple_list, kb_list_int, kb_list_bool, kb_list_str, kb_list_tuple, kb_list_list, sz_0, sz_1, sz_2, sz_3, sz_4, sz_5, sz_6, sz_7, sz_8, sz_9, sz_10, sz_11, sz_12, sz_13, sz_14, sz_15, sz_16, ix_1_0, ix_2_0, ix_2_1, ix_3_0, ix_3_1, ix_3_2, ix_4_0, ix_4_1, ix_4_2, ix_4_3, ix_5_0, ix_5_1, ix_5_2, ix_5_3, ix_5_4, ix_6_0, ix_6_1, ix_6_2, ix_6_3, ix_6_4, ix_6_5, ix_7_0, ix_7_1, ix_7_2, ix_7_3, ix_7_4, ix_7_5, ix_7_6, sI_0, sI_1, sI_48271, sI_69621, atI]
        exact last none (by simp)
      · simp [sNext, sIf, sBreak, sCont, sNever, sExpr, sRet, sRetO, sRetN, sSet, sAsg, gNm, gsNil, gsCons, gT, gL, eD, eV, eBox, eNm, eC, eOp, eUn, aNil, aCons, eTup, eLst, eCB, bV, bAnd, bOr, bNot, eAnd, eOr, eNot, eIf, eChain, eCall, eFld, sFldS, sFldA, eMeth, eMake, bYes, fSub, fLt, fLe, fGt, fGe, fDiv, fMod, fPow, fNeg, fAdd, fMul, fIsN, fNotN, Yi.isNon, fEq, fNe, fIn, fInS, fIx, intR, oNo, oPart, fSl, eSl, eRev, sAppO, sExtO, sAug, oIx, oIn, oEq, sPar, sPar3, sSetIx, eDGet, eDIn, eDGet2, sDPutS, eDPop1, eDPop2, eDNewK, eDNewT, oDGet, oDIn, eBM, mApp, mExt, mPopAt, mIdx, cellL, iEv, iR1, iR2, iC, fLen, oLen, fMax, fMin, fAll, fAny, fSum, fSortI, fList, fTuple, fInt, fStr, fIsi, tyD, isLstD, isStrD, isDD, lstD, seqD, stD, eCallF, nAt, iSt, mJoin, mSplit, fAddI, sStar, iEnS, eSortSet, fSet, eLenSet, insAt, lkp, putD, ok_some, ok_none, ok_bind, ok_map, eq_int, eq_bl, sAsg, kb_NoneType_int, kb_NoneType_bool, kb_NoneType_str, kb_NoneType_tuple, kb_NoneType_list, kb_bool_int, kb_bool_bool, kb_bool_str, kb_bool_tuple, kb_bool_list, kb_int_int, kb_int_bool, kb_int_str, kb_int_tuple, kb_int_list, kb_str_int, kb_str_bool, kb_str_str, kb_str_tuple, kb_str_list, kb_tuple_int, kb_tuple_bool, kb_tuple_str, kb_tuple_tuple, kb_tuple_list, kb_list_int, kb_list_bool, kb_list_str, kb_list_tuple, kb_list_list, sz_0, sz_1, sz_2, sz_3, sz_4, sz_5, sz_6, sz_7, sz_8, sz_9, sz_10, sz_11, sz_12, sz_13, sz_14, sz_15, sz_16, ix_1_0, ix_2_0, ix_2_1, ix_3_0, ix_3_1, ix_3_2, ix_4_0, ix_4_1, ix_4_2, ix_4_3, ix_5_0, ix_5_1, ix_5_2, ix_5_3, ix_5_4, ix_6_0, ix_6_1, ix_6_2, ix_6_3, ix_6_4, ix_6_5, ix_7_0, ix_7_1, ix_7_2, ix_7_3, ix_7_4, ix_7_5, ix_7_6, sI_0, sI_1, sI_48271, sI_69621, atI]
        exact last (some f1) (by simp; omega)
      · simp [sNext, sIf, sBreak, sCont, sNever, sExpr, sRet, sRetO, sRetN, sSet, sAsg, gNm, gsNil, gsCons, gT, gL, eD, eV, eBox, eNm, eC, eOp, eUn, aNil, aCons, eTup, eLst, eCB, bV, bAnd, bOr, bNot, eAnd, eOr, eNot, eIf, eChain, eCall, eFld, sFldS, sFldA, eMeth, eMake, bYes, fSub, fLt, fLe, fGt, fGe, fDiv, fMod, fPow, fNeg, fAdd, fMul, fIsN, fNotN, Yi.isNon, fEq, fNe, fIn, fInS, fIx, intR, oNo, oPart, fSl, eSl, eRev, sAppO, sExtO, sAug, oIx, oIn, oEq, sPar, sPar3, sSetIx, eDGet, eDIn, eDGet2, sDPutS, eDPop1, eDPop2, eDNewK, eDNewT, oDGet, oDIn, eBM, mApp, mExt, mPopAt, mIdx, cellL, iEv, iR1, iR2, iC, fLen, oLen, fMax, fMin, fAll, fAny, fSum, fSortI, fList, fTuple, fInt, fStr, fIsi, tyD, isLstD, isStrD, isDD, lstD, seqD, stD, eCallF, nAt, iSt, mJoin, mSplit, fAddI, sStar, iEnS, eSortSet, fSet, eLenSet, insAt, lkp, putD, ok_some, ok_none, ok_bind, ok_map, eq_int, eq_bl, sAsg, kb_NoneType_int, kb_NoneType_bool, kb_NoneType_str, kb_NoneType_tuple, kb_NoneType_list, kb_bool_int, kb_bool_bool, kb_bool_str, kb_bool_tuple, kb_bool_list, kb_int_int, kb_int_bool, kb_int_str, kb_int_tuple, kb_int_list, kb_str_int, kb_str_bool, kb_str_str, kb_str_tuple, kb_str_list, kb_tuple_int, kb_tuple_bool, kb_tuple_str, kb_tuple_tuple, kb_tuple_list, kb_list_int, kb_list_bool, kb_list_str, kb_list_tuple, kb_list_list, sz_0, sz_1, sz_2, sz_3, sz_4, sz_5, sz_6, sz_7, sz_8, sz_9, sz_10, sz_11, sz_12, sz_13, sz_14, sz_15, sz_16, ix_1_0, ix_2_0, ix_2_1, ix_3_0, ix_3_1, ix_3_2, ix_4_0, ix_4_1, ix_4_2, ix_4_3, ix_5_0, ix_5_1, ix_5_2, ix_5_3, ix_5_4, ix_6_0, ix_6_1, ix_6_2, ix_6_3, ix_6_4, ix_6_5, ix_7_0, ix_7_1, ix_7_2, ix_7_3, ix_7_4, ix_7_5, ix_7_6, sI_0, sI_1, sI_48271, sI_69621, atI]
        exact last (some f2) (by simp; omega)
    rcases (by omega : y = 0 ∨ y = 1) with rfl | rfl
    · simp [sNext, sIf, sBreak, sCont, sNever, sExpr, sRet, sRetO, sRetN, sSet, sAsg, gNm, gsNil, gsCons, gT, gL, eD, eV, eBox, eNm, eC, eOp, eUn, aNil, aCons, eTup, eLst, eCB, bV, bAnd, bOr, bNot, eAnd, eOr, eNot, eIf, eChain, eCall, eFld, sFldS, sFldA, eMeth, eMake, bYes, fSub, fLt, fLe, fGt, fGe, fDiv, fMod, fPow, fNeg, fAdd, fMul, fIsN, fNotN, Yi.isNon, fEq, fNe, fIn, fInS, fIx, intR, oNo, oPart, fSl, eSl, eRev, sAppO, sExtO, sAug, oIx, oIn, oEq, sPar, sPar3, sSetIx, eDGet, eDIn, eDGet2, sDPutS, eDPop1, eDPop2, eDNewK, eDNewT, oDGet, oDIn, eBM, mApp, mExt, mPopAt, mIdx, cellL, iEv, iR1, iR2, iC, fLen, oLen, fMax, fMin, fAll, fAny, fSum, fSortI, fList, fTuple, fInt, fStr, fIsi, tyD, isLstD, isStrD, isDD, lstD, seqD, stD, eCallF, nAt, iSt, mJoin, mSplit, fAddI, sStar, iEnS, eSortSet, fSet, eLenSet, insAt, lkp, putD, ok_some, ok_none, ok_bind, ok_map, eq_int, eq_bl, sAsg, kb_NoneType_int, kb_NoneType_bool, kb_NoneType_str, kb_NoneType_tuple, kb_NoneType_list, kb_bool_int, kb_bool_bool, kb_bool_str, kb_bool_tuple, kb_bool_list, kb_int_int, kb_int_bool, kb_int_str, kb_int_tuple, kb_int_list, kb_str_int, kb_str_bool, kb_str_str, kb_str_tuple, kb_str_list, kb_tuple_int, kb_tuple_bool, kb_tuple_str, kb_tuple_tuple, kb_tuple_list, kb_list_int, kb_list_bool, kb_list_str, kb_list_tuple, kb_list_list, sz_0, sz_1, sz_2, sz_3, sz_4, sz_5, sz_6, sz_7, sz_8, sz_9, sz_10, sz_11, sz_12, sz_13, sz_14, sz_15, sz_16, ix_1_0, ix_2_0, ix_2_1, ix_3_0, ix_3_1, ix_3_2, ix_4_0, ix_4_1, ix_4_2, ix_4_3, ix_5_0, ix_5_1, ix_5_2, ix_5_3, ix_5_4, ix_6_0, ix_6_1, ix_6_2, ix_6_3, ix_6_4, ix_6_5, ix_7_0, ix_7_1, ix_7_2, ix_7_3, ix_7_4, ix_7_5, ix_7_6, sI_0, sI_1, sI_48271, sI_69621, atI]
      refine go 6 (by decide) (by decide) fun r S5 r0 r1 b5 k5 => ?_
      simp [sNext, sIf, sBreak, sCont, sNever, sExpr, sRet, sRetO, sRetN, sSet, sAsg, gNm, gsNil, gsCons, gT, gL, eD, eV, eBox, eNm, eC, eOp, eUn, aNil, aCons, eTup, eLst, eCB, bV, bAnd, bOr, bNot, eAnd, eOr, eNot, eIf, eChain, eCall, eFld, sFldS, sFldA, eMeth, eMake, bYes, fSub, fLt, fLe, fGt, fGe, fDiv, fMod, fPow, fNeg, fAdd, fMul, fIsN, fNotN, Yi.isNon, fEq, fNe, fIn, fInS, fIx, intR, oNo, oPart, fSl, eSl, eRev, sAppO, sExtO, sAug, oIx, oIn, oEq, sPar, sPar3, sSetIx, eDGet, eDIn, eDGet2, sDPutS, eDPop1, eDPop2, eDNewK, eDNewT, oDGet, oDIn, eBM, mApp, mExt, mPopAt, mIdx, cellL, iEv, iR1, iR2, iC, fLen, oLen, fMax, fMin, fAll, fAny, fSum, fSortI, fList, fTuple, fInt, fStr, fIsi, tyD, isLstD, isStrD, isDD, lstD, seqD, stD, eCallF, nAt, iSt, mJoin, mSplit, fAddI, sStar, iEnS, eSortSet, fSet, eLenSet, insAt, lkp, putD, ok_some, ok_none, ok_bind, ok_map, eq_int, eq_bl, sAsg, kb_NoneType_int, kb_NoneType_bool, kb_NoneType_str, kb_NoneType_tuple, kb_NoneType_list, kb_bool_int, kb_bool_bool, kb_bool_str, kb_bool_tuple, kb_bool_list, kb_int_int, kb_int_bool, kb_int_str, kb_int_tuple, kb_int_list, kb_str_int, kb_str_bool, kb_str_str, kb_str_tuple, kb_str_list, kb_tuple_int, kb_tuple_bool, kb_tuple_str, kb_tuple_tuple, kb_tuple_list, kb_list_int, kb_list_bool, kb_list_str, kb_list_tuple, kb_list_list, sz_0, sz_1, sz_2, sz_3, sz_4, sz_5, sz_6, sz_7, sz_8, sz_9, sz_10, sz_11, sz_12, sz_13, sz_14, sz_15, sz_16, ix_1_0, ix_2_0, ix_2_1, ix_3_0, ix_3_1, ix_3_2, ix_4_0, ix_4_1, ix_4_2, ix_4_3, ix_5_0, ix_5_1, ix_5_2, ix_5_3, ix_5_4, ix_6_0, ix_6_1, ix_6_2, ix_6_3, ix_6_4, ix_6_5, ix_7_0, ix_7_1, ix_7_2, ix_7_3, ix_7_4, ix_7_5, ix_7_6, sI_0, sI_1, sI_48271, sI_69621]
      refine take_ok b5 (by decide) (by decide) fun z S6 z0 z1 b6 k6 => ?_
      rcases (by omega : z = 0 ∨ z = 1 ∨ z = 2) with rfl | rfl | rfl
      · simp [sNext, sIf, sBreak, sCont, sNever, sExpr, sRet, sRetO, sRetN, sSet, sAsg, gNm, gsNil, gsCons, gT, gL, eD, eV, eBox, eNm, eC, eOp, eUn, aNil, aCons, eTup, eLst, eCB, bV, bAnd, bOr, bNot, eAnd, eOr, eNot, eIf, eChain, eCall, eFld, sFldS, sFldA, eMeth, eMake, bYes, fSub, fLt, fLe, fGt, fGe, fDiv, fMod, fPow, fNeg, fAdd, fMul, fIsN, fNotN, Yi.isNon, fEq, fNe, fIn, fInS, fIx, intR, oNo, oPart, fSl, eSl, eRev, sAppO, sExtO, sAug, oIx, oIn, oEq, sPar, sPar3, sSetIx, eDGet, eDIn, eDGet2, sDPutS, eDPop1, eDPop2, eDNewK, eDNewT, oDGet, oDIn, eBM, mApp, mExt, mPopAt, mIdx, cellL, iEv, iR1, iR2, iC, fLen, oLen, fMax, fMin, fAll, fAny, fSum, fSortI, fList, fTuple, fInt, fStr, fIsi, tyD, isLstD, isStrD, isDD, lstD, seqD, stD, eCallF, nAt, iSt, mJoin, mSplit, fAddI, sStar, iEnS, eSortSet, fSet, eLenSet, insAt, lkp, putD, ok_some, ok_none, ok_bind, ok_map, eq_int, eq_bl, sAsg, kb_NoneType_int, kb_NoneType_bool, kb_NoneType_str, kb_NoneType_tuple, kb_NoneType_list, kb_bool_int, kb_bool_bool, kb_bool_str, kb_bool_tuple, kb_bool_list, kb_int_int, kb_int_bool, kb_int_str, kb_int_tuple, kb_int_list, kb_str_int, kb_str_bool, kb_str_str, kb_str_tuple, kb_str_list, kb_tuple_int, kb_tuple_bool, kb_tuple_str, kb_tuple_tuple, kb_tuple_list, kb_list_int, kb_list_bool, kb_list_str, kb_list_tuple, kb_list_list, sz_0, sz_1, sz_2, sz_3, sz_4, sz_5, sz_6, sz_7, sz_8, sz_9, sz_10, sz_11, sz_12, sz_13, sz_14, sz_15, sz_16, ix_1_0, ix_2_0, ix_2_1, ix_3_0, ix_3_1, ix_3_2, ix_4_0, ix_4_1, ix_4_2, ix_4_3, ix_5_0, ix_5_1, ix_5_2, ix_5_3, ix_5_4, ix_6_0, ix_6_1, ix_6_2, ix_6_3, ix_6_4, ix_6_5, ix_7_0, ix_7_1, ix_7_2, ix_7_3, ix_7_4, ix_7_5, ix_7_6, sI_0, sI_1, sI_48271, sI_69621, atI]
        exact rest none S6 (by simp) b6 (k5.trans k6)
      · simp [sNext, sIf, sBreak, sCont, sNever, sExpr, sRet, sRetO, sRetN, sSet, sAsg, gNm, gsNil, gsCons, gT, gL, eD, eV, eBox, eNm, eC, eOp, eUn, aNil, aCons, eTup, eLst, eCB, bV, bAnd, bOr, bNot, eAnd, eOr, eNot, eIf, eChain, eCall, eFld, sFldS, sFldA, eMeth, eMake, bYes, fSub, fLt, fLe, fGt, fGe, fDiv, fMod, fPow, fNeg, fAdd, fMul, fIsN, fNotN, Yi.isNon, fEq, fNe, fIn, fInS, fIx, intR, oNo, oPart, fSl, eSl, eRev, sAppO, sExtO, sAug, oIx, oIn, oEq, sPar, sPar3, sSetIx, eDGet, eDIn, eDGet2, sDPutS, eDPop1, eDPop2, eDNewK, eDNewT, oDGet, oDIn, eBM, mApp, mExt, mPopAt, mIdx, cellL, iEv, iR1, iR2, iC, fLen, oLen, fMax, fMin, fAll, fAny, fSum, fSortI, fList, fTuple, fInt, fStr, fIsi, tyD, isLstD, isStrD, isDD, lstD, seqD, stD, eCallF, nAt, iSt, mJoin, mSplit, fAddI, sStar, iEnS, eSortSet, fSet, eLenSet, insAt, lkp, putD, ok_some, ok_none, ok_bind, ok_map, eq_int, eq_bl, sAsg, kb_NoneType_int, kb_NoneType_bool, kb_NoneType_str, kb_NoneType_tuple, kb_NoneType_list, kb_bool_int, kb_bool_bool, kb_bool_str, kb_bool_tuple, kb_bool_list, kb_int_int, kb_int_bool, kb_int_str, kb_int_tuple, kb_int_list, kb_str_int, kb_str_bool, kb_str_str, kb_str_tuple, kb_str_list, kb_tuple_int, kb_tuple_bool, kb_tuple_str, kb_tuple_tuple, kb_tuple_list, kb_list_int, kb_list_bool, kb_list_str, kb_list_tuple, kb_list_list, sz_0, sz_1, sz_2, sz_3, sz_4, sz_5, sz_6, sz_7, sz_8, sz_9, sz_10, sz_11, sz_12, sz_13, sz_14, sz_15, sz_16, ix_1_0, ix_2_0, ix_2_1, ix_3_0, ix_3_1, ix_3_2, ix_4_0, ix_4_1, ix_4_2, ix_4_3, ix_5_0, ix_5_1, ix_5_2, ix_5_3, ix_5_4, ix_6_0, ix_6_1, ix_6_2, ix_6_3, ix_6_4, ix_6_5, ix_7_0, ix_7_1, ix_7_2, ix_7_3, ix_7_4, ix_7_5, ix_7_6, sI_0, sI_1, sI_48271, sI_69621, atI]
        exact rest (some (1 + r)) S6 (by simp; omega) b6 (k5.trans k6)
      · simp [sNext, sIf, sBreak, sCont, sNever, sExpr, sRet, sRetO, sRetN, sSet, sAsg, gNm, gsNil, gsCons, gT, gL, eD, eV, eBox, eNm, eC, eOp, eUn, aNil, aCons, eTup, eLst, eCB, bV, bAnd, bOr, bNot, eAnd, eOr, eNot, eIf, eChain, eCall, eFld, sFldS, sFldA, eMeth, eMake, bYes, fSub, fLt, fLe, fGt, fGe, fDiv, fMod, fPow, fNeg, fAdd, fMul, fIsN, fNotN, Yi.isNon, fEq, fNe, fIn, fInS, fIx, intR, oNo, oPart, fSl, eSl, eRev, sAppO, sExtO, sAug, oIx, oIn, oEq, sPar, sPar3, sSetIx, eDGet, eDIn, eDGet2, sDPutS, eDPop1, eDPop2, eDNewK, eDNewT, oDGet, oDIn, eBM, mApp, mExt, mPopAt, mIdx, cellL, iEv, iR1, iR2, iC, fLen, oLen, fMax, fMin, fAll, fAny, fSum, fSortI, fList, fTuple, fInt, fStr, fIsi, tyD, isLstD, isStrD, isDD, lstD, seqD, stD, eCallF, nAt, iSt, mJoin, mSplit, fAddI, sStar, iEnS, eSortSet, fSet, eLenSet, insAt, lkp, putD, ok_some, ok_none, ok_bind, ok_map, eq_int, eq_bl, sAsg, kb_NoneType_int, kb_NoneType_bool, kb_NoneType_str, kb_NoneType_tuple, kb_NoneType_list, kb_bool_int, kb_bool_bool, kb_bool_str, kb_bool_tuple, kb_bool_list, kb_int_int, kb_int_bool, kb_int_str, kb_int_tuple, kb_int_list, kb_str_int, kb_str_bool, kb_str_str, kb_str_tuple, kb_str_list, kb_tuple_int, kb_tuple_bool, kb_tuple_str, kb_tuple_tuple, kb_tuple_list, kb_list_int, kb_list_bool, kb_list_str, kb_list_tuple, kb_list_list, sz_0, sz_1, sz_2, sz_3, sz_4, sz_5, sz_6, sz_7, sz_8, sz_9, sz_10, sz_11, sz_12, sz_13, sz_14, sz_15, sz_16, ix_1_0, ix_2_0, ix_2_1, ix_3_0, ix_3_1, ix_3_2, ix_4_0, ix_4_1, ix_4_2, ix_4_3, ix_5_0, ix_5_1, ix_5_2, ix_5_3, ix_5_4, ix_6_0, ix_6_1, ix_6_2, ix_6_3, ix_6_4, ix_6_5, ix_7_0, ix_7_1, ix_7_2, ix_7_3, ix_7_4, ix_7_5, ix_7_6, sI_0, sI_1, sI_48271, sI_69621, atI]
        exact rest (some 2) S6 (by simp) b6 (k5.trans k6)
    · simp [sNext, sIf, sBreak, sCont, sNever, sExpr, sRet, sRetO, sRetN, sSet, sAsg, gNm, gsNil, gsCons, gT, gL, eD, eV, eBox, eNm, eC, eOp, eUn, aNil, aCons, eTup, eLst, eCB, bV, bAnd, bOr, bNot, eAnd, eOr, eNot, eIf, eChain, eCall, eFld, sFldS, sFldA, eMeth, eMake, bYes, fSub, fLt, fLe, fGt, fGe, fDiv, fMod, fPow, fNeg, fAdd, fMul, fIsN, fNotN, Yi.isNon, fEq, fNe, fIn, fInS, fIx, intR, oNo, oPart, fSl, eSl, eRev, sAppO, sExtO, sAug, oIx, oIn, oEq, sPar, sPar3, sSetIx, eDGet, eDIn, eDGet2, sDPutS, eDPop1, eDPop2, eDNewK, eDNewT, oDGet, oDIn, eBM, mApp, mExt, mPopAt, mIdx, cellL, iEv, iR1, iR2, iC, fLen, oLen, fMax, fMin, fAll, fAny, fSum, fSortI, fList, fTuple, fInt, fStr, fIsi, tyD, isLstD, isStrD, isDD, lstD, seqD, stD, eCallF, nAt, iSt, mJoin, mSplit, fAddI, sStar, iEnS, eSortSet, fSet, eLenSet, insAt, lkp, putD, ok_some, ok_none, ok_bind, ok_map, eq_int, eq_bl, sAsg, kb_NoneType_int, kb_NoneType_bool, kb_NoneType_str, kb_NoneType_tuple, kb_NoneType_list, kb_bool_int, kb_bool_bool, kb_bool_str, kb_bool_tuple, kb_bool_list, kb_int_int, kb_int_bool, kb_int_str, kb_int_tuple, kb_int_list, kb_str_int, kb_str_bool, kb_str_str, kb_str_tuple, kb_str_list, kb_tuple_int, kb_tuple_bool, kb_tuple_str, kb_tuple_tuple, kb_tuple_list, kb_list_int, kb_list_bool, kb_list_str, kb_list_tuple, kb_list_list, sz_0, sz_1, sz_2, sz_3, sz_4, sz_5, sz_6, sz_7, sz_8, sz_9, sz_10, sz_11, sz_12, sz_13, sz_14, sz_15, sz_16, ix_1_0, ix_2_0, ix_2_1, ix_3_0, ix_3_1, ix_3_2, ix_4_0, ix_4_1, ix_4_2, ix_4_3, ix_5_0, ix_5_1, ix_5_2, ix_5_3, ix_5_4, ix_6_0, ix_6_1, ix_6_2, ix_6_3, ix_6_4, ix_6_5, ix_7_0, ix_7_1, ix_7_2, ix_7_3, ix_7_4, ix_7_5, ix_7_6, sI_0, sI_1, sI_48271, sI_69621, atI]
      refine go 24 (by decide) (by decide) fun r S5 r0 r1 b5 k5 => ?_
      simp [sNext, sIf, sBreak, sCont, sNever, sExpr, sRet, sRetO, sRetN, sSet, sAsg, gNm, gsNil, gsCons, gT, gL, eD, eV, eBox, eNm, eC, eOp, eUn, aNil, aCons, eTup, eLst, eCB, bV, bAnd, bOr, bNot, eAnd, eOr, eNot, eIf, eChain, eCall, eFld, sFldS, sFldA, eMeth, eMake, bYes, fSub, fLt, fLe, fGt, fGe, fDiv, fMod, fPow, fNeg, fAdd, fMul, fIsN, fNotN, Yi.isNon, fEq, fNe, fIn, fInS, fIx, intR, oNo, oPart, fSl, eSl, eRev, sAppO, sExtO, sAug, oIx, oIn, oEq, sPar, sPar3, sSetIx, eDGet, eDIn, eDGet2, sDPutS, eDPop1, eDPop2, eDNewK, eDNewT, oDGet, oDIn, eBM, mApp, mExt, mPopAt, mIdx, cellL, iEv, iR1, iR2, iC, fLen, oLen, fMax, fMin, fAll, fAny, fSum, fSortI, fList, fTuple, fInt, fStr, fIsi, tyD, isLstD, isStrD, isDD, lstD, seqD, stD, eCallF, nAt, iSt, mJoin, mSplit, fAddI, sStar, iEnS, eSortSet, fSet, eLenSet, insAt, lkp, putD, ok_some, ok_none, ok_bind, ok_map, eq_int, eq_bl, sAsg, kb_NoneType_int, kb_NoneType_bool, kb_NoneType_str, kb_NoneType_tuple, kb_NoneType_list, kb_bool_int, kb_bool_bool, kb_bool_str, kb_bool_tuple, kb_bool_list, kb_int_int, kb_int_bool, kb_int_str, kb_int_tuple, kb_int_list, kb_str_int, kb_str_bool, kb_str_str, kb_str_tuple, kb_str_list, kb_tuple_int, kb_tuple_bool, kb_tuple_str, kb_tuple_tuple, kb_tuple_list, kb_list_int, kb_list_bool, kb_list_str, kb_list_tuple, kb_list_list, sz_0, sz_1, sz_2, sz_3, sz_4, sz_5, sz_6, sz_7, sz_8, sz_9, sz_10, sz_11, sz_12, sz_13, sz_14, sz_15, sz_16, ix_1_0, ix_2_0, ix_2_1, ix_3_0, ix_3_1, ix_3_2, ix_4_0, ix_4_1, ix_4_2, ix_4_3, ix_5_0, ix_5_1, ix_5_2, ix_5_3, ix_5_4, ix_6_0, ix_6_1, ix_6_2, ix_6_3, ix_6_4, ix_6_5, ix_7_0, ix_7_1, ix_7_2, ix_7_3, ix_7_4, ix_7_5, ix_7_6, sI_0, sI_1, sI_48271, sI_69621]
      refine take_ok b5 (by decide) (by decide) fun z S6 z0 z1 b6 k6 => ?_
      rcases (by omega : z = 0 ∨ z = 1 ∨ z = 2) with rfl | rfl | rfl
      · simp [sNext, sIf, sBreak, sCont, sNever, sExpr, sRet, sRetO, sRetN, sSet, sAsg, gNm, gsNil, gsCons, gT, gL, eD, eV, eBox, eNm, eC, eOp, eUn, aNil, aCons, eTup, eLst, eCB, bV, bAnd, bOr, bNot, eAnd, eOr, eNot, eIf, eChain, eCall, eFld, sFldS, sFldA, eMeth, eMake, bYes, fSub, fLt, fLe, fGt, fGe, fDiv, fMod, fPow, fNeg, fAdd, fMul, fIsN, fNotN, Yi.isNon, fEq, fNe, fIn, fInS, fIx, intR, oNo, oPart, fSl, eSl, eRev, sAppO, sExtO, sAug, oIx, oIn, oEq, sPar, sPar3, sSetIx, eDGet, eDIn, eDGet2, sDPutS, eDPop1, eDPop2, eDNewK, eDNewT, oDGet, oDIn, eBM, mApp, mExt, mPopAt, mIdx, cellL, iEv, iR1, iR2, iC, fLen, oLen, fMax, fMin, fAll, fAny, fSum, fSortI, fList, fTuple, fInt, fStr, fIsi, tyD, isLstD, isStrD, isDD, lstD, seqD, stD, eCallF, nAt, iSt, mJoin, mSplit, fAddI, sStar, iEnS, eSortSet, fSet, eLenSet, insAt, lkp, putD, ok_some, ok_none, ok_bind, ok_map, eq_int, eq_bl, sAsg, kb_NoneType_int, kb_NoneType_bool, kb_NoneType_str, kb_NoneType_tuple, kb_NoneType_list, kb_bool_int, kb_bool_bool, kb_bool_str, kb_bool_tuple, kb_bool_list, kb_int_int, kb_int_bool, kb_int_str, kb_int_tuple, kb_int_list, kb_str_int, kb_str_bool, kb_str_str, kb_str_tuple, kb_str_list, kb_tuple_int, kb_tuple_bool, kb_tuple_str, kb_tuple_tuple, kb_tuple_list, kb_list_int, kb_list_bool, kb_list_str, kb_list_tuple, kb_list_list, sz_0, sz_1, sz_2, sz_3, sz_4, sz_5, sz_6, sz_7, sz_8, sz_9, sz_10, sz_11, sz_12, sz_13, sz_14, sz_15, sz_16, ix_1_0, ix_2_0, ix_2_1, ix_3_0, ix_3_1, ix_3_2, ix_4_0, ix_4_1, ix_4_2, ix_4_3, ix_5_0, ix_5_1, ix_5_2, ix_5_3, ix_5_4, ix_6_0, ix_6_1, ix_6_2, ix_6_3, ix_6_4, ix_6_5, ix_7_0, ix_7_1, ix_7_2, ix_7_3, ix_7_4, ix_7_5, ix_7_6, sI_0, sI_1, sI_48271, sI_69621, atI]
        exact rest none S6 (by simp) b6 (k5.trans k6)
      · simp [sNext, sIf, sBreak, sCont, sNever, sExpr, sRet, sRetO, sRetN, sSet, sAsg, gNm, gsNil, gsCons, gT, gL, eD, eV, eBox, eNm, eC, eOp, eUn, aNil, aCons, eTup, eLst, eCB, bV, bAnd, bOr, bNot, eAnd, eOr, eNot, eIf, eChain, eCall, eFld, sFldS, sFldA, eMeth, eMake, bYes, fSub, fLt, fLe, fGt, fGe, fDiv, fMod, fPow, fNeg, fAdd, fMul, fIsN, fNotN, Yi.isNon, fEq, fNe, fIn, fInS, fIx, intR, oNo, oPart, fSl, eSl, eRev, sAppO, sExtO, sAug, oIx, oIn, oEq, sPar, sPar3, sSetIx, eDGet, eDIn, eDGet2, sDPutS, eDPop1, eDPop2, eDNewK, eDNewT, oDGet, oDIn, eBM, mApp, mExt, mPopAt, mIdx, cellL, iEv, iR1, iR2, iC, fLen, oLen, fMax, fMin, fAll, fAny, fSum, fSortI, fList, fTuple, fInt, fStr, fIsi, tyD, isLstD, isStrD, isDD, lstD, seqD, stD, eCallF, nAt, iSt, mJoin, mSplit, fAddI, sStar, iEnS, eSortSet, fSet, eLenSet, insAt, lkp, putD, ok_some, ok_none, ok_bind, ok_map, eq_int, eq_bl, sAsg, kb_NoneType_int, kb_NoneType_bool, kb_NoneType_str, kb_NoneType_tuple, kb_NoneType_list, kb_bool_int, kb_bool_bool, kb_bool_str, kb_bool_tuple, kb_bool_list, kb_int_int, kb_int_bool, kb_int_str, kb_int_tuple, kb_int_list, kb_str_int, kb_str_bool, kb_str_str, kb_str_tuple, kb_str_list, kb_tuple_int, kb_tuple_bool, kb_tuple_str, kb_tuple_tuple, kb_tuple_list, kb_list_int, kb_list_bool, kb_list_str, kb_list_tuple, kb_list_list, sz_0, sz_1, sz_2, sz_3, sz_4, sz_5, sz_6, sz_7, sz_8, sz_9, sz_10, sz_11, sz_12, sz_13, sz_14, sz_15, sz_16, ix_1_0, ix_2_0, ix_2_1, ix_3_0, ix_3_1, ix_3_2, ix_4_0, ix_4_1, ix_4_2, ix_4_3, ix_5_0, ix_5_1, ix_5_2, ix_5_3, ix_5_4, ix_6_0, ix_6_1, ix_6_2, ix_6_3, ix_6_4, ix_6_5, ix_7_0, ix_7_1, ix_7_2, ix_7_3, ix_7_4, ix_7_5, ix_7_6, sI_0, sI_1, sI_48271, sI_69621, atI]
        exact rest (some (1 + r)) S6 (by simp; omega) b6 (k5.trans k6)
      · simp [sNext, sIf, sBreak, sCont, sNever, sExpr, sRet, sRetO, sRetN, sSet, sAsg, gNm, gsNil, gsCons, gT, gL, eD, eV, eBox, eNm, eC, eOp, eUn, aNil, aCons, eTup, eLst, eCB, bV, bAnd, bOr, bNot, eAnd, eOr, eNot, eIf, eChain, eCall, eFld, sFldS, sFldA, eMeth, eMake, bYes, fSub, fLt, fLe, fGt, fGe, fDiv, fMod, fPow, fNeg, fAdd, fMul, fIsN, fNotN, Yi.isNon, fEq, fNe, fIn, fInS, fIx, intR, oNo, oPart, fSl, eSl, eRev, sAppO, sExtO, sAug, oIx, oIn, oEq, sPar, sPar3, sSetIx, eDGet, eDIn, eDGet2, sDPutS, eDPop1, eDPop2, eDNewK, eDNewT, oDGet, oDIn, eBM, mApp, mExt, mPopAt, mIdx, cellL, iEv, iR1, iR2, iC, fLen, oLen, fMax, fMin, fAll, fAny, fSum, fSortI, fList, fTuple, fInt, fStr, fIsi, tyD, isLstD, isStrD, isDD, lstD, seqD, stD, eCallF, nAt, iSt, mJoin, mSplit, fAddI, sStar, iEnS, eSortSet, fSet, eLenSet, insAt, lkp, putD, ok_some, ok_none, ok_bind, ok_map, eq_int, eq_bl, sAsg, kb_NoneType_int, kb_NoneType_bool, kb_NoneType_str, kb_NoneType_tuple, kb_NoneType_list, kb_bool_int, kb_bool_bool, kb_bool_str, kb_bool_tuple, kb_bool_list, kb_int_int, kb_int_bool, kb_int_str, kb_int_tuple, kb_int_list, kb_str_int, kb_str_bool, kb_str_str, kb_str_tuple, kb_str_list, kb_tuple_int, kb_tuple_bool, kb_tuple_str, kb_tuple_tuple, kb_tuple_list, kb_list_int, kb_list_bool, kb_list_str, kb_list_tuple, kb_list_list, sz_0, sz_1, sz_2, sz_3, sz_4, sz_5, sz_6, sz_7, sz_8, sz_9, sz_10, sz_11, sz_12, sz_13, sz_14, sz_15, sz_16, ix_1_0, ix_2_0, ix_2_1, ix_3_0, ix_3_1, ix_3_2, ix_4_0, ix_4_1, ix_4_2, ix_4_3, ix_5_0, ix_5_1, ix_5_2, ix_5_3, ix_5_4, ix_6_0, ix_6_1, ix_6_2, ix_6_3, ix_6_4, ix_6_5, ix_7_0, ix_7_1, ix_7_2, ix_7_3, ix_7_4, ix_7_5, ix_7_6, sI_0, sI_1, sI_48271, sI_69621, atI]
        exact rest (some 2) S6 (by simp) b6 (k5.trans k6)
end Wk
namespace Wk
open PySem L2 Yi
def InvR (S : Sto) (m : Nat) (i : Nat) (ys : List D) (S2 : Sto) : Prop := ∃ rs : List Rl, ys = rs.map rD ∧ rs.length = i ∧ i ≤ m ∧ (∀ r ∈ rs, r.Good m ∧ r.tb = true) ∧ Box S2 ∧ Kp S S2
structure GoodRs (rs : List Rl) : Prop where
  l1 : 1 ≤ rs.length
  l6 : rs.length ≤ 6
  g : ∀ r ∈ rs, r.Good rs.length
theorem rules_ok {S : Sto} (hb : Box S) {Q : VV × Sto → Prop} (hQ : ∀ (rs : List Rl) S', GoodRs rs → Box S' → Kp S S' → Q (.d (.pt (rs.map rD)), S')) : ok (d_law_rules [.ref 1] S) Q := by
  refine den_ok rfl (seq_ok ?_)
  simp [sNext, sIf, sBreak, sCont, sNever, sExpr, sRet, sRetO, sRetN, sSet, sAsg, gNm, gsNil, gsCons, gT, gL, eD, eV, eBox, eNm, eC, eOp, eUn, aNil, aCons, eTup, eLst, eCB, bV, bAnd, bOr, bNot, eAnd, eOr, eNot, eIf, eChain, eCall, eFld, sFldS, sFldA, eMeth, eMake, bYes, fSub, fLt, fLe, fGt, fGe, fDiv, fMod, fPow, fNeg, fAdd, fMul, fIsN, fNotN, Yi.isNon, fEq, fNe, fIn, fInS, fIx, intR, oNo, oPart, fSl, eSl, eRev, sAppO, sExtO, sAug, oIx, oIn, oEq, sPar, sPar3, sSetIx, eDGet, eDIn, eDGet2, sDPutS, eDPop1, eDPop2, eDNewK, eDNewT, oDGet, oDIn, eBM, mApp, mExt, mPopAt, mIdx, cellL, iEv, iR1, iR2, iC, fLen, oLen, fMax, fMin, fAll, fAny, fSum, fSortI, fList, fTuple, fInt, fStr, fIsi, tyD, isLstD, isStrD, isDD, lstD, seqD, stD, eCallF, nAt, iSt, mJoin, mSplit, fAddI, sStar, iEnS, eSortSet, fSet, eLenSet, insAt, lkp, putD, ok_some, ok_none, ok_bind, ok_map, eq_int, eq_bl, sAsg, kb_NoneType_int, kb_NoneType_bool, kb_NoneType_str, kb_NoneType_tuple, kb_NoneType_list, kb_bool_int, kb_bool_bool, kb_bool_str, kb_bool_tuple, kb_bool_list, kb_int_int, kb_int_bool, kb_int_str, kb_int_tuple, kb_int_list, kb_str_int, kb_str_bool, kb_str_str, kb_str_tuple, kb_str_list, kb_tuple_int, kb_tuple_bool, kb_tuple_str, kb_tuple_tuple, kb_tuple_list, kb_list_int, kb_list_bool, kb_list_str, kb_list_tuple, kb_list_list, sz_0, sz_1, sz_2, sz_3, sz_4, sz_5, sz_6, sz_7, sz_8, sz_9, sz_10, sz_11, sz_12, sz_13, sz_14, sz_15, sz_16, ix_1_0, ix_2_0, ix_2_1, ix_3_0, ix_3_1, ix_3_2, ix_4_0, ix_4_1, ix_4_2, ix_4_3, ix_5_0, ix_5_1, ix_5_2, ix_5_3, ix_5_4, ix_6_0, ix_6_1, ix_6_2, ix_6_3, ix_6_4, ix_6_5, ix_7_0, ix_7_1, ix_7_2, ix_7_3, ix_7_4, ix_7_5, ix_7_6, sI_0, sI_1, sI_48271, sI_69621]
  refine take_ok hb (by decide) (by decide) fun n S1 h0 h6 b1 k1 => ?_
  simp [sNext, sIf, sBreak, sCont, sNever, sExpr, sRet, sRetO, sRetN, sSet, sAsg, gNm, gsNil, gsCons, gT, gL, eD, eV, eBox, eNm, eC, eOp, eUn, aNil, aCons, eTup, eLst, eCB, bV, bAnd, bOr, bNot, eAnd, eOr, eNot, eIf, eChain, eCall, eFld, sFldS, sFldA, eMeth, eMake, bYes, fSub, fLt, fLe, fGt, fGe, fDiv, fMod, fPow, fNeg, fAdd, fMul, fIsN, fNotN, Yi.isNon, fEq, fNe, fIn, fInS, fIx, intR, oNo, oPart, fSl, eSl, eRev, sAppO, sExtO, sAug, oIx, oIn, oEq, sPar, sPar3, sSetIx, eDGet, eDIn, eDGet2, sDPutS, eDPop1, eDPop2, eDNewK, eDNewT, oDGet, oDIn, eBM, mApp, mExt, mPopAt, mIdx, cellL, iEv, iR1, iR2, iC, fLen, oLen, fMax, fMin, fAll, fAny, fSum, fSortI, fList, fTuple, fInt, fStr, fIsi, tyD, isLstD, isStrD, isDD, lstD, seqD, stD, eCallF, nAt, iSt, mJoin, mSplit, fAddI, sStar, iEnS, eSortSet, fSet, eLenSet, insAt, lkp, putD, ok_some, ok_none, ok_bind, ok_map, eq_int, eq_bl, sAsg, kb_NoneType_int, kb_NoneType_bool, kb_NoneType_str, kb_NoneType_tuple, kb_NoneType_list, kb_bool_int, kb_bool_bool, kb_bool_str, kb_bool_tuple, kb_bool_list, kb_int_int, kb_int_bool, kb_int_str, kb_int_tuple, kb_int_list, kb_str_int, kb_str_bool, kb_str_str, kb_str_tuple, kb_str_list, kb_tuple_int, kb_tuple_bool, kb_tuple_str, kb_tuple_tuple, kb_tuple_list, kb_list_int, kb_list_bool, kb_list_str, kb_list_tuple, kb_list_list, sz_0, sz_1, sz_2, sz_3, sz_4, sz_5, sz_6, sz_7, sz_8, sz_9, sz_10, sz_11, sz_12, sz_13, sz_14, sz_15, sz_16, ix_1_0, ix_2_0, ix_2_1, ix_3_0, ix_3_1, ix_3_2, ix_4_0, ix_4_1, ix_4_2, ix_4_3, ix_5_0, ix_5_1, ix_5_2, ix_5_3, ix_5_4, ix_6_0, ix_6_1, ix_6_2, ix_6_3, ix_6_4, ix_6_5, ix_7_0, ix_7_1, ix_7_2, ix_7_3, ix_7_4, ix_7_5, ix_7_6, sI_0, sI_1, sI_48271, sI_69621]
  refine lc_ok ?_
  have sm : smallR (1 + n) = true := smR (by omega) (by omega)
  simp [sNext, sIf, sBreak, sCont, sNever, sExpr, sRet, sRetO, sRetN, sSet, sAsg, gNm, gsNil, gsCons, gT, gL, eD, eV, eBox, eNm, eC, eOp, eUn, aNil, aCons, eTup, eLst, eCB, bV, bAnd, bOr, bNot, eAnd, eOr, eNot, eIf, eChain, eCall, eFld, sFldS, sFldA, eMeth, eMake, bYes, fSub, fLt, fLe, fGt, fGe, fDiv, fMod, fPow, fNeg, fAdd, fMul, fIsN, fNotN, Yi.isNon, fEq, fNe, fIn, fInS, fIx, intR, oNo, oPart, fSl, eSl, eRev, sAppO, sExtO, sAug, oIx, oIn, oEq, sPar, sPar3, sSetIx, eDGet, eDIn, eDGet2, sDPutS, eDPop1, eDPop2, eDNewK, eDNewT, oDGet, oDIn, eBM, mApp, mExt, mPopAt, mIdx, cellL, iEv, iR1, iR2, iC, fLen, oLen, fMax, fMin, fAll, fAny, fSum, fSortI, fList, fTuple, fInt, fStr, fIsi, tyD, isLstD, isStrD, isDD, lstD, seqD, stD, eCallF, nAt, iSt, mJoin, mSplit, fAddI, sStar, iEnS, eSortSet, fSet, eLenSet, insAt, lkp, putD, ok_some, ok_none, ok_bind, ok_map, eq_int, eq_bl, sAsg, kb_NoneType_int, kb_NoneType_bool, kb_NoneType_str, kb_NoneType_tuple, kb_NoneType_list, kb_bool_int, kb_bool_bool, kb_bool_str, kb_bool_tuple, kb_bool_list, kb_int_int, kb_int_bool, kb_int_str, kb_int_tuple, kb_int_list, kb_str_int, kb_str_bool, kb_str_str, kb_str_tuple, kb_str_list, kb_tuple_int, kb_tuple_bool, kb_tuple_str, kb_tuple_tuple, kb_tuple_list, kb_list_int, kb_list_bool, kb_list_str, kb_list_tuple, kb_list_list, sz_0, sz_1, sz_2, sz_3, sz_4, sz_5, sz_6, sz_7, sz_8, sz_9, sz_10, sz_11, sz_12, sz_13, sz_14, sz_15, sz_16, ix_1_0, ix_2_0, ix_2_1, ix_3_0, ix_3_1, ix_3_2, ix_4_0, ix_4_1, ix_4_2, ix_4_3, ix_5_0, ix_5_1, ix_5_2, ix_5_3, ix_5_4, ix_6_0, ix_6_1, ix_6_2, ix_6_3, ix_6_4, ix_6_5, ix_7_0, ix_7_1, ix_7_2, ix_7_3, ix_7_4, ix_7_5, ix_7_6, sI_0, sI_1, sI_48271, sI_69621, sm, wipeS]
  have em : ∃ m : Nat, 1 + n = m ∧ 1 ≤ m ∧ m ≤ 6 := ⟨(1 + n).toNat, by omega, by omega, by omega⟩
  obtain ⟨m, em, m1, m6⟩ := em
  rw [em]
  refine (compL_ok (InvR S m) (fun i ys S2 ⟨rs, e, l, l2, _⟩ => by rw [e]; simp [szOk]; omega) (rngL 0 m) 0 ⟨[], rfl, rfl, by omega, by simp, b1, k1⟩ ?_).mono ?_
  · rintro i d hd ys S2 ⟨rs, rfl, l, l2, g, b2, k2⟩
    obtain ⟨hi, rfl⟩ := rng_get hd
    simp [sNext, sIf, sBreak, sCont, sNever, sExpr, sRet, sRetO, sRetN, sSet, sAsg, gNm, gsNil, gsCons, gT, gL, eD, eV, eBox, eNm, eC, eOp, eUn, aNil, aCons, eTup, eLst, eCB, bV, bAnd, bOr, bNot, eAnd, eOr, eNot, eIf, eChain, eCall, eFld, sFldS, sFldA, eMeth, eMake, bYes, fSub, fLt, fLe, fGt, fGe, fDiv, fMod, fPow, fNeg, fAdd, fMul, fIsN, fNotN, Yi.isNon, fEq, fNe, fIn, fInS, fIx, intR, oNo, oPart, fSl, eSl, eRev, sAppO, sExtO, sAug, oIx, oIn, oEq, sPar, sPar3, sSetIx, eDGet, eDIn, eDGet2, sDPutS, eDPop1, eDPop2, eDNewK, eDNewT, oDGet, oDIn, eBM, mApp, mExt, mPopAt, mIdx, cellL, iEv, iR1, iR2, iC, fLen, oLen, fMax, fMin, fAll, fAny, fSum, fSortI, fList, fTuple, fInt, fStr, fIsi, tyD, isLstD, isStrD, isDD, lstD, seqD, stD, eCallF, nAt, iSt, mJoin, mSplit, fAddI, sStar, iEnS, eSortSet, fSet, eLenSet, insAt, lkp, putD, ok_some, ok_none, ok_bind, ok_map, eq_int, eq_bl, sAsg, kb_NoneType_int, kb_NoneType_bool, kb_NoneType_str, kb_NoneType_tuple, kb_NoneType_list, kb_bool_int, kb_bool_bool, kb_bool_str, kb_bool_tuple, kb_bool_list, kb_int_int, kb_int_bool, kb_int_str, kb_int_tuple, kb_int_list, kb_str_int, kb_str_bool, kb_str_str, kb_str_tuple, kb_str_list, kb_tuple_int, kb_tuple_bool, kb_tuple_str, kb_tuple_tuple, kb_tuple_list, kb_list_int, kb_list_bool, kb_list_str, kb_list_tuple, kb_list_list, sz_0, sz_1, sz_2, sz_3, sz_4, sz_5, sz_6, sz_7, sz_8, sz_9, sz_10, sz_11, sz_12, sz_13, sz_14, sz_15, sz_16, ix_1_0, ix_2_0, ix_2_1, ix_3_0, ix_3_1, ix_3_2, ix_4_0, ix_4_1, ix_4_2, ix_4_3, ix_5_0, ix_5_1, ix_5_2, ix_5_3, ix_5_4, ix_6_0, ix_6_1, ix_6_2, ix_6_3, ix_6_4, ix_6_5, ix_7_0, ix_7_1, ix_7_2, ix_7_3, ix_7_4, ix_7_5, ix_7_6, sI_0, sI_1, sI_48271, sI_69621]
    refine rule_ok b2 (by omega) m6 fun r S3 hr ht b3 k3 => ?_
    simp [sNext, sIf, sBreak, sCont, sNever, sExpr, sRet, sRetO, sRetN, sSet, sAsg, gNm, gsNil, gsCons, gT, gL, eD, eV, eBox, eNm, eC, eOp, eUn, aNil, aCons, eTup, eLst, eCB, bV, bAnd, bOr, bNot, eAnd, eOr, eNot, eIf, eChain, eCall, eFld, sFldS, sFldA, eMeth, eMake, bYes, fSub, fLt, fLe, fGt, fGe, fDiv, fMod, fPow, fNeg, fAdd, fMul, fIsN, fNotN, Yi.isNon, fEq, fNe, fIn, fInS, fIx, intR, oNo, oPart, fSl, eSl, eRev, sAppO, sExtO, sAug, oIx, oIn, oEq, sPar, sPar3, sSetIx, eDGet, eDIn, eDGet2, sDPutS, eDPop1, eDPop2, eDNewK, eDNewT, oDGet, oDIn, eBM, mApp, mExt, mPopAt, mIdx, cellL, iEv, iR1, iR2, iC, fLen, oLen, fMax, fMin, fAll, fAny, fSum, fSortI, fList, fTuple, fInt, fStr, fIsi, tyD, isLstD, isStrD, isDD, lstD, seqD, stD, eCallF, nAt, iSt, mJoin, mSplit, fAddI, sStar, iEnS, eSortSet, fSet, eLenSet, insAt, lkp, putD, ok_some, ok_none, ok_bind, ok_map, eq_int, eq_bl, sAsg, kb_NoneType_int, kb_NoneType_bool, kb_NoneType_str, kb_NoneType_tuple, kb_NoneType_list, kb_bool_int, kb_bool_bool, kb_bool_str, kb_bool_tuple, kb_bool_list, kb_int_int, kb_int_bool, kb_int_str, kb_int_tuple, kb_int_list, kb_str_int, kb_str_bool, kb_str_str, kb_str_tuple, kb_str_list, kb_tuple_int, kb_tuple_bool, kb_tuple_str, kb_tuple_tuple, kb_tuple_list, kb_list_int, kb_list_bool, kb_list_str, kb_list_tuple, kb_list_list, sz_0, sz_1, sz_2, sz_3, sz_4, sz_5, sz_6, sz_7, sz_8, sz_9, sz_10, sz_11, sz_12, sz_13, sz_14, sz_15, sz_16, ix_1_0, ix_2_0, ix_2_1, ix_3_0, ix_3_1, ix_3_2, ix_4_0, ix_4_1, ix_4_2, ix_4_3, ix_5_0, ix_5_1, ix_5_2, ix_5_3, ix_5_4, ix_6_0, ix_6_1, ix_6_2, ix_6_3, ix_6_4, ix_6_5, ix_7_0, ix_7_1, ix_7_2, ix_7_3, ix_7_4, ix_7_5, ix_7_6, sI_0, sI_1, sI_48271, sI_69621]
    refine ⟨rs ++ [r], by simp, by simp [l], by omega, fun r' h' => ?_, b3, k2.trans k3⟩
    rcases List.mem_append.mp h' with q | q
    · exact g r' q
    · have e : r' = r := by simpa using q
      rw [e]
      exact ⟨hr, ht⟩
  · rintro ⟨ys, S2⟩ ⟨rs, e1, l, l2, g, b2, k2⟩
    simp only [rng_len, Nat.zero_add] at l
    subst l
    dsimp only at e1
    subst e1
    have q := hQ rs S2 ⟨m1, m6, fun r hr => (g r hr).1⟩ b2 k2
    simp [sNext, sIf, sBreak, sCont, sNever, sExpr, sRet, sRetO, sRetN, sSet, sAsg, gNm, gsNil, gsCons, gT, gL, eD, eV, eBox, eNm, eC, eOp, eUn, aNil, aCons, eTup, eLst, eCB, bV, bAnd, bOr, bNot, eAnd, eOr, eNot, eIf, eChain, eCall, eFld, sFldS, sFldA, eMeth, eMake, bYes, fSub, fLt, fLe, fGt, fGe, fDiv, fMod, fPow, fNeg, fAdd, fMul, fIsN, fNotN, Yi.isNon, fEq, fNe, fIn, fInS, fIx, intR, oNo, oPart, fSl, eSl, eRev, sAppO, sExtO, sAug, oIx, oIn, oEq, sPar, sPar3, sSetIx, eDGet, eDIn, eDGet2, sDPutS, eDPop1, eDPop2, eDNewK, eDNewT, oDGet, oDIn, eBM, mApp, mExt, mPopAt, mIdx, cellL, iEv, iR1, iR2, iC, fLen, oLen, fMax, fMin, fAll, fAny, fSum, fSortI, fList, fTuple, fInt, fStr, fIsi, tyD, isLstD, isStrD, isDD, lstD, seqD, stD, eCallF, nAt, iSt, mJoin, mSplit, fAddI, sStar, iEnS, eSortSet, fSet, eLenSet, insAt, lkp, putD, ok_some, ok_none, ok_bind, ok_map, eq_int, eq_bl, sAsg, kb_NoneType_int, kb_NoneType_bool, kb_NoneType_str, kb_NoneType_tuple, kb_NoneType_list, kb_bool_int, kb_bool_bool, kb_bool_str, kb_bool_tuple, kb_bool_list, kb_int_int, kb_int_bool, kb_int_str, kb_int_tuple, kb_int_list, kb_str_int, kb_str_bool, kb_str_str, kb_str_tuple, kb_str_list, kb_tuple_int, kb_tuple_bool, kb_tuple_str, kb_tuple_tuple, kb_tuple_list, kb_list_int, kb_list_bool, kb_list_str, kb_list_tuple, kb_list_list, sz_0, sz_1, sz_2, sz_3, sz_4, sz_5, sz_6, sz_7, sz_8, sz_9, sz_10, sz_11, sz_12, sz_13, sz_14, sz_15, sz_16, ix_1_0, ix_2_0, ix_2_1, ix_3_0, ix_3_1, ix_3_2, ix_4_0, ix_4_1, ix_4_2, ix_4_3, ix_5_0, ix_5_1, ix_5_2, ix_5_3, ix_5_4, ix_6_0, ix_6_1, ix_6_2, ix_6_3, ix_6_4, ix_6_5, ix_7_0, ix_7_1, ix_7_2, ix_7_3, ix_7_4, ix_7_5, ix_7_6, sI_0, sI_1, sI_48271, sI_69621]
    exact q
/-! ### notices -/
structure Nt.Good (n : Nt) (many : Nat) : Prop where
  p0 : 0 ≤ n.person
  p1 : n.person < many
  r0 : 0 ≤ n.rank
  r1 : n.rank ≤ 3
  k0 : 0 ≤ n.kind
  k1 : n.kind ≤ 7
/-- in turn from lo on, to 300 -/
def Turn (lo : Int) : List Nt → Prop
  | [] => True
  | n :: r => lo ≤ n.born ∧ n.born ≤ 300 ∧ Turn n.born r
def lastB (lo : Int) : List Nt → Int
  | [] => lo
  | n :: r => lastB n.born r
theorem turn_app : ∀ {ns : List Nt} {lo : Int} {n : Nt}, Turn lo ns → lastB lo ns ≤ n.born → n.born ≤ 300 → Turn lo (ns ++ [n]) ∧ lastB lo (ns ++ [n]) = n.born
  | [], lo, n, _, h1, h2 => ⟨⟨h1, h2, trivial⟩, rfl⟩
  | m :: r, lo, n, h, h1, h2 => by
    obtain ⟨a, b⟩ := turn_app (ns := r) (lo := m.born) (n := n) h.2.2 h1 h2
    exact ⟨⟨h.1, h.2.1, a⟩, b⟩
def InvN (S : Sto) (rs : D) (most few : Int) (many : Nat) (i : Nat) (ρ : Slt) (S2 : Sto) : Prop := ∃ (ns : List Nt) (b : Int) (x : Option VV), ρ = [some (.d (.ref 1)), some (.d rs), some (.d (.int most)), x, some (.own (.lst (ns.map nD))), some (.d (.int b)), some (.d (.int few))] ∧
  ns.length = i ∧ i ≤ 30 ∧ (∀ n ∈ ns, n.Good many) ∧ Turn 0 ns ∧ lastB 0 ns ≤ b ∧ 0 ≤ b ∧ b ≤ 300 ∧ Box S2 ∧ Kp S S2
end Wk
namespace Wk
open PySem L2 Yi
theorem isn {i lo hi : Int} {S : Sto} (h : lo ≤ i ∧ i ≤ hi) : d_is_number [.int i, .int lo, .int hi] S = some (.d (.bl true), S) := by rw [is_number_ok, decide_eq_true h.1, decide_eq_true h.2]; rfl
theorem stretch_ok {p : Int × Int} {S : Sto} (h : 0 ≤ p.1 ∧ p.1 ≤ 23 ∧ 0 ≤ p.2 ∧ p.2 ≤ 23 ∧ p.1 ≠ p.2) : d_is_stretch [pD p] S = some (.d (.bl true), S) := by
  refine ok.get (den_ok rfl ?_)
  have a := isn (S := S) (i := p.1) (lo := 0) (hi := 23) ⟨h.1, h.2.1⟩
  have b := isn (S := S) (i := p.2) (lo := 0) (hi := 23) ⟨h.2.2.1, h.2.2.2.1⟩
  simp [m_is_stretch, pD, sNext, sIf, sBreak, sCont, sNever, sExpr, sRet, sRetO, sRetN, sSet, sAsg, gNm, gsNil, gsCons, gT, gL, eD, eV, eBox, eNm, eC, eOp, eUn, aNil, aCons, eTup, eLst, eCB, bV, bAnd, bOr, bNot, eAnd, eOr, eNot, eIf, eChain, eCall, eFld, sFldS, sFldA, eMeth, eMake, bYes, fSub, fLt, fLe, fGt, fGe, fDiv, fMod, fPow, fNeg, fAdd, fMul, fIsN, fNotN, Yi.isNon, fEq, fNe, fIn, fInS, fIx, intR, oNo, oPart, fSl, eSl, eRev, sAppO, sExtO, sAug, oIx, oIn, oEq, sPar, sPar3, sSetIx, eDGet, eDIn, eDGet2, sDPutS, eDPop1, eDPop2, eDNewK, eDNewT, oDGet, oDIn, eBM, mApp, mExt, mPopAt, mIdx, cellL, iEv, iR1, iR2, iC, fLen, oLen, fMax, fMin, fAll, fAny, fSum, fSortI, fList, fTuple, fInt, fStr, fIsi, tyD, isLstD, isStrD, isDD, lstD, seqD, stD, eCallF, nAt, iSt, mJoin, mSplit, fAddI, sStar, iEnS, eSortSet, fSet, eLenSet, insAt, lkp, putD, ok_some, ok_none, ok_bind, ok_map, eq_int, eq_bl, sAsg, kb_NoneType_int, kb_NoneType_bool, kb_NoneType_str, kb_NoneType_tuple, kb_NoneType_list, kb_bool_int, kb_bool_bool, kb_bool_str, kb_bool_tuple, kb_bool_list, kb_int_int, kb_int_bool, kb_int_str, kb_int_tuple, kb_int_list, kb_str_int, kb_str_bool, kb_str_str, kb_str_tuple, kb_str_list, kb_tuple_int, kb_tuple_bool, kb_tuple_str, kb_tuple_tuple, kb_tuple_list, kb_list_int, kb_list_bool, kb_list_str, kb_list_tuple, kb_list_list, sz_0, sz_1, sz_2, sz_3, sz_4, sz_5, sz_6, sz_7, sz_8, sz_9, sz_10, sz_11, sz_12, sz_13, sz_14, sz_15, sz_16, ix_1_0, ix_2_0, ix_2_1, ix_3_0, ix_3_1, ix_3_2, ix_4_0, ix_4_1, ix_4_2, ix_4_3, ix_5_0, ix_5_1, ix_5_2, ix_5_3, ix_5_4, ix_6_0, ix_6_1, ix_6_2, ix_6_3, ix_6_4, ix_6_5, ix_7_0, ix_7_1, ix_7_2, ix_7_3, ix_7_4, ix_7_5, ix_7_6, sI_0, sI_1, sI_48271, sI_69621, atI, a, b, eq_int, h.2.2.2.2]
theorem gathered_ok {p : Int × Int} {S : Sto} (h : 0 ≤ p.1 ∧ p.1 ≤ 7 ∧ 1 ≤ p.2 ∧ p.2 ≤ 12) : d_is_gathered [pD p] S = some (.d (.bl true), S) := by
  refine ok.get (den_ok rfl ?_)
  have a := isn (S := S) (i := p.1) (lo := 0) (hi := 7) ⟨h.1, h.2.1⟩
  have b := isn (S := S) (i := p.2) (lo := 1) (hi := 12) h.2.2
  simp [m_is_gathered, pD, sNext, sIf, sBreak, sCont, sNever, sExpr, sRet, sRetO, sRetN, sSet, sAsg, gNm, gsNil, gsCons, gT, gL, eD, eV, eBox, eNm, eC, eOp, eUn, aNil, aCons, eTup, eLst, eCB, bV, bAnd, bOr, bNot, eAnd, eOr, eNot, eIf, eChain, eCall, eFld, sFldS, sFldA, eMeth, eMake, bYes, fSub, fLt, fLe, fGt, fGe, fDiv, fMod, fPow, fNeg, fAdd, fMul, fIsN, fNotN, Yi.isNon, fEq, fNe, fIn, fInS, fIx, intR, oNo, oPart, fSl, eSl, eRev, sAppO, sExtO, sAug, oIx, oIn, oEq, sPar, sPar3, sSetIx, eDGet, eDIn, eDGet2, sDPutS, eDPop1, eDPop2, eDNewK, eDNewT, oDGet, oDIn, eBM, mApp, mExt, mPopAt, mIdx, cellL, iEv, iR1, iR2, iC, fLen, oLen, fMax, fMin, fAll, fAny, fSum, fSortI, fList, fTuple, fInt, fStr, fIsi, tyD, isLstD, isStrD, isDD, lstD, seqD, stD, eCallF, nAt, iSt, mJoin, mSplit, fAddI, sStar, iEnS, eSortSet, fSet, eLenSet, insAt, lkp, putD, ok_some, ok_none, ok_bind, ok_map, eq_int, eq_bl, sAsg, kb_NoneType_int, kb_NoneType_bool, kb_NoneType_str, kb_NoneType_tuple, kb_NoneType_list, kb_bool_int, kb_bool_bool, kb_bool_str, kb_bool_tuple, kb_bool_list, kb_int_int, kb_int_bool, kb_int_str, kb_int_tuple, kb_int_list, kb_str_int, kb_str_bool, kb_str_str, kb_str_tuple, kb_str_list, kb_tuple_int, kb_tuple_bool, kb_tuple_str, kb_tuple_tuple, kb_tuple_list, kb_list_int, kb_list_bool, kb_list_str, kb_list_tuple, kb_list_list, sz_0, sz_1, sz_2, sz_3, sz_4, sz_5, sz_6, sz_7, sz_8, sz_9, sz_10, sz_11, sz_12, sz_13, sz_14, sz_15, sz_16, ix_1_0, ix_2_0, ix_2_1, ix_3_0, ix_3_1, ix_3_2, ix_4_0, ix_4_1, ix_4_2, ix_4_3, ix_5_0, ix_5_1, ix_5_2, ix_5_3, ix_5_4, ix_6_0, ix_6_1, ix_6_2, ix_6_3, ix_6_4, ix_6_5, ix_7_0, ix_7_1, ix_7_2, ix_7_3, ix_7_4, ix_7_5, ix_7_6, sI_0, sI_1, sI_48271, sI_69621, atI, a, b]
theorem bls_true {α : Type} : ∀ l : List α, blsD (l.map fun _ => D.bl true) = some (l.map fun _ => true)
  | [] => rfl
  | _ :: r => by simp [blsD, bls_true r]
theorem pairs_ok {tb : Bool} {ps : List (Int × Int)} {most : Int} {j : Nat} {f : Den} {S : Sto} (hl : (ps.length : Int) ≤ most) (h9 : most ≤ 100) (hj : fns_are_pairs_is_good j = some f) (hf : ∀ p ∈ ps, f [pD p] S = some (.d (.bl true), S)) :
    d_are_pairs [.tp tb (ps.map pD), .int most, .fn j] S = some (.d (.bl true), S) := by
  refine ok.get (den_ok rfl (seq_ok ?_))
  have z : szOk ps.length = true := by simp [szOk]; omega
  have n1 : ¬ (most < ps.length) := by omega
  simp [sNext, sIf, sBreak, sCont, sNever, sExpr, sRet, sRetO, sRetN, sSet, sAsg, gNm, gsNil, gsCons, gT, gL, eD, eV, eBox, eNm, eC, eOp, eUn, aNil, aCons, eTup, eLst, eCB, bV, bAnd, bOr, bNot, eAnd, eOr, eNot, eIf, eChain, eCall, eFld, sFldS, sFldA, eMeth, eMake, bYes, fSub, fLt, fLe, fGt, fGe, fDiv, fMod, fPow, fNeg, fAdd, fMul, fIsN, fNotN, Yi.isNon, fEq, fNe, fIn, fInS, fIx, intR, oNo, oPart, fSl, eSl, eRev, sAppO, sExtO, sAug, oIx, oIn, oEq, sPar, sPar3, sSetIx, eDGet, eDIn, eDGet2, sDPutS, eDPop1, eDPop2, eDNewK, eDNewT, oDGet, oDIn, eBM, mApp, mExt, mPopAt, mIdx, cellL, iEv, iR1, iR2, iC, fLen, oLen, fMax, fMin, fAll, fAny, fSum, fSortI, fList, fTuple, fInt, fStr, fIsi, tyD, isLstD, isStrD, isDD, lstD, seqD, stD, eCallF, nAt, iSt, mJoin, mSplit, fAddI, sStar, iEnS, eSortSet, fSet, eLenSet, insAt, lkp, putD, ok_some, ok_none, ok_bind, ok_map, eq_int, eq_bl, sAsg, kb_NoneType_int, kb_NoneType_bool, kb_NoneType_str, kb_NoneType_tuple, kb_NoneType_list, kb_bool_int, kb_bool_bool, kb_bool_str, kb_bool_tuple, kb_bool_list, kb_int_int, kb_int_bool, kb_int_str, kb_int_tuple, kb_int_list, kb_str_int, kb_str_bool, kb_str_str, kb_str_tuple, kb_str_list, kb_tuple_int, kb_tuple_bool, kb_tuple_str, kb_tuple_tuple, kb_tuple_list, kb_list_int, kb_list_bool, kb_list_str, kb_list_tuple, kb_list_list, sz_0, sz_1, sz_2, sz_3, sz_4, sz_5, sz_6, sz_7, sz_8, sz_9, sz_10, sz_11, sz_12, sz_13, sz_14, sz_15, sz_16, ix_1_0, ix_2_0, ix_2_1, ix_3_0, ix_3_1, ix_3_2, ix_4_0, ix_4_1, ix_4_2, ix_4_3, ix_5_0, ix_5_1, ix_5_2, ix_5_3, ix_5_4, ix_6_0, ix_6_1, ix_6_2, ix_6_3, ix_6_4, ix_6_5, ix_7_0, ix_7_1, ix_7_2, ix_7_3, ix_7_4, ix_7_5, ix_7_6, sI_0, sI_1, sI_48271, sI_69621, n1]
  refine lc_ok ?_
  simp [sNext, sIf, sBreak, sCont, sNever, sExpr, sRet, sRetO, sRetN, sSet, sAsg, gNm, gsNil, gsCons, gT, gL, eD, eV, eBox, eNm, eC, eOp, eUn, aNil, aCons, eTup, eLst, eCB, bV, bAnd, bOr, bNot, eAnd, eOr, eNot, eIf, eChain, eCall, eFld, sFldS, sFldA, eMeth, eMake, bYes, fSub, fLt, fLe, fGt, fGe, fDiv, fMod, fPow, fNeg, fAdd, fMul, fIsN, fNotN, Yi.isNon, fEq, fNe, fIn, fInS, fIx, intR, oNo, oPart, fSl, eSl, eRev, sAppO, sExtO, sAug, oIx, oIn, oEq, sPar, sPar3, sSetIx, eDGet, eDIn, eDGet2, sDPutS, eDPop1, eDPop2, eDNewK, eDNewT, oDGet, oDIn, eBM, mApp, mExt, mPopAt, mIdx, cellL, iEv, iR1, iR2, iC, fLen, oLen, fMax, fMin, fAll, fAny, fSum, fSortI, fList, fTuple, fInt, fStr, fIsi, tyD, isLstD, isStrD, isDD, lstD, seqD, stD, eCallF, nAt, iSt, mJoin, mSplit, fAddI, sStar, iEnS, eSortSet, fSet, eLenSet, insAt, lkp, putD, ok_some, ok_none, ok_bind, ok_map, eq_int, eq_bl, sAsg, kb_NoneType_int, kb_NoneType_bool, kb_NoneType_str, kb_NoneType_tuple, kb_NoneType_list, kb_bool_int, kb_bool_bool, kb_bool_str, kb_bool_tuple, kb_bool_list, kb_int_int, kb_int_bool, kb_int_str, kb_int_tuple, kb_int_list, kb_str_int, kb_str_bool, kb_str_str, kb_str_tuple, kb_str_list, kb_tuple_int, kb_tuple_bool, kb_tuple_str, kb_tuple_tuple, kb_tuple_list, kb_list_int, kb_list_bool, kb_list_str, kb_list_tuple, kb_list_list, sz_0, sz_1, sz_2, sz_3, sz_4, sz_5, sz_6, sz_7, sz_8, sz_9, sz_10, sz_11, sz_12, sz_13, sz_14, sz_15, sz_16, ix_1_0, ix_2_0, ix_2_1, ix_3_0, ix_3_1, ix_3_2, ix_4_0, ix_4_1, ix_4_2, ix_4_3, ix_5_0, ix_5_1, ix_5_2, ix_5_3, ix_5_4, ix_6_0, ix_6_1, ix_6_2, ix_6_3, ix_6_4, ix_6_5, ix_7_0, ix_7_1, ix_7_2, ix_7_3, ix_7_4, ix_7_5, ix_7_6, sI_0, sI_1, sI_48271, sI_69621, wipeS]
  rw [compL_map (fun _ => .bl true) _ [] (by simp; omega) ?_]
  · simp [sNext, sIf, sBreak, sCont, sNever, sExpr, sRet, sRetO, sRetN, sSet, sAsg, gNm, gsNil, gsCons, gT, gL, eD, eV, eBox, eNm, eC, eOp, eUn, aNil, aCons, eTup, eLst, eCB, bV, bAnd, bOr, bNot, eAnd, eOr, eNot, eIf, eChain, eCall, eFld, sFldS, sFldA, eMeth, eMake, bYes, fSub, fLt, fLe, fGt, fGe, fDiv, fMod, fPow, fNeg, fAdd, fMul, fIsN, fNotN, Yi.isNon, fEq, fNe, fIn, fInS, fIx, intR, oNo, oPart, fSl, eSl, eRev, sAppO, sExtO, sAug, oIx, oIn, oEq, sPar, sPar3, sSetIx, eDGet, eDIn, eDGet2, sDPutS, eDPop1, eDPop2, eDNewK, eDNewT, oDGet, oDIn, eBM, mApp, mExt, mPopAt, mIdx, cellL, iEv, iR1, iR2, iC, fLen, oLen, fMax, fMin, fAll, fAny, fSum, fSortI, fList, fTuple, fInt, fStr, fIsi, tyD, isLstD, isStrD, isDD, lstD, seqD, stD, eCallF, nAt, iSt, mJoin, mSplit, fAddI, sStar, iEnS, eSortSet, fSet, eLenSet, insAt, lkp, putD, ok_some, ok_none, ok_bind, ok_map, eq_int, eq_bl, sAsg, kb_NoneType_int, kb_NoneType_bool, kb_NoneType_str, kb_NoneType_tuple, kb_NoneType_list, kb_bool_int, kb_bool_bool, kb_bool_str, kb_bool_tuple, kb_bool_list, kb_int_int, kb_int_bool, kb_int_str, kb_int_tuple, kb_int_list, kb_str_int, kb_str_bool, kb_str_str, kb_str_tuple, kb_str_list, kb_tuple_int, kb_tuple_bool, kb_tuple_str, kb_tuple_tuple, kb_tuple_list, kb_list_int, kb_list_bool, kb_list_str, kb_list_tuple, kb_list_list, sz_0, sz_1, sz_2, sz_3, sz_4, sz_5, sz_6, sz_7, sz_8, sz_9, sz_10, sz_11, sz_12, sz_13, sz_14, sz_15, sz_16, ix_1_0, ix_2_0, ix_2_1, ix_3_0, ix_3_1, ix_3_2, ix_4_0, ix_4_1, ix_4_2, ix_4_3, ix_5_0, ix_5_1, ix_5_2, ix_5_3, ix_5_4, ix_6_0, ix_6_1, ix_6_2, ix_6_3, ix_6_4, ix_6_5, ix_7_0, ix_7_1, ix_7_2, ix_7_3, ix_7_4, ix_7_5, ix_7_6, sI_0, sI_1, sI_48271, sI_69621, bls_true, Function.comp_def]
  · intro d hd
    obtain ⟨p, hp, rfl⟩ := List.mem_map.mp hd
    refine ⟨_, rfl, rfl, ?_⟩
    have q := hf p hp
    refine ok.get ?_
    unfold pD at q ⊢
    simp [sNext, sIf, sBreak, sCont, sNever, sExpr, sRet, sRetO, sRetN, sSet, sAsg, gNm, gsNil, gsCons, gT, gL, eD, eV, eBox, eNm, eC, eOp, eUn, aNil, aCons, eTup, eLst, eCB, bV, bAnd, bOr, bNot, eAnd, eOr, eNot, eIf, eChain, eCall, eFld, sFldS, sFldA, eMeth, eMake, bYes, fSub, fLt, fLe, fGt, fGe, fDiv, fMod, fPow, fNeg, fAdd, fMul, fIsN, fNotN, Yi.isNon, fEq, fNe, fIn, fInS, fIx, intR, oNo, oPart, fSl, eSl, eRev, sAppO, sExtO, sAug, oIx, oIn, oEq, sPar, sPar3, sSetIx, eDGet, eDIn, eDGet2, sDPutS, eDPop1, eDPop2, eDNewK, eDNewT, oDGet, oDIn, eBM, mApp, mExt, mPopAt, mIdx, cellL, iEv, iR1, iR2, iC, fLen, oLen, fMax, fMin, fAll, fAny, fSum, fSortI, fList, fTuple, fInt, fStr, fIsi, tyD, isLstD, isStrD, isDD, lstD, seqD, stD, eCallF, nAt, iSt, mJoin, mSplit, fAddI, sStar, iEnS, eSortSet, fSet, eLenSet, insAt, lkp, putD, ok_some, ok_none, ok_bind, ok_map, eq_int, eq_bl, sAsg, kb_NoneType_int, kb_NoneType_bool, kb_NoneType_str, kb_NoneType_tuple, kb_NoneType_list, kb_bool_int, kb_bool_bool, kb_bool_str, kb_bool_tuple, kb_bool_list, kb_int_int, kb_int_bool, kb_int_str, kb_int_tuple, kb_int_list, kb_str_int, kb_str_bool, kb_str_str, kb_str_tuple, kb_str_list, kb_tuple_int, kb_tuple_bool, kb_tuple_str, kb_tuple_tuple, kb_tuple_list, kb_list_int, kb_list_bool, kb_list_str, kb_list_tuple, kb_list_list, sz_0, sz_1, sz_2, sz_3, sz_4, sz_5, sz_6, sz_7, sz_8, sz_9, sz_10, sz_11, sz_12, sz_13, sz_14, sz_15, sz_16, ix_1_0, ix_2_0, ix_2_1, ix_3_0, ix_3_1, ix_3_2, ix_4_0, ix_4_1, ix_4_2, ix_4_3, ix_5_0, ix_5_1, ix_5_2, ix_5_3, ix_5_4, ix_6_0, ix_6_1, ix_6_2, ix_6_3, ix_6_4, ix_6_5, ix_7_0, ix_7_1, ix_7_2, ix_7_3, ix_7_4, ix_7_5, ix_7_6, sI_0, sI_1, sI_48271, sI_69621, hj, q, eq_int]
theorem firsts (gs : List (Int × Int)) {ρ : Slt} {S : Sto} (hl : gs.length ≤ 100) (h9 : 9 < ρ.length) : compL (gNm 9) bYes (eOp fIx (eNm 9) (eC (.int 0))) ρ (gs.map pD) [] S = some ((gs.map (·.1)).map .int, S) := by
  rw [compL_map (fun d => match d with | .tup (x :: _) => x | _ => .non) _ [] (by simp; omega) ?_]
  · simp [pD, Function.comp_def]
  · intro d hd
    obtain ⟨p, hp, rfl⟩ := List.mem_map.mp hd
    refine ⟨_, rfl, rfl, ok.get ?_⟩
    simp [sNext, sIf, sBreak, sCont, sNever, sExpr, sRet, sRetO, sRetN, sSet, sAsg, gNm, gsNil, gsCons, gT, gL, eD, eV, eBox, eNm, eC, eOp, eUn, aNil, aCons, eTup, eLst, eCB, bV, bAnd, bOr, bNot, eAnd, eOr, eNot, eIf, eChain, eCall, eFld, sFldS, sFldA, eMeth, eMake, bYes, fSub, fLt, fLe, fGt, fGe, fDiv, fMod, fPow, fNeg, fAdd, fMul, fIsN, fNotN, Yi.isNon, fEq, fNe, fIn, fInS, fIx, intR, oNo, oPart, fSl, eSl, eRev, sAppO, sExtO, sAug, oIx, oIn, oEq, sPar, sPar3, sSetIx, eDGet, eDIn, eDGet2, sDPutS, eDPop1, eDPop2, eDNewK, eDNewT, oDGet, oDIn, eBM, mApp, mExt, mPopAt, mIdx, cellL, iEv, iR1, iR2, iC, fLen, oLen, fMax, fMin, fAll, fAny, fSum, fSortI, fList, fTuple, fInt, fStr, fIsi, tyD, isLstD, isStrD, isDD, lstD, seqD, stD, eCallF, nAt, iSt, mJoin, mSplit, fAddI, sStar, iEnS, eSortSet, fSet, eLenSet, insAt, lkp, putD, ok_some, ok_none, ok_bind, ok_map, eq_int, eq_bl, sAsg, kb_NoneType_int, kb_NoneType_bool, kb_NoneType_str, kb_NoneType_tuple, kb_NoneType_list, kb_bool_int, kb_bool_bool, kb_bool_str, kb_bool_tuple, kb_bool_list, kb_int_int, kb_int_bool, kb_int_str, kb_int_tuple, kb_int_list, kb_str_int, kb_str_bool, kb_str_str, kb_str_tuple, kb_str_list, kb_tuple_int, kb_tuple_bool, kb_tuple_str, kb_tuple_tuple, kb_tuple_list, kb_list_int, kb_list_bool, kb_list_str, kb_list_tuple, kb_list_list, sz_0, sz_1, sz_2, sz_3, sz_4, sz_5, sz_6, sz_7, sz_8, sz_9, sz_10, sz_11, sz_12, sz_13, sz_14, sz_15, sz_16, ix_1_0, ix_2_0, ix_2_1, ix_3_0, ix_3_1, ix_3_2, ix_4_0, ix_4_1, ix_4_2, ix_4_3, ix_5_0, ix_5_1, ix_5_2, ix_5_3, ix_5_4, ix_6_0, ix_6_1, ix_6_2, ix_6_3, ix_6_4, ix_6_5, ix_7_0, ix_7_1, ix_7_2, ix_7_3, ix_7_4, ix_7_5, ix_7_6, sI_0, sI_1, sI_48271, sI_69621, pD, atI, List.getElem?_set_self h9]
theorem bad_part_ok {r : Rl} {m : Nat} {S : Sto} (h : r.Good m) (m0 : 0 < m) (m6 : m ≤ 6) : d_bad_part [rD r, .int m] S = some (.d .non, S) := by
  refine ok.get (den_ok rfl (seq_ok ?_))
  simp [sNext, sIf, sBreak, sCont, sNever, sExpr, sRet, sRetO, sRetN, sSet, sAsg, gNm, gsNil, gsCons, gT, gL, eD, eV, eBox, eNm, eC, eOp, eUn, aNil, aCons, eTup, eLst, eCB, bV, bAnd, bOr, bNot, eAnd, eOr, eNot, eIf, eChain, eCall, eFld, sFldS, sFldA, eMeth, eMake, bYes, fSub, fLt, fLe, fGt, fGe, fDiv, fMod, fPow, fNeg, fAdd, fMul, fIsN, fNotN, Yi.isNon, fEq, fNe, fIn, fInS, fIx, intR, oNo, oPart, fSl, eSl, eRev, sAppO, sExtO, sAug, oIx, oIn, oEq, sPar, sPar3, sSetIx, eDGet, eDIn, eDGet2, sDPutS, eDPop1, eDPop2, eDNewK, eDNewT, oDGet, oDIn, eBM, mApp, mExt, mPopAt, mIdx, cellL, iEv, iR1, iR2, iC, fLen, oLen, fMax, fMin, fAll, fAny, fSum, fSortI, fList, fTuple, fInt, fStr, fIsi, tyD, isLstD, isStrD, isDD, lstD, seqD, stD, eCallF, nAt, iSt, mJoin, mSplit, fAddI, sStar, iEnS, eSortSet, fSet, eLenSet, insAt, lkp, putD, ok_some, ok_none, ok_bind, ok_map, eq_int, eq_bl, sAsg, kb_NoneType_int, kb_NoneType_bool, kb_NoneType_str, kb_NoneType_tuple, kb_NoneType_list, kb_bool_int, kb_bool_bool, kb_bool_str, kb_bool_tuple, kb_bool_list, kb_int_int, kb_int_bool, kb_int_str, kb_int_tuple, kb_int_list, kb_str_int, kb_str_bool, kb_str_str, kb_str_tuple, kb_str_list, kb_tuple_int, kb_tuple_bool, kb_tuple_str, kb_tuple_tuple, kb_tuple_list, kb_list_int, kb_list_bool, kb_list_str, kb_list_tuple, kb_list_list, sz_0, sz_1, sz_2, sz_3, sz_4, sz_5, sz_6, sz_7, sz_8, sz_9, sz_10, sz_11, sz_12, sz_13, sz_14, sz_15, sz_16, ix_1_0, ix_2_0, ix_2_1, ix_3_0, ix_3_1, ix_3_2, ix_4_0, ix_4_1, ix_4_2, ix_4_3, ix_5_0, ix_5_1, ix_5_2, ix_5_3, ix_5_4, ix_6_0, ix_6_1, ix_6_2, ix_6_3, ix_6_4, ix_6_5, ix_7_0, ix_7_1, ix_7_2, ix_7_3, ix_7_4, ix_7_5, ix_7_6, sI_0, sI_1, sI_48271, sI_69621, rD]
  refine seq_ok ?_
  simp [sNext, sIf, sBreak, sCont, sNever, sExpr, sRet, sRetO, sRetN, sSet, sAsg, gNm, gsNil, gsCons, gT, gL, eD, eV, eBox, eNm, eC, eOp, eUn, aNil, aCons, eTup, eLst, eCB, bV, bAnd, bOr, bNot, eAnd, eOr, eNot, eIf, eChain, eCall, eFld, sFldS, sFldA, eMeth, eMake, bYes, fSub, fLt, fLe, fGt, fGe, fDiv, fMod, fPow, fNeg, fAdd, fMul, fIsN, fNotN, Yi.isNon, fEq, fNe, fIn, fInS, fIx, intR, oNo, oPart, fSl, eSl, eRev, sAppO, sExtO, sAug, oIx, oIn, oEq, sPar, sPar3, sSetIx, eDGet, eDIn, eDGet2, sDPutS, eDPop1, eDPop2, eDNewK, eDNewT, oDGet, oDIn, eBM, mApp, mExt, mPopAt, mIdx, cellL, iEv, iR1, iR2, iC, fLen, oLen, fMax, fMin, fAll, fAny, fSum, fSortI, fList, fTuple, fInt, fStr, fIsi, tyD, isLstD, isStrD, isDD, lstD, seqD, stD, eCallF, nAt, iSt, mJoin, mSplit, fAddI, sStar, iEnS, eSortSet, fSet, eLenSet, insAt, lkp, putD, ok_some, ok_none, ok_bind, ok_map, eq_int, eq_bl, sAsg, kb_NoneType_int, kb_NoneType_bool, kb_NoneType_str, kb_NoneType_tuple, kb_NoneType_list, kb_bool_int, kb_bool_bool, kb_bool_str, kb_bool_tuple, kb_bool_list, kb_int_int, kb_int_bool, kb_int_str, kb_int_tuple, kb_int_list, kb_str_int, kb_str_bool, kb_str_str, kb_str_tuple, kb_str_list, kb_tuple_int, kb_tuple_bool, kb_tuple_str, kb_tuple_tuple, kb_tuple_list, kb_list_int, kb_list_bool, kb_list_str, kb_list_tuple, kb_list_list, sz_0, sz_1, sz_2, sz_3, sz_4, sz_5, sz_6, sz_7, sz_8, sz_9, sz_10, sz_11, sz_12, sz_13, sz_14, sz_15, sz_16, ix_1_0, ix_2_0, ix_2_1, ix_3_0, ix_3_1, ix_3_2, ix_4_0, ix_4_1, ix_4_2, ix_4_3, ix_5_0, ix_5_1, ix_5_2, ix_5_3, ix_5_4, ix_6_0, ix_6_1, ix_6_2, ix_6_3, ix_6_4, ix_6_5, ix_7_0, ix_7_1, ix_7_2, ix_7_3, ix_7_4, ix_7_5, ix_7_6, sI_0, sI_1, sI_48271, sI_69621]
  refine seq_ok ?_
  have p1 := pairs_ok (tb := true) (most := 4) (j := 0) (f := d_is_gathered) (S := S) (by have := h.gl; omega) (by decide) rfl fun p hp => gathered_ok (h.gk p hp)
  have p2 := pairs_ok (tb := r.hb) (most := 3) (j := 1) (f := d_is_stretch) (S := S) (by have := h.hl; omega) (by decide) rfl fun p hp => stretch_ok (h.hh p hp)
  simp [sNext, sIf, sBreak, sCont, sNever, sExpr, sRet, sRetO, sRetN, sSet, sAsg, gNm, gsNil, gsCons, gT, gL, eD, eV, eBox, eNm, eC, eOp, eUn, aNil, aCons, eTup, eLst, eCB, bV, bAnd, bOr, bNot, eAnd, eOr, eNot, eIf, eChain, eCall, eFld, sFldS, sFldA, eMeth, eMake, bYes, fSub, fLt, fLe, fGt, fGe, fDiv, fMod, fPow, fNeg, fAdd, fMul, fIsN, fNotN, Yi.isNon, fEq, fNe, fIn, fInS, fIx, intR, oNo, oPart, fSl, eSl, eRev, sAppO, sExtO, sAug, oIx, oIn, oEq, sPar, sPar3, sSetIx, eDGet, eDIn, eDGet2, sDPutS, eDPop1, eDPop2, eDNewK, eDNewT, oDGet, oDIn, eBM, mApp, mExt, mPopAt, mIdx, cellL, iEv, iR1, iR2, iC, fLen, oLen, fMax, fMin, fAll, fAny, fSum, fSortI, fList, fTuple, fInt, fStr, fIsi, tyD, isLstD, isStrD, isDD, lstD, seqD, stD, eCallF, nAt, iSt, mJoin, mSplit, fAddI, sStar, iEnS, eSortSet, fSet, eLenSet, insAt, lkp, putD, ok_some, ok_none, ok_bind, ok_map, eq_int, eq_bl, sAsg, kb_NoneType_int, kb_NoneType_bool, kb_NoneType_str, kb_NoneType_tuple, kb_NoneType_list, kb_bool_int, kb_bool_bool, kb_bool_str, kb_bool_tuple, kb_bool_list, kb_int_int, kb_int_bool, kb_int_str, kb_int_tuple, kb_int_list, kb_str_int, kb_str_bool, kb_str_str, kb_str_tuple, kb_str_list, kb_tuple_int, kb_tuple_bool, kb_tuple_str, kb_tuple_tuple, kb_tuple_list, kb_list_int, kb_list_bool, kb_list_str, kb_list_tuple, kb_list_list, sz_0, sz_1, sz_2, sz_3, sz_4, sz_5, sz_6, sz_7, sz_8, sz_9, sz_10, sz_11, sz_12, sz_13, sz_14, sz_15, sz_16, ix_1_0, ix_2_0, ix_2_1, ix_3_0, ix_3_1, ix_3_2, ix_4_0, ix_4_1, ix_4_2, ix_4_3, ix_5_0, ix_5_1, ix_5_2, ix_5_3, ix_5_4, ix_6_0, ix_6_1, ix_6_2, ix_6_3, ix_6_4, ix_6_5, ix_7_0, ix_7_1, ix_7_2, ix_7_3, ix_7_4, ix_7_5, ix_7_6, sI_0, sI_1, sI_48271, sI_69621, p1, ok_ite]
  refine lc_ok ?_
  simp [sNext, sIf, sBreak, sCont, sNever, sExpr, sRet, sRetO, sRetN, sSet, sAsg, gNm, gsNil, gsCons, gT, gL, eD, eV, eBox, eNm, eC, eOp, eUn, aNil, aCons, eTup, eLst, eCB, bV, bAnd, bOr, bNot, eAnd, eOr, eNot, eIf, eChain, eCall, eFld, sFldS, sFldA, eMeth, eMake, bYes, fSub, fLt, fLe, fGt, fGe, fDiv, fMod, fPow, fNeg, fAdd, fMul, fIsN, fNotN, Yi.isNon, fEq, fNe, fIn, fInS, fIx, intR, oNo, oPart, fSl, eSl, eRev, sAppO, sExtO, sAug, oIx, oIn, oEq, sPar, sPar3, sSetIx, eDGet, eDIn, eDGet2, sDPutS, eDPop1, eDPop2, eDNewK, eDNewT, oDGet, oDIn, eBM, mApp, mExt, mPopAt, mIdx, cellL, iEv, iR1, iR2, iC, fLen, oLen, fMax, fMin, fAll, fAny, fSum, fSortI, fList, fTuple, fInt, fStr, fIsi, tyD, isLstD, isStrD, isDD, lstD, seqD, stD, eCallF, nAt, iSt, mJoin, mSplit, fAddI, sStar, iEnS, eSortSet, fSet, eLenSet, insAt, lkp, putD, ok_some, ok_none, ok_bind, ok_map, eq_int, eq_bl, sAsg, kb_NoneType_int, kb_NoneType_bool, kb_NoneType_str, kb_NoneType_tuple, kb_NoneType_list, kb_bool_int, kb_bool_bool, kb_bool_str, kb_bool_tuple, kb_bool_list, kb_int_int, kb_int_bool, kb_int_str, kb_int_tuple, kb_int_list, kb_str_int, kb_str_bool, kb_str_str, kb_str_tuple, kb_str_list, kb_tuple_int, kb_tuple_bool, kb_tuple_str, kb_tuple_tuple, kb_tuple_list, kb_list_int, kb_list_bool, kb_list_str, kb_list_tuple, kb_list_list, sz_0, sz_1, sz_2, sz_3, sz_4, sz_5, sz_6, sz_7, sz_8, sz_9, sz_10, sz_11, sz_12, sz_13, sz_14, sz_15, sz_16, ix_1_0, ix_2_0, ix_2_1, ix_3_0, ix_3_1, ix_3_2, ix_4_0, ix_4_1, ix_4_2, ix_4_3, ix_5_0, ix_5_1, ix_5_2, ix_5_3, ix_5_4, ix_6_0, ix_6_1, ix_6_2, ix_6_3, ix_6_4, ix_6_5, ix_7_0, ix_7_1, ix_7_2, ix_7_3, ix_7_4, ix_7_5, ix_7_6, sI_0, sI_1, sI_48271, sI_69621, wipeS]
  rw [firsts r.gs (by have := h.gl; omega) (by simp)]
  simp [sNext, sIf, sBreak, sCont, sNever, sExpr, sRet, sRetO, sRetN, sSet, sAsg, gNm, gsNil, gsCons, gT, gL, eD, eV, eBox, eNm, eC, eOp, eUn, aNil, aCons, eTup, eLst, eCB, bV, bAnd, bOr, bNot, eAnd, eOr, eNot, eIf, eChain, eCall, eFld, sFldS, sFldA, eMeth, eMake, bYes, fSub, fLt, fLe, fGt, fGe, fDiv, fMod, fPow, fNeg, fAdd, fMul, fIsN, fNotN, Yi.isNon, fEq, fNe, fIn, fInS, fIx, intR, oNo, oPart, fSl, eSl, eRev, sAppO, sExtO, sAug, oIx, oIn, oEq, sPar, sPar3, sSetIx, eDGet, eDIn, eDGet2, sDPutS, eDPop1, eDPop2, eDNewK, eDNewT, oDGet, oDIn, eBM, mApp, mExt, mPopAt, mIdx, cellL, iEv, iR1, iR2, iC, fLen, oLen, fMax, fMin, fAll, fAny, fSum, fSortI, fList, fTuple, fInt, fStr, fIsi, tyD, isLstD, isStrD, isDD, lstD, seqD, stD, eCallF, nAt, iSt, mJoin, mSplit, fAddI, sStar, iEnS, eSortSet, fSet, eLenSet, insAt, lkp, putD, ok_some, ok_none, ok_bind, ok_map, eq_int, eq_bl, sAsg, kb_NoneType_int, kb_NoneType_bool, kb_NoneType_str, kb_NoneType_tuple, kb_NoneType_list, kb_bool_int, kb_bool_bool, kb_bool_str, kb_bool_tuple, kb_bool_list, kb_int_int, kb_int_bool, kb_int_str, kb_int_tuple, kb_int_list, kb_str_int, kb_str_bool, kb_str_str, kb_str_tuple, kb_str_list, kb_tuple_int, kb_tuple_bool, kb_tuple_str, kb_tuple_tuple, kb_tuple_list, kb_list_int, kb_list_bool, kb_list_str, kb_list_tuple, kb_list_list, sz_0, sz_1, sz_2, sz_3, sz_4, sz_5, sz_6, sz_7, sz_8, sz_9, sz_10, sz_11, sz_12, sz_13, sz_14, sz_15, sz_16, ix_1_0, ix_2_0, ix_2_1, ix_3_0, ix_3_1, ix_3_2, ix_4_0, ix_4_1, ix_4_2, ix_4_3, ix_5_0, ix_5_1, ix_5_2, ix_5_3, ix_5_4, ix_6_0, ix_6_1, ix_6_2, ix_6_3, ix_6_4, ix_6_5, ix_7_0, ix_7_1, ix_7_2, ix_7_3, ix_7_4, ix_7_5, ix_7_6, sI_0, sI_1, sI_48271, sI_69621]
  have p3 := isn (S := S) (i := r.least) (lo := 0) (hi := 4) ⟨h.l0, h.l4⟩
  refine seq_ok ?_
  simp [sNext, sIf, sBreak, sCont, sNever, sExpr, sRet, sRetO, sRetN, sSet, sAsg, gNm, gsNil, gsCons, gT, gL, eD, eV, eBox, eNm, eC, eOp, eUn, aNil, aCons, eTup, eLst, eCB, bV, bAnd, bOr, bNot, eAnd, eOr, eNot, eIf, eChain, eCall, eFld, sFldS, sFldA, eMeth, eMake, bYes, fSub, fLt, fLe, fGt, fGe, fDiv, fMod, fPow, fNeg, fAdd, fMul, fIsN, fNotN, Yi.isNon, fEq, fNe, fIn, fInS, fIx, intR, oNo, oPart, fSl, eSl, eRev, sAppO, sExtO, sAug, oIx, oIn, oEq, sPar, sPar3, sSetIx, eDGet, eDIn, eDGet2, sDPutS, eDPop1, eDPop2, eDNewK, eDNewT, oDGet, oDIn, eBM, mApp, mExt, mPopAt, mIdx, cellL, iEv, iR1, iR2, iC, fLen, oLen, fMax, fMin, fAll, fAny, fSum, fSortI, fList, fTuple, fInt, fStr, fIsi, tyD, isLstD, isStrD, isDD, lstD, seqD, stD, eCallF, nAt, iSt, mJoin, mSplit, fAddI, sStar, iEnS, eSortSet, fSet, eLenSet, insAt, lkp, putD, ok_some, ok_none, ok_bind, ok_map, eq_int, eq_bl, sAsg, kb_NoneType_int, kb_NoneType_bool, kb_NoneType_str, kb_NoneType_tuple, kb_NoneType_list, kb_bool_int, kb_bool_bool, kb_bool_str, kb_bool_tuple, kb_bool_list, kb_int_int, kb_int_bool, kb_int_str, kb_int_tuple, kb_int_list, kb_str_int, kb_str_bool, kb_str_str, kb_str_tuple, kb_str_list, kb_tuple_int, kb_tuple_bool, kb_tuple_str, kb_tuple_tuple, kb_tuple_list, kb_list_int, kb_list_bool, kb_list_str, kb_list_tuple, kb_list_list, sz_0, sz_1, sz_2, sz_3, sz_4, sz_5, sz_6, sz_7, sz_8, sz_9, sz_10, sz_11, sz_12, sz_13, sz_14, sz_15, sz_16, ix_1_0, ix_2_0, ix_2_1, ix_3_0, ix_3_1, ix_3_2, ix_4_0, ix_4_1, ix_4_2, ix_4_3, ix_5_0, ix_5_1, ix_5_2, ix_5_3, ix_5_4, ix_6_0, ix_6_1, ix_6_2, ix_6_3, ix_6_4, ix_6_5, ix_7_0, ix_7_1, ix_7_2, ix_7_3, ix_7_4, ix_7_5, ix_7_6, sI_0, sI_1, sI_48271, sI_69621, p2, p3]
  have gl := h.gl
  have sk : setI (r.gs.map (·.1)) = r.gs.map (·.1) := setI_self h.gr
  have ek : eqD (.fl ((r.gs.map (·.1)).map .int)) (.fl ((r.gs.map (·.1)).map .int)) S = some true := eqD_same (p := .list ((r.gs.map (·.1)).map .int)) (by simp only [shp]; exact ⟨_, rfl, shps_map fun a _ => by simp only [shp]⟩) (by simp only [shp]; exact ⟨_, rfl, shps_map fun a _ => by simp only [shp]⟩)
  have ik : intsD ((r.gs.map (·.1)).map .int) = some (r.gs.map (·.1)) := intsD_map _
  have l63 : r.gs.length ≤ 63 := by omega
  simp only [List.map_map] at ek ik
  refine seq_ok ?_
  have tail : ∃ ρ', sSeq (sAppO 3 (eOr (eOp fIsN (eNm 8) (eC .non)) (eCall d_is_number (aCons (eNm 8) (aCons (eC (.int 0)) (aCons (eOp fSub (eNm 1) (eC (.int 1))) aNil))) [])))
    (sFrz 3 (sRet (eIf (bV (eOp (fIn false) (eC (.bl false)) (eNm 3))) (eBM isLstD mIdx (eNm 3) (aCons (eC (.bl false)) aNil)) (eC .non))))
      [some (.d (rD r)), some (.d (.int m)), some (.d (.fl ((r.gs.map (·.1)).map .int))), some (.own (.lst [.bl true, .bl true, .bl true, .bl true])), some (.d (.tp r.hb (r.hs.map pD))), some (.d (.int r.least)), some (.d (.pt (r.gs.map pD))), some (.d (oD r.wait)), some (.d (oD r.fur)), none] S = some (.rt (.d .non), ρ', S) := by
    have q : ok (sSeq (sAppO 3 (eOr (eOp fIsN (eNm 8) (eC .non)) (eCall d_is_number (aCons (eNm 8) (aCons (eC (.int 0)) (aCons (eOp fSub (eNm 1) (eC (.int 1))) aNil))) [])))
      (sFrz 3 (sRet (eIf (bV (eOp (fIn false) (eC (.bl false)) (eNm 3))) (eBM isLstD mIdx (eNm 3) (aCons (eC (.bl false)) aNil)) (eC .non))))
      [some (.d (rD r)), some (.d (.int m)), some (.d (.fl ((r.gs.map (·.1)).map .int))), some (.own (.lst [.bl true, .bl true, .bl true, .bl true])), some (.d (.tp r.hb (r.hs.map pD))), some (.d (.int r.least)), some (.d (.pt (r.gs.map pD))), some (.d (oD r.wait)), some (.d (oD r.fur)), none] S) fun p => p.1 = .rt (.d .non) ∧ p.2.2 = S := by
      refine seq_ok ?_
      cases hf : r.fur with
      | none => simp [sFrz, sBox, sNext, sIf, sBreak, sCont, sNever, sExpr, sRet, sRetO, sRetN, sSet, sAsg, gNm, gsNil, gsCons, gT, gL, eD, eV, eBox, eNm, eC, eOp, eUn, aNil, aCons, eTup, eLst, eCB, bV, bAnd, bOr, bNot, eAnd, eOr, eNot, eIf, eChain, eCall, eFld, sFldS, sFldA, eMeth, eMake, bYes, fSub, fLt, fLe, fGt, fGe, fDiv, fMod, fPow, fNeg, fAdd, fMul, fIsN, fNotN, Yi.isNon, fEq, fNe, fIn, fInS, fIx, intR, oNo, oPart, fSl, eSl, eRev, sAppO, sExtO, sAug, oIx, oIn, oEq, sPar, sPar3, sSetIx, eDGet, eDIn, eDGet2, sDPutS, eDPop1, eDPop2, eDNewK, eDNewT, oDGet, oDIn, eBM, mApp, mExt, mPopAt, mIdx, cellL, iEv, iR1, iR2, iC, fLen, oLen, fMax, fMin, fAll, fAny, fSum, fSortI, fList, fTuple, fInt, fStr, fIsi, tyD, isLstD, isStrD, isDD, lstD, seqD, stD, eCallF, nAt, iSt, mJoin, mSplit, fAddI, sStar, iEnS, eSortSet, fSet, eLenSet, insAt, lkp, putD, ok_some, ok_none, ok_bind, ok_map, eq_int, eq_bl, sAsg, kb_NoneType_int, kb_NoneType_bool, kb_NoneType_str, kb_NoneType_tuple, kb_NoneType_list, kb_bool_int, kb_bool_bool, kb_bool_str, kb_bool_tuple, kb_bool_list, kb_int_int, kb_int_bool, kb_int_str, kb_int_tuple, kb_int_list, kb_str_int, kb_str_bool, kb_str_str, kb_str_tuple, kb_str_list, kb_tuple_int, kb_tuple_bool, kb_tuple_str, kb_tuple_tuple, kb_tuple_list, kb_list_int, kb_list_bool, kb_list_str, kb_list_tuple, kb_list_list, sz_0, sz_1, sz_2, sz_3, sz_4, sz_5, sz_6, sz_7, sz_8, sz_9, sz_10, sz_11, sz_12, sz_13, sz_14, sz_15, sz_16, ix_1_0, ix_2_0, ix_2_1, ix_3_0, ix_3_1, ix_3_2, ix_4_0, ix_4_1, ix_4_2, ix_4_3, ix_5_0, ix_5_1, ix_5_2, ix_5_3, ix_5_4, ix_6_0, ix_6_1, ix_6_2, ix_6_3, ix_6_4, ix_6_5, ix_7_0, ix_7_1, ix_7_2, ix_7_3, ix_7_4, ix_7_5, ix_7_6, sI_0, sI_1, sI_48271, sI_69621, oD, inF, eqF, flatD]
      | some f =>
        have p4 := isn (S := S) (i := f) (lo := 0) (hi := (m : Int) - 1) ⟨(h.f f hf).1, by have := (h.f f hf).2; omega⟩
        simp [sFrz, sBox, sNext, sIf, sBreak, sCont, sNever, sExpr, sRet, sRetO, sRetN, sSet, sAsg, gNm, gsNil, gsCons, gT, gL, eD, eV, eBox, eNm, eC, eOp, eUn, aNil, aCons, eTup, eLst, eCB, bV, bAnd, bOr, bNot, eAnd, eOr, eNot, eIf, eChain, eCall, eFld, sFldS, sFldA, eMeth, eMake, bYes, fSub, fLt, fLe, fGt, fGe, fDiv, fMod, fPow, fNeg, fAdd, fMul, fIsN, fNotN, Yi.isNon, fEq, fNe, fIn, fInS, fIx, intR, oNo, oPart, fSl, eSl, eRev, sAppO, sExtO, sAug, oIx, oIn, oEq, sPar, sPar3, sSetIx, eDGet, eDIn, eDGet2, sDPutS, eDPop1, eDPop2, eDNewK, eDNewT, oDGet, oDIn, eBM, mApp, mExt, mPopAt, mIdx, cellL, iEv, iR1, iR2, iC, fLen, oLen, fMax, fMin, fAll, fAny, fSum, fSortI, fList, fTuple, fInt, fStr, fIsi, tyD, isLstD, isStrD, isDD, lstD, seqD, stD, eCallF, nAt, iSt, mJoin, mSplit, fAddI, sStar, iEnS, eSortSet, fSet, eLenSet, insAt, lkp, putD, ok_some, ok_none, ok_bind, ok_map, eq_int, eq_bl, sAsg, kb_NoneType_int, kb_NoneType_bool, kb_NoneType_str, kb_NoneType_tuple, kb_NoneType_list, kb_bool_int, kb_bool_bool, kb_bool_str, kb_bool_tuple, kb_bool_list, kb_int_int, kb_int_bool, kb_int_str, kb_int_tuple, kb_int_list, kb_str_int, kb_str_bool, kb_str_str, kb_str_tuple, kb_str_list, kb_tuple_int, kb_tuple_bool, kb_tuple_str, kb_tuple_tuple, kb_tuple_list, kb_list_int, kb_list_bool, kb_list_str, kb_list_tuple, kb_list_list, sz_0, sz_1, sz_2, sz_3, sz_4, sz_5, sz_6, sz_7, sz_8, sz_9, sz_10, sz_11, sz_12, sz_13, sz_14, sz_15, sz_16, ix_1_0, ix_2_0, ix_2_1, ix_3_0, ix_3_1, ix_3_2, ix_4_0, ix_4_1, ix_4_2, ix_4_3, ix_5_0, ix_5_1, ix_5_2, ix_5_3, ix_5_4, ix_6_0, ix_6_1, ix_6_2, ix_6_3, ix_6_4, ix_6_5, ix_7_0, ix_7_1, ix_7_2, ix_7_3, ix_7_4, ix_7_5, ix_7_6, sI_0, sI_1, sI_48271, sI_69621, oD, p4, inF, eqF, flatD]
    obtain ⟨⟨f, ρ', S'⟩, e, e1, e2⟩ := q
    dsimp only at e1 e2
    subst e1 e2
    exact ⟨ρ', e⟩
  obtain ⟨ρt, te⟩ := tail
  cases hw : r.wait with
  | none =>
    simp [sNext, sIf, sBreak, sCont, sNever, sExpr, sRet, sRetO, sRetN, sSet, sAsg, gNm, gsNil, gsCons, gT, gL, eD, eV, eBox, eNm, eC, eOp, eUn, aNil, aCons, eTup, eLst, eCB, bV, bAnd, bOr, bNot, eAnd, eOr, eNot, eIf, eChain, eCall, eFld, sFldS, sFldA, eMeth, eMake, bYes, fSub, fLt, fLe, fGt, fGe, fDiv, fMod, fPow, fNeg, fAdd, fMul, fIsN, fNotN, Yi.isNon, fEq, fNe, fIn, fInS, fIx, intR, oNo, oPart, fSl, eSl, eRev, sAppO, sExtO, sAug, oIx, oIn, oEq, sPar, sPar3, sSetIx, eDGet, eDIn, eDGet2, sDPutS, eDPop1, eDPop2, eDNewK, eDNewT, oDGet, oDIn, eBM, mApp, mExt, mPopAt, mIdx, cellL, iEv, iR1, iR2, iC, fLen, oLen, fMax, fMin, fAll, fAny, fSum, fSortI, fList, fTuple, fInt, fStr, fIsi, tyD, isLstD, isStrD, isDD, lstD, seqD, stD, eCallF, nAt, iSt, mJoin, mSplit, fAddI, sStar, iEnS, eSortSet, fSet, eLenSet, insAt, lkp, putD, ok_some, ok_none, ok_bind, ok_map, eq_int, eq_bl, sAsg, kb_NoneType_int, kb_NoneType_bool, kb_NoneType_str, kb_NoneType_tuple, kb_NoneType_list, kb_bool_int, kb_bool_bool, kb_bool_str, kb_bool_tuple, kb_bool_list, kb_int_int, kb_int_bool, kb_int_str, kb_int_tuple, kb_int_list, kb_str_int, kb_str_bool, kb_str_str, kb_str_tuple, kb_str_list, kb_tuple_int, kb_tuple_bool, kb_tuple_str, kb_tuple_tuple, kb_tuple_list, kb_list_int, kb_list_bool, kb_list_str, kb_list_tuple, kb_list_list, sz_0, sz_1, sz_2, sz_3, sz_4, sz_5, sz_6, sz_7, sz_8, sz_9, sz_10, sz_11, sz_12, sz_13, sz_14, sz_15, sz_16, ix_1_0, ix_2_0, ix_2_1, ix_3_0, ix_3_1, ix_3_2, ix_4_0, ix_4_1, ix_4_2, ix_4_3, ix_5_0, ix_5_1, ix_5_2, ix_5_3, ix_5_4, ix_6_0, ix_6_1, ix_6_2, ix_6_3, ix_6_4, ix_6_5, ix_7_0, ix_7_1, ix_7_2, ix_7_3, ix_7_4, ix_7_5, ix_7_6, sI_0, sI_1, sI_48271, sI_69621, oD, ik, sk, ek, l63, List.map_map]
    exact ⟨(.rt (.d .non), ρt, S), by simpa [rD, hw, oD, fSub, List.map_map] using te, by simp⟩
  | some w =>
    have p4 := isn (S := S) (i := w) (lo := 1) (hi := 24) (h.w w hw)
    simp [sNext, sIf, sBreak, sCont, sNever, sExpr, sRet, sRetO, sRetN, sSet, sAsg, gNm, gsNil, gsCons, gT, gL, eD, eV, eBox, eNm, eC, eOp, eUn, aNil, aCons, eTup, eLst, eCB, bV, bAnd, bOr, bNot, eAnd, eOr, eNot, eIf, eChain, eCall, eFld, sFldS, sFldA, eMeth, eMake, bYes, fSub, fLt, fLe, fGt, fGe, fDiv, fMod, fPow, fNeg, fAdd, fMul, fIsN, fNotN, Yi.isNon, fEq, fNe, fIn, fInS, fIx, intR, oNo, oPart, fSl, eSl, eRev, sAppO, sExtO, sAug, oIx, oIn, oEq, sPar, sPar3, sSetIx, eDGet, eDIn, eDGet2, sDPutS, eDPop1, eDPop2, eDNewK, eDNewT, oDGet, oDIn, eBM, mApp, mExt, mPopAt, mIdx, cellL, iEv, iR1, iR2, iC, fLen, oLen, fMax, fMin, fAll, fAny, fSum, fSortI, fList, fTuple, fInt, fStr, fIsi, tyD, isLstD, isStrD, isDD, lstD, seqD, stD, eCallF, nAt, iSt, mJoin, mSplit, fAddI, sStar, iEnS, eSortSet, fSet, eLenSet, insAt, lkp, putD, ok_some, ok_none, ok_bind, ok_map, eq_int, eq_bl, sAsg, kb_NoneType_int, kb_NoneType_bool, kb_NoneType_str, kb_NoneType_tuple, kb_NoneType_list, kb_bool_int, kb_bool_bool, kb_bool_str, kb_bool_tuple, kb_bool_list, kb_int_int, kb_int_bool, kb_int_str, kb_int_tuple, kb_int_list, kb_str_int, kb_str_bool, kb_str_str, kb_str_tuple, kb_str_list, kb_tuple_int, kb_tuple_bool, kb_tuple_str, kb_tuple_tuple, kb_tuple_list, kb_list_int, kb_list_bool, kb_list_str, kb_list_tuple, kb_list_list, sz_0, sz_1, sz_2, sz_3, sz_4, sz_5, sz_6, sz_7, sz_8, sz_9, sz_10, sz_11, sz_12, sz_13, sz_14, sz_15, sz_16, ix_1_0, ix_2_0, ix_2_1, ix_3_0, ix_3_1, ix_3_2, ix_4_0, ix_4_1, ix_4_2, ix_4_3, ix_5_0, ix_5_1, ix_5_2, ix_5_3, ix_5_4, ix_6_0, ix_6_1, ix_6_2, ix_6_3, ix_6_4, ix_6_5, ix_7_0, ix_7_1, ix_7_2, ix_7_3, ix_7_4, ix_7_5, ix_7_6, sI_0, sI_1, sI_48271, sI_69621, oD, ik, sk, ek, p4, l63, List.map_map]
    exact ⟨(.rt (.d .non), ρt, S), by simpa [rD, hw, oD, fSub, List.map_map] using te, by simp⟩
theorem enum_get {ds : List D} {j i : Nat} {d : D} (h : (enumL j ds)[i]? = some d) : ∃ x, ds[i]? = some x ∧ d = .tup [.int ((j + i : Nat) : Int), x] := by
  rw [enumL_get] at h
  obtain ⟨x, h1, rfl⟩ := Option.map_eq_some_iff.mp h
  exact ⟨x, h1, rfl⟩
theorem shp_oD (o : Option Int) (n : Nat) (S : Sto) : ∃ p, shp n (oD o) p S := by
  cases o with
  | none => exact ⟨.none, by simp only [oD, shp]⟩
  | some i => exact ⟨.int i, by simp only [oD, shp]⟩
theorem need_rules_ok {rs : List Rl} {S : Sto} {tb : Bool} (h : GoodRs rs) : d_need_rules [.tp tb (rs.map rD)] S = some (.d .non, S) := by
  refine ok.get (den_ok rfl (seq_ok ?_))
  have l1 := h.l1
  have l6 := h.l6
  have ne : eqD (.tp tb (rs.map rD)) (.tup []) S = some false := by
    have pp : ∀ ps : List (Int × Int), shps 9 (ps.map pD) (ps.map fun p => PyData.tuple [.int p.1, .int p.2]) S := fun ps => shps_map fun p _ => by
      simp only [pD, shp, shps]
      exact ⟨_, rfl, _, _, rfl, rfl, _, _, rfl, rfl, rfl⟩
    obtain ⟨ps, hp⟩ : ∃ ps, shps 11 (rs.map rD) ps S := by
      refine ⟨_, shps_map (g := fun r : Rl => PyData.tuple [.tuple (r.hs.map fun p => PyData.tuple [.int p.1, .int p.2]), .int r.least, .tuple (r.gs.map fun p => PyData.tuple [.int p.1, .int p.2]), (shp_oD r.wait 10 S).choose, (shp_oD r.fur 10 S).choose]) fun r _ => ?_⟩
      simp only [rD, shp, shps]
      exact ⟨_, rfl, _, _, rfl, ⟨_, rfl, pp r.hs⟩, _, _, rfl, rfl, _, _, rfl, ⟨_, rfl, pp r.gs⟩, _, _, rfl, (shp_oD r.wait 10 S).choose_spec, _, _, rfl, (shp_oD r.fur 10 S).choose_spec, rfl⟩
    rw [shp_eq (p := .tuple ps) (q := .tuple []) (by simp only [shp]; exact ⟨_, rfl, hp⟩) (by simp only [shp]; exact ⟨_, rfl, by simp only [shps]⟩)]
    cases rs with
    | nil => simp at l1
    | cons r t =>
      simp only [List.map_cons, shps] at hp
      obtain ⟨p, q, rfl, _, _⟩ := hp
      simp [PyData.eqv, PyData.eqvAll]
  simp [sNext, sIf, sBreak, sCont, sNever, sExpr, sRet, sRetO, sRetN, sSet, sAsg, gNm, gsNil, gsCons, gT, gL, eD, eV, eBox, eNm, eC, eOp, eUn, aNil, aCons, eTup, eLst, eCB, bV, bAnd, bOr, bNot, eAnd, eOr, eNot, eIf, eChain, eCall, eFld, sFldS, sFldA, eMeth, eMake, bYes, fSub, fLt, fLe, fGt, fGe, fDiv, fMod, fPow, fNeg, fAdd, fMul, fIsN, fNotN, Yi.isNon, fEq, fNe, fIn, fInS, fIx, intR, oNo, oPart, fSl, eSl, eRev, sAppO, sExtO, sAug, oIx, oIn, oEq, sPar, sPar3, sSetIx, eDGet, eDIn, eDGet2, sDPutS, eDPop1, eDPop2, eDNewK, eDNewT, oDGet, oDIn, eBM, mApp, mExt, mPopAt, mIdx, cellL, iEv, iR1, iR2, iC, fLen, oLen, fMax, fMin, fAll, fAny, fSum, fSortI, fList, fTuple, fInt, fStr, fIsi, tyD, isLstD, isStrD, isDD, lstD, seqD, stD, eCallF, nAt, iSt, mJoin, mSplit, fAddI, sStar, iEnS, eSortSet, fSet, eLenSet, insAt, lkp, putD, ok_some, ok_none, ok_bind, ok_map, eq_int, eq_bl, sAsg, kb_NoneType_int, kb_NoneType_bool, kb_NoneType_str, kb_NoneType_tuple, kb_NoneType_list, kb_bool_int, kb_bool_bool, kb_bool_str, kb_bool_tuple, kb_bool_list, kb_int_int, kb_int_bool, kb_int_str, kb_int_tuple, kb_int_list, kb_str_int, kb_str_bool, kb_str_str, kb_str_tuple, kb_str_list, kb_tuple_int, kb_tuple_bool, kb_tuple_str, kb_tuple_tuple, kb_tuple_list, kb_list_int, kb_list_bool, kb_list_str, kb_list_tuple, kb_list_list, sz_0, sz_1, sz_2, sz_3, sz_4, sz_5, sz_6, sz_7, sz_8, sz_9, sz_10, sz_11, sz_12, sz_13, sz_14, sz_15, sz_16, ix_1_0, ix_2_0, ix_2_1, ix_3_0, ix_3_1, ix_3_2, ix_4_0, ix_4_1, ix_4_2, ix_4_3, ix_5_0, ix_5_1, ix_5_2, ix_5_3, ix_5_4, ix_6_0, ix_6_1, ix_6_2, ix_6_3, ix_6_4, ix_6_5, ix_7_0, ix_7_1, ix_7_2, ix_7_3, ix_7_4, ix_7_5, ix_7_6, sI_0, sI_1, sI_48271, sI_69621, ne]
  refine for_ok ?_
  simp [sNext, sIf, sBreak, sCont, sNever, sExpr, sRet, sRetO, sRetN, sSet, sAsg, gNm, gsNil, gsCons, gT, gL, eD, eV, eBox, eNm, eC, eOp, eUn, aNil, aCons, eTup, eLst, eCB, bV, bAnd, bOr, bNot, eAnd, eOr, eNot, eIf, eChain, eCall, eFld, sFldS, sFldA, eMeth, eMake, bYes, fSub, fLt, fLe, fGt, fGe, fDiv, fMod, fPow, fNeg, fAdd, fMul, fIsN, fNotN, Yi.isNon, fEq, fNe, fIn, fInS, fIx, intR, oNo, oPart, fSl, eSl, eRev, sAppO, sExtO, sAug, oIx, oIn, oEq, sPar, sPar3, sSetIx, eDGet, eDIn, eDGet2, sDPutS, eDPop1, eDPop2, eDNewK, eDNewT, oDGet, oDIn, eBM, mApp, mExt, mPopAt, mIdx, cellL, iEv, iR1, iR2, iC, fLen, oLen, fMax, fMin, fAll, fAny, fSum, fSortI, fList, fTuple, fInt, fStr, fIsi, tyD, isLstD, isStrD, isDD, lstD, seqD, stD, eCallF, nAt, iSt, mJoin, mSplit, fAddI, sStar, iEnS, eSortSet, fSet, eLenSet, insAt, lkp, putD, ok_some, ok_none, ok_bind, ok_map, eq_int, eq_bl, sAsg, kb_NoneType_int, kb_NoneType_bool, kb_NoneType_str, kb_NoneType_tuple, kb_NoneType_list, kb_bool_int, kb_bool_bool, kb_bool_str, kb_bool_tuple, kb_bool_list, kb_int_int, kb_int_bool, kb_int_str, kb_int_tuple, kb_int_list, kb_str_int, kb_str_bool, kb_str_str, kb_str_tuple, kb_str_list, kb_tuple_int, kb_tuple_bool, kb_tuple_str, kb_tuple_tuple, kb_tuple_list, kb_list_int, kb_list_bool, kb_list_str, kb_list_tuple, kb_list_list, sz_0, sz_1, sz_2, sz_3, sz_4, sz_5, sz_6, sz_7, sz_8, sz_9, sz_10, sz_11, sz_12, sz_13, sz_14, sz_15, sz_16, ix_1_0, ix_2_0, ix_2_1, ix_3_0, ix_3_1, ix_3_2, ix_4_0, ix_4_1, ix_4_2, ix_4_3, ix_5_0, ix_5_1, ix_5_2, ix_5_3, ix_5_4, ix_6_0, ix_6_1, ix_6_2, ix_6_3, ix_6_4, ix_6_5, ix_7_0, ix_7_1, ix_7_2, ix_7_3, ix_7_4, ix_7_5, ix_7_6, sI_0, sI_1, sI_48271, sI_69621]
  refine (forL_ok (fun i ρ S2 => S2 = S ∧ ∃ a b c, ρ = [some (.d (.tp tb (rs.map rD))), a, b, c]) (enumL 0 (rs.map rD)) 0 ⟨rfl, none, none, none, rfl⟩ ?_).mono ?_
  · rintro i d hd ρ S2 ⟨rfl, a, b, c, rfl⟩
    obtain ⟨x, hx, rfl⟩ := enum_get hd
    rw [List.getElem?_map] at hx
    obtain ⟨r, hr, rfl⟩ := Option.map_eq_some_iff.mp hx
    have hi := (List.getElem?_eq_some_iff.mp hr).1
    have z : szOk rs.length = true := by simp [szOk]; omega
    have bp := bad_part_ok (S := S2) (h.g r (List.mem_of_getElem? hr)) (by omega) l6
    have n6 : ¬ (6 : Int) ≤ i := by omega
    simp [sNext, sIf, sBreak, sCont, sNever, sExpr, sRet, sRetO, sRetN, sSet, sAsg, gNm, gsNil, gsCons, gT, gL, eD, eV, eBox, eNm, eC, eOp, eUn, aNil, aCons, eTup, eLst, eCB, bV, bAnd, bOr, bNot, eAnd, eOr, eNot, eIf, eChain, eCall, eFld, sFldS, sFldA, eMeth, eMake, bYes, fSub, fLt, fLe, fGt, fGe, fDiv, fMod, fPow, fNeg, fAdd, fMul, fIsN, fNotN, Yi.isNon, fEq, fNe, fIn, fInS, fIx, intR, oNo, oPart, fSl, eSl, eRev, sAppO, sExtO, sAug, oIx, oIn, oEq, sPar, sPar3, sSetIx, eDGet, eDIn, eDGet2, sDPutS, eDPop1, eDPop2, eDNewK, eDNewT, oDGet, oDIn, eBM, mApp, mExt, mPopAt, mIdx, cellL, iEv, iR1, iR2, iC, fLen, oLen, fMax, fMin, fAll, fAny, fSum, fSortI, fList, fTuple, fInt, fStr, fIsi, tyD, isLstD, isStrD, isDD, lstD, seqD, stD, eCallF, nAt, iSt, mJoin, mSplit, fAddI, sStar, iEnS, eSortSet, fSet, eLenSet, insAt, lkp, putD, ok_some, ok_none, ok_bind, ok_map, eq_int, eq_bl, sAsg, kb_NoneType_int, kb_NoneType_bool, kb_NoneType_str, kb_NoneType_tuple, kb_NoneType_list, kb_bool_int, kb_bool_bool, kb_bool_str, kb_bool_tuple, kb_bool_list, kb_int_int, kb_int_bool, kb_int_str, kb_int_tuple, kb_int_list, kb_str_int, kb_str_bool, kb_str_str, kb_str_tuple, kb_str_list, kb_tuple_int, kb_tuple_bool, kb_tuple_str, kb_tuple_tuple, kb_tuple_list, kb_list_int, kb_list_bool, kb_list_str, kb_list_tuple, kb_list_list, sz_0, sz_1, sz_2, sz_3, sz_4, sz_5, sz_6, sz_7, sz_8, sz_9, sz_10, sz_11, sz_12, sz_13, sz_14, sz_15, sz_16, ix_1_0, ix_2_0, ix_2_1, ix_3_0, ix_3_1, ix_3_2, ix_4_0, ix_4_1, ix_4_2, ix_4_3, ix_5_0, ix_5_1, ix_5_2, ix_5_3, ix_5_4, ix_6_0, ix_6_1, ix_6_2, ix_6_3, ix_6_4, ix_6_5, ix_7_0, ix_7_1, ix_7_2, ix_7_3, ix_7_4, ix_7_5, ix_7_6, sI_0, sI_1, sI_48271, sI_69621, m_need_rules_1, z]
    refine seq_ok ?_
    simp [sNext, sIf, sBreak, sCont, sNever, sExpr, sRet, sRetO, sRetN, sSet, sAsg, gNm, gsNil, gsCons, gT, gL, eD, eV, eBox, eNm, eC, eOp, eUn, aNil, aCons, eTup, eLst, eCB, bV, bAnd, bOr, bNot, eAnd, eOr, eNot, eIf, eChain, eCall, eFld, sFldS, sFldA, eMeth, eMake, bYes, fSub, fLt, fLe, fGt, fGe, fDiv, fMod, fPow, fNeg, fAdd, fMul, fIsN, fNotN, Yi.isNon, fEq, fNe, fIn, fInS, fIx, intR, oNo, oPart, fSl, eSl, eRev, sAppO, sExtO, sAug, oIx, oIn, oEq, sPar, sPar3, sSetIx, eDGet, eDIn, eDGet2, sDPutS, eDPop1, eDPop2, eDNewK, eDNewT, oDGet, oDIn, eBM, mApp, mExt, mPopAt, mIdx, cellL, iEv, iR1, iR2, iC, fLen, oLen, fMax, fMin, fAll, fAny, fSum, fSortI, fList, fTuple, fInt, fStr, fIsi, tyD, isLstD, isStrD, isDD, lstD, seqD, stD, eCallF, nAt, iSt, mJoin, mSplit, fAddI, sStar, iEnS, eSortSet, fSet, eLenSet, insAt, lkp, putD, ok_some, ok_none, ok_bind, ok_map, eq_int, eq_bl, sAsg, kb_NoneType_int, kb_NoneType_bool, kb_NoneType_str, kb_NoneType_tuple, kb_NoneType_list, kb_bool_int, kb_bool_bool, kb_bool_str, kb_bool_tuple, kb_bool_list, kb_int_int, kb_int_bool, kb_int_str, kb_int_tuple, kb_int_list, kb_str_int, kb_str_bool, kb_str_str, kb_str_tuple, kb_str_list, kb_tuple_int, kb_tuple_bool, kb_tuple_str, kb_tuple_tuple, kb_tuple_list, kb_list_int, kb_list_bool, kb_list_str, kb_list_tuple, kb_list_list, sz_0, sz_1, sz_2, sz_3, sz_4, sz_5, sz_6, sz_7, sz_8, sz_9, sz_10, sz_11, sz_12, sz_13, sz_14, sz_15, sz_16, ix_1_0, ix_2_0, ix_2_1, ix_3_0, ix_3_1, ix_3_2, ix_4_0, ix_4_1, ix_4_2, ix_4_3, ix_5_0, ix_5_1, ix_5_2, ix_5_3, ix_5_4, ix_6_0, ix_6_1, ix_6_2, ix_6_3, ix_6_4, ix_6_5, ix_7_0, ix_7_1, ix_7_2, ix_7_3, ix_7_4, ix_7_5, ix_7_6, sI_0, sI_1, sI_48271, sI_69621, z, bp, n6, ok_ite]
  · rintro ⟨f, ρ, S2⟩ ⟨rfl, rfl, a, b, c, rfl⟩
    simp
end Wk
/-! alike; steps put together; what raises. -/
namespace Wk
open PySem L2 Yi
def inD (n : Nat) : D := .int n
theorem nodup_len {α : Type} [DecidableEq α] : ∀ {l m : List α}, l.Nodup → (∀ x ∈ l, x ∈ m) → l.length ≤ m.length
  | [], m, _, _ => Nat.zero_le _
  | x :: r, m, h, k => by
    obtain ⟨h1, h2⟩ := List.nodup_cons.mp h
    have hx := k x (by simp)
    have := nodup_len (l := r) (m := m.erase x) h2 fun y hy => (List.mem_erase_of_ne (fun z => h1 (by rw [← z]; exact hy))).mpr (k y (by simp [hy]))
    rw [List.length_erase_of_mem hx] at this
    have : 0 < m.length := List.length_pos_of_mem hx
    simp only [List.length_cons]
    omega
theorem get_lt {S : Sto} {n : Nat} {c : Cell} (h : S[n]? = some c) : n < S.length := (List.getElem?_eq_some_iff.mp h).1
theorem get_pu {S : Sto} {n : Nat} {c x : Cell} (h : S[n]? = some c) : (S ++ [x])[n]? = some c := by
  rw [List.getElem?_append_left (get_lt h)]
  exact h
def vD : VV → Option D
  | .d x => some x
  | .own (.lst ds) => some (.fl ds)
  | _ => none
section
variable {m a b : EM} {ρ : Slt} {S : Sto}
theorem eD_vD {r : VV × Sto} {d : D} (h : m ρ S = some r) (hd : vD r.1 = some d) : eD m ρ S = some (d, r.2) := by
  obtain ⟨v, S'⟩ := r
  unfold eD
  rw [h, Option.bind_some]
  cases v with
  | d x => cases hd; rfl
  | own c =>
    cases c with
    | lst ds => cases hd; rfl
    | _ => cases hd
theorem eD_ok {Q : D × Sto → Prop} (h : ok (m ρ S) fun r => ∃ d, vD r.1 = some d ∧ Q (d, r.2)) : ok (eD m ρ S) Q := by
  obtain ⟨r, e, d, hd, hq⟩ := h
  exact (ok_eq (eD_vD e hd)).mpr hq
theorem setD_ok {i : Nat} {Q : Fl × Slt × Sto → Prop} (h : ok (m ρ S) fun r => ∃ d, vD r.1 = some d ∧ Q (.nx, ρ.set i (some (.d d)), r.2)) : ok (sSet i (eV (eD m)) ρ S) Q := by
  obtain ⟨r, e, d, hd, hq⟩ := h
  unfold sSet eV
  rw [eD_vD e hd]
  exact ok_some.mpr hq
theorem if_no {c : BM} {x y : SM} {Q : Fl × Slt × Sto → Prop} (h : ok (c ρ S) fun q => q.1 = false ∧ ok (y ρ q.2) Q) : ok (sIf c x y ρ S) Q := by
  obtain ⟨⟨t, S'⟩, e, e1, hq⟩ := h
  dsimp only at e1
  subst e1
  unfold sIf
  rw [e, Option.bind_some, if_neg Bool.false_ne_true]
  exact hq
theorem bV_ok {Q : Bool × Sto → Prop} (h : ok (m ρ S) fun r => ∃ t, r.1 = .d (.bl t) ∧ Q (t, r.2)) : ok (bV m ρ S) Q := by
  obtain ⟨⟨v, S'⟩, e, t, e1, hq⟩ := h
  dsimp only at e1
  subst e1
  unfold bV eD
  rw [e]
  exact ok_some.mpr hq
theorem op_ok {f : D → D → Sto → Option VV} {Q : VV × Sto → Prop} (h : ok (a ρ S) fun p => ∃ x, vD p.1 = some x ∧ ok (b ρ p.2) fun q => ∃ y w, vD q.1 = some y ∧ f x y q.2 = some w ∧ Q (w, q.2)) : ok (eOp f a b ρ S) Q := by
  obtain ⟨p, e, x, hx, q, e2, y, w, hy, hw, hq⟩ := h
  unfold eOp
  rw [eD_vD e hx, Option.bind_some, eD_vD e2 hy, Option.bind_some]
  rw [hw]
  exact ok_some.mpr hq
theorem nm_eq {i : Nat} {d : D} (h : ρ[i]? = some (some (.d d))) : eNm i ρ S = some (.d d, S) := by
  unfold eNm
  rw [h]
theorem compL_step {g : TM} {ρ1 : Slt} {d x : D} {r ys : List D} {S' : Sto} (h1 : g d ρ = some ρ1) (h2 : eD m ρ1 S = some (x, S')) (hz : szOk ys.length = true) : compL g bYes m ρ (d :: r) ys S = compL g bYes m ρ r (ys ++ [x]) S' := by
  have : compL g bYes m ρ (d :: r) ys S = (g d ρ).bind fun ρ1 => (bYes ρ1 S).bind fun p => if p.1 = true then (eD m ρ1 p.2).bind fun q => if szOk ys.length then compL g bYes m ρ r (ys ++ [q.1]) q.2 else none else compL g bYes m ρ r ys p.2 := rfl
  rw [this, h1, Option.bind_some]
  show (eD m ρ1 S).bind _ = _
  rw [h2, Option.bind_some, if_pos hz]
theorem fNe_same {x y : D} (h : eqD x y S = some true) : fNe x y S = some (.d (.bl false)) := by
  unfold fNe
  rw [h]
  rfl
theorem fNe_not {x y : D} (h : eqD x y S = some false) : fNe x y S = some (.d (.bl true)) := by
  unfold fNe
  rw [h]
  rfl
end
/-! ### comprehensions over things -/
theorem compC_rel {α : Type} {r : α → D} {n : Nat} {mk : Nat → D → D} {gt : TM} {c : BM} {m : EM} {ρ : Slt} {S : Sto} (p : α → Bool) (f : α → D) {l : List α} (hc : S[n]? = some (.lst (l.map r))) (hl : l.length ≤ 1000000)
    (h : ∀ (i : Nat) (q : α), l[i]? = some q → ∃ ρ1, gt (mk i (r q)) ρ = some ρ1 ∧ c ρ1 S = some (p q, S) ∧ (p q = true → eD m ρ1 S = some (f q, S))) :
    ∀ (k i : Nat) (ys : List D), i + k = l.length → ys = ((l.take i).filter p).map f → compC n mk gt c m ρ (k + 1) i ys S = some ((l.filter p).map f, S)
  | 0, i, ys, hi, e => by
    unfold compC
    rw [hc]
    dsimp only
    rw [List.getElem?_eq_none (by rw [List.length_map]; omega), e, List.take_of_length_le (by omega)]
  | k + 1, i, ys, hi, e => by
    unfold compC
    rw [hc]
    dsimp only
    have hil : i < l.length := by omega
    have eq0 : l[i]? = some l[i] := List.getElem?_eq_getElem hil
    rw [List.getElem?_map, eq0]
    dsimp only [Option.map_some]
    obtain ⟨ρ1, h1, h2, h3⟩ := h i l[i] eq0
    have ht : l.take (i + 1) = l.take i ++ [l[i]] := by rw [List.take_add_one, eq0]; rfl
    rw [h1, Option.bind_some, h2, Option.bind_some]
    by_cases z : p l[i] = true
    · have hy : ys.length ≤ i := by
        rw [e, List.length_map]
        refine Nat.le_trans (List.length_filter_le _ _) ?_
        rw [List.length_take]
        exact Nat.min_le_left _ _
      rw [if_pos z, h3 z, Option.bind_some, if_pos (by simp [szOk]; omega)]
      refine compC_rel p f hc hl h k (i + 1) _ (by omega) ?_
      rw [e, ht, List.filter_append, List.map_append]
      simp [z]
    · rw [if_neg z]
      refine compC_rel p f hc hl h k (i + 1) _ (by omega) ?_
      rw [e, ht, List.filter_append]
      simp [z]
theorem lcC_rel {α : Type} {r : α → D} {n : Nat} {i : Slt → Sto → Option (Nat × Sto)} {mk : Nat → D → D} {gt : TM} {c : BM} {m : EM} {vs : List Nat} {ρ : Slt} {S S1 : Sto} (p : α → Bool) (f : α → D) {l : List α} (hi : i ρ S = some (n, S1)) (hc : S1[n]? = some (.lst (l.map r))) (hl : l.length ≤ 1000000)
    (h : ∀ (i : Nat) (q : α), l[i]? = some q → ∃ ρ1, gt (mk i (r q)) (wipeS ρ vs) = some ρ1 ∧ c ρ1 S1 = some (p q, S1) ∧ (p q = true → eD m ρ1 S1 = some (f q, S1))) : eLcC i mk gt c m vs ρ S = some (.own (.lst ((l.filter p).map f)), S1) := by
  unfold eLcC
  rw [hi, Option.bind_some]
  have e : lenC n S1 = l.length := by simp only [lenC, hc, List.length_map]
  dsimp only
  rw [e, compC_rel p f hc hl h l.length 0 [] (by omega) (by simp)]
  rfl
theorem compL_fm {α : Type} {r : α → D} {gt : TM} {c : BM} {m : EM} {ρ : Slt} {S : Sto} (p : α → Bool) (f : α → D) : ∀ (l : List α) (ys : List D), ys.length + l.length ≤ 1000000 → (∀ q ∈ l, ∃ ρ1, gt (r q) ρ = some ρ1 ∧ c ρ1 S = some (p q, S) ∧ (p q = true → eD m ρ1 S = some (f q, S))) →
    compL gt c m ρ (l.map r) ys S = some (ys ++ (l.filter p).map f, S)
  | [], ys, _, _ => by simp [compL]
  | q :: t, ys, hl, h => by
    obtain ⟨ρ1, h1, h2, h3⟩ := h q (by simp)
    simp only [List.length_cons] at hl
    rw [List.map_cons]
    unfold compL
    rw [h1, Option.bind_some, h2, Option.bind_some]
    by_cases z : p q = true
    · rw [if_pos z, h3 z, Option.bind_some, if_pos (by simp [szOk]; omega), compL_fm p f t _ (by simp; omega) fun d' hd => h d' (by simp [hd])]
      simp [z]
    · rw [if_neg z, compL_fm p f t _ (by omega) fun d' hd => h d' (by simp [hd])]
      simp [z]
theorem lc_fm {α : Type} {r : α → D} {i : AM} {gt : TM} {c : BM} {m : EM} {vs : List Nat} {ρ : Slt} {S S1 : Sto} (p : α → Bool) (f : α → D) {l : List α} (hi : i ρ S = some (l.map r, S1)) (hl : l.length ≤ 1000000) (h : ∀ q ∈ l, ∃ ρ1, gt (r q) (wipeS ρ vs) = some ρ1 ∧ c ρ1 S1 = some (p q, S1) ∧ (p q = true → eD m ρ1 S1 = some (f q, S1))) :
    eLc i gt c m vs ρ S = some (.own (.lst ((l.filter p).map f)), S1) := by
  unfold eLc
  rw [hi, Option.bind_some, compL_fm p f l [] (by simpa using hl) h]
  rfl
theorem set_same {S : Sto} {n : Nat} {c : Cell} (h : S[n]? = some c) : S.set n c = S := by
  apply List.ext_getElem?
  intro i
  by_cases z : n = i
  · subst z
    rw [List.getElem?_set_self (get_lt h), h]
  · rw [List.getElem?_set_ne z]
theorem eBox_eq {m : EM} {ρ : Slt} {S S' : Sto} {c : Cell} (h : m ρ S = some (.own c, S')) : eBox m ρ S = some (.d (.ref S'.length), S' ++ [c]) := by
  unfold eBox
  rw [h]
  rfl
theorem eD_some {m : EM} {ρ : Slt} {S S' : Sto} {x : D} (h : m ρ S = some (.d x, S')) : eD m ρ S = some (x, S') := by unfold eD; rw [h]; rfl
theorem last_get {l : List Nat} (h : l ≠ []) : atI (l.map inD) (-1) = some (inD (l.getLast?.getD 0)) := by
  have hl : 0 < l.length := List.length_pos_iff.mpr h
  unfold atI
  rw [ixm (by simpa using hl), Option.bind_some, List.getElem?_map, List.length_map, List.getLast?_eq_getElem?]
  cases hx : l[l.length - 1]? with
  | none => rw [List.getElem?_eq_none_iff] at hx; omega
  | some x => rfl
theorem in_nat (f : Nat) (l : List Nat) : inF (.int f) (l.map inD) = decide (f ∈ l) := by
  unfold inF
  rw [Bool.eq_iff_iff, List.any_eq_true, decide_eq_true_eq]
  constructor
  · rintro ⟨x, hx, hq⟩
    obtain ⟨k, hk, rfl⟩ := List.mem_map.mp hx
    have : ((k : Nat) : Int) = f := by simpa [eqF, inD] using hq
    have : k = f := by omega
    rwa [← this]
  · intro hf
    exact ⟨inD f, List.mem_map.mpr ⟨f, hf, rfl⟩, by simp [eqF, inD]⟩
theorem flat_nat (l : List Nat) : (l.map inD).all flatD = true := by
  rw [List.all_eq_true]
  intro x hx
  obtain ⟨k, _, rfl⟩ := List.mem_map.mp hx
  rfl
mutual
def alk : Nat → D → D → Sto → Prop
  | 0, _, _, _ => False
  | n + 1, x, y, S => (x = .non ∧ y = .non) ∨ (∃ i, x = .int i ∧ y = .int i) ∨ (∃ i, x = .bl i ∧ y = .bl i) ∨ (∃ z, x = .str z ∧ y = .str z ∧ PyData.canLay0 (.str z) = true) ∨
    (∃ b c ds es, x = .tp b ds ∧ y = .tp c es ∧ ds.length ≤ 900000 ∧ alks n ds es S) ∨ ∃ ds es, lstD x S = some ds ∧ lstD y S = some es ∧ ds.length ≤ 900000 ∧ alks n ds es S
def alks : Nat → List D → List D → Sto → Prop
  | _, [], es, _ => es = []
  | n, d :: ds, es, S => ∃ e r, es = e :: r ∧ alk n d e S ∧ alks n ds r S
end
theorem alks_len : ∀ {n : Nat} {ds es : List D} {S : Sto}, alks n ds es S → es.length = ds.length
  | n, [], es, S, h => by simp only [alks] at h; subst h; rfl
  | n, d :: ds, es, S, h => by
    simp only [alks] at h
    obtain ⟨e, r, rfl, _, h⟩ := h
    simp [alks_len h]
theorem alks_get : ∀ {n : Nat} {ds es : List D} {S : Sto}, alks n ds es S → ∀ (i : Nat) (d : D), ds[i]? = some d → ∃ e, es[i]? = some e ∧ alk n d e S
  | n, [], es, S, h, i, d, hd => by simp at hd
  | n, d :: ds, es, S, h, i, x, hd => by
    simp only [alks] at h
    obtain ⟨e, r, rfl, h1, h⟩ := h
    cases i with
    | zero => cases hd; exact ⟨e, rfl, h1⟩
    | succ i => exact alks_get h i x (by simpa using hd)
theorem lst_ty {x : D} {S : Sto} {ds : List D} (h : lstD x S = some ds) : tyD x S = some "list" ∧ seqD x S = some ds ∧ (∀ j : Int, fIx x (.int j) S = (atI ds j).map .d) ∧ (szOk ds.length = true → fLen [x] S = some (.d (.int ds.length))) ∧ ∀ z, x ≠ .str z := by
  cases x with
  | fl es => cases h; exact ⟨rfl, rfl, fun j => rfl, fun z => by simp [fLen, seqD, lstD, z], fun z q => by cases q⟩
  | ref n =>
    simp only [lstD] at h
    split at h
    · rename_i q
      cases h
      refine ⟨by simp only [tyD]; rw [q], by simp only [seqD, lstD]; rw [q], fun j => by simp only [fIx, seqD, lstD]; rw [q]; rfl, fun z => by simp [fLen, seqD, lstD, q, z], fun z q => by cases q⟩
    · cases h
  | _ => cases h
theorem alike_loop {fr : Den} {x y : D} {ds es : List D} {S : Sto} (ix : ∀ j : Int, fIx x (.int j) S = (atI ds j).map .d) (iy : ∀ j : Int, fIx y (.int j) S = (atI es j).map .d)
    (le : es.length = ds.length) (h : ∀ (i : Nat) (d : D), ds[i]? = some d → ∃ e, es[i]? = some e ∧ fr [d, e] S = some (.d (.bl true), S)) (i : Nat) (hi : i < ds.length) (a : Option VV) :
    ok (gNm 2 (.int (0 + (i : Int))) [some (.d x), some (.d y), a]) fun ρ1 => ok (m_law_alike_1 fr ρ1 S) fun p => p.1 = .nx ∧ p.2.2 = S ∧ ∃ a, p.2.1 = [some (.d x), some (.d y), a] := by
  obtain ⟨e, h1, h2⟩ := h i ds[i] (List.getElem?_eq_getElem hi)
  have a1 : atI ds (i : Int) = some ds[i] := by simp [atI, ixn hi]
  have a2 : atI es (i : Int) = some e := by simp [atI, ixn (show i < es.length by omega), h1]
  simp [gNm, ok_some, m_law_alike_1, sIf, bNot, bV, eCall, aCons, aNil, eOp, eNm, eD, ok_bind, ok_map, ix, iy, a1, a2, h2, sNext]
theorem alike_seq {fr : Den} {T : String} {bt bl : Bool} {x y : D} {ds es : List D} {S : Sto} (k1 : kitB T "bool" = some false) (k2 : kitB T "int" = some false) (k3 : kitB T "str" = some false) (k4 : kitB T "tuple" = some bt) (k5 : kitB T "list" = some bl)
    (tx : tyD x S = some T) (ty : tyD y S = some T) (nn : Yi.isNon y = false)
    (lx : fLen [x] S = some (.d (.int ds.length))) (ly : fLen [y] S = some (.d (.int es.length))) (ix : ∀ j : Int, fIx x (.int j) S = (atI ds j).map .d) (iy : ∀ j : Int, fIx y (.int j) S = (atI es j).map .d)
    (l1 : ds.length ≤ 900000) (le : es.length = ds.length) (h : ∀ (i : Nat) (d : D), ds[i]? = some d → ∃ e, es[i]? = some e ∧ fr [d, e] S = some (.d (.bl true), S)) : ok (m_law_alike fr [some (.d x), some (.d y), none] S) fun p => p.1 = .rt (.d (.bl true)) ∧ p.2.2 = S := by
  have sm : smallR (ds.length : Int) = true := smR (by omega) (by omega)
  unfold m_law_alike
  refine seq_ok ?_
  simp only [sIf, bV, eOp, eD, eNm, eC, fIsN, nn, ok_bind, ok_map, ok_some, Option.bind_some, Option.map_some, List.getElem?_cons_succ, List.getElem?_cons_zero, Bool.false_eq_true, if_false, sNext]
  refine ⟨trivial, seq_ok ?_⟩
  simp only [sIf, bV, eCB, aCons, aNil, fIsi, ty, k1, eD, eNm, eC, ok_bind, ok_map, ok_some, Option.bind_some, Option.map_some, List.getElem?_cons_succ, List.getElem?_cons_zero, Bool.false_eq_true, if_false, sNext]
  refine ⟨trivial, seq_ok ?_⟩
  simp only [sIf, bV, eCB, aCons, aNil, fIsi, ty, k2, eD, eNm, eC, ok_bind, ok_map, ok_some, Option.bind_some, Option.map_some, List.getElem?_cons_succ, List.getElem?_cons_zero, Bool.false_eq_true, if_false, sNext]
  refine ⟨trivial, seq_ok ?_⟩
  simp only [sIf, bV, eCB, aCons, aNil, fIsi, ty, k3, eD, eNm, eC, ok_bind, ok_map, ok_some, Option.bind_some, Option.map_some, List.getElem?_cons_succ, List.getElem?_cons_zero, Bool.false_eq_true, if_false, sNext]
  refine ⟨trivial, seq_ok ?_⟩
  simp only [sIf, bOr, bV, eOp, fNe, eq_bl, eCB, aCons, aNil, fIsi, tx, ty, k4, k5, eD, eNm, eC, ok_bind, ok_map, ok_some, Option.bind_some, Option.map_some, List.getElem?_cons_succ, List.getElem?_cons_zero, beq_self_eq_true, Bool.not_true, Bool.false_eq_true, if_false, sNext]
  refine ⟨trivial, seq_ok ?_⟩
  simp only [sIf, bV, eOp, fNe, eq_int, eCB, aCons, aNil, lx, ly, le, eD, eNm, eC, ok_bind, ok_map, ok_some, Option.bind_some, Option.map_some, List.getElem?_cons_succ, List.getElem?_cons_zero, beq_self_eq_true, Bool.not_true, Bool.false_eq_true, if_false, sNext]
  refine ⟨trivial, seq_ok (for_ok ?_)⟩
  have ei : iR1 (aCons (eCB fLen (aCons (eNm 1) aNil)) aNil) [some (.d x), some (.d y), none] S = some (rngL 0 ds.length, S) := by
    refine iR1_eq ?_ (by omega)
    simp only [eCB, aCons, aNil, ly, le, eD, eNm, Option.bind_some, Option.map_some, List.getElem?_cons_succ, List.getElem?_cons_zero]
  rw [ok_eq ei]
  refine (forL_ok (fun i ρ S2 => S2 = S ∧ ∃ a, ρ = [some (.d x), some (.d y), a]) (rngL 0 ds.length) 0 ⟨rfl, none, rfl⟩ ?_).mono ?_
  · rintro i d hd ρ S2 ⟨rfl, a, rfl⟩
    obtain ⟨hi, rfl⟩ := rng_get hd
    exact alike_loop ix iy le h i hi a
  · rintro ⟨f, ρ, S2⟩ ⟨e, e2, a, e3⟩
    dsimp only at e e2 e3
    subst e e2 e3
    exact ⟨rfl, ⟨(.rt (.d (.bl true)), _, S2), rfl, rfl, rfl⟩⟩
theorem alike_ok : ∀ (n : Nat) {x y : D} {S : Sto}, alk n x y S → dr_law_alike n [x, y] S = some (.d (.bl true), S)
  | 0, x, y, S, h => by simp only [alk] at h
  | n + 1, x, y, S, h => by
    have ih : ∀ {ds es : List D}, alks n ds es S → ∀ (i : Nat) (d : D), ds[i]? = some d → ∃ e, es[i]? = some e ∧ dr_law_alike n [d, e] S = some (.d (.bl true), S) := fun hs i d hd => by
      obtain ⟨e, h1, h2⟩ := alks_get hs i d hd
      exact ⟨e, h1, alike_ok n h2⟩
    unfold dr_law_alike
    refine ok.get (den_ok rfl ?_)
    have done : ok (m_law_alike (dr_law_alike n) [some (.d x), some (.d y), none] S) (fun p => p.1 = .rt (.d (.bl true)) ∧ p.2.2 = S) → ok (m_law_alike (dr_law_alike n) ([x, y].map (fun d => some (VV.d d)) ++ List.replicate (3 - [x, y].length) none) S) fun p => match p.1 with
        | .nx => (VV.d .non, p.2.2) = (.d (.bl true), S)
        | .rt v => (v, p.2.2) = (.d (.bl true), S)
        | _ => False := fun q => q.mono fun ⟨f, ρ, S'⟩ ⟨e1, e2⟩ => by
      dsimp only at e1 e2
      subst e1 e2
      rfl
    refine done ?_
    simp only [alk] at h
    rcases h with ⟨rfl, rfl⟩ | ⟨i, rfl, rfl⟩ | ⟨i, rfl, rfl⟩ | ⟨z, rfl, rfl, hz⟩ | ⟨b, c, ds, es, rfl, rfl, l1, hs⟩ | ⟨ds, es, hx, hy, l1, hs⟩
    · simp [m_law_alike, sSeq, sFrz, sBox, sNext, sIf, sBreak, sCont, sNever, sExpr, sRet, sRetO, sRetN, sSet, sAsg, gNm, gsNil, gsCons, gT, gL, eD, eV, eBox, eNm, eC, eOp, eUn, aNil, aCons, eTup, eLst, eCB, bV, bAnd, bOr, bNot, eAnd, eOr, eNot, eIf, eChain, eCall, eFld, sFldS, sFldA, eMeth, eMake, bYes, fSub, fLt, fLe, fGt, fGe, fDiv, fMod, fPow, fNeg, fAdd, fMul, fIsN, fNotN, Yi.isNon, fEq, fNe, fIn, fInS, fIx, intR, oNo, oPart, fSl, eSl, eRev, sAppO, sExtO, sAug, oIx, oIn, oEq, sPar, sPar3, sSetIx, eDGet, eDIn, eDGet2, sDPutS, eDPop1, eDPop2, eDNewK, eDNewT, oDGet, oDIn, eBM, mApp, mExt, mPopAt, mIdx, cellL, iEv, iR1, iR2, iC, fLen, oLen, fMax, fMin, fAll, fAny, fSum, fSortI, fList, fTuple, fInt, fStr, fIsi, tyD, isLstD, isStrD, isDD, lstD, seqD, stD, eCallF, nAt, iSt, mJoin, mSplit, fAddI, sStar, iEnS, eSortSet, fSet, eLenSet, insAt, lkp, putD, ok_some, ok_none, ok_bind, ok_map, eq_int, eq_bl, sAsg, kb_NoneType_int, kb_NoneType_bool, kb_NoneType_str, kb_NoneType_tuple, kb_NoneType_list, kb_bool_int, kb_bool_bool, kb_bool_str, kb_bool_tuple, kb_bool_list, kb_int_int, kb_int_bool, kb_int_str, kb_int_tuple, kb_int_list, kb_str_int, kb_str_bool, kb_str_str, kb_str_tuple, kb_str_list, kb_tuple_int, kb_tuple_bool, kb_tuple_str, kb_tuple_tuple, kb_tuple_list, kb_list_int, kb_list_bool, kb_list_str, kb_list_tuple, kb_list_list, sz_0, sz_1, sz_2, sz_3, sz_4, sz_5, sz_6, sz_7, sz_8, sz_9, sz_10, sz_11, sz_12, sz_13, sz_14, sz_15, sz_16, ix_1_0, ix_2_0, ix_2_1, ix_3_0, ix_3_1, ix_3_2, ix_4_0, ix_4_1, ix_4_2, ix_4_3, ix_5_0, ix_5_1, ix_5_2, ix_5_3, ix_5_4, ix_6_0, ix_6_1, ix_6_2, ix_6_3, ix_6_4, ix_6_5, ix_7_0, ix_7_1, ix_7_2, ix_7_3, ix_7_4, ix_7_5, ix_7_6, sI_0, sI_1, sI_48271, sI_69621]
    · simp [m_law_alike, sSeq, sFrz, sBox, sNext, sIf, sBreak, sCont, sNever, sExpr, sRet, sRetO, sRetN, sSet, sAsg, gNm, gsNil, gsCons, gT, gL, eD, eV, eBox, eNm, eC, eOp, eUn, aNil, aCons, eTup, eLst, eCB, bV, bAnd, bOr, bNot, eAnd, eOr, eNot, eIf, eChain, eCall, eFld, sFldS, sFldA, eMeth, eMake, bYes, fSub, fLt, fLe, fGt, fGe, fDiv, fMod, fPow, fNeg, fAdd, fMul, fIsN, fNotN, Yi.isNon, fEq, fNe, fIn, fInS, fIx, intR, oNo, oPart, fSl, eSl, eRev, sAppO, sExtO, sAug, oIx, oIn, oEq, sPar, sPar3, sSetIx, eDGet, eDIn, eDGet2, sDPutS, eDPop1, eDPop2, eDNewK, eDNewT, oDGet, oDIn, eBM, mApp, mExt, mPopAt, mIdx, cellL, iEv, iR1, iR2, iC, fLen, oLen, fMax, fMin, fAll, fAny, fSum, fSortI, fList, fTuple, fInt, fStr, fIsi, tyD, isLstD, isStrD, isDD, lstD, seqD, stD, eCallF, nAt, iSt, mJoin, mSplit, fAddI, sStar, iEnS, eSortSet, fSet, eLenSet, insAt, lkp, putD, ok_some, ok_none, ok_bind, ok_map, eq_int, eq_bl, sAsg, kb_NoneType_int, kb_NoneType_bool, kb_NoneType_str, kb_NoneType_tuple, kb_NoneType_list, kb_bool_int, kb_bool_bool, kb_bool_str, kb_bool_tuple, kb_bool_list, kb_int_int, kb_int_bool, kb_int_str, kb_int_tuple, kb_int_list, kb_str_int, kb_str_bool, kb_str_str, kb_str_tuple, kb_str_list, kb_tuple_int, kb_tuple_bool, kb_tuple_str, kb_tuple_tuple, kb_tuple_list, kb_list_int, kb_list_bool, kb_list_str, kb_list_tuple, kb_list_list, sz_0, sz_1, sz_2, sz_3, sz_4, sz_5, sz_6, sz_7, sz_8, sz_9, sz_10, sz_11, sz_12, sz_13, sz_14, sz_15, sz_16, ix_1_0, ix_2_0, ix_2_1, ix_3_0, ix_3_1, ix_3_2, ix_4_0, ix_4_1, ix_4_2, ix_4_3, ix_5_0, ix_5_1, ix_5_2, ix_5_3, ix_5_4, ix_6_0, ix_6_1, ix_6_2, ix_6_3, ix_6_4, ix_6_5, ix_7_0, ix_7_1, ix_7_2, ix_7_3, ix_7_4, ix_7_5, ix_7_6, sI_0, sI_1, sI_48271, sI_69621]
    · simp [m_law_alike, sSeq, sFrz, sBox, sNext, sIf, sBreak, sCont, sNever, sExpr, sRet, sRetO, sRetN, sSet, sAsg, gNm, gsNil, gsCons, gT, gL, eD, eV, eBox, eNm, eC, eOp, eUn, aNil, aCons, eTup, eLst, eCB, bV, bAnd, bOr, bNot, eAnd, eOr, eNot, eIf, eChain, eCall, eFld, sFldS, sFldA, eMeth, eMake, bYes, fSub, fLt, fLe, fGt, fGe, fDiv, fMod, fPow, fNeg, fAdd, fMul, fIsN, fNotN, Yi.isNon, fEq, fNe, fIn, fInS, fIx, intR, oNo, oPart, fSl, eSl, eRev, sAppO, sExtO, sAug, oIx, oIn, oEq, sPar, sPar3, sSetIx, eDGet, eDIn, eDGet2, sDPutS, eDPop1, eDPop2, eDNewK, eDNewT, oDGet, oDIn, eBM, mApp, mExt, mPopAt, mIdx, cellL, iEv, iR1, iR2, iC, fLen, oLen, fMax, fMin, fAll, fAny, fSum, fSortI, fList, fTuple, fInt, fStr, fIsi, tyD, isLstD, isStrD, isDD, lstD, seqD, stD, eCallF, nAt, iSt, mJoin, mSplit, fAddI, sStar, iEnS, eSortSet, fSet, eLenSet, insAt, lkp, putD, ok_some, ok_none, ok_bind, ok_map, eq_int, eq_bl, sAsg, kb_NoneType_int, kb_NoneType_bool, kb_NoneType_str, kb_NoneType_tuple, kb_NoneType_list, kb_bool_int, kb_bool_bool, kb_bool_str, kb_bool_tuple, kb_bool_list, kb_int_int, kb_int_bool, kb_int_str, kb_int_tuple, kb_int_list, kb_str_int, kb_str_bool, kb_str_str, kb_str_tuple, kb_str_list, kb_tuple_int, kb_tuple_bool, kb_tuple_str, kb_tuple_tuple, kb_tuple_list, kb_list_int, kb_list_bool, kb_list_str, kb_list_tuple, kb_list_list, sz_0, sz_1, sz_2, sz_3, sz_4, sz_5, sz_6, sz_7, sz_8, sz_9, sz_10, sz_11, sz_12, sz_13, sz_14, sz_15, sz_16, ix_1_0, ix_2_0, ix_2_1, ix_3_0, ix_3_1, ix_3_2, ix_4_0, ix_4_1, ix_4_2, ix_4_3, ix_5_0, ix_5_1, ix_5_2, ix_5_3, ix_5_4, ix_6_0, ix_6_1, ix_6_2, ix_6_3, ix_6_4, ix_6_5, ix_7_0, ix_7_1, ix_7_2, ix_7_3, ix_7_4, ix_7_5, ix_7_6, sI_0, sI_1, sI_48271, sI_69621]
    · simp [m_law_alike, sSeq, sFrz, sBox, sNext, sIf, sBreak, sCont, sNever, sExpr, sRet, sRetO, sRetN, sSet, sAsg, gNm, gsNil, gsCons, gT, gL, eD, eV, eBox, eNm, eC, eOp, eUn, aNil, aCons, eTup, eLst, eCB, bV, bAnd, bOr, bNot, eAnd, eOr, eNot, eIf, eChain, eCall, eFld, sFldS, sFldA, eMeth, eMake, bYes, fSub, fLt, fLe, fGt, fGe, fDiv, fMod, fPow, fNeg, fAdd, fMul, fIsN, fNotN, Yi.isNon, fEq, fNe, fIn, fInS, fIx, intR, oNo, oPart, fSl, eSl, eRev, sAppO, sExtO, sAug, oIx, oIn, oEq, sPar, sPar3, sSetIx, eDGet, eDIn, eDGet2, sDPutS, eDPop1, eDPop2, eDNewK, eDNewT, oDGet, oDIn, eBM, mApp, mExt, mPopAt, mIdx, cellL, iEv, iR1, iR2, iC, fLen, oLen, fMax, fMin, fAll, fAny, fSum, fSortI, fList, fTuple, fInt, fStr, fIsi, tyD, isLstD, isStrD, isDD, lstD, seqD, stD, eCallF, nAt, iSt, mJoin, mSplit, fAddI, sStar, iEnS, eSortSet, fSet, eLenSet, insAt, lkp, putD, ok_some, ok_none, ok_bind, ok_map, eq_int, eq_bl, sAsg, kb_NoneType_int, kb_NoneType_bool, kb_NoneType_str, kb_NoneType_tuple, kb_NoneType_list, kb_bool_int, kb_bool_bool, kb_bool_str, kb_bool_tuple, kb_bool_list, kb_int_int, kb_int_bool, kb_int_str, kb_int_tuple, kb_int_list, kb_str_int, kb_str_bool, kb_str_str, kb_str_tuple, kb_str_list, kb_tuple_int, kb_tuple_bool, kb_tuple_str, kb_tuple_tuple, kb_tuple_list, kb_list_int, kb_list_bool, kb_list_str, kb_list_tuple, kb_list_list, sz_0, sz_1, sz_2, sz_3, sz_4, sz_5, sz_6, sz_7, sz_8, sz_9, sz_10, sz_11, sz_12, sz_13, sz_14, sz_15, sz_16, ix_1_0, ix_2_0, ix_2_1, ix_3_0, ix_3_1, ix_3_2, ix_4_0, ix_4_1, ix_4_2, ix_4_3, ix_5_0, ix_5_1, ix_5_2, ix_5_3, ix_5_4, ix_6_0, ix_6_1, ix_6_2, ix_6_3, ix_6_4, ix_6_5, ix_7_0, ix_7_1, ix_7_2, ix_7_3, ix_7_4, ix_7_5, ix_7_6, sI_0, sI_1, sI_48271, sI_69621, eq_str hz hz]
    · have z1 : szOk ds.length = true := by simp [szOk]; omega
      exact alike_seq kb_tuple_bool kb_tuple_int kb_tuple_str kb_tuple_tuple kb_tuple_list rfl rfl rfl rfl rfl (fun _ => rfl) (fun _ => rfl) l1 (alks_len hs) (ih hs)
    · have z1 : szOk ds.length = true := by simp [szOk]; omega
      obtain ⟨x1, x2, x3, x4, _⟩ := lst_ty hx
      obtain ⟨y1, y2, y3, y4, _⟩ := lst_ty hy
      have ln := alks_len hs
      exact alike_seq kb_list_bool kb_list_int kb_list_str kb_list_tuple kb_list_list x1 y1 (by cases y with | non => cases hy | _ => rfl) (x4 z1) (y4 (by rw [ln]; exact z1)) x3 y3 l1 ln (ih hs)
theorem alks_map {α : Type} {n : Nat} {S : Sto} {f g : α → D} : ∀ {l : List α}, (∀ a ∈ l, alk n (f a) (g a) S) → alks n (l.map f) (l.map g) S
  | [], _ => by simp only [List.map_nil, alks]
  | a :: r, h => by
    simp only [List.map_cons, alks]
    exact ⟨_, _, rfl, h a (by simp), alks_map fun b hb => h b (by simp [hb])⟩
theorem alk_int {n : Nat} {i : Int} {S : Sto} : alk (n + 1) (.int i) (.int i) S := by simp only [alk]; exact .inr (.inl ⟨i, rfl, rfl⟩)
theorem alk_bl {n : Nat} {i : Bool} {S : Sto} : alk (n + 1) (.bl i) (.bl i) S := by simp only [alk]; exact .inr (.inr (.inl ⟨i, rfl, rfl⟩))
theorem alk_non {n : Nat} {S : Sto} : alk (n + 1) .non .non S := by unfold alk; exact .inl ⟨rfl, rfl⟩
theorem alk_str {n : Nat} {z : Str} {S : Sto} (h : PyData.canLay0 (.str z) = true) : alk (n + 1) (.str z) (.str z) S := by simp only [alk]; exact .inr (.inr (.inr (.inl ⟨z, rfl, rfl, h⟩)))
theorem alk_o {n : Nat} {o : Option Int} {S : Sto} : alk (n + 1) (oD o) (oD o) S := by
  cases o with
  | none => simp only [alk]; exact .inl ⟨rfl, rfl⟩
  | some i => exact alk_int
theorem alk_tup {b c : Bool} {n : Nat} {ds es : List D} {S : Sto} (hl : ds.length ≤ 900000) (h : alks n ds es S) : alk (n + 1) (.tp b ds) (.tp c es) S := by
  simp only [alk]
  exact .inr (.inr (.inr (.inr (.inl ⟨b, c, ds, es, rfl, rfl, hl, h⟩))))
theorem alks_cons {n : Nat} {d e : D} {ds es : List D} {S : Sto} (h1 : alk n d e S) (h2 : alks n ds es S) : alks n (d :: ds) (e :: es) S := by
  simp only [alks]
  exact ⟨e, es, rfl, h1, h2⟩
theorem alks_nil {n : Nat} {S : Sto} : alks n [] [] S := by simp only [alks]
theorem alk_p {n : Nat} {p : Int × Int} {S : Sto} : alk (n + 2) (pD p) (pD p) S := alk_tup (by simp) (alks_cons alk_int (alks_cons alk_int alks_nil))
theorem alk_ps {t : Bool} {n : Nat} {l : List (Int × Int)} {S : Sto} (hl : l.length ≤ 900000) : alk (n + 3) (.tp t (l.map pD)) (.tp t (l.map pD)) S := alk_tup (by simpa using hl) (alks_map fun _ _ => alk_p)
theorem alk_n {n : Nat} {x : Nt} {S : Sto} : alk (n + 2) (nD x) (nD x) S := alk_tup (by simp) (alks_cons alk_int (alks_cons alk_int (alks_cons alk_int (alks_cons alk_int alks_nil))))
theorem alk_r {n m : Nat} {r : Rl} {S : Sto} (g : r.Good m) : alk (n + 4) (rD r) (rD r) S :=
  alk_tup (by simp) (alks_cons (alk_ps (by have := g.hl; omega)) (alks_cons alk_int (alks_cons (alk_ps (by have := g.gl; omega)) (alks_cons alk_o (alks_cons alk_o alks_nil)))))
theorem alk_lst {n : Nat} {x y : D} {ds es : List D} {S : Sto} (hx : lstD x S = some ds) (hy : lstD y S = some es) (hl : ds.length ≤ 900000) (h : alks n ds es S) : alk (n + 1) x y S := by
  simp only [alk]
  exact .inr (.inr (.inr (.inr (.inr ⟨ds, es, hx, hy, hl, h⟩))))
section
variable {m : EM} {ρ : Slt} {S S1 S2 : Sto}
theorem op_eq {f : D → D → Sto → Option VV} {a b : EM} {x y : D} (h1 : eD a ρ S = some (x, S1)) (h2 : eD b ρ S1 = some (y, S2)) : eOp f a b ρ S = (f x y S2).map fun w => (w, S2) := by
  unfold eOp
  rw [h1, Option.bind_some, h2, Option.bind_some]
theorem mul_small {i j : Int} {S : Sto} (h : smallI i = true) : fMul (.int i) (.int j) S = some (.d (.int (i * j))) := by
  unfold fMul
  simp [h]
theorem asg_ok {g : TM} {Q : Fl × Slt × Sto → Prop} (h : ok (m ρ S) fun r => ∃ d ρ', vD r.1 = some d ∧ g d ρ = some ρ' ∧ Q (.nx, ρ', r.2)) : ok (sAsg g m ρ S) Q := by
  obtain ⟨r, e, d, ρ', hd, hg, hq⟩ := h
  unfold sAsg
  rw [eD_vD e hd, Option.bind_some]
  dsimp only
  rw [hg]
  exact ok_some.mpr hq
theorem cb1_eq {f : List D → Sto → Option VV} {r : VV × Sto} {d : D} (h : m ρ S = some r) (hd : vD r.1 = some d) : eCB f (aCons m aNil) ρ S = (f [d] r.2).map fun w => (w, r.2) := by
  show ((eD m ρ S).bind fun p => (aNil ρ p.2).map fun q => (p.1 :: q.1, q.2)).bind _ = _
  rw [eD_vD h hd]
  rfl
theorem cb_eq {f : List D → Sto → Option VV} {a : AM} {xs : List D} (h : a ρ S = some (xs, S1)) : eCB f a ρ S = (f xs S1).map fun w => (w, S1) := by
  unfold eCB
  rw [h, Option.bind_some]
theorem set_ok {i : Nat} {Q : Fl × Slt × Sto → Prop} (h : ok (m ρ S) fun r => Q (.nx, ρ.set i (some r.1), r.2)) : ok (sSet i m ρ S) Q := by
  obtain ⟨r, e, hq⟩ := h
  unfold sSet
  rw [e]
  exact ok_some.mpr hq
theorem bV_eq {b : Bool} {S' : Sto} (h : m ρ S = some (.d (.bl b), S')) : bV m ρ S = some (b, S') := by
  unfold bV
  rw [eD_some h]
  rfl
theorem nil_eq : aNil ρ S = some ([], S) := rfl
theorem cons_eq {a : EM} {r : AM} {x : D} {xs : List D} (h1 : eD a ρ S = some (x, S1)) (h2 : r ρ S1 = some (xs, S2)) : aCons a r ρ S = some (x :: xs, S2) := by
  unfold aCons
  rw [h1, Option.bind_some]
  dsimp only
  rw [h2]
  rfl
theorem tup_eq {a : AM} {xs : List D} (h : a ρ S = some (xs, S1)) (hz : szOk xs.length = true) : eTup a ρ S = some (.d (.tup xs), S1) := by
  unfold eTup
  rw [h, Option.bind_some]
  dsimp only
  rw [if_pos hz]
theorem call_eq {f : Den} {a : AM} {xs : List D} (h : a ρ S = some (xs, S1)) : eCall f a [] ρ S = f xs S1 := by
  unfold eCall
  rw [h, Option.bind_some, List.append_nil]
theorem not_eq {c : BM} {t : Bool} (h : c ρ S = some (t, S1)) : bNot c ρ S = some (!t, S1) := by
  unfold bNot
  rw [h]
  rfl
theorem or_ff {a b : BM} (h1 : a ρ S = some (false, S1)) (h2 : b ρ S1 = some (false, S2)) : bOr a b ρ S = some (false, S2) := by
  unfold bOr
  rw [h1, Option.bind_some, if_neg Bool.false_ne_true, h2]
theorem or_t {a b : BM} (h1 : a ρ S = some (true, S1)) : bOr a b ρ S = some (true, S1) := by
  unfold bOr
  rw [h1, Option.bind_some, if_pos rfl]
theorem and_f {a b : BM} (h1 : a ρ S = some (false, S1)) : bAnd a b ρ S = some (false, S1) := by
  unfold bAnd
  rw [h1, Option.bind_some, if_neg Bool.false_ne_true]
theorem and_t {a b : BM} {t : Bool} (h1 : a ρ S = some (true, S1)) (h2 : b ρ S1 = some (t, S2)) : bAnd a b ρ S = some (t, S2) := by
  unfold bAnd
  rw [h1, Option.bind_some, if_pos rfl, h2]
theorem andE_t {a b : EM} {t : Bool} (h1 : a ρ S = some (.d (.bl true), S1)) (h2 : b ρ S1 = some (.d (.bl t), S2)) : eAnd a b ρ S = some (.d (.bl t), S2) := by
  unfold eAnd
  rw [bV_eq h1, Option.bind_some, if_pos rfl]
  unfold eV
  rw [eD_some h2]
  rfl
theorem if_f {c : BM} {x y : SM} (h : c ρ S = some (false, S1)) : sIf c x y ρ S = y ρ S1 := by
  unfold sIf
  rw [h, Option.bind_some, if_neg Bool.false_ne_true]
theorem if_t {c : BM} {x y : SM} (h : c ρ S = some (true, S1)) : sIf c x y ρ S = x ρ S1 := by
  unfold sIf
  rw [h, Option.bind_some, if_pos rfl]
theorem ret_eq {v : VV} (h : m ρ S = some (v, S1)) : sRet m ρ S = some (.rt v, ρ, S1) := by
  unfold sRet
  rw [h]
  rfl
theorem seq_rt {a c : SM} {v : VV} {ρ1 : Slt} (h : a ρ S = some (.rt v, ρ1, S1)) : sSeq a c ρ S = some (.rt v, ρ1, S1) := by
  unfold sSeq
  rw [h]
  rfl
theorem seq_nx {a c : SM} {ρ1 : Slt} (h : a ρ S = some (.nx, ρ1, S1)) : sSeq a c ρ S = c ρ1 S1 := by
  unfold sSeq
  rw [h]
  rfl
theorem iEv_ok {Q : List D × Sto → Prop} (h : ok (m ρ S) fun r => ∃ d ds, vD r.1 = some d ∧ stD d = some ds ∧ Q (ds, r.2)) : ok (iEv m ρ S) Q := by
  obtain ⟨r, e, d, ds, hd, hs, hq⟩ := h
  unfold iEv
  rw [eD_vD e hd, Option.bind_some]
  dsimp only
  rw [hs]
  exact ok_some.mpr hq
end
theorem len_fl {α : Type} (f : α → D) (l : List α) (S : Sto) : fLen [.fl (l.map f)] S = some (.d (.int l.length)) := by
  show some (VV.d (.int ((l.map f).length : Nat))) = _
  rw [List.length_map]
theorem len_pt {α : Type} (f : α → D) (l : List α) (S : Sto) : fLen [.pt (l.map f)] S = some (.d (.int l.length)) := by
  show some (VV.d (.int ((l.map f).length : Nat))) = _
  rw [List.length_map]
theorem len_ref {n : Nat} {ds : List D} {S : Sto} (h : S[n]? = some (.lst ds)) : fLen [.ref n] S = some (.d (.int ds.length)) := by
  simp only [fLen, seqD, lstD, h, Option.map_some]
theorem ix_fl {α : Type} (f : α → D) (l : List α) {i : Nat} {x : α} (h : l[i]? = some x) (S : Sto) : fIx (.fl (l.map f)) (.int i) S = some (.d (f x)) := by
  have hi : i < l.length := (List.getElem?_eq_some_iff.mp h).1
  show ((some (l.map f)).bind fun ds => (atI ds (i : Int)).map VV.d) = _
  rw [Option.bind_some]
  unfold atI
  rw [List.length_map, ixn hi, Option.bind_some, List.getElem?_map, h]
  rfl
theorem ix_ref {α : Type} (f : α → D) {l : List α} {i n : Nat} {x : α} {S : Sto} (hn : S[n]? = some (.lst (l.map f))) (h : l[i]? = some x) : fIx (.ref n) (.int i) S = some (.d (f x)) := by
  have hi : i < l.length := (List.getElem?_eq_some_iff.mp h).1
  have e : atI (l.map f) (i : Int) = some (f x) := by
    unfold atI
    rw [List.length_map, ixn hi, Option.bind_some, List.getElem?_map, h]
    rfl
  simp only [fIx, seqD, lstD, hn, Option.bind_some, e, Option.map_some]
theorem callN_ok {f : Den} {n m : Nat} {g : List D → List D → List D} {a b : AM} {ρ : Slt} {S : Sto} {Q : VV × Sto → Prop} (h : ok (a ρ S) fun p => ok (b ρ p.2) fun q => p.1.length = n ∧ q.1.length = m ∧ ok (f (g p.1 q.1) q.2) Q) : ok (eCallN f n m g a b ρ S) Q := by
  unfold eCallN
  rw [ok_bind]
  refine h.mono fun p hp => ?_
  rw [ok_bind]
  refine hp.mono fun q hq => ?_
  rw [if_pos ⟨hq.1, hq.2.1⟩]
  exact hq.2.2
theorem call_ok {f : Den} {a : AM} {ρ : Slt} {S : Sto} {Q : VV × Sto → Prop} (h : ok (a ρ S) fun p => ok (f p.1 p.2) Q) : ok (eCall f a [] ρ S) Q := by
  unfold eCall
  rw [ok_bind]
  refine h.mono fun p hp => ?_
  rw [List.append_nil]
  exact hp
theorem consA_ok {a : EM} {r : AM} {ρ : Slt} {S : Sto} {Q : List D × Sto → Prop} (h : ok (a ρ S) fun p => ∃ d, vD p.1 = some d ∧ ok (r ρ p.2) fun q => Q (d :: q.1, q.2)) : ok (aCons a r ρ S) Q := by
  obtain ⟨p, e, d, hd, q, e2, hq⟩ := h
  unfold aCons
  rw [eD_vD e hd, Option.bind_some]
  dsimp only
  rw [e2]
  exact ok_some.mpr hq
/-- a statement behind another, by what the first one is -/
theorem seq_eq {a c : SM} {ρ ρ1 : Slt} {S S1 : Sto} {Q : Fl × Slt × Sto → Prop} (h : a ρ S = some (.nx, ρ1, S1)) (k : ok (c ρ1 S1) Q) : ok (sSeq a c ρ S) Q := by
  refine seq_ok ((ok_eq h).mpr ⟨rfl, k⟩)
/-! ### what raises -/
section
variable {ρ ρ1 : Slt} {S S1 : Sto} {a b : XM} {q : Ex × Sto}
theorem xseq_nx (h : a ρ S = some (.inl (.nx, ρ1, S1))) : xSeq a b ρ S = b ρ1 S1 := by
  unfold xSeq
  rw [h]
  rfl
theorem xseq_ex (h : a ρ S = some (.inr q)) : xSeq a b ρ S = some (.inr q) := by
  unfold xSeq
  rw [h]
  rfl
theorem xs_eq {m : SM} {r : Fl × Slt × Sto} (h : m ρ S = some r) : xs m ρ S = some (.inl r) := by
  unfold xs
  rw [h]
  rfl
theorem xv_eq {m : EM} {r : VV × Sto} (h : m ρ S = some r) : xv m ρ S = some (.inl r) := by
  unfold xv
  rw [h]
  rfl
theorem xif_t {c : BM} (h : c ρ S = some (true, S1)) : xIf c a b ρ S = a ρ S1 := by
  unfold xIf
  rw [h]
  rfl
theorem xif_f {c : BM} (h : c ρ S = some (false, S1)) : xIf c a b ρ S = b ρ S1 := by
  unfold xIf
  rw [h]
  rfl
theorem xexpr_ex {m : XEM} (h : m ρ S = some (.inr q)) : xExpr m ρ S = some (.inr q) := by
  unfold xExpr
  rw [h]
  rfl
theorem xexpr_nx {m : XEM} {w : VV} (h : m ρ S = some (.inl (w, S1))) : xExpr m ρ S = some (.inl (.nx, ρ, S1)) := by
  unfold xExpr
  rw [h]
  rfl
theorem xcall_eq {f : DenX} {g : AM} {ds : List D} (h : g ρ S = some (ds, S1)) : xCall f g [] ρ S = f ds S1 := by
  unfold xCall
  rw [h, Option.bind_some, List.append_nil]
theorem denX_ex {n np : Nat} {x : XM} {ds : List D} (hl : ds.length = np) (h : x (ds.map (fun d => some (.d d)) ++ List.replicate (n - ds.length) none) S = some (.inr q)) : denX n np x ds S = some (.inr q) := by
  unfold denX
  rw [if_pos hl, h]
  rfl
theorem denX_nx {n np : Nat} {x : XM} {ds : List D} (hl : ds.length = np) (h : x (ds.map (fun d => some (.d d)) ++ List.replicate (n - ds.length) none) S = some (.inl (.nx, ρ1, S1))) : denX n np x ds S = some (.inl (.d .non, S1)) := by
  unfold denX
  rw [if_pos hl, h]
  rfl
theorem denX_rt {n np : Nat} {x : XM} {ds : List D} {v : VV} (hl : ds.length = np) (h : x (ds.map (fun d => some (.d d)) ++ List.replicate (n - ds.length) none) S = some (.inl (.rt v, ρ1, S1))) : denX n np x ds S = some (.inl (v, S1)) := by
  unfold denX
  rw [if_pos hl, h]
  rfl
/-- the works are refused as is due; nothing is changed -/
theorem runA_all {t : Nat} {bodies : Nat → Option XEM} {alk : Den} {due : D} : ∀ cs : List D, (∀ c ∈ cs, ∃ n x e d, c = .clo n t ∧ bodies n = some x ∧ x ρ S = some (.inr (e, S)) ∧ e.c < 10 ∧ toldD e = some d ∧ alk [d, due] S = some (.d (.bl true), S)) → runA t bodies alk due ρ cs S = some S
  | [], _ => rfl
  | c :: cs, h => by
    obtain ⟨n, x, e, d, rfl, h1, h2, h3, h4, h5⟩ := h c (by simp)
    have ih := runA_all cs fun y hy => h y (List.mem_cons_of_mem _ hy)
    unfold runA
    rw [if_pos rfl, h1, Option.bind_some, h2]
    dsimp only
    rw [if_pos h3, h4, Option.bind_some, h5]
    exact ih
theorem allL_eq {t : Nat} {bodies : Nat → Option XEM} {alk : Den} {a : AM} {cs : List D} {due : D} (ha : a ρ S = some ([.fl cs, due], S1)) (h : runA t bodies alk due ρ cs S1 = some S1) : eAllL t bodies alk a ρ S = some (.d (.bl true), S1) := by
  unfold eAllL
  rw [ha, Option.bind_some]
  dsimp only
  rw [h]
  rfl
end
theorem begun_ok (ls : List Int) : ∃ z, d_law_begun [.lk ls] [] = some (.own (.lst [.ref 0, .int z]), [.lst (ls.map .int)]) := by
  have key : ok (d_law_begun [.lk ls] []) fun p => ∃ z, p = (.own (.lst [.ref 0, .int z]), [.lst (ls.map .int)]) := by
    refine den_ok rfl (seq_ok ?_)
    simp [sNext, sIf, sBreak, sCont, sNever, sExpr, sRet, sRetO, sRetN, sSet, sAsg, gNm, gsNil, gsCons, gT, gL, eD, eV, eBox, eNm, eC, eOp, eUn, aNil, aCons, eTup, eLst, eCB, bV, bAnd, bOr, bNot, eAnd, eOr, eNot, eIf, eChain, eCall, eFld, sFldS, sFldA, eMeth, eMake, bYes, fSub, fLt, fLe, fGt, fGe, fDiv, fMod, fPow, fNeg, fAdd, fMul, fIsN, fNotN, Yi.isNon, fEq, fNe, fIn, fInS, fIx, intR, oNo, oPart, fSl, eSl, eRev, sAppO, sExtO, sAug, oIx, oIn, oEq, sPar, sPar3, sSetIx, eDGet, eDIn, eDGet2, sDPutS, eDPop1, eDPop2, eDNewK, eDNewT, oDGet, oDIn, eBM, mApp, mExt, mPopAt, mIdx, cellL, iEv, iR1, iR2, iC, fLen, oLen, fMax, fMin, fAll, fAny, fSum, fSortI, fList, fTuple, fInt, fStr, fIsi, tyD, isLstD, isStrD, isDD, lstD, seqD, stD, eCallF, nAt, iSt, mJoin, mSplit, fAddI, sStar, iEnS, eSortSet, fSet, eLenSet, insAt, lkp, putD, ok_some, ok_none, ok_bind, ok_map, eq_int, eq_bl, sAsg, kb_NoneType_int, kb_NoneType_bool, kb_NoneType_str, kb_NoneType_tuple, kb_NoneType_list, kb_bool_int, kb_bool_bool, kb_bool_str, kb_bool_tuple, kb_bool_list, kb_int_int, kb_int_bool, kb_int_str, kb_int_tuple, kb_int_list, kb_str_int, kb_str_bool, kb_str_str, kb_str_tuple, kb_str_list, kb_tuple_int, kb_tuple_bool, kb_tuple_str, kb_tuple_tuple, kb_tuple_list, kb_list_int, kb_list_bool, kb_list_str, kb_list_tuple, kb_list_list, sz_0, sz_1, sz_2, sz_3, sz_4, sz_5, sz_6, sz_7, sz_8, sz_9, sz_10, sz_11, sz_12, sz_13, sz_14, sz_15, sz_16, ix_1_0, ix_2_0, ix_2_1, ix_3_0, ix_3_1, ix_3_2, ix_4_0, ix_4_1, ix_4_2, ix_4_3, ix_5_0, ix_5_1, ix_5_2, ix_5_3, ix_5_4, ix_6_0, ix_6_1, ix_6_2, ix_6_3, ix_6_4, ix_6_5, ix_7_0, ix_7_1, ix_7_2, ix_7_3, ix_7_4, ix_7_5, ix_7_6, sI_0, sI_1, sI_48271, sI_69621]
    refine seq_ok (for_ok ?_)
    refine (ok_eq (show iEv (eNm 0) [some (.d (.lk ls)), some (.d (.int 0)), none] [] = some (ls.map .int, []) from rfl)).mpr ?_
    refine (forL_ok (fun _ ρ S => S = [] ∧ ∃ (z : Int) (x : Option VV), ρ = [some (.d (.lk ls)), some (.d (.int z)), x]) (ls.map .int) 0 ⟨rfl, 0, none, rfl⟩ ?_).mono ?_
    · rintro i d hd ρ S ⟨rfl, z, x, rfl⟩
      rw [List.getElem?_map] at hd
      obtain ⟨c, hc, rfl⟩ := Option.map_eq_some_iff.mp hd
      simp [sNext, sIf, sBreak, sCont, sNever, sExpr, sRet, sRetO, sRetN, sSet, sAsg, gNm, gsNil, gsCons, gT, gL, eD, eV, eBox, eNm, eC, eOp, eUn, aNil, aCons, eTup, eLst, eCB, bV, bAnd, bOr, bNot, eAnd, eOr, eNot, eIf, eChain, eCall, eFld, sFldS, sFldA, eMeth, eMake, bYes, fSub, fLt, fLe, fGt, fGe, fDiv, fMod, fPow, fNeg, fAdd, fMul, fIsN, fNotN, Yi.isNon, fEq, fNe, fIn, fInS, fIx, intR, oNo, oPart, fSl, eSl, eRev, sAppO, sExtO, sAug, oIx, oIn, oEq, sPar, sPar3, sSetIx, eDGet, eDIn, eDGet2, sDPutS, eDPop1, eDPop2, eDNewK, eDNewT, oDGet, oDIn, eBM, mApp, mExt, mPopAt, mIdx, cellL, iEv, iR1, iR2, iC, fLen, oLen, fMax, fMin, fAll, fAny, fSum, fSortI, fList, fTuple, fInt, fStr, fIsi, tyD, isLstD, isStrD, isDD, lstD, seqD, stD, eCallF, nAt, iSt, mJoin, mSplit, fAddI, sStar, iEnS, eSortSet, fSet, eLenSet, insAt, lkp, putD, ok_some, ok_none, ok_bind, ok_map, eq_int, eq_bl, sAsg, kb_NoneType_int, kb_NoneType_bool, kb_NoneType_str, kb_NoneType_tuple, kb_NoneType_list, kb_bool_int, kb_bool_bool, kb_bool_str, kb_bool_tuple, kb_bool_list, kb_int_int, kb_int_bool, kb_int_str, kb_int_tuple, kb_int_list, kb_str_int, kb_str_bool, kb_str_str, kb_str_tuple, kb_str_list, kb_tuple_int, kb_tuple_bool, kb_tuple_str, kb_tuple_tuple, kb_tuple_list, kb_list_int, kb_list_bool, kb_list_str, kb_list_tuple, kb_list_list, sz_0, sz_1, sz_2, sz_3, sz_4, sz_5, sz_6, sz_7, sz_8, sz_9, sz_10, sz_11, sz_12, sz_13, sz_14, sz_15, sz_16, ix_1_0, ix_2_0, ix_2_1, ix_3_0, ix_3_1, ix_3_2, ix_4_0, ix_4_1, ix_4_2, ix_4_3, ix_5_0, ix_5_1, ix_5_2, ix_5_3, ix_5_4, ix_6_0, ix_6_1, ix_6_2, ix_6_3, ix_6_4, ix_6_5, ix_7_0, ix_7_1, ix_7_2, ix_7_3, ix_7_4, ix_7_5, ix_7_6, sI_0, sI_1, sI_48271, sI_69621, m_law_begun_1, sI_48271, sI_69621]
    · rintro ⟨f, ρ, S⟩ ⟨e, e1, z, x, e2⟩
      dsimp only at e e1 e2
      subst e e1 e2
      have sb : ∀ b : Bool, smallI (if b = true then 1 else 0) = true := by intro b; cases b <;> decide
      by_cases hl : 2 < (ls.length : Int)
      · simp [sNext, sIf, sBreak, sCont, sNever, sExpr, sRet, sRetO, sRetN, sSet, sAsg, gNm, gsNil, gsCons, gT, gL, eD, eV, eBox, eNm, eC, eOp, eUn, aNil, aCons, eTup, eLst, eCB, bV, bAnd, bOr, bNot, eAnd, eOr, eNot, eIf, eChain, eCall, eFld, sFldS, sFldA, eMeth, eMake, bYes, fSub, fLt, fLe, fGt, fGe, fDiv, fMod, fPow, fNeg, fAdd, fMul, fIsN, fNotN, Yi.isNon, fEq, fNe, fIn, fInS, fIx, intR, oNo, oPart, fSl, eSl, eRev, sAppO, sExtO, sAug, oIx, oIn, oEq, sPar, sPar3, sSetIx, eDGet, eDIn, eDGet2, sDPutS, eDPop1, eDPop2, eDNewK, eDNewT, oDGet, oDIn, eBM, mApp, mExt, mPopAt, mIdx, cellL, iEv, iR1, iR2, iC, fLen, oLen, fMax, fMin, fAll, fAny, fSum, fSortI, fList, fTuple, fInt, fStr, fIsi, tyD, isLstD, isStrD, isDD, lstD, seqD, stD, eCallF, nAt, iSt, mJoin, mSplit, fAddI, sStar, iEnS, eSortSet, fSet, eLenSet, insAt, lkp, putD, ok_some, ok_none, ok_bind, ok_map, eq_int, eq_bl, sAsg, kb_NoneType_int, kb_NoneType_bool, kb_NoneType_str, kb_NoneType_tuple, kb_NoneType_list, kb_bool_int, kb_bool_bool, kb_bool_str, kb_bool_tuple, kb_bool_list, kb_int_int, kb_int_bool, kb_int_str, kb_int_tuple, kb_int_list, kb_str_int, kb_str_bool, kb_str_str, kb_str_tuple, kb_str_list, kb_tuple_int, kb_tuple_bool, kb_tuple_str, kb_tuple_tuple, kb_tuple_list, kb_list_int, kb_list_bool, kb_list_str, kb_list_tuple, kb_list_list, sz_0, sz_1, sz_2, sz_3, sz_4, sz_5, sz_6, sz_7, sz_8, sz_9, sz_10, sz_11, sz_12, sz_13, sz_14, sz_15, sz_16, ix_1_0, ix_2_0, ix_2_1, ix_3_0, ix_3_1, ix_3_2, ix_4_0, ix_4_1, ix_4_2, ix_4_3, ix_5_0, ix_5_1, ix_5_2, ix_5_3, ix_5_4, ix_6_0, ix_6_1, ix_6_2, ix_6_3, ix_6_4, ix_6_5, ix_7_0, ix_7_1, ix_7_2, ix_7_3, ix_7_4, ix_7_5, ix_7_6, sI_0, sI_1, sI_48271, sI_69621, hl, sz_2, sI_1]
      · simp [sNext, sIf, sBreak, sCont, sNever, sExpr, sRet, sRetO, sRetN, sSet, sAsg, gNm, gsNil, gsCons, gT, gL, eD, eV, eBox, eNm, eC, eOp, eUn, aNil, aCons, eTup, eLst, eCB, bV, bAnd, bOr, bNot, eAnd, eOr, eNot, eIf, eChain, eCall, eFld, sFldS, sFldA, eMeth, eMake, bYes, fSub, fLt, fLe, fGt, fGe, fDiv, fMod, fPow, fNeg, fAdd, fMul, fIsN, fNotN, Yi.isNon, fEq, fNe, fIn, fInS, fIx, intR, oNo, oPart, fSl, eSl, eRev, sAppO, sExtO, sAug, oIx, oIn, oEq, sPar, sPar3, sSetIx, eDGet, eDIn, eDGet2, sDPutS, eDPop1, eDPop2, eDNewK, eDNewT, oDGet, oDIn, eBM, mApp, mExt, mPopAt, mIdx, cellL, iEv, iR1, iR2, iC, fLen, oLen, fMax, fMin, fAll, fAny, fSum, fSortI, fList, fTuple, fInt, fStr, fIsi, tyD, isLstD, isStrD, isDD, lstD, seqD, stD, eCallF, nAt, iSt, mJoin, mSplit, fAddI, sStar, iEnS, eSortSet, fSet, eLenSet, insAt, lkp, putD, ok_some, ok_none, ok_bind, ok_map, eq_int, eq_bl, sAsg, kb_NoneType_int, kb_NoneType_bool, kb_NoneType_str, kb_NoneType_tuple, kb_NoneType_list, kb_bool_int, kb_bool_bool, kb_bool_str, kb_bool_tuple, kb_bool_list, kb_int_int, kb_int_bool, kb_int_str, kb_int_tuple, kb_int_list, kb_str_int, kb_str_bool, kb_str_str, kb_str_tuple, kb_str_list, kb_tuple_int, kb_tuple_bool, kb_tuple_str, kb_tuple_tuple, kb_tuple_list, kb_list_int, kb_list_bool, kb_list_str, kb_list_tuple, kb_list_list, sz_0, sz_1, sz_2, sz_3, sz_4, sz_5, sz_6, sz_7, sz_8, sz_9, sz_10, sz_11, sz_12, sz_13, sz_14, sz_15, sz_16, ix_1_0, ix_2_0, ix_2_1, ix_3_0, ix_3_1, ix_3_2, ix_4_0, ix_4_1, ix_4_2, ix_4_3, ix_5_0, ix_5_1, ix_5_2, ix_5_3, ix_5_4, ix_6_0, ix_6_1, ix_6_2, ix_6_3, ix_6_4, ix_6_5, ix_7_0, ix_7_1, ix_7_2, ix_7_3, ix_7_4, ix_7_5, ix_7_6, sI_0, sI_1, sI_48271, sI_69621, hl, sz_2, sI_0]
  obtain ⟨p, e, z, rfl⟩ := key
  exact ⟨z, e⟩
end Wk
/-! Persons; chains. -/
namespace Wk
open PySem L2 Yi
section
variable {rs : List Rl} {S : Sto} {tb : Bool}
theorem need_person_ok (h : GoodRs rs) {p : Nat} (hp : p < rs.length) : d_need_person [.tp tb (rs.map rD), .int p] S = some (.d .non, S) := by
  have l6 := h.l6
  have z : szOk rs.length = true := by simp [szOk]; omega
  have q := isn (S := S) (i := p) (lo := 0) (hi := (rs.length : Int) - 1) (by omega)
  refine ok.get (den_ok rfl ?_)
  unfold m_need_person
  simp [sNext, sIf, sBreak, sCont, sNever, sExpr, sRet, sRetO, sRetN, sSet, sAsg, gNm, gsNil, gsCons, gT, gL, eD, eV, eBox, eNm, eC, eOp, eUn, aNil, aCons, eTup, eLst, eCB, bV, bAnd, bOr, bNot, eAnd, eOr, eNot, eIf, eChain, eCall, eFld, sFldS, sFldA, eMeth, eMake, bYes, fSub, fLt, fLe, fGt, fGe, fDiv, fMod, fPow, fNeg, fAdd, fMul, fIsN, fNotN, Yi.isNon, fEq, fNe, fIn, fInS, fIx, intR, oNo, oPart, fSl, eSl, eRev, sAppO, sExtO, sAug, oIx, oIn, oEq, sPar, sPar3, sSetIx, eDGet, eDIn, eDGet2, sDPutS, eDPop1, eDPop2, eDNewK, eDNewT, oDGet, oDIn, eBM, mApp, mExt, mPopAt, mIdx, cellL, iEv, iR1, iR2, iC, fLen, oLen, fMax, fMin, fAll, fAny, fSum, fSortI, fList, fTuple, fInt, fStr, fIsi, tyD, isLstD, isStrD, isDD, lstD, seqD, stD, eCallF, nAt, iSt, mJoin, mSplit, fAddI, sStar, iEnS, eSortSet, fSet, eLenSet, insAt, lkp, putD, ok_some, ok_none, ok_bind, ok_map, eq_int, eq_bl, sAsg, kb_NoneType_int, kb_NoneType_bool, kb_NoneType_str, kb_NoneType_tuple, kb_NoneType_list, kb_bool_int, kb_bool_bool, kb_bool_str, kb_bool_tuple, kb_bool_list, kb_int_int, kb_int_bool, kb_int_str, kb_int_tuple, kb_int_list, kb_str_int, kb_str_bool, kb_str_str, kb_str_tuple, kb_str_list, kb_tuple_int, kb_tuple_bool, kb_tuple_str, kb_tuple_tuple, kb_tuple_list, kb_list_int, kb_list_bool, kb_list_str, kb_list_tuple, kb_list_list, sz_0, sz_1, sz_2, sz_3, sz_4, sz_5, sz_6, sz_7, sz_8, sz_9, sz_10, sz_11, sz_12, sz_13, sz_14, sz_15, sz_16, ix_1_0, ix_2_0, ix_2_1, ix_3_0, ix_3_1, ix_3_2, ix_4_0, ix_4_1, ix_4_2, ix_4_3, ix_5_0, ix_5_1, ix_5_2, ix_5_3, ix_5_4, ix_6_0, ix_6_1, ix_6_2, ix_6_3, ix_6_4, ix_6_5, ix_7_0, ix_7_1, ix_7_2, ix_7_3, ix_7_4, ix_7_5, ix_7_6, sI_0, sI_1, sI_48271, sI_69621, z, q]
/-- what is no number within bounds -/
def NoNum (hi : Int) : D → Prop
  | .int i => i < 0 ∨ hi < i
  | .bl _ => True
  | .non => True
  | .str _ => True
  | _ => False
theorem no_num {x : D} {hi : Int} (h : NoNum hi x) (S : Sto) : d_is_number [x, .int 0, .int hi] S = some (.d (.bl false), S) := by
  cases x with
  | int i =>
    rw [is_number_ok]
    rcases h with h | h
    · rw [decide_eq_false (by omega)]; rfl
    · rw [decide_eq_false (p := i ≤ hi) (by omega), Bool.and_false]
  | bl b =>
    refine ok.get (den_ok rfl ?_)
    simp [m_is_number, sNext, sIf, sBreak, sCont, sNever, sExpr, sRet, sRetO, sRetN, sSet, sAsg, gNm, gsNil, gsCons, gT, gL, eD, eV, eBox, eNm, eC, eOp, eUn, aNil, aCons, eTup, eLst, eCB, bV, bAnd, bOr, bNot, eAnd, eOr, eNot, eIf, eChain, eCall, eFld, sFldS, sFldA, eMeth, eMake, bYes, fSub, fLt, fLe, fGt, fGe, fDiv, fMod, fPow, fNeg, fAdd, fMul, fIsN, fNotN, Yi.isNon, fEq, fNe, fIn, fInS, fIx, intR, oNo, oPart, fSl, eSl, eRev, sAppO, sExtO, sAug, oIx, oIn, oEq, sPar, sPar3, sSetIx, eDGet, eDIn, eDGet2, sDPutS, eDPop1, eDPop2, eDNewK, eDNewT, oDGet, oDIn, eBM, mApp, mExt, mPopAt, mIdx, cellL, iEv, iR1, iR2, iC, fLen, oLen, fMax, fMin, fAll, fAny, fSum, fSortI, fList, fTuple, fInt, fStr, fIsi, tyD, isLstD, isStrD, isDD, lstD, seqD, stD, eCallF, nAt, iSt, mJoin, mSplit, fAddI, sStar, iEnS, eSortSet, fSet, eLenSet, insAt, lkp, putD, ok_some, ok_none, ok_bind, ok_map, eq_int, eq_bl, sAsg, kb_NoneType_int, kb_NoneType_bool, kb_NoneType_str, kb_NoneType_tuple, kb_NoneType_list, kb_bool_int, kb_bool_bool, kb_bool_str, kb_bool_tuple, kb_bool_list, kb_int_int, kb_int_bool, kb_int_str, kb_int_tuple, kb_int_list, kb_str_int, kb_str_bool, kb_str_str, kb_str_tuple, kb_str_list, kb_tuple_int, kb_tuple_bool, kb_tuple_str, kb_tuple_tuple, kb_tuple_list, kb_list_int, kb_list_bool, kb_list_str, kb_list_tuple, kb_list_list, sz_0, sz_1, sz_2, sz_3, sz_4, sz_5, sz_6, sz_7, sz_8, sz_9, sz_10, sz_11, sz_12, sz_13, sz_14, sz_15, sz_16, ix_1_0, ix_2_0, ix_2_1, ix_3_0, ix_3_1, ix_3_2, ix_4_0, ix_4_1, ix_4_2, ix_4_3, ix_5_0, ix_5_1, ix_5_2, ix_5_3, ix_5_4, ix_6_0, ix_6_1, ix_6_2, ix_6_3, ix_6_4, ix_6_5, ix_7_0, ix_7_1, ix_7_2, ix_7_3, ix_7_4, ix_7_5, ix_7_6, sI_0, sI_1, sI_48271, sI_69621]
  | non => exact is_number_non _ _ _
  | str z =>
    refine ok.get (den_ok rfl ?_)
    simp [m_is_number, sNext, sIf, sBreak, sCont, sNever, sExpr, sRet, sRetO, sRetN, sSet, sAsg, gNm, gsNil, gsCons, gT, gL, eD, eV, eBox, eNm, eC, eOp, eUn, aNil, aCons, eTup, eLst, eCB, bV, bAnd, bOr, bNot, eAnd, eOr, eNot, eIf, eChain, eCall, eFld, sFldS, sFldA, eMeth, eMake, bYes, fSub, fLt, fLe, fGt, fGe, fDiv, fMod, fPow, fNeg, fAdd, fMul, fIsN, fNotN, Yi.isNon, fEq, fNe, fIn, fInS, fIx, intR, oNo, oPart, fSl, eSl, eRev, sAppO, sExtO, sAug, oIx, oIn, oEq, sPar, sPar3, sSetIx, eDGet, eDIn, eDGet2, sDPutS, eDPop1, eDPop2, eDNewK, eDNewT, oDGet, oDIn, eBM, mApp, mExt, mPopAt, mIdx, cellL, iEv, iR1, iR2, iC, fLen, oLen, fMax, fMin, fAll, fAny, fSum, fSortI, fList, fTuple, fInt, fStr, fIsi, tyD, isLstD, isStrD, isDD, lstD, seqD, stD, eCallF, nAt, iSt, mJoin, mSplit, fAddI, sStar, iEnS, eSortSet, fSet, eLenSet, insAt, lkp, putD, ok_some, ok_none, ok_bind, ok_map, eq_int, eq_bl, sAsg, kb_NoneType_int, kb_NoneType_bool, kb_NoneType_str, kb_NoneType_tuple, kb_NoneType_list, kb_bool_int, kb_bool_bool, kb_bool_str, kb_bool_tuple, kb_bool_list, kb_int_int, kb_int_bool, kb_int_str, kb_int_tuple, kb_int_list, kb_str_int, kb_str_bool, kb_str_str, kb_str_tuple, kb_str_list, kb_tuple_int, kb_tuple_bool, kb_tuple_str, kb_tuple_tuple, kb_tuple_list, kb_list_int, kb_list_bool, kb_list_str, kb_list_tuple, kb_list_list, sz_0, sz_1, sz_2, sz_3, sz_4, sz_5, sz_6, sz_7, sz_8, sz_9, sz_10, sz_11, sz_12, sz_13, sz_14, sz_15, sz_16, ix_1_0, ix_2_0, ix_2_1, ix_3_0, ix_3_1, ix_3_2, ix_4_0, ix_4_1, ix_4_2, ix_4_3, ix_5_0, ix_5_1, ix_5_2, ix_5_3, ix_5_4, ix_6_0, ix_6_1, ix_6_2, ix_6_3, ix_6_4, ix_6_5, ix_7_0, ix_7_1, ix_7_2, ix_7_3, ix_7_4, ix_7_5, ix_7_6, sI_0, sI_1, sI_48271, sI_69621]
  | _ => exact h.elim
theorem need_person_bad (h : GoodRs rs) {x : D} (hx : NoNum ((rs.length : Int) - 1) x) : dx_need_person [.tp tb (rs.map rD), x] S = some (.inr (⟨5, []⟩, S)) := by
  have l6 := h.l6
  have z : szOk rs.length = true := by simp [szOk]; omega
  have q := no_num hx S
  refine denX_ex rfl ?_
  have c : bNot (bV (eCall d_is_number (aCons (eNm 1) (aCons (eC (.int 0)) (aCons (eOp fSub (eCB fLen (aCons (eNm 0) aNil)) (eC (.int 1))) aNil))) [])) [some (.d (.tp tb (rs.map rD))), some (.d x)] S = some (true, S) := by
    refine ok.get ?_
    simp [sNext, sIf, sBreak, sCont, sNever, sExpr, sRet, sRetO, sRetN, sSet, sAsg, gNm, gsNil, gsCons, gT, gL, eD, eV, eBox, eNm, eC, eOp, eUn, aNil, aCons, eTup, eLst, eCB, bV, bAnd, bOr, bNot, eAnd, eOr, eNot, eIf, eChain, eCall, eFld, sFldS, sFldA, eMeth, eMake, bYes, fSub, fLt, fLe, fGt, fGe, fDiv, fMod, fPow, fNeg, fAdd, fMul, fIsN, fNotN, Yi.isNon, fEq, fNe, fIn, fInS, fIx, intR, oNo, oPart, fSl, eSl, eRev, sAppO, sExtO, sAug, oIx, oIn, oEq, sPar, sPar3, sSetIx, eDGet, eDIn, eDGet2, sDPutS, eDPop1, eDPop2, eDNewK, eDNewT, oDGet, oDIn, eBM, mApp, mExt, mPopAt, mIdx, cellL, iEv, iR1, iR2, iC, fLen, oLen, fMax, fMin, fAll, fAny, fSum, fSortI, fList, fTuple, fInt, fStr, fIsi, tyD, isLstD, isStrD, isDD, lstD, seqD, stD, eCallF, nAt, iSt, mJoin, mSplit, fAddI, sStar, iEnS, eSortSet, fSet, eLenSet, insAt, lkp, putD, ok_some, ok_none, ok_bind, ok_map, eq_int, eq_bl, sAsg, kb_NoneType_int, kb_NoneType_bool, kb_NoneType_str, kb_NoneType_tuple, kb_NoneType_list, kb_bool_int, kb_bool_bool, kb_bool_str, kb_bool_tuple, kb_bool_list, kb_int_int, kb_int_bool, kb_int_str, kb_int_tuple, kb_int_list, kb_str_int, kb_str_bool, kb_str_str, kb_str_tuple, kb_str_list, kb_tuple_int, kb_tuple_bool, kb_tuple_str, kb_tuple_tuple, kb_tuple_list, kb_list_int, kb_list_bool, kb_list_str, kb_list_tuple, kb_list_list, sz_0, sz_1, sz_2, sz_3, sz_4, sz_5, sz_6, sz_7, sz_8, sz_9, sz_10, sz_11, sz_12, sz_13, sz_14, sz_15, sz_16, ix_1_0, ix_2_0, ix_2_1, ix_3_0, ix_3_1, ix_3_2, ix_4_0, ix_4_1, ix_4_2, ix_4_3, ix_5_0, ix_5_1, ix_5_2, ix_5_3, ix_5_4, ix_6_0, ix_6_1, ix_6_2, ix_6_3, ix_6_4, ix_6_5, ix_7_0, ix_7_1, ix_7_2, ix_7_3, ix_7_4, ix_7_5, ix_7_6, sI_0, sI_1, sI_48271, sI_69621, z, q]
  show x_need_person [some (.d (.tp tb (rs.map rD))), some (.d x)] S = _
  unfold x_need_person
  rw [xif_t c]
  rfl
theorem rl_at (h : GoodRs rs) {p : Nat} (hp : p < rs.length) : fIx (.tp tb (rs.map rD)) (.int p) S = some (.d (rD rs[p])) := by
  have : atI (rs.map rD) (p : Int) = some (rD rs[p]) := by
    unfold atI
    rw [List.length_map, ixn hp, Option.bind_some, List.getElem?_map, List.getElem?_eq_getElem hp]
    rfl
  show (some (rs.map rD)).bind (fun ds => (atI ds (p : Int)).map VV.d) = _
  rw [Option.bind_some, this]
  rfl
end
end Wk
/-! Draws, picks, steps, by equations. -/
namespace Wk
open PySem L2 Yi
section
variable {ρ : Slt} {S S0 S1 S2 : Sto}
/-- a draw out of a box in slot i -/
theorem takeE {i : Nat} {k : Int} {mk : EM} (hi : ρ[i]? = some (some (.d (.ref 1)))) (hk : eD mk ρ S0 = some (.int k, S)) (b : Box S) (h0 : 0 < k) (h1 : k < 2 ^ 80) : ∃ (y : Nat) (S' : Sto), (y : Int) < k ∧ Box S' ∧ Kp S S' ∧ eCall d_law_take (aCons (eNm i) (aCons mk aNil)) [] ρ S0 = some (.d (.int y), S') := by
  obtain ⟨⟨v, S1⟩, ev, y, hv, y0, y1, b1, k1⟩ := take_ok (k := k) b h0 h1 (Q := fun p => ∃ y : Int, p.1 = .d (.int y) ∧ 0 ≤ y ∧ y < k ∧ Box p.2 ∧ Kp S p.2) fun y S' h0 h1 b k => ⟨y, rfl, h0, h1, b, k⟩
  dsimp only at hv b1 k1
  subst hv
  obtain ⟨a, rfl⟩ : ∃ a : Nat, y = a := ⟨y.toNat, by omega⟩
  exact ⟨a, S1, y1, b1, k1, (call_eq (cons_eq (eD_some (nm_eq hi)) (cons_eq hk nil_eq))).trans ev⟩
theorem lst_eq {a : AM} {xs : List D} (h : a ρ S = some (xs, S1)) (hz : szOk xs.length = true) : eLst a ρ S = some (.own (.lst xs), S1) := by
  unfold eLst
  rw [h, Option.bind_some]
  exact if_pos hz
theorem ixL {a : AM} {m : EM} {xs : List D} {y : Int} {x : D} (h1 : a ρ S = some (xs, S1)) (hz : szOk xs.length = true) (h2 : eD m ρ S1 = some (.int y, S2)) (hx : atI xs y = some x) : eOp fIx (eLst a) m ρ S = some (.d x, S2) := by
  rw [op_eq (eD_vD (lst_eq h1 hz) rfl) h2]
  show ((atI xs y).map VV.d).map _ = _
  rw [hx]
  rfl
theorem pick2E {i a c : Nat} (hi : ρ[i]? = some (some (.d (.ref 1)))) (b : Box S) : ∃ (y : Nat) (S' : Sto), (y = a ∨ y = c) ∧ Box S' ∧ Kp S S' ∧ eOp fIx (eLst (aCons (eC (.int a)) (aCons (eC (.int c)) aNil))) (eCall d_law_take (aCons (eNm i) (aCons (eC (.int 2)) aNil)) []) ρ S = some (.d (.int y), S') := by
  obtain ⟨y, S1, y2, b1, k1, ey⟩ := takeE (k := 2) (mk := eC (.int 2)) (ρ := ρ) (S0 := S) (S := S) hi rfl b (by decide) (by decide)
  refine ⟨if y = 0 then a else c, S1, by split <;> simp, b1, k1, ?_⟩
  refine ixL (xs := [.int a, .int c]) (S1 := S) rfl rfl (eD_some ey) ?_
  rcases (show y = 0 ∨ y = 1 by omega) with q | q <;> (subst q; rfl)
theorem set_eq {i : Nat} {m : EM} {v : VV} (h : m ρ S = some (v, S1)) : sSet i m ρ S = some (.nx, ρ.set i (some v), S1) := by
  unfold sSet
  rw [h]
  rfl
theorem expr_eq {m : EM} {v : VV} (h : m ρ S = some (v, S1)) : sExpr m ρ S = some (.nx, ρ, S1) := by
  unfold sExpr
  rw [h]
  rfl
/-- xs.append(y), xs a cell -/
theorem app_eq {o m : EM} {n : Nat} {ds : List D} {x : D} (ho : eD o ρ S = some (.ref n, S1)) (hm : eD m ρ S1 = some (x, S2)) (h1 : S1[n]? = some (.lst ds)) (h2 : S2[n]? = some (.lst ds)) (hz : szOk ds.length = true) : eBM isLstD mApp o (aCons m aNil) ρ S = some (.d .non, S2.set n (.lst (ds ++ [x]))) := by
  unfold eBM
  rw [ho, Option.bind_some]
  dsimp only
  rw [if_pos (by simp only [isLstD, lstD, h1]; rfl), cons_eq hm nil_eq, Option.bind_some]
  show (cellL (.ref n) S2).bind _ = _
  simp only [cellL, h2, Option.bind_some]
  rw [if_pos hz]
theorem Kp.box {S S' : Sto} (k : Kp S S') {n : Nat} {c : Cell} (h : S[n]? = some c) (h2 : 2 ≤ n) : S'[n]? = some c := (k.2 n h2 (get_lt h)).trans h
theorem Box.push (b : Box S) (c : Cell) : Box (S ++ [c]) := by
  obtain ⟨ns, z, h1, h2⟩ := b
  exact ⟨ns, z, get_pu h1, get_pu h2⟩
theorem Box.set (b : Box S) {n : Nat} (hn : 2 ≤ n) (c : Cell) : Box (S.set n c) := by
  obtain ⟨ns, z, h1, h2⟩ := b
  exact ⟨ns, z, by rw [List.getElem?_set_ne (by omega)]; exact h1, by rw [List.getElem?_set_ne (by omega)]; exact h2⟩
theorem Box.len (b : Box S) : 2 ≤ S.length := by
  obtain ⟨ns, z, h1, h2⟩ := b
  exact get_lt h2
theorem if_ff {c : BM} {x : SM} (h : c ρ S = some (false, S1)) : sIf c x sNext ρ S = some (.nx, ρ, S1) := by
  rw [if_f h]
  rfl
theorem frz_eq {i : Nat} {m : SM} {ds : List D} (h : ρ[i]? = some (some (.own (.lst ds)))) : sFrz i m ρ S = m (ρ.set i (some (.d (.fl ds)))) S := by
  unfold sFrz
  rw [h]
end
/-- the frozen text 'word', told -/
theorem told0 {c : Nat} (h6 : c ≠ 6) (h7 : c ≠ 7) (h2 : c ≠ 2) (h4 : c ≠ 4) : toldD ⟨c, []⟩ = some (.tup [.str (tdW c), .int 0]) := by
  unfold toldD
  rw [if_neg h6, if_neg h7, if_neg fun z => z.elim h2 h4]
theorem alk_told0 {w : Str} {S : Sto} (h : PyData.canLay0 (.str w) = true) : d_law_alike [.tup [.str w, .int 0], .tup [.str w, .int 0]] S = some (.d (.bl true), S) :=
  alike_ok 8 (alk_tup (by simp) (alks_cons (alk_str h) (alks_cons alk_int alks_nil)))
end Wk
/-! Hushed hours, by the program and by the law. -/
namespace Wk
open PySem L2 Yi
/-! ### the plain ones -/
def inS (p : Int × Int) (h : Int) : Bool := if p.1 < p.2 then decide (p.1 ≤ h) && decide (h < p.2) else decide (p.1 ≤ h) || decide (h < p.2)
def hush (hs : List (Int × Int)) (t : Nat) : Bool := hs.any fun p => inS p ((t : Int) % 24)
theorem inS_eq {p : Int × Int} {h : Int} (g : 0 ≤ p.1 ∧ p.1 ≤ 23 ∧ 0 ≤ p.2 ∧ p.2 ≤ 23 ∧ p.1 ≠ p.2) (h0 : 0 ≤ h) (h1 : h < 24) : decide ((h - p.1) % 24 < (p.2 - p.1) % 24) = inS p h := by
  obtain ⟨a, b⟩ := p
  obtain ⟨g1, g2, g3, g4, g5⟩ := g
  dsimp only at g1 g2 g3 g4 g5 ⊢
  unfold inS
  dsimp only
  by_cases z : a < b
  · rw [if_pos z, ← Bool.decide_and]
    exact decide_eq_decide.mpr (by omega)
  · rw [if_neg z, ← Bool.decide_or]
    exact decide_eq_decide.mpr (by omega)
theorem filter_ne {α : Type} (P : α → Bool) : ∀ l : List α, (!(l.filter P).isEmpty) = l.any P
  | [] => rfl
  | a :: r => by
    by_cases z : P a = true
    · simp [z]
    · simp only [List.any_cons]
      rw [List.filter_cons_of_neg z, filter_ne P r]
      simp [z]
theorem hush_law {hs : List (Int × Int)} (g : ∀ p ∈ hs, 0 ≤ p.1 ∧ p.1 ≤ 23 ∧ 0 ≤ p.2 ∧ p.2 ≤ 23 ∧ p.1 ≠ p.2) (t : Nat) : (!(hs.filter fun p => decide (((t : Int) % 24 - p.1) % 24 < (p.2 - p.1) % 24)).isEmpty) = hush hs t := by
  rw [filter_ne]
  unfold hush
  rw [Bool.eq_iff_iff, List.any_eq_true, List.any_eq_true]
  have e : ∀ p ∈ hs, decide (((t : Int) % 24 - p.1) % 24 < (p.2 - p.1) % 24) = inS p ((t : Int) % 24) := fun p hp => inS_eq (g p hp) (by omega) (by omega)
  constructor
  · rintro ⟨p, hp, h⟩
    exact ⟨p, hp, by rw [← e p hp]; exact h⟩
  · rintro ⟨p, hp, h⟩
    exact ⟨p, hp, by rw [e p hp]; exact h⟩
def nOD : Option Nat → D
  | none => .non
  | some f => .int f
def free (hs : List (Int × Int)) (t : Nat) : Option Nat := ((List.range' t 24).filter fun i => !hush hs i).head?
theorem idx_head (P : Nat → Bool) : ∀ n a, (idxF (.bl false) ((List.range' a n).map fun i => .bl (P i))).map (a + ·) = ((List.range' a n).filter fun i => !P i).head?
  | 0, a => rfl
  | n + 1, a => by
    rw [List.range'_succ, List.map_cons]
    cases z : P a with
    | false =>
      rw [List.filter_cons_of_pos (by simp [z])]
      rfl
    | true =>
      rw [List.filter_cons_of_neg (by simp [z]), ← idx_head P n (a + 1)]
      have : idxF (.bl false) (.bl true :: (List.range' (a + 1) n).map fun i => .bl (P i)) = (idxF (.bl false) ((List.range' (a + 1) n).map fun i => .bl (P i))).map (· + 1) := rfl
      rw [this, Option.map_map]
      congr 1
      funext j
      show a + (j + 1) = a + 1 + j
      omega
theorem in_bl (P : Nat → Bool) : ∀ l : List Nat, inF (.bl false) (l.map fun i => .bl (P i)) = (idxF (.bl false) (l.map fun i => .bl (P i))).isSome
  | [] => rfl
  | a :: r => by
    have ih := in_bl P r
    cases z : P a with
    | false => simp [inF, idxF, eqF, z]
    | true =>
      have e1 : inF (.bl false) (.bl true :: r.map fun i => .bl (P i)) = inF (.bl false) (r.map fun i => .bl (P i)) := rfl
      have e2 : idxF (.bl false) (.bl true :: r.map fun i => .bl (P i)) = (idxF (.bl false) (r.map fun i => .bl (P i))).map (· + 1) := rfl
      rw [List.map_cons, z, e1, e2, ih, Option.isSome_map]
def cntF (hs : List (Int × Int)) (a n : Nat) : Nat := ((List.range' a n).filter (hush hs)).length
theorem hush_mod (hs : List (Int × Int)) {a b : Nat} (h : a % 24 = b % 24) : hush hs a = hush hs b := by
  unfold hush
  rw [show ((a : Int) % 24) = (b : Int) % 24 by omega]
theorem cntF_add (r : List (Int × Int)) (a n m : Nat) : cntF r a (n + m) = cntF r a n + cntF r (a + n) m := by
  unfold cntF
  rw [← List.range'_append_1, List.filter_append, List.length_append]
theorem cntF_one (r : List (Int × Int)) (a : Nat) : cntF r a 1 = if hush r a = true then 1 else 0 := by
  unfold cntF
  by_cases h : hush r a = true <;> simp [h]
theorem cntF_day (r : List (Int × Int)) : ∀ a, cntF r a 24 = cntF r 0 24
  | 0 => rfl
  | a + 1 => by
    have h1 := cntF_add r a 1 24
    have h2 := cntF_add r a 24 1
    rw [cntF_one] at h1 h2
    rw [show hush r (a + 24) = hush r a from hush_mod r (by omega)] at h2
    have := cntF_day r a
    have e : (1 : Nat) + 24 = 24 + 1 := by omega
    rw [e, h2] at h1
    omega
theorem cntF_days (r : List (Int × Int)) (a : Nat) : ∀ d, cntF r a (24 * d) = d * cntF r 0 24
  | 0 => by rw [Nat.mul_zero, Nat.zero_mul]; rfl
  | d + 1 => by
    have e : 24 * (d + 1) = 24 * d + 24 := by omega
    rw [e, cntF_add, cntF_days r a d, cntF_day r (a + 24 * d), Nat.succ_mul]
theorem cntF_split (r : List (Int × Int)) (a n : Nat) : cntF r a n = n / 24 * cntF r 0 24 + cntF r a (n % 24) := by
  have e : n = 24 * (n / 24) + n % 24 := (Nat.div_add_mod n 24).symm
  have c : cntF r a (n % 24 + 24 * (n / 24)) = cntF r a (n % 24) + cntF r (a + n % 24) (24 * (n / 24)) := cntF_add _ _ _ _
  rw [cntF_days] at c
  have e2 : n % 24 + 24 * (n / 24) = n := by omega
  rw [e2] at c
  omega
/-! ### in the store -/
section
variable {rs : List Rl} {S : Sto} {tb : Bool}
theorem smB {i : Int} (h0 : 0 ≤ i) (h1 : i ≤ 100000000) : smallR i = true := by simp [smallR]; omega
theorem rngI (s n : Nat) : rngL s n = (List.range' s n).map inD := by
  unfold rngL
  rw [List.range'_eq_map_range, List.map_map]
  refine List.map_congr_left fun i _ => ?_
  show D.int _ = D.int _
  congr 1
theorem iR2_nat {a : AM} {ρ : Slt} {x y : Nat} (h : a ρ S = some ([.int (x : Int), .int (y : Int)], S)) (hx : x ≤ 90000000) (hy : y ≤ 90000000) : iR2 a ρ S = some ((List.range' x (y - x)).map inD, S) := by
  have s1 : smallR (x : Int) = true := smB (by omega) (by omega)
  have s2 : smallR (y : Int) = true := smB (by omega) (by omega)
  have ee : ((y : Int) - x).toNat = y - x := by omega
  unfold iR2
  rw [h, Option.bind_some]
  dsimp only
  rw [s1, s2, ee, Bool.and_self, if_pos rfl, rngI]
theorem seq_ok2 {a c : SM} {ρ : Slt} {S : Sto} {Q : Fl × Slt × Sto → Prop} (h : ok (a ρ S) fun p => (p.1 = .nx ∧ ok (c p.2.1 p.2.2) Q) ∨ (p.1 ≠ .nx ∧ Q p)) : ok (sSeq a c ρ S) Q := by
  unfold sSeq
  rw [ok_bind]
  refine h.mono fun ⟨f, ρ', S'⟩ hp => ?_
  rcases hp with ⟨e, q⟩ | ⟨e, q⟩
  · dsimp only at e q
    subst e
    exact q
  · dsimp only at e
    cases f with
    | nx => exact absurd rfl e
    | _ => exact ok_some.mpr q
theorem is_in_ok (q : Int × Int) (h : Int) (S : Sto) : d_is_in [pD q, .int h] S = some (.d (.bl (inS q h)), S) := by
  refine ok.get (den_ok rfl ?_)
  unfold m_is_in
  refine seq_ok ?_
  simp [sNext, sIf, sBreak, sCont, sNever, sExpr, sRet, sRetO, sRetN, sSet, sAsg, gNm, gsNil, gsCons, gT, gL, eD, eV, eBox, eNm, eC, eOp, eUn, aNil, aCons, eTup, eLst, eCB, bV, bAnd, bOr, bNot, eAnd, eOr, eNot, eIf, eChain, eCall, eFld, sFldS, sFldA, eMeth, eMake, bYes, fSub, fLt, fLe, fGt, fGe, fDiv, fMod, fPow, fNeg, fAdd, fMul, fIsN, fNotN, Yi.isNon, fEq, fNe, fIn, fInS, fIx, intR, oNo, oPart, fSl, eSl, eRev, sAppO, sExtO, sAug, oIx, oIn, oEq, sPar, sPar3, sSetIx, eDGet, eDIn, eDGet2, sDPutS, eDPop1, eDPop2, eDNewK, eDNewT, oDGet, oDIn, eBM, mApp, mExt, mPopAt, mIdx, cellL, iEv, iR1, iR2, iC, fLen, oLen, fMax, fMin, fAll, fAny, fSum, fSortI, fList, fTuple, fInt, fStr, fIsi, tyD, isLstD, isStrD, isDD, lstD, seqD, stD, eCallF, nAt, iSt, mJoin, mSplit, fAddI, sStar, iEnS, eSortSet, fSet, eLenSet, insAt, lkp, putD, ok_some, ok_none, ok_bind, ok_map, eq_int, eq_bl, sAsg, kb_NoneType_int, kb_NoneType_bool, kb_NoneType_str, kb_NoneType_tuple, kb_NoneType_list, kb_bool_int, kb_bool_bool, kb_bool_str, kb_bool_tuple, kb_bool_list, kb_int_int, kb_int_bool, kb_int_str, kb_int_tuple, kb_int_list, kb_str_int, kb_str_bool, kb_str_str, kb_str_tuple, kb_str_list, kb_tuple_int, kb_tuple_bool, kb_tuple_str, kb_tuple_tuple, kb_tuple_list, kb_list_int, kb_list_bool, kb_list_str, kb_list_tuple, kb_list_list, sz_0, sz_1, sz_2, sz_3, sz_4, sz_5, sz_6, sz_7, sz_8, sz_9, sz_10, sz_11, sz_12, sz_13, sz_14, sz_15, sz_16, ix_1_0, ix_2_0, ix_2_1, ix_3_0, ix_3_1, ix_3_2, ix_4_0, ix_4_1, ix_4_2, ix_4_3, ix_5_0, ix_5_1, ix_5_2, ix_5_3, ix_5_4, ix_6_0, ix_6_1, ix_6_2, ix_6_3, ix_6_4, ix_6_5, ix_7_0, ix_7_1, ix_7_2, ix_7_3, ix_7_4, ix_7_5, ix_7_6, sI_0, sI_1, sI_48271, sI_69621, pD]
  by_cases z : q.1 < q.2
  · have e1 : inS q h = (decide (q.1 ≤ h) && decide (h < q.2)) := if_pos z
    refine seq_ok2 ?_
    rw [e1]
    by_cases y : q.1 ≤ h
    · simp [sNext, sIf, sBreak, sCont, sNever, sExpr, sRet, sRetO, sRetN, sSet, sAsg, gNm, gsNil, gsCons, gT, gL, eD, eV, eBox, eNm, eC, eOp, eUn, aNil, aCons, eTup, eLst, eCB, bV, bAnd, bOr, bNot, eAnd, eOr, eNot, eIf, eChain, eCall, eFld, sFldS, sFldA, eMeth, eMake, bYes, fSub, fLt, fLe, fGt, fGe, fDiv, fMod, fPow, fNeg, fAdd, fMul, fIsN, fNotN, Yi.isNon, fEq, fNe, fIn, fInS, fIx, intR, oNo, oPart, fSl, eSl, eRev, sAppO, sExtO, sAug, oIx, oIn, oEq, sPar, sPar3, sSetIx, eDGet, eDIn, eDGet2, sDPutS, eDPop1, eDPop2, eDNewK, eDNewT, oDGet, oDIn, eBM, mApp, mExt, mPopAt, mIdx, cellL, iEv, iR1, iR2, iC, fLen, oLen, fMax, fMin, fAll, fAny, fSum, fSortI, fList, fTuple, fInt, fStr, fIsi, tyD, isLstD, isStrD, isDD, lstD, seqD, stD, eCallF, nAt, iSt, mJoin, mSplit, fAddI, sStar, iEnS, eSortSet, fSet, eLenSet, insAt, lkp, putD, ok_some, ok_none, ok_bind, ok_map, eq_int, eq_bl, sAsg, kb_NoneType_int, kb_NoneType_bool, kb_NoneType_str, kb_NoneType_tuple, kb_NoneType_list, kb_bool_int, kb_bool_bool, kb_bool_str, kb_bool_tuple, kb_bool_list, kb_int_int, kb_int_bool, kb_int_str, kb_int_tuple, kb_int_list, kb_str_int, kb_str_bool, kb_str_str, kb_str_tuple, kb_str_list, kb_tuple_int, kb_tuple_bool, kb_tuple_str, kb_tuple_tuple, kb_tuple_list, kb_list_int, kb_list_bool, kb_list_str, kb_list_tuple, kb_list_list, sz_0, sz_1, sz_2, sz_3, sz_4, sz_5, sz_6, sz_7, sz_8, sz_9, sz_10, sz_11, sz_12, sz_13, sz_14, sz_15, sz_16, ix_1_0, ix_2_0, ix_2_1, ix_3_0, ix_3_1, ix_3_2, ix_4_0, ix_4_1, ix_4_2, ix_4_3, ix_5_0, ix_5_1, ix_5_2, ix_5_3, ix_5_4, ix_6_0, ix_6_1, ix_6_2, ix_6_3, ix_6_4, ix_6_5, ix_7_0, ix_7_1, ix_7_2, ix_7_3, ix_7_4, ix_7_5, ix_7_6, sI_0, sI_1, sI_48271, sI_69621, z, y]
    · simp [sNext, sIf, sBreak, sCont, sNever, sExpr, sRet, sRetO, sRetN, sSet, sAsg, gNm, gsNil, gsCons, gT, gL, eD, eV, eBox, eNm, eC, eOp, eUn, aNil, aCons, eTup, eLst, eCB, bV, bAnd, bOr, bNot, eAnd, eOr, eNot, eIf, eChain, eCall, eFld, sFldS, sFldA, eMeth, eMake, bYes, fSub, fLt, fLe, fGt, fGe, fDiv, fMod, fPow, fNeg, fAdd, fMul, fIsN, fNotN, Yi.isNon, fEq, fNe, fIn, fInS, fIx, intR, oNo, oPart, fSl, eSl, eRev, sAppO, sExtO, sAug, oIx, oIn, oEq, sPar, sPar3, sSetIx, eDGet, eDIn, eDGet2, sDPutS, eDPop1, eDPop2, eDNewK, eDNewT, oDGet, oDIn, eBM, mApp, mExt, mPopAt, mIdx, cellL, iEv, iR1, iR2, iC, fLen, oLen, fMax, fMin, fAll, fAny, fSum, fSortI, fList, fTuple, fInt, fStr, fIsi, tyD, isLstD, isStrD, isDD, lstD, seqD, stD, eCallF, nAt, iSt, mJoin, mSplit, fAddI, sStar, iEnS, eSortSet, fSet, eLenSet, insAt, lkp, putD, ok_some, ok_none, ok_bind, ok_map, eq_int, eq_bl, sAsg, kb_NoneType_int, kb_NoneType_bool, kb_NoneType_str, kb_NoneType_tuple, kb_NoneType_list, kb_bool_int, kb_bool_bool, kb_bool_str, kb_bool_tuple, kb_bool_list, kb_int_int, kb_int_bool, kb_int_str, kb_int_tuple, kb_int_list, kb_str_int, kb_str_bool, kb_str_str, kb_str_tuple, kb_str_list, kb_tuple_int, kb_tuple_bool, kb_tuple_str, kb_tuple_tuple, kb_tuple_list, kb_list_int, kb_list_bool, kb_list_str, kb_list_tuple, kb_list_list, sz_0, sz_1, sz_2, sz_3, sz_4, sz_5, sz_6, sz_7, sz_8, sz_9, sz_10, sz_11, sz_12, sz_13, sz_14, sz_15, sz_16, ix_1_0, ix_2_0, ix_2_1, ix_3_0, ix_3_1, ix_3_2, ix_4_0, ix_4_1, ix_4_2, ix_4_3, ix_5_0, ix_5_1, ix_5_2, ix_5_3, ix_5_4, ix_6_0, ix_6_1, ix_6_2, ix_6_3, ix_6_4, ix_6_5, ix_7_0, ix_7_1, ix_7_2, ix_7_3, ix_7_4, ix_7_5, ix_7_6, sI_0, sI_1, sI_48271, sI_69621, z, y]
  · have e1 : inS q h = (decide (q.1 ≤ h) || decide (h < q.2)) := if_neg z
    refine seq_ok2 ?_
    rw [e1]
    by_cases y : q.1 ≤ h
    · simp [sNext, sIf, sBreak, sCont, sNever, sExpr, sRet, sRetO, sRetN, sSet, sAsg, gNm, gsNil, gsCons, gT, gL, eD, eV, eBox, eNm, eC, eOp, eUn, aNil, aCons, eTup, eLst, eCB, bV, bAnd, bOr, bNot, eAnd, eOr, eNot, eIf, eChain, eCall, eFld, sFldS, sFldA, eMeth, eMake, bYes, fSub, fLt, fLe, fGt, fGe, fDiv, fMod, fPow, fNeg, fAdd, fMul, fIsN, fNotN, Yi.isNon, fEq, fNe, fIn, fInS, fIx, intR, oNo, oPart, fSl, eSl, eRev, sAppO, sExtO, sAug, oIx, oIn, oEq, sPar, sPar3, sSetIx, eDGet, eDIn, eDGet2, sDPutS, eDPop1, eDPop2, eDNewK, eDNewT, oDGet, oDIn, eBM, mApp, mExt, mPopAt, mIdx, cellL, iEv, iR1, iR2, iC, fLen, oLen, fMax, fMin, fAll, fAny, fSum, fSortI, fList, fTuple, fInt, fStr, fIsi, tyD, isLstD, isStrD, isDD, lstD, seqD, stD, eCallF, nAt, iSt, mJoin, mSplit, fAddI, sStar, iEnS, eSortSet, fSet, eLenSet, insAt, lkp, putD, ok_some, ok_none, ok_bind, ok_map, eq_int, eq_bl, sAsg, kb_NoneType_int, kb_NoneType_bool, kb_NoneType_str, kb_NoneType_tuple, kb_NoneType_list, kb_bool_int, kb_bool_bool, kb_bool_str, kb_bool_tuple, kb_bool_list, kb_int_int, kb_int_bool, kb_int_str, kb_int_tuple, kb_int_list, kb_str_int, kb_str_bool, kb_str_str, kb_str_tuple, kb_str_list, kb_tuple_int, kb_tuple_bool, kb_tuple_str, kb_tuple_tuple, kb_tuple_list, kb_list_int, kb_list_bool, kb_list_str, kb_list_tuple, kb_list_list, sz_0, sz_1, sz_2, sz_3, sz_4, sz_5, sz_6, sz_7, sz_8, sz_9, sz_10, sz_11, sz_12, sz_13, sz_14, sz_15, sz_16, ix_1_0, ix_2_0, ix_2_1, ix_3_0, ix_3_1, ix_3_2, ix_4_0, ix_4_1, ix_4_2, ix_4_3, ix_5_0, ix_5_1, ix_5_2, ix_5_3, ix_5_4, ix_6_0, ix_6_1, ix_6_2, ix_6_3, ix_6_4, ix_6_5, ix_7_0, ix_7_1, ix_7_2, ix_7_3, ix_7_4, ix_7_5, ix_7_6, sI_0, sI_1, sI_48271, sI_69621, z, y]
    · simp [sNext, sIf, sBreak, sCont, sNever, sExpr, sRet, sRetO, sRetN, sSet, sAsg, gNm, gsNil, gsCons, gT, gL, eD, eV, eBox, eNm, eC, eOp, eUn, aNil, aCons, eTup, eLst, eCB, bV, bAnd, bOr, bNot, eAnd, eOr, eNot, eIf, eChain, eCall, eFld, sFldS, sFldA, eMeth, eMake, bYes, fSub, fLt, fLe, fGt, fGe, fDiv, fMod, fPow, fNeg, fAdd, fMul, fIsN, fNotN, Yi.isNon, fEq, fNe, fIn, fInS, fIx, intR, oNo, oPart, fSl, eSl, eRev, sAppO, sExtO, sAug, oIx, oIn, oEq, sPar, sPar3, sSetIx, eDGet, eDIn, eDGet2, sDPutS, eDPop1, eDPop2, eDNewK, eDNewT, oDGet, oDIn, eBM, mApp, mExt, mPopAt, mIdx, cellL, iEv, iR1, iR2, iC, fLen, oLen, fMax, fMin, fAll, fAny, fSum, fSortI, fList, fTuple, fInt, fStr, fIsi, tyD, isLstD, isStrD, isDD, lstD, seqD, stD, eCallF, nAt, iSt, mJoin, mSplit, fAddI, sStar, iEnS, eSortSet, fSet, eLenSet, insAt, lkp, putD, ok_some, ok_none, ok_bind, ok_map, eq_int, eq_bl, sAsg, kb_NoneType_int, kb_NoneType_bool, kb_NoneType_str, kb_NoneType_tuple, kb_NoneType_list, kb_bool_int, kb_bool_bool, kb_bool_str, kb_bool_tuple, kb_bool_list, kb_int_int, kb_int_bool, kb_int_str, kb_int_tuple, kb_int_list, kb_str_int, kb_str_bool, kb_str_str, kb_str_tuple, kb_str_list, kb_tuple_int, kb_tuple_bool, kb_tuple_str, kb_tuple_tuple, kb_tuple_list, kb_list_int, kb_list_bool, kb_list_str, kb_list_tuple, kb_list_list, sz_0, sz_1, sz_2, sz_3, sz_4, sz_5, sz_6, sz_7, sz_8, sz_9, sz_10, sz_11, sz_12, sz_13, sz_14, sz_15, sz_16, ix_1_0, ix_2_0, ix_2_1, ix_3_0, ix_3_1, ix_3_2, ix_4_0, ix_4_1, ix_4_2, ix_4_3, ix_5_0, ix_5_1, ix_5_2, ix_5_3, ix_5_4, ix_6_0, ix_6_1, ix_6_2, ix_6_3, ix_6_4, ix_6_5, ix_7_0, ix_7_1, ix_7_2, ix_7_3, ix_7_4, ix_7_5, ix_7_6, sI_0, sI_1, sI_48271, sI_69621, z, y]
theorem bls_any : ∀ (l : List (Int × Int)) (h : Int), blsD (l.map fun q => .bl (inS q h)) = some (l.map fun q => inS q h)
  | [], _ => rfl
  | q :: r, h => by
    show (blsD (r.map fun q => .bl (inS q h))).map _ = _
    rw [bls_any r h]
    rfl
theorem filt_t {α : Type} (l : List α) : l.filter (fun _ => true) = l := List.filter_eq_self.mpr fun _ _ => rfl
theorem hush_at_ok {r : Rl} (hr : r.hs.length ≤ 1000) (t : Nat) (S : Sto) : d_hush_at [rD r, .int t] S = some (.d (.bl (hush r.hs t)), S) := by
  have lc : eLc (iEv (eOp fIx (eNm 0) (eC (.int 0)))) (gNm 2) bYes (eCall d_is_in (aCons (eNm 2) (aCons (eOp fMod (eNm 1) (eC (.int 24))) aNil)) []) [2] [some (.d (rD r)), some (.d (.int t)), none] S = some (.own (.lst (r.hs.map fun q => .bl (inS q ((t : Int) % 24)))), S) := by
    have e := lc_fm (i := iEv (eOp fIx (eNm 0) (eC (.int 0)))) (gt := gNm 2) (c := bYes) (m := eCall d_is_in (aCons (eNm 2) (aCons (eOp fMod (eNm 1) (eC (.int 24))) aNil)) []) (vs := [2]) (ρ := [some (.d (rD r)), some (.d (.int t)), none]) (S := S) (S1 := S) (r := pD) (fun _ => true) (fun q => .bl (inS q ((t : Int) % 24))) (l := r.hs) rfl (by omega) fun q _ => ?_
    · rw [e, filt_t]
    · refine ⟨_, rfl, rfl, fun _ => ok.get ?_⟩
      have ii := is_in_ok q ((t : Int) % 24) S
      simp [sNext, sIf, sBreak, sCont, sNever, sExpr, sRet, sRetO, sRetN, sSet, sAsg, gNm, gsNil, gsCons, gT, gL, eD, eV, eBox, eNm, eC, eOp, eUn, aNil, aCons, eTup, eLst, eCB, bV, bAnd, bOr, bNot, eAnd, eOr, eNot, eIf, eChain, eCall, eFld, sFldS, sFldA, eMeth, eMake, bYes, fSub, fLt, fLe, fGt, fGe, fDiv, fMod, fPow, fNeg, fAdd, fMul, fIsN, fNotN, Yi.isNon, fEq, fNe, fIn, fInS, fIx, intR, oNo, oPart, fSl, eSl, eRev, sAppO, sExtO, sAug, oIx, oIn, oEq, sPar, sPar3, sSetIx, eDGet, eDIn, eDGet2, sDPutS, eDPop1, eDPop2, eDNewK, eDNewT, oDGet, oDIn, eBM, mApp, mExt, mPopAt, mIdx, cellL, iEv, iR1, iR2, iC, fLen, oLen, fMax, fMin, fAll, fAny, fSum, fSortI, fList, fTuple, fInt, fStr, fIsi, tyD, isLstD, isStrD, isDD, lstD, seqD, stD, eCallF, nAt, iSt, mJoin, mSplit, fAddI, sStar, iEnS, eSortSet, fSet, eLenSet, insAt, lkp, putD, ok_some, ok_none, ok_bind, ok_map, eq_int, eq_bl, sAsg, kb_NoneType_int, kb_NoneType_bool, kb_NoneType_str, kb_NoneType_tuple, kb_NoneType_list, kb_bool_int, kb_bool_bool, kb_bool_str, kb_bool_tuple, kb_bool_list, kb_int_int, kb_int_bool, kb_int_str, kb_int_tuple, kb_int_list, kb_str_int, kb_str_bool, kb_str_str, kb_str_tuple, kb_str_list, kb_tuple_int, kb_tuple_bool, kb_tuple_str, kb_tuple_tuple, kb_tuple_list, kb_list_int, kb_list_bool, kb_list_str, kb_list_tuple, kb_list_list, sz_0, sz_1, sz_2, sz_3, sz_4, sz_5, sz_6, sz_7, sz_8, sz_9, sz_10, sz_11, sz_12, sz_13, sz_14, sz_15, sz_16, ix_1_0, ix_2_0, ix_2_1, ix_3_0, ix_3_1, ix_3_2, ix_4_0, ix_4_1, ix_4_2, ix_4_3, ix_5_0, ix_5_1, ix_5_2, ix_5_3, ix_5_4, ix_6_0, ix_6_1, ix_6_2, ix_6_3, ix_6_4, ix_6_5, ix_7_0, ix_7_1, ix_7_2, ix_7_3, ix_7_4, ix_7_5, ix_7_6, sI_0, sI_1, sI_48271, sI_69621, wipeS, ii]
  refine ok.get (den_ok rfl ?_)
  unfold m_hush_at
  have e2 : (r.hs.map fun q => inS q ((t : Int) % 24)).any id = hush r.hs t := by
    unfold hush
    rw [List.any_map]
    rfl
  simp only [List.any_map] at e2
  simp [sNext, sIf, sBreak, sCont, sNever, sExpr, sRet, sRetO, sRetN, sSet, sAsg, gNm, gsNil, gsCons, gT, gL, eD, eV, eBox, eNm, eC, eOp, eUn, aNil, aCons, eTup, eLst, eCB, bV, bAnd, bOr, bNot, eAnd, eOr, eNot, eIf, eChain, eCall, eFld, sFldS, sFldA, eMeth, eMake, bYes, fSub, fLt, fLe, fGt, fGe, fDiv, fPow, fNeg, fAdd, fMul, fIsN, fNotN, Yi.isNon, fEq, fNe, fIn, fInS, fIx, intR, oNo, oPart, fSl, eSl, eRev, sAppO, sExtO, sAug, oIx, oIn, oEq, sPar, sPar3, sSetIx, eDGet, eDIn, eDGet2, sDPutS, eDPop1, eDPop2, eDNewK, eDNewT, oDGet, oDIn, eBM, mApp, mExt, mPopAt, mIdx, cellL, iEv, iR1, iR2, iC, fLen, oLen, fMax, fMin, fAll, fAny, fSum, fSortI, fList, fTuple, fInt, fStr, fIsi, tyD, isLstD, isStrD, isDD, lstD, seqD, stD, eCallF, nAt, iSt, mJoin, mSplit, fAddI, sStar, iEnS, eSortSet, fSet, eLenSet, insAt, lkp, putD, ok_some, ok_none, ok_bind, ok_map, eq_int, eq_bl, sAsg, kb_NoneType_int, kb_NoneType_bool, kb_NoneType_str, kb_NoneType_tuple, kb_NoneType_list, kb_bool_int, kb_bool_bool, kb_bool_str, kb_bool_tuple, kb_bool_list, kb_int_int, kb_int_bool, kb_int_str, kb_int_tuple, kb_int_list, kb_str_int, kb_str_bool, kb_str_str, kb_str_tuple, kb_str_list, kb_tuple_int, kb_tuple_bool, kb_tuple_str, kb_tuple_tuple, kb_tuple_list, kb_list_int, kb_list_bool, kb_list_str, kb_list_tuple, kb_list_list, sz_0, sz_1, sz_2, sz_3, sz_4, sz_5, sz_6, sz_7, sz_8, sz_9, sz_10, sz_11, sz_12, sz_13, sz_14, sz_15, sz_16, ix_1_0, ix_2_0, ix_2_1, ix_3_0, ix_3_1, ix_3_2, ix_4_0, ix_4_1, ix_4_2, ix_4_3, ix_5_0, ix_5_1, ix_5_2, ix_5_3, ix_5_4, ix_6_0, ix_6_1, ix_6_2, ix_6_3, ix_6_4, ix_6_5, ix_7_0, ix_7_1, ix_7_2, ix_7_3, ix_7_4, ix_7_5, ix_7_6, sI_0, sI_1, sI_48271, sI_69621, lc, bls_any]
  exact e2
theorem ints_nil (l : List Nat) (S : Sto) : eqD (.fl (l.map inD)) (.fl []) S = some l.isEmpty := by
  rw [eq_nilL (x := .fl (l.map inD)) (ps := l.map fun n : Nat => .int (n : Int)) rfl (shps_map fun a _ => by simp only [inD, shp])]
  cases l <;> rfl
theorem free_at_ok {r : Rl} (hr : r.hs.length ≤ 1000) {t : Nat} (ht : t ≤ 1000000) (S : Sto) : d_free_at [rD r, .int t] S = some (.d (nOD (free r.hs t)), S) := by
  have lc : eLc (iR2 (aCons (eNm 1) (aCons (eOp fAdd (eNm 1) (eC (.int 24))) aNil))) (gNm 3) (bNot (bV (eCall d_hush_at (aCons (eNm 0) (aCons (eNm 3) aNil)) []))) (eNm 3) [3] [some (.d (rD r)), some (.d (.int t)), none, none] S = some (.own (.lst (((List.range' t 24).filter fun i => !hush r.hs i).map inD)), S) := by
    refine lc_fm (r := inD) (fun i => !hush r.hs i) inD (l := List.range' t 24) ?_ (by simp) fun q hq => ⟨_, rfl, ?_, fun _ => rfl⟩
    · rw [iR2_nat (x := t) (y := t + 24) (S := S) rfl (by omega) (by omega), Nat.add_sub_cancel_left]
    · exact not_eq (bV_eq ((call_eq (cons_eq (eD_some (nm_eq rfl)) (cons_eq (eD_some (nm_eq rfl)) nil_eq))).trans (hush_at_ok hr q S)))
  unfold free
  generalize ((List.range' t 24).filter fun i => !hush r.hs i) = l at lc
  have ne := ints_nil l S
  refine ok.get (den_ok rfl ?_)
  unfold m_free_at
  have s1 : sSet 2 (eV (eD (eLc (iR2 (aCons (eNm 1) (aCons (eOp fAdd (eNm 1) (eC (.int 24))) aNil))) (gNm 3) (bNot (bV (eCall d_hush_at (aCons (eNm 0) (aCons (eNm 3) aNil)) []))) (eNm 3) [3]))) [some (.d (rD r)), some (.d (.int t)), none, none] S = some (.nx, [some (.d (rD r)), some (.d (.int t)), some (.d (.fl (l.map inD))), none], S) := by
    refine ok.get ?_
    simp [sNext, sIf, sBreak, sCont, sNever, sExpr, sRet, sRetO, sRetN, sSet, sAsg, gNm, gsNil, gsCons, gT, gL, eD, eV, eBox, eNm, eC, eOp, eUn, aNil, aCons, eTup, eLst, eCB, bV, bAnd, bOr, bNot, eAnd, eOr, eNot, eIf, eChain, eCall, eFld, sFldS, sFldA, eMeth, eMake, bYes, fSub, fLt, fLe, fGt, fGe, fDiv, fMod, fPow, fNeg, fMul, fIsN, fNotN, Yi.isNon, fEq, fNe, fIn, fInS, fIx, intR, oNo, oPart, fSl, eSl, eRev, sAppO, sExtO, sAug, oIx, oIn, oEq, sPar, sPar3, sSetIx, eDGet, eDIn, eDGet2, sDPutS, eDPop1, eDPop2, eDNewK, eDNewT, oDGet, oDIn, eBM, mApp, mExt, mPopAt, mIdx, cellL, iEv, iR1, iC, fLen, oLen, fMax, fMin, fAll, fAny, fSum, fSortI, fList, fTuple, fInt, fStr, fIsi, tyD, isLstD, isStrD, isDD, lstD, seqD, stD, eCallF, nAt, iSt, mJoin, mSplit, fAddI, sStar, iEnS, eSortSet, fSet, eLenSet, insAt, lkp, putD, ok_some, ok_none, ok_bind, ok_map, eq_int, eq_bl, sAsg, kb_NoneType_int, kb_NoneType_bool, kb_NoneType_str, kb_NoneType_tuple, kb_NoneType_list, kb_bool_int, kb_bool_bool, kb_bool_str, kb_bool_tuple, kb_bool_list, kb_int_int, kb_int_bool, kb_int_str, kb_int_tuple, kb_int_list, kb_str_int, kb_str_bool, kb_str_str, kb_str_tuple, kb_str_list, kb_tuple_int, kb_tuple_bool, kb_tuple_str, kb_tuple_tuple, kb_tuple_list, kb_list_int, kb_list_bool, kb_list_str, kb_list_tuple, kb_list_list, sz_0, sz_1, sz_2, sz_3, sz_4, sz_5, sz_6, sz_7, sz_8, sz_9, sz_10, sz_11, sz_12, sz_13, sz_14, sz_15, sz_16, ix_1_0, ix_2_0, ix_2_1, ix_3_0, ix_3_1, ix_3_2, ix_4_0, ix_4_1, ix_4_2, ix_4_3, ix_5_0, ix_5_1, ix_5_2, ix_5_3, ix_5_4, ix_6_0, ix_6_1, ix_6_2, ix_6_3, ix_6_4, ix_6_5, ix_7_0, ix_7_1, ix_7_2, ix_7_3, ix_7_4, ix_7_5, ix_7_6, sI_0, sI_1, sI_48271, sI_69621, lc]
  refine seq_ok ((ok_eq s1).mpr ⟨rfl, ?_⟩)
  cases l with
  | nil =>
    simp only [List.map_nil, List.isEmpty_nil] at ne
    simp [sNext, sIf, sBreak, sCont, sNever, sExpr, sRet, sRetO, sRetN, sSet, sAsg, gNm, gsNil, gsCons, gT, gL, eD, eV, eBox, eNm, eC, eOp, eUn, aNil, aCons, eTup, eLst, eCB, bV, bAnd, bOr, bNot, eAnd, eOr, eNot, eIf, eChain, eCall, eFld, sFldS, sFldA, eMeth, eMake, bYes, fSub, fLt, fLe, fGt, fGe, fDiv, fMod, fPow, fNeg, fAdd, fMul, fIsN, fNotN, Yi.isNon, fEq, fNe, fIn, fInS, fIx, intR, oNo, oPart, fSl, eSl, eRev, sAppO, sExtO, sAug, oIx, oIn, oEq, sPar, sPar3, sSetIx, eDGet, eDIn, eDGet2, sDPutS, eDPop1, eDPop2, eDNewK, eDNewT, oDGet, oDIn, eBM, mApp, mExt, mPopAt, mIdx, cellL, iEv, iR1, iR2, iC, fLen, oLen, fMax, fMin, fAll, fAny, fSum, fSortI, fList, fTuple, fInt, fStr, fIsi, tyD, isLstD, isStrD, isDD, lstD, seqD, stD, eCallF, nAt, iSt, mJoin, mSplit, fAddI, sStar, iEnS, eSortSet, fSet, eLenSet, insAt, lkp, putD, ok_some, ok_none, ok_bind, ok_map, eq_int, eq_bl, sAsg, kb_NoneType_int, kb_NoneType_bool, kb_NoneType_str, kb_NoneType_tuple, kb_NoneType_list, kb_bool_int, kb_bool_bool, kb_bool_str, kb_bool_tuple, kb_bool_list, kb_int_int, kb_int_bool, kb_int_str, kb_int_tuple, kb_int_list, kb_str_int, kb_str_bool, kb_str_str, kb_str_tuple, kb_str_list, kb_tuple_int, kb_tuple_bool, kb_tuple_str, kb_tuple_tuple, kb_tuple_list, kb_list_int, kb_list_bool, kb_list_str, kb_list_tuple, kb_list_list, sz_0, sz_1, sz_2, sz_3, sz_4, sz_5, sz_6, sz_7, sz_8, sz_9, sz_10, sz_11, sz_12, sz_13, sz_14, sz_15, sz_16, ix_1_0, ix_2_0, ix_2_1, ix_3_0, ix_3_1, ix_3_2, ix_4_0, ix_4_1, ix_4_2, ix_4_3, ix_5_0, ix_5_1, ix_5_2, ix_5_3, ix_5_4, ix_6_0, ix_6_1, ix_6_2, ix_6_3, ix_6_4, ix_6_5, ix_7_0, ix_7_1, ix_7_2, ix_7_3, ix_7_4, ix_7_5, ix_7_6, sI_0, sI_1, sI_48271, sI_69621, ne, nOD]
  | cons x r' =>
    simp only [List.map_cons, inD, List.isEmpty_cons] at ne
    simp [sNext, sIf, sBreak, sCont, sNever, sExpr, sRet, sRetO, sRetN, sSet, sAsg, gNm, gsNil, gsCons, gT, gL, eD, eV, eBox, eNm, eC, eOp, eUn, aNil, aCons, eTup, eLst, eCB, bV, bAnd, bOr, bNot, eAnd, eOr, eNot, eIf, eChain, eCall, eFld, sFldS, sFldA, eMeth, eMake, bYes, fSub, fLt, fLe, fGt, fGe, fDiv, fMod, fPow, fNeg, fAdd, fMul, fIsN, fNotN, Yi.isNon, fEq, fNe, fIn, fInS, fIx, intR, oNo, oPart, fSl, eSl, eRev, sAppO, sExtO, sAug, oIx, oIn, oEq, sPar, sPar3, sSetIx, eDGet, eDIn, eDGet2, sDPutS, eDPop1, eDPop2, eDNewK, eDNewT, oDGet, oDIn, eBM, mApp, mExt, mPopAt, mIdx, cellL, iEv, iR1, iR2, iC, fLen, oLen, fMax, fMin, fAll, fAny, fSum, fSortI, fList, fTuple, fInt, fStr, fIsi, tyD, isLstD, isStrD, isDD, lstD, seqD, stD, eCallF, nAt, iSt, mJoin, mSplit, fAddI, sStar, iEnS, eSortSet, fSet, eLenSet, insAt, lkp, putD, ok_some, ok_none, ok_bind, ok_map, eq_int, eq_bl, sAsg, kb_NoneType_int, kb_NoneType_bool, kb_NoneType_str, kb_NoneType_tuple, kb_NoneType_list, kb_bool_int, kb_bool_bool, kb_bool_str, kb_bool_tuple, kb_bool_list, kb_int_int, kb_int_bool, kb_int_str, kb_int_tuple, kb_int_list, kb_str_int, kb_str_bool, kb_str_str, kb_str_tuple, kb_str_list, kb_tuple_int, kb_tuple_bool, kb_tuple_str, kb_tuple_tuple, kb_tuple_list, kb_list_int, kb_list_bool, kb_list_str, kb_list_tuple, kb_list_list, sz_0, sz_1, sz_2, sz_3, sz_4, sz_5, sz_6, sz_7, sz_8, sz_9, sz_10, sz_11, sz_12, sz_13, sz_14, sz_15, sz_16, ix_1_0, ix_2_0, ix_2_1, ix_3_0, ix_3_1, ix_3_2, ix_4_0, ix_4_1, ix_4_2, ix_4_3, ix_5_0, ix_5_1, ix_5_2, ix_5_3, ix_5_4, ix_6_0, ix_6_1, ix_6_2, ix_6_3, ix_6_4, ix_6_5, ix_7_0, ix_7_1, ix_7_2, ix_7_3, ix_7_4, ix_7_5, ix_7_6, sI_0, sI_1, sI_48271, sI_69621, ne, nOD, inD, atI]
    have : ixN (r'.length + 1) 0 = some 0 := ix0 (by omega)
    simp [this, ok_some]
end
end Wk
/-! is_hushed, free_from, hushed_between: what they tell, and when they refuse. -/
namespace Wk
open PySem L2 Yi
section
variable {rs : List Rl} {S : Sto} {tb : Bool}
theorem hs_len (h : GoodRs rs) {p : Nat} (hp : p < rs.length) : rs[p].hs.length ≤ 1000 := by
  have := (h.g _ (List.getElem_mem hp)).hl
  omega
theorem need_moment_ok {t : Nat} (ht : t ≤ 1000000) : d_need_moment [.int t] S = some (.d .non, S) := by
  have q := is_number_ok t 0 1000000 S
  rw [decide_eq_true (by omega), decide_eq_true (by omega)] at q
  refine ok.get (den_ok rfl ?_)
  unfold m_need_moment
  simp [sNext, sIf, sBreak, sCont, sNever, sExpr, sRet, sRetO, sRetN, sSet, sAsg, gNm, gsNil, gsCons, gT, gL, eD, eV, eBox, eNm, eC, eOp, eUn, aNil, aCons, eTup, eLst, eCB, bV, bAnd, bOr, bNot, eAnd, eOr, eNot, eIf, eChain, eCall, eFld, sFldS, sFldA, eMeth, eMake, bYes, fSub, fLt, fLe, fGt, fGe, fDiv, fMod, fPow, fNeg, fAdd, fMul, fIsN, fNotN, Yi.isNon, fEq, fNe, fIn, fInS, fIx, intR, oNo, oPart, fSl, eSl, eRev, sAppO, sExtO, sAug, oIx, oIn, oEq, sPar, sPar3, sSetIx, eDGet, eDIn, eDGet2, sDPutS, eDPop1, eDPop2, eDNewK, eDNewT, oDGet, oDIn, eBM, mApp, mExt, mPopAt, mIdx, cellL, iEv, iR1, iR2, iC, fLen, oLen, fMax, fMin, fAll, fAny, fSum, fSortI, fList, fTuple, fInt, fStr, fIsi, tyD, isLstD, isStrD, isDD, lstD, seqD, stD, eCallF, nAt, iSt, mJoin, mSplit, fAddI, sStar, iEnS, eSortSet, fSet, eLenSet, insAt, lkp, putD, ok_some, ok_none, ok_bind, ok_map, eq_int, eq_bl, sAsg, kb_NoneType_int, kb_NoneType_bool, kb_NoneType_str, kb_NoneType_tuple, kb_NoneType_list, kb_bool_int, kb_bool_bool, kb_bool_str, kb_bool_tuple, kb_bool_list, kb_int_int, kb_int_bool, kb_int_str, kb_int_tuple, kb_int_list, kb_str_int, kb_str_bool, kb_str_str, kb_str_tuple, kb_str_list, kb_tuple_int, kb_tuple_bool, kb_tuple_str, kb_tuple_tuple, kb_tuple_list, kb_list_int, kb_list_bool, kb_list_str, kb_list_tuple, kb_list_list, sz_0, sz_1, sz_2, sz_3, sz_4, sz_5, sz_6, sz_7, sz_8, sz_9, sz_10, sz_11, sz_12, sz_13, sz_14, sz_15, sz_16, ix_1_0, ix_2_0, ix_2_1, ix_3_0, ix_3_1, ix_3_2, ix_4_0, ix_4_1, ix_4_2, ix_4_3, ix_5_0, ix_5_1, ix_5_2, ix_5_3, ix_5_4, ix_6_0, ix_6_1, ix_6_2, ix_6_3, ix_6_4, ix_6_5, ix_7_0, ix_7_1, ix_7_2, ix_7_3, ix_7_4, ix_7_5, ix_7_6, sI_0, sI_1, sI_48271, sI_69621, q]
theorem moment_bad {x : D} (hx : NoNum 1000000 x) : dx_need_moment [x] S = some (.inr (⟨3, []⟩, S)) := by
  have q := no_num hx S
  refine denX_ex rfl ?_
  have c : bNot (bV (eCall d_is_number (aCons (eNm 0) (aCons (eC (.int 0)) (aCons (eC (.int 1000000)) aNil))) [])) [some (.d x)] S = some (true, S) := by
    refine ok.get ?_
    simp [sNext, sIf, sBreak, sCont, sNever, sExpr, sRet, sRetO, sRetN, sSet, sAsg, gNm, gsNil, gsCons, gT, gL, eD, eV, eBox, eNm, eC, eOp, eUn, aNil, aCons, eTup, eLst, eCB, bV, bAnd, bOr, bNot, eAnd, eOr, eNot, eIf, eChain, eCall, eFld, sFldS, sFldA, eMeth, eMake, bYes, fSub, fLt, fLe, fGt, fGe, fDiv, fMod, fPow, fNeg, fAdd, fMul, fIsN, fNotN, Yi.isNon, fEq, fNe, fIn, fInS, fIx, intR, oNo, oPart, fSl, eSl, eRev, sAppO, sExtO, sAug, oIx, oIn, oEq, sPar, sPar3, sSetIx, eDGet, eDIn, eDGet2, sDPutS, eDPop1, eDPop2, eDNewK, eDNewT, oDGet, oDIn, eBM, mApp, mExt, mPopAt, mIdx, cellL, iEv, iR1, iR2, iC, fLen, oLen, fMax, fMin, fAll, fAny, fSum, fSortI, fList, fTuple, fInt, fStr, fIsi, tyD, isLstD, isStrD, isDD, lstD, seqD, stD, eCallF, nAt, iSt, mJoin, mSplit, fAddI, sStar, iEnS, eSortSet, fSet, eLenSet, insAt, lkp, putD, ok_some, ok_none, ok_bind, ok_map, eq_int, eq_bl, sAsg, kb_NoneType_int, kb_NoneType_bool, kb_NoneType_str, kb_NoneType_tuple, kb_NoneType_list, kb_bool_int, kb_bool_bool, kb_bool_str, kb_bool_tuple, kb_bool_list, kb_int_int, kb_int_bool, kb_int_str, kb_int_tuple, kb_int_list, kb_str_int, kb_str_bool, kb_str_str, kb_str_tuple, kb_str_list, kb_tuple_int, kb_tuple_bool, kb_tuple_str, kb_tuple_tuple, kb_tuple_list, kb_list_int, kb_list_bool, kb_list_str, kb_list_tuple, kb_list_list, sz_0, sz_1, sz_2, sz_3, sz_4, sz_5, sz_6, sz_7, sz_8, sz_9, sz_10, sz_11, sz_12, sz_13, sz_14, sz_15, sz_16, ix_1_0, ix_2_0, ix_2_1, ix_3_0, ix_3_1, ix_3_2, ix_4_0, ix_4_1, ix_4_2, ix_4_3, ix_5_0, ix_5_1, ix_5_2, ix_5_3, ix_5_4, ix_6_0, ix_6_1, ix_6_2, ix_6_3, ix_6_4, ix_6_5, ix_7_0, ix_7_1, ix_7_2, ix_7_3, ix_7_4, ix_7_5, ix_7_6, sI_0, sI_1, sI_48271, sI_69621, q]
  show x_need_moment [some (.d x)] S = _
  unfold x_need_moment
  rw [xif_t c]
  rfl
theorem moment_okX {t : Nat} (ht : t ≤ 1000000) : dx_need_moment [.int t] S = some (.inl (.d .non, S)) := by
  have q := is_number_ok t 0 1000000 S
  rw [decide_eq_true (by omega), decide_eq_true (by omega)] at q
  have c : bNot (bV (eCall d_is_number (aCons (eNm 0) (aCons (eC (.int 0)) (aCons (eC (.int 1000000)) aNil))) [])) [some (.d (.int (t : Int)))] S = some (false, S) := by
    refine ok.get ?_
    simp [sNext, sIf, sBreak, sCont, sNever, sExpr, sRet, sRetO, sRetN, sSet, sAsg, gNm, gsNil, gsCons, gT, gL, eD, eV, eBox, eNm, eC, eOp, eUn, aNil, aCons, eTup, eLst, eCB, bV, bAnd, bOr, bNot, eAnd, eOr, eNot, eIf, eChain, eCall, eFld, sFldS, sFldA, eMeth, eMake, bYes, fSub, fLt, fLe, fGt, fGe, fDiv, fMod, fPow, fNeg, fAdd, fMul, fIsN, fNotN, Yi.isNon, fEq, fNe, fIn, fInS, fIx, intR, oNo, oPart, fSl, eSl, eRev, sAppO, sExtO, sAug, oIx, oIn, oEq, sPar, sPar3, sSetIx, eDGet, eDIn, eDGet2, sDPutS, eDPop1, eDPop2, eDNewK, eDNewT, oDGet, oDIn, eBM, mApp, mExt, mPopAt, mIdx, cellL, iEv, iR1, iR2, iC, fLen, oLen, fMax, fMin, fAll, fAny, fSum, fSortI, fList, fTuple, fInt, fStr, fIsi, tyD, isLstD, isStrD, isDD, lstD, seqD, stD, eCallF, nAt, iSt, mJoin, mSplit, fAddI, sStar, iEnS, eSortSet, fSet, eLenSet, insAt, lkp, putD, ok_some, ok_none, ok_bind, ok_map, eq_int, eq_bl, sAsg, kb_NoneType_int, kb_NoneType_bool, kb_NoneType_str, kb_NoneType_tuple, kb_NoneType_list, kb_bool_int, kb_bool_bool, kb_bool_str, kb_bool_tuple, kb_bool_list, kb_int_int, kb_int_bool, kb_int_str, kb_int_tuple, kb_int_list, kb_str_int, kb_str_bool, kb_str_str, kb_str_tuple, kb_str_list, kb_tuple_int, kb_tuple_bool, kb_tuple_str, kb_tuple_tuple, kb_tuple_list, kb_list_int, kb_list_bool, kb_list_str, kb_list_tuple, kb_list_list, sz_0, sz_1, sz_2, sz_3, sz_4, sz_5, sz_6, sz_7, sz_8, sz_9, sz_10, sz_11, sz_12, sz_13, sz_14, sz_15, sz_16, ix_1_0, ix_2_0, ix_2_1, ix_3_0, ix_3_1, ix_3_2, ix_4_0, ix_4_1, ix_4_2, ix_4_3, ix_5_0, ix_5_1, ix_5_2, ix_5_3, ix_5_4, ix_6_0, ix_6_1, ix_6_2, ix_6_3, ix_6_4, ix_6_5, ix_7_0, ix_7_1, ix_7_2, ix_7_3, ix_7_4, ix_7_5, ix_7_6, sI_0, sI_1, sI_48271, sI_69621, q]
  refine denX_nx rfl (ρ1 := [some (.d (.int (t : Int)))]) ?_
  show x_need_moment [some (.d (.int t))] S = _
  unfold x_need_moment
  rw [xif_f c]
  rfl
theorem person_okX (h : GoodRs rs) : dx_need_person [.tp tb (rs.map rD), .int 0] S = some (.inl (.d .non, S)) := by
  have l6 := h.l6
  have l1 := h.l1
  have z : szOk rs.length = true := by simp [szOk]; omega
  have q := is_number_ok 0 0 ((rs.length : Int) - 1) S
  rw [decide_eq_true (by omega), decide_eq_true (by omega)] at q
  have c : bNot (bV (eCall d_is_number (aCons (eNm 1) (aCons (eC (.int 0)) (aCons (eOp fSub (eCB fLen (aCons (eNm 0) aNil)) (eC (.int 1))) aNil))) [])) [some (.d (.tp tb (rs.map rD))), some (.d (.int 0))] S = some (false, S) := by
    refine ok.get ?_
    simp [sNext, sIf, sBreak, sCont, sNever, sExpr, sRet, sRetO, sRetN, sSet, sAsg, gNm, gsNil, gsCons, gT, gL, eD, eV, eBox, eNm, eC, eOp, eUn, aNil, aCons, eTup, eLst, eCB, bV, bAnd, bOr, bNot, eAnd, eOr, eNot, eIf, eChain, eCall, eFld, sFldS, sFldA, eMeth, eMake, bYes, fSub, fLt, fLe, fGt, fGe, fDiv, fMod, fPow, fNeg, fAdd, fMul, fIsN, fNotN, Yi.isNon, fEq, fNe, fIn, fInS, fIx, intR, oNo, oPart, fSl, eSl, eRev, sAppO, sExtO, sAug, oIx, oIn, oEq, sPar, sPar3, sSetIx, eDGet, eDIn, eDGet2, sDPutS, eDPop1, eDPop2, eDNewK, eDNewT, oDGet, oDIn, eBM, mApp, mExt, mPopAt, mIdx, cellL, iEv, iR1, iR2, iC, fLen, oLen, fMax, fMin, fAll, fAny, fSum, fSortI, fList, fTuple, fInt, fStr, fIsi, tyD, isLstD, isStrD, isDD, lstD, seqD, stD, eCallF, nAt, iSt, mJoin, mSplit, fAddI, sStar, iEnS, eSortSet, fSet, eLenSet, insAt, lkp, putD, ok_some, ok_none, ok_bind, ok_map, eq_int, eq_bl, sAsg, kb_NoneType_int, kb_NoneType_bool, kb_NoneType_str, kb_NoneType_tuple, kb_NoneType_list, kb_bool_int, kb_bool_bool, kb_bool_str, kb_bool_tuple, kb_bool_list, kb_int_int, kb_int_bool, kb_int_str, kb_int_tuple, kb_int_list, kb_str_int, kb_str_bool, kb_str_str, kb_str_tuple, kb_str_list, kb_tuple_int, kb_tuple_bool, kb_tuple_str, kb_tuple_tuple, kb_tuple_list, kb_list_int, kb_list_bool, kb_list_str, kb_list_tuple, kb_list_list, sz_0, sz_1, sz_2, sz_3, sz_4, sz_5, sz_6, sz_7, sz_8, sz_9, sz_10, sz_11, sz_12, sz_13, sz_14, sz_15, sz_16, ix_1_0, ix_2_0, ix_2_1, ix_3_0, ix_3_1, ix_3_2, ix_4_0, ix_4_1, ix_4_2, ix_4_3, ix_5_0, ix_5_1, ix_5_2, ix_5_3, ix_5_4, ix_6_0, ix_6_1, ix_6_2, ix_6_3, ix_6_4, ix_6_5, ix_7_0, ix_7_1, ix_7_2, ix_7_3, ix_7_4, ix_7_5, ix_7_6, sI_0, sI_1, sI_48271, sI_69621, z, q]
  refine denX_nx rfl (ρ1 := [some (.d (.tp tb (rs.map rD))), some (.d (.int 0))]) ?_
  show x_need_person [some (.d (.tp tb (rs.map rD))), some (.d (.int 0))] S = _
  unfold x_need_person
  rw [xif_f c]
  rfl
/-! ### told -/
theorem is_hushed_ok (h : GoodRs rs) {p t : Nat} (hp : p < rs.length) (ht : t ≤ 1000000) : d_is_hushed [.tp tb (rs.map rD), .int p, .int t] S = some (.d (.bl (hush rs[p].hs t)), S) := by
  refine ok.get (den_ok rfl ?_)
  unfold m_is_hushed
  refine seq_eq (expr_eq ((call_eq (cons_eq (eD_some (nm_eq rfl)) nil_eq)).trans (need_rules_ok h))) ?_
  refine seq_eq (expr_eq ((call_eq (cons_eq (eD_some (nm_eq rfl)) (cons_eq (eD_some (nm_eq rfl)) nil_eq))).trans (need_person_ok h hp))) ?_
  refine seq_eq (expr_eq ((call_eq (cons_eq (eD_some (nm_eq rfl)) nil_eq)).trans (need_moment_ok ht))) ?_
  have ix : eOp fIx (eNm 0) (eNm 1) [some (.d (.tp tb (rs.map rD))), some (.d (.int p)), some (.d (.int t))] S = some (.d (rD rs[p]), S) := by
    rw [op_eq (eD_some (nm_eq rfl)) (eD_some (nm_eq rfl)), rl_at h hp]
    rfl
  have e : eCall d_hush_at (aCons (eOp fIx (eNm 0) (eNm 1)) (aCons (eNm 2) aNil)) [] [some (.d (.tp tb (rs.map rD))), some (.d (.int p)), some (.d (.int t))] S = _ := (call_eq (cons_eq (eD_some ix) (cons_eq (eD_some (nm_eq rfl)) nil_eq))).trans (hush_at_ok (hs_len h hp) t S)
  unfold sRet
  show ok (Option.map _ (eCall d_hush_at _ _ [some (.d (.tp tb (rs.map rD))), some (.d (.int p)), some (.d (.int t))] S)) _
  rw [e]
  exact ok_some.mpr rfl
theorem free_from_ok (h : GoodRs rs) {p t : Nat} (hp : p < rs.length) (ht : t ≤ 1000000) : d_free_from [.tp tb (rs.map rD), .int p, .int t] S = some (.d (nOD (free rs[p].hs t)), S) := by
  refine ok.get (den_ok rfl ?_)
  unfold m_free_from
  refine seq_eq (expr_eq ((call_eq (cons_eq (eD_some (nm_eq rfl)) nil_eq)).trans (need_rules_ok h))) ?_
  refine seq_eq (expr_eq ((call_eq (cons_eq (eD_some (nm_eq rfl)) (cons_eq (eD_some (nm_eq rfl)) nil_eq))).trans (need_person_ok h hp))) ?_
  refine seq_eq (expr_eq ((call_eq (cons_eq (eD_some (nm_eq rfl)) nil_eq)).trans (need_moment_ok ht))) ?_
  have ix : eOp fIx (eNm 0) (eNm 1) [some (.d (.tp tb (rs.map rD))), some (.d (.int p)), some (.d (.int t))] S = some (.d (rD rs[p]), S) := by
    rw [op_eq (eD_some (nm_eq rfl)) (eD_some (nm_eq rfl)), rl_at h hp]
    rfl
  have e : eCall d_free_at (aCons (eOp fIx (eNm 0) (eNm 1)) (aCons (eNm 2) aNil)) [] [some (.d (.tp tb (rs.map rD))), some (.d (.int p)), some (.d (.int t))] S = _ := (call_eq (cons_eq (eD_some ix) (cons_eq (eD_some (nm_eq rfl)) nil_eq))).trans (free_at_ok (hs_len h hp) ht S)
  unfold sRet
  show ok (Option.map _ (eCall d_free_at _ _ [some (.d (.tp tb (rs.map rD))), some (.d (.int p)), some (.d (.int t))] S)) _
  rw [e]
  exact ok_some.mpr rfl
theorem divmod_24 (x : Int) (S : Sto) : fDivmod [.int x, .int 24] S = some (.d (.tup [.int (x / 24), .int (x % 24)])) := by
  unfold fDivmod
  exact if_pos ⟨by decide, by decide⟩
theorem between_ok (h : GoodRs rs) {p a b : Nat} (hp : p < rs.length) (ha : a ≤ 1000000) (hb : b ≤ 1000000) : d_hushed_between [.tp tb (rs.map rD), .int p, .int a, .int b] S = some (.d (.int (cntF rs[p].hs a (b - a) : Nat)), S) := by
  have q1 := need_rules_ok (S := S) (tb := tb) h
  have q2 := need_person_ok (S := S) (tb := tb) h hp
  have q4 := rl_at (S := S) (tb := tb) h hp
  have hl := hs_len h hp
  rw [cntF_split]
  generalize rs[p] = r at *
  generalize hR : D.tp tb (rs.map rD) = R at *
  have mx : (if (b : Int) - a > 0 then (b : Int) - a else 0) = ((b - a : Nat) : Int) := by split <;> omega
  generalize hn : b - a = n at *
  have e1 : ((n : Nat) : Int) / 24 = ((n / 24 : Nat) : Int) := by omega
  have e2 : ((n : Nat) : Int) % 24 = ((n % 24 : Nat) : Int) := by omega
  have h24 : n % 24 < 24 := Nat.mod_lt _ (by decide)
  have hd : n / 24 ≤ 1000000 := by omega
  generalize n / 24 = d at *
  generalize n % 24 = l at *
  refine ok.get (den_ok rfl ?_)
  unfold m_hushed_between
  refine seq_eq (expr_eq ((call_eq (cons_eq (eD_some (nm_eq rfl)) nil_eq)).trans q1)) ?_
  refine seq_eq (expr_eq ((call_eq (cons_eq (eD_some (nm_eq rfl)) (cons_eq (eD_some (nm_eq rfl)) nil_eq))).trans q2)) ?_
  refine seq_eq (expr_eq ((call_eq (cons_eq (eD_some (nm_eq rfl)) nil_eq)).trans (need_moment_ok ha))) ?_
  refine seq_eq (expr_eq ((call_eq (cons_eq (eD_some (nm_eq rfl)) nil_eq)).trans (need_moment_ok hb))) ?_
  have ix : eOp fIx (eNm 0) (eNm 1) [some (.d R), some (.d (.int p)), some (.d (.int a)), some (.d (.int b)), none, none, none, none, none, none] S = some (.d (rD r), S) := by
    rw [op_eq (eD_some (nm_eq rfl)) (eD_some (nm_eq rfl)), q4]
    rfl
  refine seq_eq (set_eq ix) ?_
  have s5 : (sAsg (gT 2 (gsCons (gNm 6) (gsCons (gNm 7) gsNil))) (eCB fDivmod (aCons (eCB fMax (aCons (eC (.int 0)) (aCons (eOp fSub (eNm 3) (eNm 2)) aNil))) (aCons (eC (.int 24)) aNil)))) [some (.d R), some (.d (.int p)), some (.d (.int a)), some (.d (.int b)), some (.d (rD r)), none, none, none, none, none] S = some (.nx, [some (.d R), some (.d (.int p)), some (.d (.int a)), some (.d (.int b)), some (.d (rD r)), none, some (.d (.int d)), some (.d (.int l)), none, none], S) := by
    have dm : fDivmod [.int (if (b : Int) - a > 0 then (b : Int) - a else 0), .int 24] S = some (.d (.tup [.int d, .int l])) := by
      rw [divmod_24, mx, e1, e2]
    have : eCB fDivmod (aCons (eCB fMax (aCons (eC (.int 0)) (aCons (eOp fSub (eNm 3) (eNm 2)) aNil))) (aCons (eC (.int 24)) aNil)) [some (.d R), some (.d (.int p)), some (.d (.int a)), some (.d (.int b)), some (.d (rD r)), none, none, none, none, none] S = (fDivmod [.int (if (b : Int) - a > 0 then (b : Int) - a else 0), .int 24] S).map fun w => (w, S) := rfl
    rw [dm] at this
    unfold sAsg eD
    rw [this]
    rfl
  refine seq_eq s5 ?_
  have lc1 : eLc (iR1 (aCons (eC (.int 24)) aNil)) (gNm 8) (bV (eCall d_hush_at (aCons (eNm 4) (aCons (eNm 8) aNil)) [])) (eNm 8) [8] [some (.d R), some (.d (.int p)), some (.d (.int a)), some (.d (.int b)), some (.d (rD r)), none, some (.d (.int d)), some (.d (.int l)), none, none] S = some (.own (.lst (((List.range' 0 24).filter (hush r.hs)).map inD)), S) := by
    refine lc_fm (r := inD) (hush r.hs) inD (l := List.range' 0 24) ?_ (by simp) fun q hq => ⟨_, rfl, ?_, fun _ => rfl⟩
    · rw [← rngI]
      exact iR1_eq (n := 24) rfl (by decide)
    · exact bV_eq ((call_eq (cons_eq (eD_some (nm_eq rfl)) (cons_eq (eD_some (nm_eq rfl)) nil_eq))).trans (hush_at_ok hl q S))
  have lc2 : ∀ x5, eLc (iR2 (aCons (eNm 2) (aCons (eOp fAdd (eNm 2) (eNm 7)) aNil))) (gNm 9) (bV (eCall d_hush_at (aCons (eNm 4) (aCons (eNm 9) aNil)) [])) (eNm 9) [9] [some (.d R), some (.d (.int p)), some (.d (.int a)), some (.d (.int b)), some (.d (rD r)), x5, some (.d (.int d)), some (.d (.int l)), none, none] S = some (.own (.lst (((List.range' a l).filter (hush r.hs)).map inD)), S) := fun x5 => by
    refine lc_fm (r := inD) (hush r.hs) inD (l := List.range' a l) ?_ (by simp; omega) fun q hq => ⟨_, rfl, ?_, fun _ => rfl⟩
    · rw [iR2_nat (x := a) (y := a + l) (S := S) rfl (by omega) (by omega), Nat.add_sub_cancel_left]
    · exact bV_eq ((call_eq (cons_eq (eD_some (nm_eq rfl)) (cons_eq (eD_some (nm_eq rfl)) nil_eq))).trans (hush_at_ok hl q S))
  have c1 : ((List.range' 0 24).filter (hush r.hs)).length = cntF r.hs 0 24 := rfl
  have c2 : ((List.range' a l).filter (hush r.hs)).length = cntF r.hs a l := rfl
  have c3 : cntF r.hs 0 24 ≤ 24 := Nat.le_trans (List.length_filter_le _ _) (by simp)
  have c4 : cntF r.hs a l ≤ 24 := Nat.le_trans (List.length_filter_le _ _) (by simp; omega)
  have fl : ∀ L : List Nat, L.length ≤ 100 → fLen [.fl (L.map inD)] S = some (.d (.int L.length)) := fun L hL => by
    have : szOk L.length = true := by simp [szOk]; omega
    simp [fLen, seqD, lstD, this]
  have fl1 := fl ((List.range' 0 24).filter (hush r.hs)) (by omega)
  have fl2 := fl ((List.range' a l).filter (hush r.hs)) (by omega)
  rw [c1] at fl1
  rw [c2] at fl2
  refine seq_eq (set_eq (v := .d (.int (cntF r.hs 0 24 : Nat))) (S1 := S) ?_) ?_
  · rw [cb1_eq lc1 rfl, fl1]
    rfl
  have sm : smallI (d : Int) = true := by simp [smallI]; omega
  have fm : fMul (.int d) (.int (cntF r.hs 0 24 : Nat)) S = some (.d (.int ((d : Int) * (cntF r.hs 0 24 : Nat)))) := mul_small sm
  have m1 : eOp fMul (eNm 6) (eNm 5) [some (.d R), some (.d (.int p)), some (.d (.int a)), some (.d (.int b)), some (.d (rD r)), some (.d (.int (cntF r.hs 0 24 : Nat))), some (.d (.int d)), some (.d (.int l)), none, none] S = some (.d (.int ((d : Int) * (cntF r.hs 0 24 : Nat))), S) := by
    rw [op_eq (eD_some (nm_eq rfl)) (eD_some (nm_eq rfl)), fm]
    rfl
  have m2 : eCB fLen (aCons (eLc (iR2 (aCons (eNm 2) (aCons (eOp fAdd (eNm 2) (eNm 7)) aNil))) (gNm 9) (bV (eCall d_hush_at (aCons (eNm 4) (aCons (eNm 9) aNil)) [])) (eNm 9) [9]) aNil) [some (.d R), some (.d (.int p)), some (.d (.int a)), some (.d (.int b)), some (.d (rD r)), some (.d (.int (cntF r.hs 0 24 : Nat))), some (.d (.int d)), some (.d (.int l)), none, none] S = some (.d (.int (cntF r.hs a l : Nat)), S) := by
    rw [cb1_eq (lc2 _) rfl, fl2]
    rfl
  show ok (sRet _ [some (.d R), some (.d (.int p)), some (.d (.int a)), some (.d (.int b)), some (.d (rD r)), some (.d (.int (cntF r.hs 0 24 : Nat))), some (.d (.int d)), some (.d (.int l)), none, none] S) _
  unfold sRet
  rw [op_eq (eD_some m1) (eD_some m2)]
  exact ok_some.mpr rfl
end
end Wk
/-! Persons and moments that can't be. -/
namespace Wk
open PySem L2 Yi
section
variable {rs : List Rl} {S : Sto} {tb : Bool} {ρ : Slt} {x y : D}
abbrev rsT (tb : Bool) (rs : List Rl) : D := .tp tb (rs.map rD)
theorem two {i : Nat} {ρ : Slt} {x : D} (h : ρ[i]? = some (some (.d x))) : eD (eNm i) ρ S = some (x, S) := eD_some (nm_eq h)
theorem is_hushed_p (g : GoodRs rs) (hx : NoNum ((rs.length : Int) - 1) x) : dx_is_hushed [rsT tb rs, x, y] S = some (.inr (⟨5, []⟩, S)) := by
  refine denX_ex rfl ?_
  show x_is_hushed [some (.d (rsT tb rs)), some (.d x), some (.d y)] S = _
  unfold x_is_hushed
  rw [xseq_nx (xs_eq (expr_eq ((call_eq (cons_eq (two rfl) nil_eq)).trans (need_rules_ok g))))]
  refine xseq_ex (xexpr_ex ?_)
  rw [xcall_eq (cons_eq (two rfl) (cons_eq (two rfl) nil_eq))]
  exact need_person_bad g hx
theorem is_hushed_m (g : GoodRs rs) (hy : NoNum 1000000 y) : dx_is_hushed [rsT tb rs, .int 0, y] S = some (.inr (⟨3, []⟩, S)) := by
  refine denX_ex rfl ?_
  show x_is_hushed [some (.d (rsT tb rs)), some (.d (.int 0)), some (.d y)] S = _
  unfold x_is_hushed
  rw [xseq_nx (xs_eq (expr_eq ((call_eq (cons_eq (two rfl) nil_eq)).trans (need_rules_ok g))))]
  rw [xseq_nx (xexpr_nx ((xcall_eq (cons_eq (two rfl) (cons_eq (two rfl) nil_eq))).trans (person_okX g)))]
  refine xseq_ex (xexpr_ex ?_)
  rw [xcall_eq (cons_eq (two rfl) nil_eq)]
  exact moment_bad hy
theorem free_from_p (g : GoodRs rs) (hx : NoNum ((rs.length : Int) - 1) x) : dx_free_from [rsT tb rs, x, y] S = some (.inr (⟨5, []⟩, S)) := by
  refine denX_ex rfl ?_
  show x_free_from [some (.d (rsT tb rs)), some (.d x), some (.d y)] S = _
  unfold x_free_from
  rw [xseq_nx (xs_eq (expr_eq ((call_eq (cons_eq (two rfl) nil_eq)).trans (need_rules_ok g))))]
  refine xseq_ex (xexpr_ex ?_)
  rw [xcall_eq (cons_eq (two rfl) (cons_eq (two rfl) nil_eq))]
  exact need_person_bad g hx
theorem free_from_m (g : GoodRs rs) (hy : NoNum 1000000 y) : dx_free_from [rsT tb rs, .int 0, y] S = some (.inr (⟨3, []⟩, S)) := by
  refine denX_ex rfl ?_
  show x_free_from [some (.d (rsT tb rs)), some (.d (.int 0)), some (.d y)] S = _
  unfold x_free_from
  rw [xseq_nx (xs_eq (expr_eq ((call_eq (cons_eq (two rfl) nil_eq)).trans (need_rules_ok g))))]
  rw [xseq_nx (xexpr_nx ((xcall_eq (cons_eq (two rfl) (cons_eq (two rfl) nil_eq))).trans (person_okX g)))]
  refine xseq_ex (xexpr_ex ?_)
  rw [xcall_eq (cons_eq (two rfl) nil_eq)]
  exact moment_bad hy
theorem between_p {z : D} (g : GoodRs rs) (hx : NoNum ((rs.length : Int) - 1) x) : dx_hushed_between [rsT tb rs, x, y, z] S = some (.inr (⟨5, []⟩, S)) := by
  refine denX_ex rfl ?_
  show x_hushed_between [some (.d (rsT tb rs)), some (.d x), some (.d y), some (.d z), none, none, none, none, none, none] S = _
  unfold x_hushed_between
  rw [xseq_nx (xs_eq (expr_eq ((call_eq (cons_eq (two rfl) nil_eq)).trans (need_rules_ok g))))]
  refine xseq_ex (xexpr_ex ?_)
  rw [xcall_eq (cons_eq (two rfl) (cons_eq (two rfl) nil_eq))]
  exact need_person_bad g hx
theorem between_m1 {z : D} (g : GoodRs rs) (hy : NoNum 1000000 y) : dx_hushed_between [rsT tb rs, .int 0, y, z] S = some (.inr (⟨3, []⟩, S)) := by
  refine denX_ex rfl ?_
  show x_hushed_between [some (.d (rsT tb rs)), some (.d (.int 0)), some (.d y), some (.d z), none, none, none, none, none, none] S = _
  unfold x_hushed_between
  rw [xseq_nx (xs_eq (expr_eq ((call_eq (cons_eq (two rfl) nil_eq)).trans (need_rules_ok g))))]
  rw [xseq_nx (xexpr_nx ((xcall_eq (cons_eq (two rfl) (cons_eq (two rfl) nil_eq))).trans (person_okX g)))]
  refine xseq_ex (xexpr_ex ?_)
  rw [xcall_eq (cons_eq (two rfl) nil_eq)]
  exact moment_bad hy
theorem between_m2 {b : Nat} (g : GoodRs rs) (hb : b ≤ 1000000) (hy : NoNum 1000000 y) : dx_hushed_between [rsT tb rs, .int 0, .int b, y] S = some (.inr (⟨3, []⟩, S)) := by
  refine denX_ex rfl ?_
  show x_hushed_between [some (.d (rsT tb rs)), some (.d (.int 0)), some (.d (.int b)), some (.d y), none, none, none, none, none, none] S = _
  unfold x_hushed_between
  rw [xseq_nx (xs_eq (expr_eq ((call_eq (cons_eq (two rfl) nil_eq)).trans (need_rules_ok g))))]
  rw [xseq_nx (xexpr_nx ((xcall_eq (cons_eq (two rfl) (cons_eq (two rfl) nil_eq))).trans (person_okX g)))]
  rw [xseq_nx (xexpr_nx ((xcall_eq (cons_eq (two rfl) nil_eq)).trans (moment_okX hb)))]
  refine xseq_ex (xexpr_ex ?_)
  rw [xcall_eq (cons_eq (two rfl) nil_eq)]
  exact moment_bad hy
theorem all_p {t : Nat} {b : Nat} {x3 : Option VV} (g : GoodRs rs) (hx : NoNum ((rs.length : Int) - 1) x) : eAllL t bods_law_is_refused d_law_alike (aCons (eOp fAdd (eNm 6) (eLst (aCons (eLam 2 t) aNil))) (aCons (eTup (aCons (eC (.str "BadPerson")) (aCons (eC (.int 0)) aNil))) aNil)) [some (.d (.ref 1)), some (.d (rsT tb rs)), some (.d (.int b)), x3, some (.d x), some (.d y), some (.d (.fl [.clo 0 t, .clo 1 t]))] S = some (.d (.bl true), S) := by
  have ha : aCons (eOp fAdd (eNm 6) (eLst (aCons (eLam 2 t) aNil))) (aCons (eTup (aCons (eC (.str "BadPerson")) (aCons (eC (.int 0)) aNil))) aNil) [some (.d (.ref 1)), some (.d (rsT tb rs)), some (.d (.int b)), x3, some (.d x), some (.d y), some (.d (.fl [.clo 0 t, .clo 1 t]))] S = some ([.fl [.clo 0 t, .clo 1 t, .clo 2 t], .tup [.str "BadPerson", .int 0]], S) := rfl
  refine allL_eq ha (runA_all _ fun c hc => ?_)
  have hc : c = .clo 0 t ∨ c = .clo 1 t ∨ c = .clo 2 t := by simpa using hc
  rcases hc with rfl | rfl | rfl
  · exact ⟨0, _, ⟨5, []⟩, _, rfl, rfl, (xcall_eq (cons_eq (two rfl) (cons_eq (two rfl) (cons_eq (two rfl) nil_eq)))).trans (is_hushed_p g hx), by decide, told0 (by decide) (by decide) (by decide) (by decide), alk_told0 (by decide +kernel)⟩
  · exact ⟨1, _, ⟨5, []⟩, _, rfl, rfl, (xcall_eq (cons_eq (two rfl) (cons_eq (two rfl) (cons_eq (two rfl) nil_eq)))).trans (free_from_p g hx), by decide, told0 (by decide) (by decide) (by decide) (by decide), alk_told0 (by decide +kernel)⟩
  · exact ⟨2, _, ⟨5, []⟩, _, rfl, rfl, (xcall_eq (cons_eq (two rfl) (cons_eq (two rfl) (cons_eq (two rfl) (cons_eq (two rfl) nil_eq))))).trans (between_p g hx), by decide, told0 (by decide) (by decide) (by decide) (by decide), alk_told0 (by decide +kernel)⟩
theorem all_m {t : Nat} {b : Nat} {x3 x4 : Option VV} (g : GoodRs rs) (hb : b ≤ 1000000) (hy : NoNum 1000000 y) : eAllL t bods_law_is_refused d_law_alike (aCons (eNm 6) (aCons (eTup (aCons (eC (.str "BadMoment")) (aCons (eC (.int 0)) aNil))) aNil)) [some (.d (.ref 1)), some (.d (rsT tb rs)), some (.d (.int b)), x3, x4, some (.d y), some (.d (.fl [.clo 3 t, .clo 4 t, .clo 5 t, .clo 6 t]))] S = some (.d (.bl true), S) := by
  have ha : aCons (eNm 6) (aCons (eTup (aCons (eC (.str "BadMoment")) (aCons (eC (.int 0)) aNil))) aNil) [some (.d (.ref 1)), some (.d (rsT tb rs)), some (.d (.int b)), x3, x4, some (.d y), some (.d (.fl [.clo 3 t, .clo 4 t, .clo 5 t, .clo 6 t]))] S = some ([.fl [.clo 3 t, .clo 4 t, .clo 5 t, .clo 6 t], .tup [.str "BadMoment", .int 0]], S) := rfl
  refine allL_eq ha (runA_all _ fun c hc => ?_)
  have hc : c = .clo 3 t ∨ c = .clo 4 t ∨ c = .clo 5 t ∨ c = .clo 6 t := by simpa using hc
  rcases hc with rfl | rfl | rfl | rfl
  · exact ⟨3, _, ⟨3, []⟩, _, rfl, rfl, (xcall_eq (cons_eq (two rfl) (cons_eq (eD_some rfl) (cons_eq (two rfl) nil_eq)))).trans (is_hushed_m g hy), by decide, told0 (by decide) (by decide) (by decide) (by decide), alk_told0 (by decide +kernel)⟩
  · exact ⟨4, _, ⟨3, []⟩, _, rfl, rfl, (xcall_eq (cons_eq (two rfl) (cons_eq (eD_some rfl) (cons_eq (two rfl) nil_eq)))).trans (free_from_m g hy), by decide, told0 (by decide) (by decide) (by decide) (by decide), alk_told0 (by decide +kernel)⟩
  · exact ⟨5, _, ⟨3, []⟩, _, rfl, rfl, (xcall_eq (cons_eq (two rfl) (cons_eq (eD_some rfl) (cons_eq (two rfl) (cons_eq (two rfl) nil_eq))))).trans (between_m1 g hy), by decide, told0 (by decide) (by decide) (by decide) (by decide), alk_told0 (by decide +kernel)⟩
  · exact ⟨6, _, ⟨3, []⟩, _, rfl, rfl, (xcall_eq (cons_eq (two rfl) (cons_eq (eD_some rfl) (cons_eq (two rfl) (cons_eq (two rfl) nil_eq))))).trans (between_m2 g hb hy), by decide, told0 (by decide) (by decide) (by decide) (by decide), alk_told0 (by decide +kernel)⟩
theorem refused_ok {b : Nat} (bx0 : Box S) (g : GoodRs rs) (hb : b ≤ 1000000) : ∃ S', Box S' ∧ d_law_is_refused [.ref 1, rsT tb rs, .int b] S = some (.d (.bl true), S') := by
  have l6 := g.l6
  have z : szOk rs.length = true := by simp [szOk]; omega
  have lenT : fLen [rsT tb rs] S = some (.d (.int rs.length)) := by
    show some (VV.d (.int ((rs.map rD).length : Nat))) = _
    rw [List.length_map]
  obtain ⟨lim, S1, hl, b1, k1, e1⟩ : ∃ (lim : Nat) (S1 : Sto), (lim = 2 ∨ lim = 1000000000000000000) ∧ Box S1 ∧ Kp S S1 ∧ eOp fIx (eLst (aCons (eC (.int 2)) (aCons (eOp fPow (eC (.int 10)) (eC (.int 18))) aNil))) (eCall d_law_take (aCons (eNm 0) (aCons (eC (.int 2)) aNil)) []) [some (.d (.ref 1)), some (.d (rsT tb rs)), some (.d (.int b)), none, none, none, none] S = some (.d (.int lim), S1) := by
    obtain ⟨y, S1, y2, b1, k1, ey⟩ := takeE (i := 0) (k := 2) (mk := eC (.int 2)) (S0 := S) (S := S) (ρ := [some (.d (.ref 1)), some (.d (rsT tb rs)), some (.d (.int b)), none, none, none, none]) rfl rfl bx0 (by decide) (by decide)
    have pw : eOp fPow (eC (.int 10)) (eC (.int 18)) [some (.d (.ref 1)), some (.d (rsT tb rs)), some (.d (.int b)), none, none, none, none] S = some (.d (.int 1000000000000000000), S) := by
      rw [op_eq (x := .int 10) (y := .int 18) (S1 := S) (S2 := S) rfl rfl]
      rfl
    refine ⟨if y = 0 then 2 else 1000000000000000000, S1, by split <;> simp, b1, k1, ?_⟩
    refine ixL (xs := [.int 2, .int 1000000000000000000]) (S1 := S) (cons_eq rfl (cons_eq (eD_some pw) nil_eq)) rfl (eD_some ey) ?_
    rcases (show y = 0 ∨ y = 1 by omega) with q | q <;> (subst q; rfl)
  obtain ⟨far, S2, hf, b2, k2, e2⟩ := takeE (i := 0) (k := lim) (mk := eOp fIx (eLst (aCons (eC (.int 2)) (aCons (eOp fPow (eC (.int 10)) (eC (.int 18))) aNil))) (eCall d_law_take (aCons (eNm 0) (aCons (eC (.int 2)) aNil)) [])) (S0 := S) (S := S1) (ρ := [some (.d (.ref 1)), some (.d (rsT tb rs)), some (.d (.int b)), none, none, none, none]) rfl (eD_some e1) b1 (by omega) (by omega)
  obtain ⟨w, S3, hw, b3, k3, e3⟩ := takeE (i := 0) (k := 4) (mk := eC (.int 4)) (S0 := S2) (S := S2) (ρ := [some (.d (.ref 1)), some (.d (rsT tb rs)), some (.d (.int b)), some (.d (.int far)), none, none, none]) rfl rfl b2 (by decide) (by decide)
  have lenE : eCB fLen (aCons (eNm 1) aNil) [some (.d (.ref 1)), some (.d (rsT tb rs)), some (.d (.int b)), some (.d (.int far)), none, none, none] S2 = some (.d (.int rs.length), S2) := by
    rw [cb_eq (cons_eq (two rfl) nil_eq)]
    show some (VV.d (.int ((rs.map rD).length : Nat)), S2) = _
    rw [List.length_map]
  have f1 : eOp fAdd (eCB fLen (aCons (eNm 1) aNil)) (eNm 3) [some (.d (.ref 1)), some (.d (rsT tb rs)), some (.d (.int b)), some (.d (.int far)), none, none, none] S2 = some (.d (.int (rs.length + far)), S2) := by
    rw [op_eq (eD_some lenE) (two rfl)]
    rfl
  have f2 : ∀ (x4 x5 : Option VV) (S : Sto), eOp fSub (eUn fNeg (eC (.int 1))) (eNm 3) [some (.d (.ref 1)), some (.d (rsT tb rs)), some (.d (.int b)), some (.d (.int far)), x4, x5, none] S = some (.d (.int (-1 - far)), S) := fun x4 x5 S => by
    rw [op_eq (x := .int (-1)) (S1 := S) rfl (two rfl)]
    rfl
  obtain ⟨x, hx, hn⟩ : ∃ x, atI [.int (rs.length + far), .int (-1 - far), .non, .bl true] (w : Int) = some x ∧ NoNum ((rs.length : Int) - 1) x := by
    rcases (show w = 0 ∨ w = 1 ∨ w = 2 ∨ w = 3 by omega) with q | q | q | q
    · subst q; exact ⟨_, rfl, .inr (by omega)⟩
    · subst q; exact ⟨_, rfl, .inl (by omega)⟩
    · subst q; exact ⟨_, rfl, trivial⟩
    · subst q; exact ⟨_, rfl, trivial⟩
  have s4 := ixL (cons_eq (eD_some f1) (cons_eq (eD_some (f2 none none S2)) (cons_eq (x := .non) (S1 := S2) (a := eC .non) rfl (cons_eq (x := .bl true) (S1 := S2) (a := eC (.bl true)) rfl nil_eq)))) rfl (eD_some e3) hx
  obtain ⟨v, S4, hv, b4, k4, e4⟩ := takeE (i := 0) (k := 4) (mk := eC (.int 4)) (S0 := S3) (S := S3) (ρ := [some (.d (.ref 1)), some (.d (rsT tb rs)), some (.d (.int b)), some (.d (.int far)), some (.d x), none, none]) rfl rfl b3 (by decide) (by decide)
  have f3 : eOp fAdd (eOp fAdd (eOp fPow (eC (.int 10)) (eC (.int 6))) (eC (.int 1))) (eNm 3) [some (.d (.ref 1)), some (.d (rsT tb rs)), some (.d (.int b)), some (.d (.int far)), some (.d x), none, none] S3 = some (.d (.int (1000001 + far)), S3) := by
    have pw : eOp fPow (eC (.int 10)) (eC (.int 6)) [some (.d (.ref 1)), some (.d (rsT tb rs)), some (.d (.int b)), some (.d (.int far)), some (.d x), none, none] S3 = some (.d (.int 1000000), S3) := by
      rw [op_eq (x := .int 10) (y := .int 6) (S1 := S3) (S2 := S3) rfl rfl]
      rfl
    have pw1 : eOp fAdd (eOp fPow (eC (.int 10)) (eC (.int 6))) (eC (.int 1)) [some (.d (.ref 1)), some (.d (rsT tb rs)), some (.d (.int b)), some (.d (.int far)), some (.d x), none, none] S3 = some (.d (.int 1000001), S3) := by
      rw [op_eq (y := .int 1) (S2 := S3) (eD_some pw) rfl]
      rfl
    rw [op_eq (eD_some pw1) (two rfl)]
    rfl
  obtain ⟨y, hy, hm⟩ : ∃ y, atI [.int (-1 - far), .int (1000001 + far), .non, .bl true] (v : Int) = some y ∧ NoNum 1000000 y := by
    rcases (show v = 0 ∨ v = 1 ∨ v = 2 ∨ v = 3 by omega) with q | q | q | q
    · subst q; exact ⟨_, rfl, .inl (by omega)⟩
    · subst q; exact ⟨_, rfl, .inr (by omega)⟩
    · subst q; exact ⟨_, rfl, trivial⟩
    · subst q; exact ⟨_, rfl, trivial⟩
  have s5 := ixL (cons_eq (eD_some (f2 (some (.d x)) none S3)) (cons_eq (eD_some f3) (cons_eq (x := .non) (S1 := S3) (a := eC .non) rfl (cons_eq (x := .bl true) (S1 := S3) (a := eC (.bl true)) rfl nil_eq)))) rfl (eD_some e4) hy
  refine ⟨S4, b4, denT_of fun t => ok.get (den_ok rfl ?_)⟩
  show ok (m_law_is_refused t [some (.d (.ref 1)), some (.d (rsT tb rs)), some (.d (.int b)), none, none, none, none] S) _
  unfold m_law_is_refused
  refine seq_eq (set_eq e2) (seq_eq (set_eq s4) (seq_eq (set_eq s5) ?_))
  refine seq_eq (ρ1 := [some (.d (.ref 1)), some (.d (rsT tb rs)), some (.d (.int b)), some (.d (.int far)), some (.d x), some (.d y), some (.own (.lst [.clo 0 t, .clo 1 t]))]) (S1 := S4) rfl ?_
  refine seq_eq (ρ1 := [some (.d (.ref 1)), some (.d (rsT tb rs)), some (.d (.int b)), some (.d (.int far)), some (.d x), some (.d y), some (.d (.fl [.clo 0 t, .clo 1 t]))]) (S1 := S4) ?_ ?_
  · rw [frz_eq (ds := [.clo 0 t, .clo 1 t]) rfl]
    exact if_ff (not_eq (t := true) (bV_eq (all_p g hn)))
  refine seq_eq (ρ1 := [some (.d (.ref 1)), some (.d (rsT tb rs)), some (.d (.int b)), some (.d (.int far)), some (.d x), some (.d y), some (.own (.lst [.clo 3 t, .clo 4 t]))]) (S1 := S4) rfl ?_
  refine seq_eq (ρ1 := [some (.d (.ref 1)), some (.d (rsT tb rs)), some (.d (.int b)), some (.d (.int far)), some (.d x), some (.d y), some (.own (.lst [.clo 3 t, .clo 4 t, .clo 5 t]))]) (S1 := S4) rfl ?_
  refine seq_eq (ρ1 := [some (.d (.ref 1)), some (.d (rsT tb rs)), some (.d (.int b)), some (.d (.int far)), some (.d x), some (.d y), some (.own (.lst [.clo 3 t, .clo 4 t, .clo 5 t, .clo 6 t]))]) (S1 := S4) rfl ?_
  rw [frz_eq (ds := [.clo 3 t, .clo 4 t, .clo 5 t, .clo 6 t]) rfl]
  refine (ok_eq (ret_eq (v := .d (.bl true)) (S1 := S4) (all_m g hb hm))).mpr rfl
end
end Wk
/-! Hours: the law. -/
namespace Wk
open PySem L2 Yi
theorem law_hush_ok {r : Rl} {m : Nat} (g : r.Good m) (t : Nat) (S : Sto) : d_law_hush [rD r, .int t] S = some (.d (.bl (hush r.hs t)), S) := by
  have hl := g.hl
  refine ok.get (den_ok rfl ?_)
  unfold m_law_hush
  refine seq_eq (ρ1 := [some (.d (rD r)), some (.d (.int t)), some (.d (.int ((t : Int) % 24))), none, none, none]) (S1 := S) rfl ?_
  have lc : eLc (iEv (eOp fIx (eNm 0) (eC (.int 0)))) (gT 2 (gsCons (gNm 4) (gsCons (gNm 5) gsNil))) (bV (eOp fLt (eOp fMod (eOp fSub (eNm 2) (eNm 4)) (eC (.int 24))) (eOp fMod (eOp fSub (eNm 5) (eNm 4)) (eC (.int 24))))) (eTup (aCons (eNm 4) (aCons (eNm 5) aNil))) [4, 5] [some (.d (rD r)), some (.d (.int t)), some (.d (.int ((t : Int) % 24))), none, none, none] S = some (.own (.lst ((r.hs.filter fun p => decide (((t : Int) % 24 - p.1) % 24 < (p.2 - p.1) % 24)).map pD)), S) := by
    refine lc_fm (r := pD) (fun p => decide (((t : Int) % 24 - p.1) % 24 < (p.2 - p.1) % 24)) pD (l := r.hs) rfl (by omega) fun p hp => ⟨_, rfl, rfl, fun _ => rfl⟩
  refine seq_eq (ρ1 := [some (.d (rD r)), some (.d (.int t)), some (.d (.int ((t : Int) % 24))), some (.d (.fl ((r.hs.filter fun p => decide (((t : Int) % 24 - p.1) % 24 < (p.2 - p.1) % 24)).map pD))), none, none]) (S1 := S) ?_ ?_
  · unfold sSet eV
    rw [eD_vD lc rfl]
    rfl
  have hh := hush_law g.hh t
  generalize (r.hs.filter fun p => decide (((t : Int) % 24 - p.1) % 24 < (p.2 - p.1) % 24)) = l at hh
  have ne : eqD (.fl (l.map pD)) (.fl []) S = some l.isEmpty := by
    rw [eq_nilL (x := .fl (l.map pD)) (ps := l.map fun p => PyData.tuple [.int p.1, .int p.2]) rfl (shps_map fun p _ => by
      simp only [pD, shp, shps]
      exact ⟨_, rfl, _, _, rfl, rfl, _, _, rfl, rfl, rfl⟩)]
    cases l <;> rfl
  have e : eOp fNe (eNm 3) (eLst aNil) [some (.d (rD r)), some (.d (.int t)), some (.d (.int ((t : Int) % 24))), some (.d (.fl (l.map pD))), none, none] S = some (.d (.bl (hush r.hs t)), S) := by
    rw [op_eq (two rfl) (eD_vD (lst_eq (xs := []) rfl rfl) rfl)]
    unfold fNe
    rw [ne, ← hh]
    rfl
  exact (ok_eq (ret_eq e)).mpr rfl
theorem day_idx (hs : List (Int × Int)) (b : Nat) : (idxF (.bl false) ((List.range' b 24).map fun i => .bl (hush hs i))).map (b + ·) = free hs b := idx_head (hush hs) 24 b
theorem flat_bl (P : Nat → Bool) (l : List Nat) : (l.map fun i => D.bl (P i)).all flatD = true := by
  rw [List.all_eq_true]
  intro x hx
  obtain ⟨k, _, rfl⟩ := List.mem_map.mp hx
  rfl
theorem alk_nOD {n : Nat} {o : Option Nat} {S : Sto} : alk (n + 1) (nOD o) (nOD o) S := by
  cases o with
  | none => exact alk_non
  | some f => exact alk_int
abbrev bx : Option VV := some (.d (.ref 1))
abbrev dayD (hs : List (Int × Int)) (b : Nat) : D := .fl ((List.range' b 24).map fun i => .bl (hush hs i))
section
variable {rs : List Rl} {S : Sto} {tb : Bool} {x0 x2 x3 x4 x5 x6 x7 x8 x9 x10 x11 x12 x13 : Option VV}
theorem again_ok (g : GoodRs rs) {p b e : Nat} (hp : p < rs.length) (hb : b ≤ 1000000) (he : e ≤ 1000000) : ∃ y11, m_law_1 [x0, bx, x2, some (.d (rsT tb rs)), some (.d (.int p)), some (.d (.int b)), some (.d (.int e)), some (.d (dayD rs[p].hs b)), some (.d (nOD (free rs[p].hs b))), some (.d (.int (cntF rs[p].hs b (e - b) : Nat))), x10, x11, x12, x13] S = some (.nx, [x0, bx, x2, some (.d (rsT tb rs)), some (.d (.int p)), some (.d (.int b)), some (.d (.int e)), some (.d (dayD rs[p].hs b)), some (.d (nOD (free rs[p].hs b))), some (.d (.int (cntF rs[p].hs b (e - b) : Nat))), x10, y11, x12, x13], S) := by
  refine ⟨some (.d (.fl [.bl (hush rs[p].hs b), nOD (free rs[p].hs b)])), ?_⟩
  unfold m_law_1
  have e1 : ∀ x11 : Option VV, eCall d_is_hushed (aCons (eNm 3) (aCons (eNm 4) (aCons (eNm 5) aNil))) [] [x0, bx, x2, some (.d (rsT tb rs)), some (.d (.int p)), some (.d (.int b)), some (.d (.int e)), some (.d (dayD rs[p].hs b)), some (.d (nOD (free rs[p].hs b))), some (.d (.int (cntF rs[p].hs b (e - b) : Nat))), x10, x11, x12, x13] S = some (.d (.bl (hush rs[p].hs b)), S) := fun x11 => (call_eq (cons_eq (two rfl) (cons_eq (two rfl) (cons_eq (two rfl) nil_eq)))).trans (is_hushed_ok g hp hb)
  have e2 : ∀ x11 : Option VV, eCall d_free_from (aCons (eNm 3) (aCons (eNm 4) (aCons (eNm 5) aNil))) [] [x0, bx, x2, some (.d (rsT tb rs)), some (.d (.int p)), some (.d (.int b)), some (.d (.int e)), some (.d (dayD rs[p].hs b)), some (.d (nOD (free rs[p].hs b))), some (.d (.int (cntF rs[p].hs b (e - b) : Nat))), x10, x11, x12, x13] S = some (.d (nOD (free rs[p].hs b)), S) := fun x11 => (call_eq (cons_eq (two rfl) (cons_eq (two rfl) (cons_eq (two rfl) nil_eq)))).trans (free_from_ok g hp hb)
  have e3 : ∀ x11 : Option VV, eCall d_hushed_between (aCons (eNm 3) (aCons (eNm 4) (aCons (eNm 5) (aCons (eNm 6) aNil)))) [] [x0, bx, x2, some (.d (rsT tb rs)), some (.d (.int p)), some (.d (.int b)), some (.d (.int e)), some (.d (dayD rs[p].hs b)), some (.d (nOD (free rs[p].hs b))), some (.d (.int (cntF rs[p].hs b (e - b) : Nat))), x10, x11, x12, x13] S = some (.d (.int (cntF rs[p].hs b (e - b) : Nat)), S) := fun x11 => (call_eq (cons_eq (two rfl) (cons_eq (two rfl) (cons_eq (two rfl) (cons_eq (two rfl) nil_eq))))).trans (between_ok g hp hb he)
  rw [seq_nx (ρ1 := [x0, bx, x2, some (.d (rsT tb rs)), some (.d (.int p)), some (.d (.int b)), some (.d (.int e)), some (.d (dayD rs[p].hs b)), some (.d (nOD (free rs[p].hs b))), some (.d (.int (cntF rs[p].hs b (e - b) : Nat))), x10, some (.d (.fl [.bl (hush rs[p].hs b), nOD (free rs[p].hs b)])), x12, x13]) (S1 := S) (by
    unfold sSet eV
    rw [eD_vD (lst_eq (cons_eq (eD_some (e1 _)) (cons_eq (eD_some (e2 _)) nil_eq)) rfl) rfl]
    rfl)]
  have d0 : ∀ x11 : Option VV, eOp fIx (eNm 7) (eC (.int 0)) [x0, bx, x2, some (.d (rsT tb rs)), some (.d (.int p)), some (.d (.int b)), some (.d (.int e)), some (.d (dayD rs[p].hs b)), some (.d (nOD (free rs[p].hs b))), some (.d (.int (cntF rs[p].hs b (e - b) : Nat))), x10, x11, x12, x13] S = some (.d (.bl (hush rs[p].hs b)), S) := fun x11 => by
    rw [op_eq (two rfl) (eD_some (show eC (.int 0) _ S = some (.d (.int ((0 : Nat) : Int)), S) from rfl)), ix_fl (fun i => D.bl (hush rs[p].hs i)) (List.range' b 24) (i := 0) (x := b) (by simp) S]
    rfl
  have a1 : d_law_alike [.fl [.bl (hush rs[p].hs b), nOD (free rs[p].hs b)], .fl [.bl (hush rs[p].hs b), nOD (free rs[p].hs b)]] S = some (.d (.bl true), S) := alike_ok 8 (alk_lst (ds := [.bl (hush rs[p].hs b), nOD (free rs[p].hs b)]) (es := [.bl (hush rs[p].hs b), nOD (free rs[p].hs b)]) rfl rfl (by simp) (alks_cons alk_bl (alks_cons alk_nOD alks_nil)))
  have a2 : d_law_alike [.int (cntF rs[p].hs b (e - b) : Nat), .int (cntF rs[p].hs b (e - b) : Nat)] S = some (.d (.bl true), S) := alike_ok 8 alk_int
  refine if_ff (or_ff (not_eq (t := true) (bV_eq ((call_eq (cons_eq (two rfl) (cons_eq (eD_vD (lst_eq (cons_eq (eD_some (d0 _)) (cons_eq (two rfl) nil_eq)) rfl) rfl) nil_eq))).trans a1))) (not_eq (t := true) (bV_eq ((call_eq (cons_eq (eD_some (e3 _)) (cons_eq (two rfl) nil_eq))).trans a2))))
def TurnH (q : Fl × Slt × Sto) (x0 x2 : Option VV) : Prop := q.1 = .nx ∧ Box q.2.2 ∧ ∃ y3 y4 y5 y6 y7 y8 y9 y10 y11 y12 y13, q.2.1 = [x0, bx, x2, y3, y4, y5, y6, y7, y8, y9, y10, y11, y12, y13]
theorem rest_ok (g : GoodRs rs) (b0 : Box S) {p : Nat} (hp : p < rs.length) : ok ((sSeq (sSet 5 (eOp fIx (eLst (aCons (eCall d_law_take (aCons (eNm 1) (aCons (eC (.int 60)) aNil)) []) (aCons (eCall d_law_take (aCons (eNm 1) (aCons (eOp fAdd (eOp fPow (eC (.int 10)) (eC (.int 6))) (eC (.int 1))) aNil)) []) aNil))) (eCall d_law_take (aCons (eNm 1) (aCons (eC (.int 2)) aNil)) [])))
    (sSeq (sSet 6 (eCB fMin (aCons (eOp fPow (eC (.int 10)) (eC (.int 6))) (aCons (eCB fMax (aCons (eC (.int 0)) (aCons (eOp fSub (eOp fAdd (eNm 5) (eCall d_law_take (aCons (eNm 1) (aCons (eOp fIx (eLst (aCons (eC (.int 30)) (aCons (eC (.int 200)) aNil))) (eCall d_law_take (aCons (eNm 1) (aCons (eC (.int 2)) aNil)) [])) aNil)) [])) (eC (.int 9))) aNil))) aNil))))
    (sSeq (sSet 7 (eV (eD (eLc (iR2 (aCons (eNm 5) (aCons (eOp fAdd (eNm 5) (eC (.int 24))) aNil))) (gNm 12) bYes (eCall d_law_hush (aCons (eOp fIx (eNm 3) (eNm 4)) (aCons (eNm 12) aNil)) []) [12]))))
    (sSeq (sSet 8 (eIf (bV (eOp (fIn false) (eC (.bl false)) (eNm 7))) (eOp fAdd (eNm 5) (eBM isLstD mIdx (eNm 7) (aCons (eC (.bl false)) aNil))) (eC .non)))
    (sSeq (sSet 9 (eCB fLen (aCons (eLc (iR2 (aCons (eNm 5) (aCons (eNm 6) aNil))) (gNm 13) (bV (eCall d_law_hush (aCons (eOp fIx (eNm 3) (eNm 4)) (aCons (eNm 13) aNil)) [])) (eNm 13) [13]) aNil)))
    (sSeq (sFor (iR1 (aCons (eC (.int 2)) aNil)) (gNm 10) (m_law_1))
    (sIf (bNot (bV (eCall d_law_is_refused (aCons (eNm 1) (aCons (eNm 3) (aCons (eNm 5) aNil))) []))) (sRet (eC (.bl false))) sNext))))))) [x0, bx, x2, some (.d (rsT tb rs)), some (.d (.int p)), x5, x6, x7, x8, x9, x10, x11, x12, x13] S) fun q => TurnH q x0 x2 := by
  -- begin
  obtain ⟨b, S1, hb, b1, e5⟩ : ∃ (b : Nat) (S1 : Sto), b ≤ 1000000 ∧ Box S1 ∧ eOp fIx (eLst (aCons (eCall d_law_take (aCons (eNm 1) (aCons (eC (.int 60)) aNil)) []) (aCons (eCall d_law_take (aCons (eNm 1) (aCons (eOp fAdd (eOp fPow (eC (.int 10)) (eC (.int 6))) (eC (.int 1))) aNil)) []) aNil))) (eCall d_law_take (aCons (eNm 1) (aCons (eC (.int 2)) aNil)) []) [x0, bx, x2, some (.d (rsT tb rs)), some (.d (.int p)), x5, x6, x7, x8, x9, x10, x11, x12, x13] S = some (.d (.int b), S1) := by
    obtain ⟨u, S1, hu, b1, _, e1⟩ := takeE (i := 1) (k := 60) (mk := eC (.int 60)) (S0 := S) (S := S) (ρ := [x0, bx, x2, some (.d (rsT tb rs)), some (.d (.int p)), x5, x6, x7, x8, x9, x10, x11, x12, x13]) rfl rfl b0 (by decide) (by decide)
    have pw : eOp fPow (eC (.int 10)) (eC (.int 6)) [x0, bx, x2, some (.d (rsT tb rs)), some (.d (.int p)), x5, x6, x7, x8, x9, x10, x11, x12, x13] S1 = some (.d (.int 1000000), S1) := by
      rw [op_eq (x := .int 10) (y := .int 6) (S1 := S1) (S2 := S1) rfl rfl]
      rfl
    have pw1 : eOp fAdd (eOp fPow (eC (.int 10)) (eC (.int 6))) (eC (.int 1)) [x0, bx, x2, some (.d (rsT tb rs)), some (.d (.int p)), x5, x6, x7, x8, x9, x10, x11, x12, x13] S1 = some (.d (.int 1000001), S1) := by
      rw [op_eq (y := .int 1) (S2 := S1) (eD_some pw) rfl]
      rfl
    obtain ⟨v, S2, hv, b2, _, e2⟩ := takeE (i := 1) (k := 1000001) (S0 := S1) (S := S1) (ρ := [x0, bx, x2, some (.d (rsT tb rs)), some (.d (.int p)), x5, x6, x7, x8, x9, x10, x11, x12, x13]) rfl (eD_some pw1) b1 (by decide) (by decide)
    obtain ⟨w, S3, hw, b3, _, e3⟩ := takeE (i := 1) (k := 2) (mk := eC (.int 2)) (S0 := S2) (S := S2) (ρ := [x0, bx, x2, some (.d (rsT tb rs)), some (.d (.int p)), x5, x6, x7, x8, x9, x10, x11, x12, x13]) rfl rfl b2 (by decide) (by decide)
    refine ⟨if w = 0 then u else v, S3, by split <;> omega, b3, ixL (cons_eq (eD_some e1) (cons_eq (eD_some e2) nil_eq)) rfl (eD_some e3) ?_⟩
    rcases (show w = 0 ∨ w = 1 by omega) with q | q <;> (subst q; rfl)
  refine seq_eq (set_eq e5) ?_
  -- end
  obtain ⟨e, S2, he, b2, e6⟩ : ∃ (e : Nat) (S2 : Sto), e ≤ 1000000 ∧ Box S2 ∧ eCB fMin (aCons (eOp fPow (eC (.int 10)) (eC (.int 6))) (aCons (eCB fMax (aCons (eC (.int 0)) (aCons (eOp fSub (eOp fAdd (eNm 5) (eCall d_law_take (aCons (eNm 1) (aCons (eOp fIx (eLst (aCons (eC (.int 30)) (aCons (eC (.int 200)) aNil))) (eCall d_law_take (aCons (eNm 1) (aCons (eC (.int 2)) aNil)) [])) aNil)) [])) (eC (.int 9))) aNil))) aNil)) [x0, bx, x2, some (.d (rsT tb rs)), some (.d (.int p)), some (.d (.int b)), x6, x7, x8, x9, x10, x11, x12, x13] S1 = some (.d (.int e), S2) := by
    have pw : eOp fPow (eC (.int 10)) (eC (.int 6)) [x0, bx, x2, some (.d (rsT tb rs)), some (.d (.int p)), some (.d (.int b)), x6, x7, x8, x9, x10, x11, x12, x13] S1 = some (.d (.int 1000000), S1) := by
      rw [op_eq (x := .int 10) (y := .int 6) (S1 := S1) (S2 := S1) rfl rfl]
      rfl
    obtain ⟨lim, S2, hl, b2, _, e1⟩ := pick2E (i := 1) (a := 30) (c := 200) (S := S1) (ρ := [x0, bx, x2, some (.d (rsT tb rs)), some (.d (.int p)), some (.d (.int b)), x6, x7, x8, x9, x10, x11, x12, x13]) rfl b1
    obtain ⟨y, S3, hy, b3, _, e2⟩ := takeE (i := 1) (k := lim) (mk := eOp fIx (eLst (aCons (eC (.int 30)) (aCons (eC (.int 200)) aNil))) (eCall d_law_take (aCons (eNm 1) (aCons (eC (.int 2)) aNil)) [])) (S0 := S1) (S := S2) (ρ := [x0, bx, x2, some (.d (rsT tb rs)), some (.d (.int p)), some (.d (.int b)), x6, x7, x8, x9, x10, x11, x12, x13]) rfl (eD_some e1) b2 (by omega) (by omega)
    have s1 : eOp fSub (eOp fAdd (eNm 5) (eCall d_law_take (aCons (eNm 1) (aCons (eOp fIx (eLst (aCons (eC (.int 30)) (aCons (eC (.int 200)) aNil))) (eCall d_law_take (aCons (eNm 1) (aCons (eC (.int 2)) aNil)) [])) aNil)) [])) (eC (.int 9)) [x0, bx, x2, some (.d (rsT tb rs)), some (.d (.int p)), some (.d (.int b)), x6, x7, x8, x9, x10, x11, x12, x13] S1 = some (.d (.int ((b : Int) + y - 9)), S3) := by
      have : eOp fAdd (eNm 5) (eCall d_law_take (aCons (eNm 1) (aCons (eOp fIx (eLst (aCons (eC (.int 30)) (aCons (eC (.int 200)) aNil))) (eCall d_law_take (aCons (eNm 1) (aCons (eC (.int 2)) aNil)) [])) aNil)) []) [x0, bx, x2, some (.d (rsT tb rs)), some (.d (.int p)), some (.d (.int b)), x6, x7, x8, x9, x10, x11, x12, x13] S1 = some (.d (.int ((b : Int) + y)), S3) := by
        rw [op_eq (two rfl) (eD_some e2)]
        rfl
      rw [op_eq (y := .int 9) (S2 := S3) (eD_some this) rfl]
      rfl
    have s2 : eCB fMax (aCons (eC (.int 0)) (aCons (eOp fSub (eOp fAdd (eNm 5) (eCall d_law_take (aCons (eNm 1) (aCons (eOp fIx (eLst (aCons (eC (.int 30)) (aCons (eC (.int 200)) aNil))) (eCall d_law_take (aCons (eNm 1) (aCons (eC (.int 2)) aNil)) [])) aNil)) [])) (eC (.int 9))) aNil)) [x0, bx, x2, some (.d (rsT tb rs)), some (.d (.int p)), some (.d (.int b)), x6, x7, x8, x9, x10, x11, x12, x13] S1 = some (.d (.int (if ((b : Int) + y - 9) > 0 then (b : Int) + y - 9 else 0)), S3) := by
      rw [cb_eq (cons_eq (x := .int 0) (S1 := S1) (a := eC (.int 0)) rfl (cons_eq (eD_some s1) nil_eq))]
      rfl
    have s3 := cb_eq (f := fMin) (cons_eq (eD_some pw) (cons_eq (eD_some s2) nil_eq))
    refine ⟨(if (if ((b : Int) + y - 9) > 0 then (b : Int) + y - 9 else 0) < 1000000 then (if ((b : Int) + y - 9) > 0 then (b : Int) + y - 9 else 0) else 1000000).toNat, S3, ?_, b3, ?_⟩
    · split <;> split <;> omega
    · rw [s3, Int.toNat_of_nonneg (by split <;> split <;> omega)]
      rfl
  refine seq_eq (set_eq e6) ?_
  have hr := g.g _ (List.getElem_mem hp)
  have ix : ∀ (x7 x8 x9 x12 x13 : Option VV), eOp fIx (eNm 3) (eNm 4) [x0, bx, x2, some (.d (rsT tb rs)), some (.d (.int p)), some (.d (.int b)), some (.d (.int e)), x7, x8, x9, x10, x11, x12, x13] S2 = some (.d (rD rs[p]), S2) := fun x7 x8 x9 x12 x13 => by
    rw [op_eq (two rfl) (two rfl), rl_at g hp]
    rfl
  have lc7 : eLc (iR2 (aCons (eNm 5) (aCons (eOp fAdd (eNm 5) (eC (.int 24))) aNil))) (gNm 12) bYes (eCall d_law_hush (aCons (eOp fIx (eNm 3) (eNm 4)) (aCons (eNm 12) aNil)) []) [12] [x0, bx, x2, some (.d (rsT tb rs)), some (.d (.int p)), some (.d (.int b)), some (.d (.int e)), x7, x8, x9, x10, x11, x12, x13] S2 = some (.own (.lst ((List.range' b 24).map fun i => .bl (hush rs[p].hs i))), S2) := by
    have h := lc_fm (i := iR2 (aCons (eNm 5) (aCons (eOp fAdd (eNm 5) (eC (.int 24))) aNil))) (gt := gNm 12) (c := bYes) (m := eCall d_law_hush (aCons (eOp fIx (eNm 3) (eNm 4)) (aCons (eNm 12) aNil)) []) (vs := [12]) (ρ := [x0, bx, x2, some (.d (rsT tb rs)), some (.d (.int p)), some (.d (.int b)), some (.d (.int e)), x7, x8, x9, x10, x11, x12, x13]) (S := S2) (S1 := S2) (r := inD) (fun _ => true) (fun i => .bl (hush rs[p].hs i)) (l := List.range' b 24) ?_ (by simp) fun q hq => ⟨_, rfl, rfl, fun _ => ?_⟩
    · rw [h, filt_t]
    · rw [iR2_nat (x := b) (y := b + 24) (S := S2) rfl (by omega) (by omega), Nat.add_sub_cancel_left]
    · exact eD_some ((call_eq (cons_eq (eD_some (ix x7 x8 x9 (some (.d (inD q))) x13)) (cons_eq (two rfl) nil_eq))).trans (law_hush_ok hr q S2))
  refine seq_eq (ρ1 := [x0, bx, x2, some (.d (rsT tb rs)), some (.d (.int p)), some (.d (.int b)), some (.d (.int e)), some (.d (dayD rs[p].hs b)), x8, x9, x10, x11, x12, x13]) (S1 := S2) ?_ ?_
  · show sSet 7 _ [x0, bx, x2, some (.d (rsT tb rs)), some (.d (.int p)), some (.d (.int b)), some (.d (.int e)), x7, x8, x9, x10, x11, x12, x13] S2 = _
    unfold sSet eV
    rw [eD_vD lc7 rfl]
    rfl
  have e8 : eIf (bV (eOp (fIn false) (eC (.bl false)) (eNm 7))) (eOp fAdd (eNm 5) (eBM isLstD mIdx (eNm 7) (aCons (eC (.bl false)) aNil))) (eC .non) [x0, bx, x2, some (.d (rsT tb rs)), some (.d (.int p)), some (.d (.int b)), some (.d (.int e)), some (.d (dayD rs[p].hs b)), x8, x9, x10, x11, x12, x13] S2 = some (.d (nOD (free rs[p].hs b)), S2) := by
    have fl := flat_bl (hush rs[p].hs) (List.range' b 24)
    have ib := in_bl (hush rs[p].hs) (List.range' b 24)
    have di := day_idx rs[p].hs b
    have c : bV (eOp (fIn false) (eC (.bl false)) (eNm 7)) [x0, bx, x2, some (.d (rsT tb rs)), some (.d (.int p)), some (.d (.int b)), some (.d (.int e)), some (.d (dayD rs[p].hs b)), x8, x9, x10, x11, x12, x13] S2 = some ((idxF (.bl false) ((List.range' b 24).map fun i => .bl (hush rs[p].hs i))).isSome, S2) := by
      refine bV_eq ?_
      rw [op_eq (x := .bl false) (S1 := S2) (a := eC (.bl false)) rfl (two rfl)]
      show ((some _).bind fun ys => if (flatD (.bl false) && List.all ys flatD) = true then some (VV.d (.bl (inF (.bl false) ys))) else none).map _ = _
      rw [Option.bind_some, fl, ib]
      rfl
    unfold eIf
    rw [c, Option.bind_some]
    dsimp only
    cases hi : idxF (.bl false) ((List.range' b 24).map fun i => .bl (hush rs[p].hs i)) with
    | none =>
      rw [hi] at di
      rw [← di]
      rfl
    | some j =>
      rw [hi] at di
      rw [← di]
      refine (if_pos (show (some j).isSome = true from rfl)).trans ?_
      have ej : eBM isLstD mIdx (eNm 7) (aCons (eC (.bl false)) aNil) [x0, bx, x2, some (.d (rsT tb rs)), some (.d (.int p)), some (.d (.int b)), some (.d (.int e)), some (.d (dayD rs[p].hs b)), x8, x9, x10, x11, x12, x13] S2 = some (.d (.int j), S2) := by
        unfold eBM
        rw [two (x := dayD rs[p].hs b) rfl, Option.bind_some]
        show (if (true : Bool) = true then (aCons (eC (.bl false)) aNil _ S2).bind _ else none) = _
        rw [if_pos rfl]
        show ((some ((List.range' b 24).map fun i => D.bl (hush rs[p].hs i))).bind fun ds => if (flatD (.bl false) && ds.all flatD) = true then (idxF (.bl false) ds).map fun j => (VV.d (.int (j : Nat)), S2) else none) = _
        rw [Option.bind_some, fl, hi]
        rfl
      rw [op_eq (two rfl) (eD_some ej)]
      rfl
  refine seq_eq (set_eq e8) ?_
  have lc9 : eLc (iR2 (aCons (eNm 5) (aCons (eNm 6) aNil))) (gNm 13) (bV (eCall d_law_hush (aCons (eOp fIx (eNm 3) (eNm 4)) (aCons (eNm 13) aNil)) [])) (eNm 13) [13] [x0, bx, x2, some (.d (rsT tb rs)), some (.d (.int p)), some (.d (.int b)), some (.d (.int e)), some (.d (dayD rs[p].hs b)), some (.d (nOD (free rs[p].hs b))), x9, x10, x11, x12, x13] S2 = some (.own (.lst (((List.range' b (e - b)).filter (hush rs[p].hs)).map inD)), S2) := by
    refine lc_fm (r := inD) (hush rs[p].hs) inD (l := List.range' b (e - b)) (iR2_nat (x := b) (y := e) (S := S2) rfl (by omega) (by omega)) (by simp; omega) fun q hq => ⟨_, rfl, ?_, fun _ => rfl⟩
    exact bV_eq ((call_eq (cons_eq (eD_some (ix _ _ x9 x12 (some (.d (inD q))))) (cons_eq (two rfl) nil_eq))).trans (law_hush_ok hr q S2))
  have e9 : eCB fLen (aCons (eLc (iR2 (aCons (eNm 5) (aCons (eNm 6) aNil))) (gNm 13) (bV (eCall d_law_hush (aCons (eOp fIx (eNm 3) (eNm 4)) (aCons (eNm 13) aNil)) [])) (eNm 13) [13]) aNil) [x0, bx, x2, some (.d (rsT tb rs)), some (.d (.int p)), some (.d (.int b)), some (.d (.int e)), some (.d (dayD rs[p].hs b)), some (.d (nOD (free rs[p].hs b))), x9, x10, x11, x12, x13] S2 = some (.d (.int (cntF rs[p].hs b (e - b) : Nat)), S2) := by
    rw [cb1_eq lc9 rfl, len_fl]
    rfl
  refine seq_eq (set_eq e9) ?_
  show ok (sSeq _ _ [x0, bx, x2, some (.d (rsT tb rs)), some (.d (.int p)), some (.d (.int b)), some (.d (.int e)), some (.d (dayD rs[p].hs b)), some (.d (nOD (free rs[p].hs b))), some (.d (.int (cntF rs[p].hs b (e - b) : Nat))), x10, x11, x12, x13] S2) _
  refine seq_ok (for_ok ?_)
  rw [ok_eq (iR1_eq (n := 2) (S' := S2) rfl (by omega))]
  refine (forL_ok (fun i ρ S3 => S3 = S2 ∧ ∃ y10 y11, ρ = [x0, bx, x2, some (.d (rsT tb rs)), some (.d (.int p)), some (.d (.int b)), some (.d (.int e)), some (.d (dayD rs[p].hs b)), some (.d (nOD (free rs[p].hs b))), some (.d (.int (cntF rs[p].hs b (e - b) : Nat))), y10, y11, x12, x13]) (rngL 0 2) 0 ⟨rfl, x10, x11, rfl⟩ ?_).mono ?_
  · rintro i d hd ρ S3 ⟨rfl, y10, y11, rfl⟩
    obtain ⟨z11, ez⟩ := again_ok (S := S3) (tb := tb) (x0 := x0) (x2 := x2) (x10 := some (.d d)) (x11 := y11) (x12 := x12) (x13 := x13) g hp hb he
    exact ok_some.mpr ((ok_eq ez).mpr ⟨rfl, rfl, _, _, rfl⟩)
  · rintro ⟨f, ρ, S3⟩ ⟨q1, q2, y10, y11, q3⟩
    dsimp only at q1 q2 q3
    subst q1 q2 q3
    refine ⟨rfl, ?_⟩
    obtain ⟨S4, b4, er⟩ := refused_ok (tb := tb) b2 g hb
    exact (ok_eq (if_ff (not_eq (t := true) (bV_eq ((call_eq (cons_eq (two rfl) (cons_eq (two rfl) (cons_eq (two rfl) nil_eq)))).trans er))))).mpr ⟨rfl, b4, _, _, _, _, _, _, _, _, _, _, _, rfl⟩
end
end Wk
/-! Hours: a turn, the whole. -/
namespace Wk
open PySem L2 Yi
section
variable {rs : List Rl} {S : Sto} {ρ : Slt} {x0 x2 x3 x4 x5 x6 x7 x8 x9 x10 x11 x12 x13 : Option VV}
theorem rulesE (b : Box S) : ∃ (rs : List Rl) (S1 : Sto), GoodRs rs ∧ Box S1 ∧ Kp S S1 ∧ d_law_rules [.ref 1] S = some (.d (rsT true rs), S1) := by
  obtain ⟨r, e, rs, S1, g, b1, k1, rfl⟩ := rules_ok b (Q := fun p => ∃ (rs : List Rl) (S1 : Sto), GoodRs rs ∧ Box S1 ∧ Kp S S1 ∧ p = (.d (.pt (rs.map rD)), S1)) fun rs S1 g b1 k1 => ⟨rs, S1, g, b1, k1, rfl⟩
  exact ⟨rs, S1, g, b1, k1, e⟩
theorem eqE {m : EM} {i j : Int} {S1 : Sto} (h : m ρ S = some (.d (.int i), S1)) : bV (eOp fEq m (eC (.int j))) ρ S = some (i == j, S1) := by
  refine bV_eq ?_
  rw [op_eq (eD_some h) (eD_some (show eC (.int j) ρ S1 = some (.d (.int j), S1) from rfl))]
  unfold fEq
  rw [eq_int]
  rfl
theorem cut1 {α : Type} (x : α) (l : List α) : cutL (x :: l) (some 1) none = l := by
  have e1 : HT.sIx (x :: l).length 0 (some ((1 : Nat) : Int)) = min 1 (x :: l).length := HT.sIx_nat _ _ _
  have e2 : HT.sIx (x :: l).length (x :: l).length none = (x :: l).length := rfl
  have e3 : min 1 (x :: l).length = 1 := by simp
  show ((x :: l).drop (HT.sIx (x :: l).length 0 (some ((1 : Nat) : Int)))).take (HT.sIx (x :: l).length (x :: l).length none - HT.sIx (x :: l).length 0 (some ((1 : Nat) : Int))) = l
  rw [e1, e2, e3]
  simp
theorem turn_ok (b : Box S) : ok (m_law_2 [x0, bx, x2, x3, x4, x5, x6, x7, x8, x9, x10, x11, x12, x13] S) fun q => TurnH q x0 x2 := by
  unfold m_law_2
  obtain ⟨rs, S1, g, b1, k1, er⟩ := rulesE b
  have l6 := g.l6
  have l1 := g.l1
  refine seq_eq (ρ1 := [x0, bx, x2, some (.d (rsT true rs)), x4, x5, x6, x7, x8, x9, x10, x11, x12, x13]) (S1 := S1) (set_eq ((call_eq (cons_eq (two rfl) nil_eq)).trans er)) ?_
  have lenE : eCB fLen (aCons (eNm 3) aNil) [x0, bx, x2, some (.d (rsT true rs)), x4, x5, x6, x7, x8, x9, x10, x11, x12, x13] S1 = some (.d (.int rs.length), S1) := by
    rw [cb_eq (cons_eq (two rfl) nil_eq), len_pt]
    rfl
  obtain ⟨p, S2, hp, b2, k2, e2⟩ := takeE (i := 1) (k := rs.length) (S0 := S1) (S := S1) (ρ := [x0, bx, x2, some (.d (rsT true rs)), x4, x5, x6, x7, x8, x9, x10, x11, x12, x13]) rfl (eD_some lenE) b1 (by omega) (by omega)
  refine seq_eq (ρ1 := [x0, bx, x2, some (.d (rsT true rs)), some (.d (.int p)), x5, x6, x7, x8, x9, x10, x11, x12, x13]) (S1 := S2) (set_eq e2) ?_
  have hp : p < rs.length := by omega
  obtain ⟨y, S3, y6, b3, k3, ey⟩ := takeE (i := 1) (k := 6) (mk := eC (.int 6)) (S0 := S2) (S := S2) (ρ := [x0, bx, x2, some (.d (rsT true rs)), some (.d (.int p)), x5, x6, x7, x8, x9, x10, x11, x12, x13]) rfl rfl b2 (by decide) (by decide)
  have ec := eqE (j := 0) ey
  by_cases z : (y : Int) = 0
  · rw [show ((y : Int) == 0) = true from beq_iff_eq.mpr z] at ec
    obtain ⟨b, S4, hb, b4, k4, eb⟩ := takeE (i := 1) (k := 24) (mk := eC (.int 24)) (S0 := S3) (S := S3) (ρ := [x0, bx, x2, some (.d (rsT true rs)), some (.d (.int p)), x5, x6, x7, x8, x9, x10, x11, x12, x13]) rfl rfl b3 (by decide) (by decide)
    obtain ⟨r, t, rfl⟩ : ∃ r t, rs = r :: t := by
      cases rs with
      | nil => simp at l1
      | cons r t => exact ⟨r, t, rfl⟩
    have gr := g.g r (by simp)
    have g' : GoodRs ({ r with hs := [((b : Int), ((b : Int) + 9) % 24), (((b : Int) + 9) % 24, (b : Int))], hb := false } :: t) := by
      refine ⟨by simpa using l1, by simpa using l6, fun q hq => ?_⟩
      rcases List.mem_cons.mp hq with rfl | hq
      · refine ⟨by simp, fun q hq => ?_, gr.l0, gr.l4, gr.gl, gr.gk, gr.gr, gr.w, gr.f⟩
        have hq : q = ((b : Int), ((b : Int) + 9) % 24) ∨ q = (((b : Int) + 9) % 24, (b : Int)) := by simpa using hq
        rcases hq with rfl | rfl <;> (dsimp only; omega)
      · exact g.g q (by simp [hq])
    have l6' : t.length ≤ 5 := by simpa using l6
    refine seq_eq (ρ1 := [x0, bx, x2, some (.d (rsT false ({ r with hs := [((b : Int), ((b : Int) + 9) % 24), (((b : Int) + 9) % 24, (b : Int))], hb := false } :: t))), some (.d (.int (0 : Nat))), some (.d (.int b)), x6, x7, x8, x9, x10, x11, x12, x13]) (S1 := S4) ?_ (rest_ok g' b4 (by simp))
    rw [if_t ec, seq_nx (set_eq eb)]
    show sSeq _ _ [x0, bx, x2, some (.d (rsT true (r :: t))), some (.d (.int p)), some (.d (.int b)), x6, x7, x8, x9, x10, x11, x12, x13] S4 = _
    have sl : eSl (eNm 3) (oPart (eC (.int 1))) oNo [x0, bx, x2, some (.d (rsT true (r :: t))), some (.d (.int p)), some (.d (.int b)), x6, x7, x8, x9, x10, x11, x12, x13] S4 = some (.d (.tp (true && decide (HT.sIx ((r :: t).map rD).length 0 (some 1) = 0 ∧ HT.sIx ((r :: t).map rD).length ((r :: t).map rD).length none = ((r :: t).map rD).length)) (cutL ((r :: t).map rD) (some 1) none)), S4) := rfl
    rw [List.map_cons, cut1] at sl
    have ru : eOp fAdd (eTup (aCons (eTup (aCons (eTup (aCons (eNm 5) (aCons (eOp fMod (eOp fAdd (eNm 5) (eC (.int 9))) (eC (.int 24))) aNil))) (aCons (eTup (aCons (eOp fMod (eOp fAdd (eNm 5) (eC (.int 9))) (eC (.int 24))) (aCons (eNm 5) aNil))) aNil))) aNil)) (eSl (eOp fIx (eNm 3) (eC (.int 0))) (oPart (eC (.int 1))) oNo) [x0, bx, x2, some (.d (rsT true (r :: t))), some (.d (.int p)), some (.d (.int b)), x6, x7, x8, x9, x10, x11, x12, x13] S4 = some (.d (rD { r with hs := [((b : Int), ((b : Int) + 9) % 24), (((b : Int) + 9) % 24, (b : Int))], hb := false }), S4) := by
      have s2 : eSl (eOp fIx (eNm 3) (eC (.int 0))) (oPart (eC (.int 1))) oNo [x0, bx, x2, some (.d (rsT true (r :: t))), some (.d (.int p)), some (.d (.int b)), x6, x7, x8, x9, x10, x11, x12, x13] S4 = some (.d (.tup [.int r.least, .pt (r.gs.map pD), oD r.wait, oD r.fur]), S4) := by
        have ix : eOp fIx (eNm 3) (eC (.int 0)) [x0, bx, x2, some (.d (rsT true (r :: t))), some (.d (.int p)), some (.d (.int b)), x6, x7, x8, x9, x10, x11, x12, x13] S4 = some (.d (rD r), S4) := by
          rw [op_eq (y := .int ((0 : Nat) : Int)) (S2 := S4) (two rfl) rfl, rl_at g (by simp)]
          rfl
        unfold eSl
        rw [eD_some ix]
        rfl
      rw [op_eq (x := .tup [.tup [.tup [.int b, .int (((b : Int) + 9) % 24)], .tup [.int (((b : Int) + 9) % 24), .int b]]]) (S1 := S4) rfl (eD_some s2)]
      rfl
    have zz : szOk (1 + (t.map rD).length) = true := by rw [List.length_map]; simp [szOk]; omega
    have al : eOp fAdd (eTup (aCons (eOp fAdd (eTup (aCons (eTup (aCons (eTup (aCons (eNm 5) (aCons (eOp fMod (eOp fAdd (eNm 5) (eC (.int 9))) (eC (.int 24))) aNil))) (aCons (eTup (aCons (eOp fMod (eOp fAdd (eNm 5) (eC (.int 9))) (eC (.int 24))) (aCons (eNm 5) aNil))) aNil))) aNil)) (eSl (eOp fIx (eNm 3) (eC (.int 0))) (oPart (eC (.int 1))) oNo)) aNil)) (eSl (eNm 3) (oPart (eC (.int 1))) oNo) [x0, bx, x2, some (.d (rsT true (r :: t))), some (.d (.int p)), some (.d (.int b)), x6, x7, x8, x9, x10, x11, x12, x13] S4 = some (.d (rsT false ({ r with hs := [((b : Int), ((b : Int) + 9) % 24), (((b : Int) + 9) % 24, (b : Int))], hb := false } :: t)), S4) := by
      rw [op_eq (eD_some (tup_eq (cons_eq (eD_some ru) nil_eq) rfl)) (eD_some sl)]
      show (if szOk (1 + (t.map rD).length) = true then _ else none).map _ = _
      rw [if_pos zz]
      rfl
    rw [seq_nx (ρ1 := [x0, bx, x2, some (.d (rsT false ({ r with hs := [((b : Int), ((b : Int) + 9) % 24), (((b : Int) + 9) % 24, (b : Int))], hb := false } :: t))), some (.d (.int p)), some (.d (.int b)), x6, x7, x8, x9, x10, x11, x12, x13]) (S1 := S4) (by
      unfold sSet eV
      rw [eD_some al]
      rfl)]
    rfl
  · rw [show ((y : Int) == 0) = false from beq_eq_false_iff_ne.mpr z] at ec
    exact seq_eq (if_ff ec) (rest_ok g b3 hp)
end
theorem plain : ∀ ns : List Int, ns.length ≤ 63 → ∃ S', d_law [.lk ns] [] = some (.d (.bl true), S') := by
  intro ls _
  obtain ⟨z, be⟩ := begun_ok ls
  have key : ok (d_law [.lk ls] []) fun p => p.1 = .d (.bl true) := by
    refine den_ok rfl ?_
    unfold m_law
    have e1 : sSet 1 (eBox (eCall d_law_begun (aCons (eNm 0) aNil) [])) ([D.lk ls].map (fun d => some (VV.d d)) ++ List.replicate (14 - 1) none) [] = some (.nx, some (.d (.lk ls)) :: some (.d (.ref 1)) :: List.replicate 12 none, [.lst (ls.map .int), .lst [.ref 0, .int z]]) := by
      refine ok.get ?_
      simp [sNext, sIf, sBreak, sCont, sNever, sExpr, sRet, sRetO, sRetN, sSet, sAsg, gNm, gsNil, gsCons, gT, gL, eD, eV, eBox, eNm, eC, eOp, eUn, aNil, aCons, eTup, eLst, eCB, bV, bAnd, bOr, bNot, eAnd, eOr, eNot, eIf, eChain, eCall, eFld, sFldS, sFldA, eMeth, eMake, bYes, fSub, fLt, fLe, fGt, fGe, fDiv, fMod, fPow, fNeg, fAdd, fMul, fIsN, fNotN, Yi.isNon, fEq, fNe, fIn, fInS, fIx, intR, oNo, oPart, fSl, eSl, eRev, sAppO, sExtO, sAug, oIx, oIn, oEq, sPar, sPar3, sSetIx, eDGet, eDIn, eDGet2, sDPutS, eDPop1, eDPop2, eDNewK, eDNewT, oDGet, oDIn, eBM, mApp, mExt, mPopAt, mIdx, cellL, iEv, iR1, iR2, iC, fLen, oLen, fMax, fMin, fAll, fAny, fSum, fSortI, fList, fTuple, fInt, fStr, fIsi, tyD, isLstD, isStrD, isDD, lstD, seqD, stD, eCallF, nAt, iSt, mJoin, mSplit, fAddI, sStar, iEnS, eSortSet, fSet, eLenSet, insAt, lkp, putD, ok_some, ok_none, ok_bind, ok_map, eq_int, eq_bl, sAsg, kb_NoneType_int, kb_NoneType_bool, kb_NoneType_str, kb_NoneType_tuple, kb_NoneType_list, kb_bool_int, kb_bool_bool, kb_bool_str, kb_bool_tuple, kb_bool_list, kb_int_int, kb_int_bool, kb_int_str, kb_int_tuple, kb_int_list, kb_str_int, kb_str_bool, kb_str_str, kb_str_tuple, kb_str_list, kb_tuple_int, kb_tuple_bool, kb_tuple_str, kb_tuple_tuple, kb_tuple_list, kb_list_int, kb_list_bool, kb_list_str, kb_list_tuple, kb_list_list, sz_0, sz_1, sz_2, sz_3, sz_4, sz_5, sz_6, sz_7, sz_8, sz_9, sz_10, sz_11, sz_12, sz_13, sz_14, sz_15, sz_16, ix_1_0, ix_2_0, ix_2_1, ix_3_0, ix_3_1, ix_3_2, ix_4_0, ix_4_1, ix_4_2, ix_4_3, ix_5_0, ix_5_1, ix_5_2, ix_5_3, ix_5_4, ix_6_0, ix_6_1, ix_6_2, ix_6_3, ix_6_4, ix_6_5, ix_7_0, ix_7_1, ix_7_2, ix_7_3, ix_7_4, ix_7_5, ix_7_6, sI_0, sI_1, sI_48271, sI_69621, be]
    refine seq_eq e1 ?_
    have b1 : Box [.lst (ls.map .int), .lst [.ref 0, .int z]] := ⟨ls, z, rfl, rfl⟩
    generalize ([.lst (ls.map .int), .lst [.ref 0, .int z]] : Sto) = S1 at b1
    refine seq_ok (for_ok ?_)
    rw [ok_eq (show iR1 (aCons (eC (.int 4)) aNil) _ S1 = some (rngL 0 4, S1) from iR1_eq (n := 4) rfl (by omega))]
    refine (forL_ok (fun i ρ S2 => Box S2 ∧ ∃ x0 x2 x3 x4 x5 x6 x7 x8 x9 x10 x11 x12 x13, ρ = [x0, bx, x2, x3, x4, x5, x6, x7, x8, x9, x10, x11, x12, x13]) (rngL 0 4) 0 ⟨b1, _, _, _, _, _, _, _, _, _, _, _, _, _, rfl⟩ ?_).mono ?_
    · rintro i d hd ρ S2 ⟨b2, x0, x2, x3, x4, x5, x6, x7, x8, x9, x10, x11, x12, x13, rfl⟩
      refine ok_some.mpr ((turn_ok (x0 := x0) (x2 := some (.d d)) (x3 := x3) (x4 := x4) (x5 := x5) (x6 := x6) (x7 := x7) (x8 := x8) (x9 := x9) (x10 := x10) (x11 := x11) (x12 := x12) (x13 := x13) b2).mono ?_)
      rintro ⟨f, ρ, S3⟩ ⟨e, b3, y3, y4, y5, y6, y7, y8, y9, y10, y11, y12, y13, e3⟩
      exact ⟨e, b3, _, _, _, _, _, _, _, _, _, _, _, _, _, e3⟩
    · rintro ⟨f, ρ, S2⟩ ⟨e, b2, _⟩
      exact ⟨e, ok_some.mpr rfl⟩
  obtain ⟨⟨v, S'⟩, e, rfl⟩ := key
  exact ⟨S', e⟩
end Wk
namespace Wk
open PySem L2 Yi
/-! ### what the top has left -/
structure Ad where
  f_is_number : Addr
  fd_is_number : FuncData
  f_is_stretch : Addr
  fd_is_stretch : FuncData
  f_is_gathered : Addr
  fd_is_gathered : FuncData
  f_are_pairs : Addr
  fd_are_pairs : FuncData
  f_bad_part : Addr
  fd_bad_part : FuncData
  f_need_rules : Addr
  fd_need_rules : FuncData
  f_need_person : Addr
  fd_need_person : FuncData
  f_need_moment : Addr
  fd_need_moment : FuncData
  f_is_in : Addr
  fd_is_in : FuncData
  f_hush_at : Addr
  fd_hush_at : FuncData
  f_is_hushed : Addr
  fd_is_hushed : FuncData
  f_free_at : Addr
  fd_free_at : FuncData
  f_free_from : Addr
  fd_free_from : FuncData
  f_hushed_between : Addr
  fd_hushed_between : FuncData
  f_law_begun : Addr
  fd_law_begun : FuncData
  f_law_take : Addr
  fd_law_take : FuncData
  f_law_alike : Addr
  fd_law_alike : FuncData
  f_law_stretches : Addr
  fd_law_stretches : FuncData
  f_law_rule : Addr
  fd_law_rule : FuncData
  f_law_rules : Addr
  fd_law_rules : FuncData
  f_law_hush : Addr
  fd_law_hush : FuncData
  f_law_told : Addr
  fd_law_told : FuncData
  f_law_all : Addr
  fd_law_all : FuncData
  f_law_is_refused : Addr
  fd_law_is_refused : FuncData
  f_law : Addr
  fd_law : FuncData
  x_BadBell : Addr
  x_BadDevice : Addr
  x_BadHears : Addr
  x_BadMoment : Addr
  x_BadNotices : Addr
  x_BadPerson : Addr
  x_BadRules : Addr
  x_BadText : Addr
  x_IsOff : Addr
  x_NotRinging : Addr
  x_NoticeError : Addr
  co_law_is_refused : Addr
  tb_law_is_refused : Addr
def gm (K : PySem.W.Frag) (A : Ad) : Gm := ⟨K, fun n => match n with | _ => 0, fun n => match n with | 0 => A.f_is_gathered | 1 => A.f_is_stretch | _ => 0, xcOf A.x_BadBell A.x_BadDevice A.x_BadHears A.x_BadMoment A.x_BadNotices A.x_BadPerson A.x_BadRules A.x_BadText A.x_IsOff A.x_NotRinging, [(A.tb_law_is_refused, (("_law_is_refused" : Str) ++ ".<locals>." : Str) ++ "<lambda>")], fun n => match n with | 0 => some lam_0 | 1 => some lam_1 | 2 => some lam_2 | 3 => some lam_3 | 4 => some lam_4 | 5 => some lam_5 | 6 => some lam_6 | _ => none⟩
structure Txt (K : PySem.W.Frag) (mg : Str → Option Value) (A : Ad) : Prop where
  F_is_number : Fun K "is_number" "is_number" s_is_number A.f_is_number A.fd_is_number
  b_is_number : Binds K A.fd_is_number ["part", "low", "high"] []
  g_is_number : mg "is_number" = some (.ref A.f_is_number)
  F_is_stretch : Fun K "is_stretch" "is_stretch" s_is_stretch A.f_is_stretch A.fd_is_stretch
  b_is_stretch : Binds K A.fd_is_stretch ["pair"] []
  g_is_stretch : mg "is_stretch" = some (.ref A.f_is_stretch)
  F_is_gathered : Fun K "is_gathered" "is_gathered" s_is_gathered A.f_is_gathered A.fd_is_gathered
  b_is_gathered : Binds K A.fd_is_gathered ["pair"] []
  g_is_gathered : mg "is_gathered" = some (.ref A.f_is_gathered)
  F_are_pairs : Fun K "are_pairs" "are_pairs" s_are_pairs A.f_are_pairs A.fd_are_pairs
  b_are_pairs : Binds K A.fd_are_pairs ["some", "most", "is_good"] []
  g_are_pairs : mg "are_pairs" = some (.ref A.f_are_pairs)
  F_bad_part : Fun K "bad_part" "bad_part" s_bad_part A.f_bad_part A.fd_bad_part
  b_bad_part : Binds K A.fd_bad_part ["rule", "many"] []
  g_bad_part : mg "bad_part" = some (.ref A.f_bad_part)
  F_need_rules : Fun K "need_rules" "need_rules" s_need_rules A.f_need_rules A.fd_need_rules
  b_need_rules : Binds K A.fd_need_rules ["rules"] []
  g_need_rules : mg "need_rules" = some (.ref A.f_need_rules)
  F_need_person : Fun K "need_person" "need_person" s_need_person A.f_need_person A.fd_need_person
  b_need_person : Binds K A.fd_need_person ["rules", "person"] []
  g_need_person : mg "need_person" = some (.ref A.f_need_person)
  F_need_moment : Fun K "need_moment" "need_moment" s_need_moment A.f_need_moment A.fd_need_moment
  b_need_moment : Binds K A.fd_need_moment ["moment"] []
  g_need_moment : mg "need_moment" = some (.ref A.f_need_moment)
  F_is_in : Fun K "is_in" "is_in" s_is_in A.f_is_in A.fd_is_in
  b_is_in : Binds K A.fd_is_in ["stretch", "hour"] []
  g_is_in : mg "is_in" = some (.ref A.f_is_in)
  F_hush_at : Fun K "hush_at" "hush_at" s_hush_at A.f_hush_at A.fd_hush_at
  b_hush_at : Binds K A.fd_hush_at ["rule", "moment"] []
  g_hush_at : mg "hush_at" = some (.ref A.f_hush_at)
  F_is_hushed : Fun K "is_hushed" "is_hushed" s_is_hushed A.f_is_hushed A.fd_is_hushed
  b_is_hushed : Binds K A.fd_is_hushed ["rules", "person", "moment"] []
  g_is_hushed : mg "is_hushed" = some (.ref A.f_is_hushed)
  F_free_at : Fun K "free_at" "free_at" s_free_at A.f_free_at A.fd_free_at
  b_free_at : Binds K A.fd_free_at ["rule", "moment"] []
  g_free_at : mg "free_at" = some (.ref A.f_free_at)
  F_free_from : Fun K "free_from" "free_from" s_free_from A.f_free_from A.fd_free_from
  b_free_from : Binds K A.fd_free_from ["rules", "person", "moment"] []
  g_free_from : mg "free_from" = some (.ref A.f_free_from)
  F_hushed_between : Fun K "hushed_between" "hushed_between" s_hushed_between A.f_hushed_between A.fd_hushed_between
  b_hushed_between : Binds K A.fd_hushed_between ["rules", "person", "begin", "end"] []
  g_hushed_between : mg "hushed_between" = some (.ref A.f_hushed_between)
  F_law_begun : Fun K "_law_begun" "_law_begun" s_law_begun A.f_law_begun A.fd_law_begun
  b_law_begun : Binds K A.fd_law_begun ["_law_script"] []
  g_law_begun : mg "_law_begun" = some (.ref A.f_law_begun)
  F_law_take : Fun K "_law_take" "_law_take" s_law_take A.f_law_take A.fd_law_take
  b_law_take : Binds K A.fd_law_take ["_law_box", "_law_many"] []
  g_law_take : mg "_law_take" = some (.ref A.f_law_take)
  F_law_alike : Fun K "_law_alike" "_law_alike" s_law_alike A.f_law_alike A.fd_law_alike
  b_law_alike : Binds K A.fd_law_alike ["_law_found", "_law_due"] []
  g_law_alike : mg "_law_alike" = some (.ref A.f_law_alike)
  F_law_stretches : Fun K "_law_stretches" "_law_stretches" s_law_stretches A.f_law_stretches A.fd_law_stretches
  b_law_stretches : Binds K A.fd_law_stretches ["_law_box"] []
  g_law_stretches : mg "_law_stretches" = some (.ref A.f_law_stretches)
  F_law_rule : Fun K "_law_rule" "_law_rule" s_law_rule A.f_law_rule A.fd_law_rule
  b_law_rule : Binds K A.fd_law_rule ["_law_box", "_law_many"] []
  g_law_rule : mg "_law_rule" = some (.ref A.f_law_rule)
  F_law_rules : Fun K "_law_rules" "_law_rules" s_law_rules A.f_law_rules A.fd_law_rules
  b_law_rules : Binds K A.fd_law_rules ["_law_box"] []
  g_law_rules : mg "_law_rules" = some (.ref A.f_law_rules)
  F_law_hush : Fun K "_law_hush" "_law_hush" s_law_hush A.f_law_hush A.fd_law_hush
  b_law_hush : Binds K A.fd_law_hush ["_law_rule_here", "_law_moment"] []
  g_law_hush : mg "_law_hush" = some (.ref A.f_law_hush)
  F_law_told : Fun K "_law_told" "_law_told" s_law_told A.f_law_told A.fd_law_told
  b_law_told : Binds K A.fd_law_told ["_law_work"] []
  g_law_told : mg "_law_told" = some (.ref A.f_law_told)
  F_law_all : Fun K "_law_all" "_law_all" s_law_all A.f_law_all A.fd_law_all
  b_law_all : Binds K A.fd_law_all ["_law_works", "_law_due"] []
  g_law_all : mg "_law_all" = some (.ref A.f_law_all)
  F_law_is_refused : Fun K "_law_is_refused" "_law_is_refused" s_law_is_refused A.f_law_is_refused A.fd_law_is_refused
  b_law_is_refused : Binds K A.fd_law_is_refused ["_law_box", "_law_rules_here", "_law_moment"] []
  g_law_is_refused : mg "_law_is_refused" = some (.ref A.f_law_is_refused)
  F_law : Fun K "law" "law" s_law A.f_law A.fd_law
  g_law : mg "law" = some (.ref A.f_law)
  ask : Asked K mg (gm K A).xc
  ten : Ten K (gm K A).xc A.x_NoticeError
  gNE : mg "NoticeError" = some (.ref A.x_NoticeError)
  gx_BadMoment : mg "BadMoment" = some (.ref A.x_BadMoment)
  xi_BadMoment : PySem.W.excIn K A.x_BadMoment [.type "ValueError", .type "Exception", .type "BaseException", .type "object"] "ValueError.__new__" = true
  kx_BadMoment : PySem.W.keepIn K (.ref A.x_BadMoment) = true
  sx_BadMoment : PySem.W.subIn K (.ref A.x_BadMoment) (.type "BaseException") = some true
  tx_BadMoment : PySem.W.typeIn K (.ref A.x_BadMoment) = some (.type "type")
  gx_BadPerson : mg "BadPerson" = some (.ref A.x_BadPerson)
  xi_BadPerson : PySem.W.excIn K A.x_BadPerson [.type "ValueError", .type "Exception", .type "BaseException", .type "object"] "ValueError.__new__" = true
  kx_BadPerson : PySem.W.keepIn K (.ref A.x_BadPerson) = true
  sx_BadPerson : PySem.W.subIn K (.ref A.x_BadPerson) (.type "BaseException") = some true
  tx_BadPerson : PySem.W.typeIn K (.ref A.x_BadPerson) = some (.type "type")
  cd_law_is_refused : A.fd_law_is_refused.code = .ref A.co_law_is_refused
  n_all : mg "all" = none
  n_any : mg "any" = none
  n_bool : mg "bool" = none
  n_divmod : mg "divmod" = none
  n_enumerate : mg "enumerate" = none
  n_int : mg "int" = none
  n_isinstance : mg "isinstance" = none
  n_len : mg "len" = none
  n_list : mg "list" = none
  n_max : mg "max" = none
  n_min : mg "min" = none
  n_range : mg "range" = none
  n_set : mg "set" = none
  n_sorted : mg "sorted" = none
  n_str : mg "str" = none
  n_tuple : mg "tuple" = none
  g_DAY : ∃ t, mg "DAY" = some (.int 24 t)
  g_HUSHED : ∃ t, mg "HUSHED" = some (.int 0 t)
  g_MOST_GATHERED : ∃ t, mg "MOST_GATHERED" = some (.int 4 t)
  g_MOST_HUSHED : ∃ t, mg "MOST_HUSHED" = some (.int 3 t)
  g_MOST_KIND : ∃ t, mg "MOST_KIND" = some (.int 7 t)
  g_MOST_MOMENT : ∃ t, mg "MOST_MOMENT" = some (.int 1000000 t)
  g_MOST_PERSONS : ∃ t, mg "MOST_PERSONS" = some (.int 6 t)
  g_MOST_RANK : ∃ t, mg "MOST_RANK" = some (.int 3 t)
  g_MOST_SPAN : ∃ t, mg "MOST_SPAN" = some (.int 12 t)
  g_MOST_WAIT : ∃ t, mg "MOST_WAIT" = some (.int 24 t)
structure TBs (mg : Str → Option Value) (base : Heap) (A : Ad) : Prop where
  law_is_refused : LamX.TabB base mg A.co_law_is_refused A.tb_law_is_refused
section
variable {P : Program} {w : World} {K : PySem.W.Frag} {mg : Str → Option Value} {base : Heap} {A : Ad}
theorem tbm_law_is_refused (A : Ad) : (A.tb_law_is_refused, (lam_0).qual) ∈ (gm K A).tb := .head _
theorem tbu_law_is_refused (T : Txt K mg A) : ∀ p ∈ (gm K A).tb, p.1 = A.tb_law_is_refused → p.2 = (lam_0).qual := fun p hp e => by
  have hp : p ∈ [(A.tb_law_is_refused, (("_law_is_refused" : Str) ++ ".<locals>." : Str) ++ "<lambda>")] := hp
  rcases List.mem_cons.mp hp with q | hp
  · rw [q]
  cases hp
theorem ok_is_number (T : Txt K mg A) : FnOk P w K mg base CX0 1 A.f_is_number A.fd_is_number ["part", "low", "high"] (spI (gm K A) 3 d_is_number) := by
  refine fn_I T.F_is_number sc_is_number fun cdv A0 outer s H E hr => ?_
  refine ⟨_, (pss_one (ps_ret (pe_and (pe_callB (call_isiK K) (by rfl) T.n_isinstance PyProof.Rows.boot_isinstance (pa_cons (pv 0) (pa_cons (pe_bltn (v := .ty "int") (by rfl) T.n_int PyProof.Rows.boot_int rfl) pa_nil))) (pe_and (pe_not (pe_callB (call_isiK K) (by rfl) T.n_isinstance PyProof.Rows.boot_isinstance (pa_cons (pv 0) (pa_cons (pe_bltn (v := .ty "bool") (by rfl) T.n_bool PyProof.Rows.boot_bool rfl) pa_nil)))) (pe_one (pe_chain op_le op_le (pv 1) (pv 0) (pv 2))))))), ?_⟩
  exact (snd_ret (snd_andV (snd_cb snd_isi (snd_cons (snd_nm 0) (snd_cons snd_ty snd_nil))) (snd_andV (snd_notV (snd_cb snd_isi (snd_cons (snd_nm 0) (snd_cons snd_ty snd_nil)))) (snd_chain snd_le snd_le (snd_nm 1) (snd_nm 0) (snd_nm 2)))))
theorem ok_is_stretch (T : Txt K mg A) : FnOk P w K mg base CX0 2 A.f_is_stretch A.fd_is_stretch ["pair"] (spI (gm K A) 1 d_is_stretch) := by
  refine fn_I T.F_is_stretch sc_is_stretch fun cdv A0 outer s H E hr => ?_
  refine ⟨_, (pss_one (ps_ret (pe_and (pe_call (ok_is_number T) (hr.mono (by decide)) rfl T.g_is_number T.F_is_number.kp T.b_is_number .nil pass0 (pa_cons (pe_ix (ix_seqK K) (pv 0) pe_int (fun _ _ => rfl)) (pa_cons pe_int (pa_cons (pe_op op_sub (pe_glob (v := .int 24) rfl T.g_DAY.choose_spec ⟨_, rfl⟩) pe_int) pa_nil)))) (pe_and (pe_call (ok_is_number T) (hr.mono (by decide)) rfl T.g_is_number T.F_is_number.kp T.b_is_number .nil pass0 (pa_cons (pe_ix (ix_seqK K) (pv 0) pe_int (fun _ _ => rfl)) (pa_cons pe_int (pa_cons (pe_op op_sub (pe_glob (v := .int 24) rfl T.g_DAY.choose_spec ⟨_, rfl⟩) pe_int) pa_nil)))) (pe_one (pe_cmpR (op_neK K hr.units) (pe_ix (ix_seqK K) (pv 0) pe_int (fun _ _ => rfl)) (pe_ix (ix_seqK K) (pv 0) pe_int (fun _ _ => rfl)) (nomark _))))))), ?_⟩
  exact (snd_ret (snd_andV (snd_call (dvs := []) (snd_cons (snd_op snd_ix (snd_nm 0) snd_int) (snd_cons snd_int (snd_cons (snd_op snd_sub snd_int snd_int) snd_nil))) nod den_len) (snd_andV (snd_call (dvs := []) (snd_cons (snd_op snd_ix (snd_nm 0) snd_int) (snd_cons snd_int (snd_cons (snd_op snd_sub snd_int snd_int) snd_nil))) nod den_len) (snd_op snd_ne (snd_op snd_ix (snd_nm 0) snd_int) (snd_op snd_ix (snd_nm 0) snd_int)))))
theorem ok_is_gathered (T : Txt K mg A) : FnOk P w K mg base CX0 2 A.f_is_gathered A.fd_is_gathered ["pair"] (spI (gm K A) 1 d_is_gathered) := by
  refine fn_I T.F_is_gathered sc_is_gathered fun cdv A0 outer s H E hr => ?_
  refine ⟨_, (pss_one (ps_ret (pe_and (pe_call (ok_is_number T) (hr.mono (by decide)) rfl T.g_is_number T.F_is_number.kp T.b_is_number .nil pass0 (pa_cons (pe_ix (ix_seqK K) (pv 0) pe_int (fun _ _ => rfl)) (pa_cons pe_int (pa_cons (pe_glob (v := .int 7) rfl T.g_MOST_KIND.choose_spec ⟨_, rfl⟩) pa_nil)))) (pe_one (pe_call (ok_is_number T) (hr.mono (by decide)) rfl T.g_is_number T.F_is_number.kp T.b_is_number .nil pass0 (pa_cons (pe_ix (ix_seqK K) (pv 0) pe_int (fun _ _ => rfl)) (pa_cons pe_int (pa_cons (pe_glob (v := .int 12) rfl T.g_MOST_SPAN.choose_spec ⟨_, rfl⟩) pa_nil)))))))), ?_⟩
  exact (snd_ret (snd_andV (snd_call (dvs := []) (snd_cons (snd_op snd_ix (snd_nm 0) snd_int) (snd_cons snd_int (snd_cons snd_int snd_nil))) nod den_len) (snd_call (dvs := []) (snd_cons (snd_op snd_ix (snd_nm 0) snd_int) (snd_cons snd_int (snd_cons snd_int snd_nil))) nod den_len)))
abbrev sp_are_pairs_is_good (G : Gm) : Nat → Option Sp := fun n => (fns_are_pairs_is_good n).map fun f => spI G 1 f
theorem fns_are_pairs_is_good_ok {n : Nat} {f : Den} (h : fns_are_pairs_is_good n = some f) : ∀ ds S w S', f ds S = some (w, S') → ds.length = 1 := by
  unfold fns_are_pairs_is_good at h
  split at h <;> first | (cases h; exact den_len) | cases h
theorem held_are_pairs_is_good (T : Txt K mg A) (n : Nat) (sp : Sp) (h : sp_are_pairs_is_good (gm K A) n = some sp) : Held P w K mg base 2 ((gm K A).fn n) sp := by
  obtain ⟨f, h1, h2⟩ := Option.map_eq_some_iff.mp h
  subst h2
  unfold fns_are_pairs_is_good at h1
  split at h1
  · cases h1
    exact ⟨_, _, ok_is_stretch T, T.F_is_stretch.kp, T.b_is_stretch⟩
  · cases h1
    exact ⟨_, _, ok_is_gathered T, T.F_is_gathered.kp, T.b_is_gathered⟩
  · cases h1
theorem ok_are_pairs (T : Txt K mg A) : FnOk P w K mg base CX0 3 A.f_are_pairs A.fd_are_pairs ["some", "most", "is_good"] (spI (gm K A) 3 d_are_pairs) := by
  refine fn_I T.F_are_pairs sc_are_pairs fun cdv A0 outer s H E hr => ?_
  refine ⟨_, (pss_cons (ps_if (PW.pt (pw_or (pt_not (pt_val (pe_callB (call_isiK K) (by rfl) T.n_isinstance PyProof.Rows.boot_isinstance (pa_cons (pv 0) (pa_cons (pe_bltn (v := .ty "tuple") (by rfl) T.n_tuple PyProof.Rows.boot_tuple rfl) pa_nil))))) (pw_or1 (pt_cmpR op_gt (pe_callB (call_lenK K) (by rfl) T.n_len PySem.boot_len (pa_cons (pv 0) pa_nil)) (pv 1) (nomark _))))) (pss_one (ps_ret pe_bl)) pss_nil)
    (pss_one (ps_ret (pe_callB (call_allK K rfl) (by rfl) T.n_all PyProof.Rows.boot_all (pa_cons (pe_lc (own := [("pair", 3)]) rfl sc_are_pairs.nd (pi_seqK K (pv 0)) (blkOk_by (N := n_are_pairs) (sc := defScope s_are_pairs) (own := [("pair", 3)]) (by decide +kernel)) (fun _ _ _ _ _ => (pg_name (i := 3) sc_are_pairs.nd rfl (by first | exact Or.inl rfl | exact Or.inr rfl))) (fun _ _ _ _ _ => pts_nil) (fun _ _ _ _ _ => (pe_and (pe_callB (call_isiK K) (by rfl) T.n_isinstance PyProof.Rows.boot_isinstance (pa_cons (pv 3) (pa_cons (pe_bltn (v := .ty "tuple") (by rfl) T.n_tuple PyProof.Rows.boot_tuple rfl) pa_nil))) (pe_and (pe_cmpR (op_eqK K hr.units) (pe_callB (call_lenK K) (by rfl) T.n_len PySem.boot_len (pa_cons (pv 3) pa_nil)) pe_int (nomark _)) (pe_one (pe_callF (i := 2) (SP := sp_are_pairs_is_good (gm K A)) (held_are_pairs_is_good T) (hr.mono (by decide)) rfl (by first | exact Or.inl rfl | exact Or.inr (Or.inl rfl) | exact Or.inr (Or.inr rfl)) (pa_cons (pv 3) pa_nil))))))) pa_nil))))), ?_⟩
  exact (snd_seq (snd_ifS (snd_or (snd_not (snd_tB (snd_cb snd_isi (snd_cons (snd_nm 0) (snd_cons snd_ty snd_nil))))) (snd_test (snd_op snd_gt (snd_cb snd_len (snd_cons (snd_nm 0) snd_nil)) (snd_nm 1)))) (snd_ret snd_bl) snd_next)
    (snd_ret (snd_cb snd_all (snd_cons (snd_lc (snd_iseq (snd_nm 0)) (snd_gname (i := 3)) snd_yes (snd_andV (snd_cb snd_isi (snd_cons (snd_nm 3) (snd_cons snd_ty snd_nil))) (snd_andV (snd_op snd_eq (snd_cb snd_len (snd_cons (snd_nm 3) snd_nil)) snd_int) (snd_callF (i := 2) fns_are_pairs_is_good_ok (snd_cons (snd_nm 3) snd_nil)))) (by decide)) snd_nil))))
theorem ok_bad_part (T : Txt K mg A) : FnOk P w K mg base CX0 4 A.f_bad_part A.fd_bad_part ["rule", "many"] (spI (gm K A) 2 d_bad_part) := by
  refine fn_I T.F_bad_part sc_bad_part fun cdv A0 outer s H E hr => ?_
  refine ⟨_, (pss_cons (ps_if (PW.pt (pw_or (pt_not (pt_val (pe_callB (call_isiK K) (by rfl) T.n_isinstance PyProof.Rows.boot_isinstance (pa_cons (pv 0) (pa_cons (pe_bltn (v := .ty "tuple") (by rfl) T.n_tuple PyProof.Rows.boot_tuple rfl) pa_nil))))) (pw_or1 (pt_cmpR (op_neK K hr.units) (pe_callB (call_lenK K) (by rfl) T.n_len PySem.boot_len (pa_cons (pv 0) pa_nil)) pe_int (nomark _))))) (pss_one (ps_ret (pe_un un_neg pe_int))) pss_nil)
    (pss_cons (ps_asg (pv 0) (pg_tupK (n := 5) K rfl (pgs_cons (pg_name (i := 4) sc_bad_part.nd rfl (by first | exact Or.inl rfl | exact Or.inr rfl)) (pgs_cons (pg_name (i := 5) sc_bad_part.nd rfl (by first | exact Or.inl rfl | exact Or.inr rfl)) (pgs_cons (pg_name (i := 6) sc_bad_part.nd rfl (by first | exact Or.inl rfl | exact Or.inr rfl)) (pgs_cons (pg_name (i := 7) sc_bad_part.nd rfl (by first | exact Or.inl rfl | exact Or.inr rfl)) (pgs_cons (pg_name (i := 8) sc_bad_part.nd rfl (by first | exact Or.inl rfl | exact Or.inr rfl)) pgs_nil)))))))
    (pss_cons (ps_set (i := 2) sc_bad_part.nd rfl (by first | exact Or.inl rfl | exact Or.inr rfl) (pe_ifExp (pt_val (pe_call (ok_are_pairs T) (hr.mono (by decide)) rfl T.g_are_pairs T.F_are_pairs.kp T.b_are_pairs .nil pass0 (pa_cons (pv 6) (pa_cons (pe_glob (v := .int 4) rfl T.g_MOST_GATHERED.choose_spec ⟨_, rfl⟩) (pa_cons (pe_glob (v := .ref A.f_is_gathered) rfl T.g_is_gathered rfl) pa_nil))))) (pe_lc (own := [("pair", 9)]) rfl sc_bad_part.nd (pi_seqK K (pv 6)) (blkOk_by (N := n_bad_part) (sc := defScope s_bad_part) (own := [("pair", 9)]) (by decide +kernel)) (fun _ _ _ _ _ => (pg_name (i := 9) sc_bad_part.nd rfl (by first | exact Or.inl rfl | exact Or.inr rfl))) (fun _ _ _ _ _ => pts_nil) (fun _ _ _ _ _ => (pe_ix (ix_seqK K) (pv 9) pe_int (fun _ _ => rfl)))) (pe_lst (pa_cons pe_int (pa_cons pe_int pa_nil)))))
    (pss_cons (ps_set (i := 3) sc_bad_part.nd rfl (by first | exact Or.inl rfl | exact Or.inr rfl) (pe_lst (pa_cons (pe_call (ok_are_pairs T) (hr.mono (by decide)) rfl T.g_are_pairs T.F_are_pairs.kp T.b_are_pairs .nil pass0 (pa_cons (pv 4) (pa_cons (pe_glob (v := .int 3) rfl T.g_MOST_HUSHED.choose_spec ⟨_, rfl⟩) (pa_cons (pe_glob (v := .ref A.f_is_stretch) rfl T.g_is_stretch rfl) pa_nil)))) (pa_cons (pe_call (ok_is_number T) (hr.mono (by decide)) rfl T.g_is_number T.F_is_number.kp T.b_is_number .nil pass0 (pa_cons (pv 5) (pa_cons pe_int (pa_cons (pe_op (op_addK K) (pe_glob (v := .int 3) rfl T.g_MOST_RANK.choose_spec ⟨_, rfl⟩) pe_int) pa_nil)))) pa_nil))))
    (pss_cons (ps_aug (i := 3) sc_bad_part.nd rfl (by first | exact Or.inl rfl | exact Or.inr rfl) (pe_lst (pa_cons (pe_cmpR (op_eqK K hr.units) (pv 2) (pe_sortSetK K rfl rfl T.n_sorted rfl T.n_set (pv 2)) (nomark _)) (pa_cons (pe_or (pe_cmpR op_isN (pv 7) pe_non (nomark _)) (pe_one (pe_call (ok_is_number T) (hr.mono (by decide)) rfl T.g_is_number T.F_is_number.kp T.b_is_number .nil pass0 (pa_cons (pv 7) (pa_cons pe_int (pa_cons (pe_glob (v := .int 24) rfl T.g_MOST_WAIT.choose_spec ⟨_, rfl⟩) pa_nil)))))) pa_nil))) iop_ext)
    (pss_cons (ps_expr (pe_bmK K PySem.F.plainAttrs_list PySem.F.slot_list_append PySem.F.type_list_append mt_append (pv 3) (pa_cons (pe_or (pe_cmpR op_isN (pv 8) pe_non (nomark _)) (pe_one (pe_call (ok_is_number T) (hr.mono (by decide)) rfl T.g_is_number T.F_is_number.kp T.b_is_number .nil pass0 (pa_cons (pv 8) (pa_cons pe_int (pa_cons (pe_op op_sub (pv 1) pe_int) pa_nil)))))) pa_nil)))
    (pss_one (ps_ret (pe_ifExp (pt_cmpR (op_inK K) pe_bl (pv 3) (by with_unfolding_all rfl)) (pe_bmK K PySem.F.plainAttrs_list PySem.F.slot_list_index PySem.F.type_list_index (mt_indexK K) (pv 3) (pa_cons pe_bl pa_nil)) pe_non))))))))), ?_⟩
  exact (snd_seq (snd_ifS (snd_or (snd_not (snd_tB (snd_cb snd_isi (snd_cons (snd_nm 0) (snd_cons snd_ty snd_nil))))) (snd_test (snd_op snd_ne (snd_cb snd_len (snd_cons (snd_nm 0) snd_nil)) snd_int))) (snd_ret (snd_un snd_neg snd_int)) snd_next)
    (snd_seq (snd_asg (snd_nm 0) (snd_gtup (n := 5) (snd_gcons (snd_gname (i := 4)) (snd_gcons (snd_gname (i := 5)) (snd_gcons (snd_gname (i := 6)) (snd_gcons (snd_gname (i := 7)) (snd_gcons (snd_gname (i := 8)) snd_gnil)))))))
    (snd_seq (snd_set (i := 2) (snd_v (snd_d (snd_if (snd_tB (snd_call (dvs := []) (snd_cons (snd_nm 6) (snd_cons snd_int (snd_cons (snd_fn (n := 0)) snd_nil))) nod den_len)) (snd_lc (snd_iseq (snd_nm 6)) (snd_gname (i := 9)) snd_yes (snd_op snd_ix (snd_nm 9) snd_int) (by decide)) (snd_lst (snd_cons snd_int (snd_cons snd_int snd_nil)))))))
    (snd_seq (snd_set (i := 3) (snd_lst (snd_cons (snd_call (dvs := []) (snd_cons (snd_nm 4) (snd_cons snd_int (snd_cons (snd_fn (n := 1)) snd_nil))) nod den_len) (snd_cons (snd_call (dvs := []) (snd_cons (snd_nm 5) (snd_cons snd_int (snd_cons (snd_op snd_add snd_int snd_int) snd_nil))) nod den_len) snd_nil))))
    (snd_seq (snd_extO (i := 3) (snd_lst (snd_cons (snd_op snd_eq (snd_nm 2) (snd_sortSet (snd_nm 2))) (snd_cons (snd_orV (snd_op snd_isN (snd_nm 7) snd_non) (snd_call (dvs := []) (snd_cons (snd_nm 7) (snd_cons snd_int (snd_cons snd_int snd_nil))) nod den_len)) snd_nil))))
    (snd_seq (snd_appO (i := 3) (snd_orV (snd_op snd_isN (snd_nm 8) snd_non) (snd_call (dvs := []) (snd_cons (snd_nm 8) (snd_cons snd_int (snd_cons (snd_op snd_sub (snd_nm 1) snd_int) snd_nil))) nod den_len)))
    (snd_frz 3 (snd_ret (snd_if (snd_test (snd_op snd_in snd_bl (snd_nm 3))) (snd_bm ty_lst snd_mIdx (snd_nm 3) (snd_cons snd_bl snd_nil)) snd_non)))))))))
theorem ok_need_rules (T : Txt K mg A) : FnOk P w K mg base CX0 5 A.f_need_rules A.fd_need_rules ["rules"] (spI (gm K A) 1 d_need_rules) := by
  refine fn_I T.F_need_rules sc_need_rules fun cdv A0 outer s H E hr => ?_
  refine ⟨_, (pss_cons (ps_if (PW.pt (pw_or (pt_not (pt_val (pe_callB (call_isiK K) (by rfl) T.n_isinstance PyProof.Rows.boot_isinstance (pa_cons (pv 0) (pa_cons (pe_bltn (v := .ty "tuple") (by rfl) T.n_tuple PyProof.Rows.boot_tuple rfl) pa_nil))))) (pw_or1 (pt_cmpR (op_eqK K hr.units) (pv 0) (pe_tup pa_nil) (nomark _))))) (pss_one ps_never) pss_nil)
    (pss_one (ps_for PassesOwn.never rfl (pi_enumSK K (by rfl) T.n_enumerate (pa_cons (pv 0) pa_nil)) (pg_tupK (n := 2) K rfl (pgs_cons (pg_name (i := 1) sc_need_rules.nd rfl (by first | exact Or.inl rfl | exact Or.inr rfl)) (pgs_cons (pg_name (i := 2) sc_need_rules.nd rfl (by first | exact Or.inl rfl | exact Or.inr rfl)) pgs_nil))) (pss_cons (ps_set (i := 3) sc_need_rules.nd rfl (by first | exact Or.inl rfl | exact Or.inr rfl) (pe_call (ok_bad_part T) (hr.mono (by decide)) rfl T.g_bad_part T.F_bad_part.kp T.b_bad_part .nil pass0 (pa_cons (pv 2) (pa_cons (pe_callB (call_lenK K) (by rfl) T.n_len PySem.boot_len (pa_cons (pv 0) pa_nil)) pa_nil))))
    (pss_one (ps_if (PW.pt (pw_or (pt_cmpR op_ge (pv 1) (pe_glob (v := .int 6) rfl T.g_MOST_PERSONS.choose_spec ⟨_, rfl⟩) (nomark _)) (pw_or1 (pt_cmpR op_notN (pv 3) pe_non (nomark _))))) (pss_one ps_never) pss_nil)))))), ?_⟩
  exact (snd_seq (snd_ifS (snd_or (snd_not (snd_tB (snd_cb snd_isi (snd_cons (snd_nm 0) (snd_cons snd_ty snd_nil))))) (snd_test (snd_op snd_eq (snd_nm 0) (snd_tup snd_nil)))) snd_never snd_next)
    (snd_for (mb := m_need_rules_1) (snd_ienS (snd_cons (snd_nm 0) snd_nil)) (snd_gtup (n := 2) (snd_gcons (snd_gname (i := 1)) (snd_gcons (snd_gname (i := 2)) snd_gnil))) (snd_seq (snd_set (i := 3) (snd_call (dvs := []) (snd_cons (snd_nm 2) (snd_cons (snd_cb snd_len (snd_cons (snd_nm 0) snd_nil)) snd_nil)) nod den_len))
    (snd_ifS (snd_or (snd_test (snd_op snd_ge (snd_nm 1) snd_int)) (snd_test (snd_op snd_notN (snd_nm 3) snd_non))) snd_never snd_next))))
theorem okx_need_person (T : Txt K mg A) : FnOk P w K mg base (L2.CX P w) 2 A.f_need_person A.fd_need_person ["rules", "person"] (spX (gm K A) 2 dx_need_person) := by
  refine fnX_I T.F_need_person sc_need_person fun cdv A0 outer s H E hr => ?_
  refine ⟨_, (pss_one (ps_if (pt_not (pt_val (pe_call (ok_is_number T) (hr.mono (by decide)) rfl T.g_is_number T.F_is_number.kp T.b_is_number .nil pass0 (pa_cons (pv 1) (pa_cons pe_int (pa_cons (pe_op op_sub (pe_callB (call_lenK K) (by rfl) T.n_len PySem.boot_len (pa_cons (pv 0) pa_nil)) pe_int) pa_nil)))))) (pss_one (ps_raise rfl (takes_of rfl rfl rfl rfl) (pmk_own PySem.F.excBase_ValueError T.xi_BadPerson T.gx_BadPerson T.kx_BadPerson (raises_own T.sx_BadPerson T.tx_BadPerson) rfl))) pss_nil)), ?_⟩
  exact (snd_xif (snd_not (snd_tB (snd_call (dvs := []) (snd_cons (snd_nm 1) (snd_cons snd_int (snd_cons (snd_op snd_sub (snd_cb snd_len (snd_cons (snd_nm 0) snd_nil)) snd_int) snd_nil))) nod den_len))) (snd_xrz (c := 5) rfl) (snd_xs snd_next))
theorem ok_need_person (T : Txt K mg A) : FnOk P w K mg base CX0 2 A.f_need_person A.fd_need_person ["rules", "person"] (spI (gm K A) 2 d_need_person) := by
  refine fn_I T.F_need_person sc_need_person fun cdv A0 outer s H E hr => ?_
  refine ⟨_, (pss_one (ps_if (pt_not (pt_val (pe_call (ok_is_number T) (hr.mono (by decide)) rfl T.g_is_number T.F_is_number.kp T.b_is_number .nil pass0 (pa_cons (pv 1) (pa_cons pe_int (pa_cons (pe_op op_sub (pe_callB (call_lenK K) (by rfl) T.n_len PySem.boot_len (pa_cons (pv 0) pa_nil)) pe_int) pa_nil)))))) (pss_one ps_never) pss_nil)), ?_⟩
  exact (snd_ifS (snd_not (snd_tB (snd_call (dvs := []) (snd_cons (snd_nm 1) (snd_cons snd_int (snd_cons (snd_op snd_sub (snd_cb snd_len (snd_cons (snd_nm 0) snd_nil)) snd_int) snd_nil))) nod den_len))) snd_never snd_next)
theorem okx_need_moment (T : Txt K mg A) : FnOk P w K mg base (L2.CX P w) 2 A.f_need_moment A.fd_need_moment ["moment"] (spX (gm K A) 1 dx_need_moment) := by
  refine fnX_I T.F_need_moment sc_need_moment fun cdv A0 outer s H E hr => ?_
  refine ⟨_, (pss_one (ps_if (pt_not (pt_val (pe_call (ok_is_number T) (hr.mono (by decide)) rfl T.g_is_number T.F_is_number.kp T.b_is_number .nil pass0 (pa_cons (pv 0) (pa_cons pe_int (pa_cons (pe_glob (v := .int 1000000) rfl T.g_MOST_MOMENT.choose_spec ⟨_, rfl⟩) pa_nil)))))) (pss_one (ps_raise rfl (takes_of rfl rfl rfl rfl) (pmk_own PySem.F.excBase_ValueError T.xi_BadMoment T.gx_BadMoment T.kx_BadMoment (raises_own T.sx_BadMoment T.tx_BadMoment) rfl))) pss_nil)), ?_⟩
  exact (snd_xif (snd_not (snd_tB (snd_call (dvs := []) (snd_cons (snd_nm 0) (snd_cons snd_int (snd_cons snd_int snd_nil))) nod den_len))) (snd_xrz (c := 3) rfl) (snd_xs snd_next))
theorem ok_need_moment (T : Txt K mg A) : FnOk P w K mg base CX0 2 A.f_need_moment A.fd_need_moment ["moment"] (spI (gm K A) 1 d_need_moment) := by
  refine fn_I T.F_need_moment sc_need_moment fun cdv A0 outer s H E hr => ?_
  refine ⟨_, (pss_one (ps_if (pt_not (pt_val (pe_call (ok_is_number T) (hr.mono (by decide)) rfl T.g_is_number T.F_is_number.kp T.b_is_number .nil pass0 (pa_cons (pv 0) (pa_cons pe_int (pa_cons (pe_glob (v := .int 1000000) rfl T.g_MOST_MOMENT.choose_spec ⟨_, rfl⟩) pa_nil)))))) (pss_one ps_never) pss_nil)), ?_⟩
  exact (snd_ifS (snd_not (snd_tB (snd_call (dvs := []) (snd_cons (snd_nm 0) (snd_cons snd_int (snd_cons snd_int snd_nil))) nod den_len))) snd_never snd_next)
theorem ok_is_in (T : Txt K mg A) : FnOk P w K mg base CX0 1 A.f_is_in A.fd_is_in ["stretch", "hour"] (spI (gm K A) 2 d_is_in) := by
  refine fn_I T.F_is_in sc_is_in fun cdv A0 outer s H E hr => ?_
  refine ⟨_, (pss_cons (ps_asg (pv 0) (pg_tupK (n := 2) K rfl (pgs_cons (pg_name (i := 2) sc_is_in.nd rfl (by first | exact Or.inl rfl | exact Or.inr rfl)) (pgs_cons (pg_name (i := 3) sc_is_in.nd rfl (by first | exact Or.inl rfl | exact Or.inr rfl)) pgs_nil))))
    (pss_cons (ps_if (pt_cmpR op_lt (pv 2) (pv 3) (nomark _)) (pss_one (ps_ret (pe_chain op_le op_lt (pv 2) (pv 1) (pv 3)))) pss_nil)
    (pss_one (ps_ret (pe_or (pe_cmpR op_ge (pv 1) (pv 2) (nomark _)) (pe_one (pe_cmpR op_lt (pv 1) (pv 3) (nomark _)))))))), ?_⟩
  exact (snd_seq (snd_asg (snd_nm 0) (snd_gtup (n := 2) (snd_gcons (snd_gname (i := 2)) (snd_gcons (snd_gname (i := 3)) snd_gnil))))
    (snd_seq (snd_ifS (snd_test (snd_op snd_lt (snd_nm 2) (snd_nm 3))) (snd_ret (snd_chain snd_le snd_lt (snd_nm 2) (snd_nm 1) (snd_nm 3))) snd_next)
    (snd_ret (snd_orV (snd_op snd_ge (snd_nm 1) (snd_nm 2)) (snd_op snd_lt (snd_nm 1) (snd_nm 3))))))
theorem ok_hush_at (T : Txt K mg A) : FnOk P w K mg base CX0 2 A.f_hush_at A.fd_hush_at ["rule", "moment"] (spI (gm K A) 2 d_hush_at) := by
  refine fn_I T.F_hush_at sc_hush_at fun cdv A0 outer s H E hr => ?_
  refine ⟨_, (pss_one (ps_ret (pe_callB (call_anyK K rfl) (by rfl) T.n_any PyProof.Rows.boot_any (pa_cons (pe_lc (own := [("stretch", 2)]) rfl sc_hush_at.nd (pi_seqK K (pe_ix (ix_seqK K) (pv 0) (pe_glob (v := .int 0) rfl T.g_HUSHED.choose_spec ⟨_, rfl⟩) (fun _ _ => rfl))) (blkOk_by (N := n_hush_at) (sc := defScope s_hush_at) (own := [("stretch", 2)]) (by decide +kernel)) (fun _ _ _ _ _ => (pg_name (i := 2) sc_hush_at.nd rfl (by first | exact Or.inl rfl | exact Or.inr rfl))) (fun _ _ _ _ _ => pts_nil) (fun _ _ _ _ _ => (pe_call (ok_is_in T) (hr.mono (by decide)) rfl T.g_is_in T.F_is_in.kp T.b_is_in .nil pass0 (pa_cons (pv 2) (pa_cons (pe_op op_mod (pv 1) (pe_glob (v := .int 24) rfl T.g_DAY.choose_spec ⟨_, rfl⟩)) pa_nil))))) pa_nil)))), ?_⟩
  exact (snd_ret (snd_cb snd_any (snd_cons (snd_lc (snd_iseq (snd_op snd_ix (snd_nm 0) snd_int)) (snd_gname (i := 2)) snd_yes (snd_call (dvs := []) (snd_cons (snd_nm 2) (snd_cons (snd_op snd_mod (snd_nm 1) snd_int) snd_nil)) nod den_len) (by decide)) snd_nil)))
theorem okx_is_hushed (T : Txt K mg A) : FnOk P w K mg base (L2.CX P w) 6 A.f_is_hushed A.fd_is_hushed ["rules", "person", "moment"] (spX (gm K A) 3 dx_is_hushed) := by
  refine fnX_I T.F_is_hushed sc_is_hushed fun cdv A0 outer s H E hr => ?_
  refine ⟨_, (pss_cons (ps_expr (pe_call (ok_need_rules T) (hr.mono (by decide)) rfl T.g_need_rules T.F_need_rules.kp T.b_need_rules .nil pass0 (pa_cons (pv 0) pa_nil)))
    (pss_cons (ps_expr (pe_call (okx_need_person T) (hr.mono (by decide)) rfl T.g_need_person T.F_need_person.kp T.b_need_person .nil (passes_call (takes_of rfl rfl rfl rfl) fun _ _ _ _ h => h) (pa_cons (pv 0) (pa_cons (pv 1) pa_nil))))
    (pss_cons (ps_expr (pe_call (okx_need_moment T) (hr.mono (by decide)) rfl T.g_need_moment T.F_need_moment.kp T.b_need_moment .nil (passes_call (takes_of rfl rfl rfl rfl) fun _ _ _ _ h => h) (pa_cons (pv 2) pa_nil)))
    (pss_one (ps_ret (pe_call (ok_hush_at T) (hr.mono (by decide)) rfl T.g_hush_at T.F_hush_at.kp T.b_hush_at .nil pass0 (pa_cons (pe_ix (ix_seqK K) (pv 0) (pv 1) (fun _ _ => rfl)) (pa_cons (pv 2) pa_nil)))))))), ?_⟩
  exact (snd_xseq (snd_xs (snd_expr (snd_call (dvs := []) (snd_cons (snd_nm 0) snd_nil) nod den_len)))
    (snd_xseq (snd_xexpr (snd_xcall (dvs := []) (snd_cons (snd_nm 0) (snd_cons (snd_nm 1) snd_nil)) nod denX_len))
    (snd_xseq (snd_xexpr (snd_xcall (dvs := []) (snd_cons (snd_nm 2) snd_nil) nod denX_len))
    (snd_xs (snd_ret (snd_call (dvs := []) (snd_cons (snd_op snd_ix (snd_nm 0) (snd_nm 1)) (snd_cons (snd_nm 2) snd_nil)) nod den_len))))))
theorem ok_is_hushed (T : Txt K mg A) : FnOk P w K mg base CX0 6 A.f_is_hushed A.fd_is_hushed ["rules", "person", "moment"] (spI (gm K A) 3 d_is_hushed) := by
  refine fn_I T.F_is_hushed sc_is_hushed fun cdv A0 outer s H E hr => ?_
  refine ⟨_, (pss_cons (ps_expr (pe_call (ok_need_rules T) (hr.mono (by decide)) rfl T.g_need_rules T.F_need_rules.kp T.b_need_rules .nil pass0 (pa_cons (pv 0) pa_nil)))
    (pss_cons (ps_expr (pe_call (ok_need_person T) (hr.mono (by decide)) rfl T.g_need_person T.F_need_person.kp T.b_need_person .nil pass0 (pa_cons (pv 0) (pa_cons (pv 1) pa_nil))))
    (pss_cons (ps_expr (pe_call (ok_need_moment T) (hr.mono (by decide)) rfl T.g_need_moment T.F_need_moment.kp T.b_need_moment .nil pass0 (pa_cons (pv 2) pa_nil)))
    (pss_one (ps_ret (pe_call (ok_hush_at T) (hr.mono (by decide)) rfl T.g_hush_at T.F_hush_at.kp T.b_hush_at .nil pass0 (pa_cons (pe_ix (ix_seqK K) (pv 0) (pv 1) (fun _ _ => rfl)) (pa_cons (pv 2) pa_nil)))))))), ?_⟩
  exact (snd_seq (snd_expr (snd_call (dvs := []) (snd_cons (snd_nm 0) snd_nil) nod den_len))
    (snd_seq (snd_expr (snd_call (dvs := []) (snd_cons (snd_nm 0) (snd_cons (snd_nm 1) snd_nil)) nod den_len))
    (snd_seq (snd_expr (snd_call (dvs := []) (snd_cons (snd_nm 2) snd_nil) nod den_len))
    (snd_ret (snd_call (dvs := []) (snd_cons (snd_op snd_ix (snd_nm 0) (snd_nm 1)) (snd_cons (snd_nm 2) snd_nil)) nod den_len)))))
theorem ok_free_at (T : Txt K mg A) : FnOk P w K mg base CX0 3 A.f_free_at A.fd_free_at ["rule", "moment"] (spI (gm K A) 2 d_free_at) := by
  refine fn_I T.F_free_at sc_free_at fun cdv A0 outer s H E hr => ?_
  refine ⟨_, (pss_cons (ps_setLc (i := 2) (own := [("later", 3)]) rfl sc_free_at.nd rfl rfl (sw_true rfl rfl rfl (by decide +kernel)) (pi_range2 (by rfl) T.n_range (pa_cons (pv 1) (pa_cons (pe_op (op_addK K) (pv 1) (pe_glob (v := .int 24) rfl T.g_DAY.choose_spec ⟨_, rfl⟩)) pa_nil))) (blkOk_by (N := n_free_at) (sc := defScope s_free_at) (own := [("later", 3)]) (by decide +kernel)) (fun _ _ _ _ _ => (pg_name (i := 3) sc_free_at.nd rfl (by first | exact Or.inl rfl | exact Or.inr rfl))) (fun _ _ _ _ _ => pts_one (pt_not (pt_val (pe_call (ok_hush_at T) (hr.mono (by decide)) rfl T.g_hush_at T.F_hush_at.kp T.b_hush_at .nil pass0 (pa_cons (pv 0) (pa_cons (pv 3) pa_nil)))))) (fun _ _ _ _ _ => (pv 3)))
    (pss_one (ps_ret (pe_ifExp (pt_cmpR (op_neK K hr.units) (pv 2) (pe_lst pa_nil) (nomark _)) (pe_ix (ix_seqK K) (pv 2) pe_int (fun _ _ => rfl)) pe_non)))), ?_⟩
  exact (snd_seq (snd_set (i := 2) (snd_v (snd_d (snd_lc (snd_ir2 (snd_cons (snd_nm 1) (snd_cons (snd_op snd_add (snd_nm 1) snd_int) snd_nil))) (snd_gname (i := 3)) (snd_not (snd_tB (snd_call (dvs := []) (snd_cons (snd_nm 0) (snd_cons (snd_nm 3) snd_nil)) nod den_len))) (snd_nm 3) (by decide)))))
    (snd_ret (snd_if (snd_test (snd_op snd_ne (snd_nm 2) (snd_lst snd_nil))) (snd_op snd_ix (snd_nm 2) snd_int) snd_non)))
theorem okx_free_from (T : Txt K mg A) : FnOk P w K mg base (L2.CX P w) 6 A.f_free_from A.fd_free_from ["rules", "person", "moment"] (spX (gm K A) 3 dx_free_from) := by
  refine fnX_I T.F_free_from sc_free_from fun cdv A0 outer s H E hr => ?_
  refine ⟨_, (pss_cons (ps_expr (pe_call (ok_need_rules T) (hr.mono (by decide)) rfl T.g_need_rules T.F_need_rules.kp T.b_need_rules .nil pass0 (pa_cons (pv 0) pa_nil)))
    (pss_cons (ps_expr (pe_call (okx_need_person T) (hr.mono (by decide)) rfl T.g_need_person T.F_need_person.kp T.b_need_person .nil (passes_call (takes_of rfl rfl rfl rfl) fun _ _ _ _ h => h) (pa_cons (pv 0) (pa_cons (pv 1) pa_nil))))
    (pss_cons (ps_expr (pe_call (okx_need_moment T) (hr.mono (by decide)) rfl T.g_need_moment T.F_need_moment.kp T.b_need_moment .nil (passes_call (takes_of rfl rfl rfl rfl) fun _ _ _ _ h => h) (pa_cons (pv 2) pa_nil)))
    (pss_one (ps_ret (pe_call (ok_free_at T) (hr.mono (by decide)) rfl T.g_free_at T.F_free_at.kp T.b_free_at .nil pass0 (pa_cons (pe_ix (ix_seqK K) (pv 0) (pv 1) (fun _ _ => rfl)) (pa_cons (pv 2) pa_nil)))))))), ?_⟩
  exact (snd_xseq (snd_xs (snd_expr (snd_call (dvs := []) (snd_cons (snd_nm 0) snd_nil) nod den_len)))
    (snd_xseq (snd_xexpr (snd_xcall (dvs := []) (snd_cons (snd_nm 0) (snd_cons (snd_nm 1) snd_nil)) nod denX_len))
    (snd_xseq (snd_xexpr (snd_xcall (dvs := []) (snd_cons (snd_nm 2) snd_nil) nod denX_len))
    (snd_xs (snd_ret (snd_call (dvs := []) (snd_cons (snd_op snd_ix (snd_nm 0) (snd_nm 1)) (snd_cons (snd_nm 2) snd_nil)) nod den_len))))))
theorem ok_free_from (T : Txt K mg A) : FnOk P w K mg base CX0 6 A.f_free_from A.fd_free_from ["rules", "person", "moment"] (spI (gm K A) 3 d_free_from) := by
  refine fn_I T.F_free_from sc_free_from fun cdv A0 outer s H E hr => ?_
  refine ⟨_, (pss_cons (ps_expr (pe_call (ok_need_rules T) (hr.mono (by decide)) rfl T.g_need_rules T.F_need_rules.kp T.b_need_rules .nil pass0 (pa_cons (pv 0) pa_nil)))
    (pss_cons (ps_expr (pe_call (ok_need_person T) (hr.mono (by decide)) rfl T.g_need_person T.F_need_person.kp T.b_need_person .nil pass0 (pa_cons (pv 0) (pa_cons (pv 1) pa_nil))))
    (pss_cons (ps_expr (pe_call (ok_need_moment T) (hr.mono (by decide)) rfl T.g_need_moment T.F_need_moment.kp T.b_need_moment .nil pass0 (pa_cons (pv 2) pa_nil)))
    (pss_one (ps_ret (pe_call (ok_free_at T) (hr.mono (by decide)) rfl T.g_free_at T.F_free_at.kp T.b_free_at .nil pass0 (pa_cons (pe_ix (ix_seqK K) (pv 0) (pv 1) (fun _ _ => rfl)) (pa_cons (pv 2) pa_nil)))))))), ?_⟩
  exact (snd_seq (snd_expr (snd_call (dvs := []) (snd_cons (snd_nm 0) snd_nil) nod den_len))
    (snd_seq (snd_expr (snd_call (dvs := []) (snd_cons (snd_nm 0) (snd_cons (snd_nm 1) snd_nil)) nod den_len))
    (snd_seq (snd_expr (snd_call (dvs := []) (snd_cons (snd_nm 2) snd_nil) nod den_len))
    (snd_ret (snd_call (dvs := []) (snd_cons (snd_op snd_ix (snd_nm 0) (snd_nm 1)) (snd_cons (snd_nm 2) snd_nil)) nod den_len)))))
theorem okx_hushed_between (T : Txt K mg A) : FnOk P w K mg base (L2.CX P w) 6 A.f_hushed_between A.fd_hushed_between ["rules", "person", "begin", "end"] (spX (gm K A) 4 dx_hushed_between) := by
  refine fnX_I T.F_hushed_between sc_hushed_between fun cdv A0 outer s H E hr => ?_
  refine ⟨_, (pss_cons (ps_expr (pe_call (ok_need_rules T) (hr.mono (by decide)) rfl T.g_need_rules T.F_need_rules.kp T.b_need_rules .nil pass0 (pa_cons (pv 0) pa_nil)))
    (pss_cons (ps_expr (pe_call (okx_need_person T) (hr.mono (by decide)) rfl T.g_need_person T.F_need_person.kp T.b_need_person .nil (passes_call (takes_of rfl rfl rfl rfl) fun _ _ _ _ h => h) (pa_cons (pv 0) (pa_cons (pv 1) pa_nil))))
    (pss_cons (ps_expr (pe_call (okx_need_moment T) (hr.mono (by decide)) rfl T.g_need_moment T.F_need_moment.kp T.b_need_moment .nil (passes_call (takes_of rfl rfl rfl rfl) fun _ _ _ _ h => h) (pa_cons (pv 2) pa_nil)))
    (pss_cons (ps_expr (pe_call (okx_need_moment T) (hr.mono (by decide)) rfl T.g_need_moment T.F_need_moment.kp T.b_need_moment .nil (passes_call (takes_of rfl rfl rfl rfl) fun _ _ _ _ h => h) (pa_cons (pv 3) pa_nil)))
    (pss_cons (ps_set (i := 4) sc_hushed_between.nd rfl (by first | exact Or.inl rfl | exact Or.inr rfl) (pe_ix (ix_seqK K) (pv 0) (pv 1) (fun _ _ => rfl)))
    (pss_cons (ps_asg (pe_callB call_divmod (by rfl) T.n_divmod boot_divmod (pa_cons (pe_callB (call_maxK K rfl) (by rfl) T.n_max PyProof.Rows.boot_max (pa_cons pe_int (pa_cons (pe_op op_sub (pv 3) (pv 2)) pa_nil))) (pa_cons (pe_glob (v := .int 24) rfl T.g_DAY.choose_spec ⟨_, rfl⟩) pa_nil))) (pg_tupK (n := 2) K rfl (pgs_cons (pg_name (i := 6) sc_hushed_between.nd rfl (by first | exact Or.inl rfl | exact Or.inr rfl)) (pgs_cons (pg_name (i := 7) sc_hushed_between.nd rfl (by first | exact Or.inl rfl | exact Or.inr rfl)) pgs_nil))))
    (pss_cons (ps_set (i := 5) sc_hushed_between.nd rfl (by first | exact Or.inl rfl | exact Or.inr rfl) (pe_callB (call_lenK K) (by rfl) T.n_len PySem.boot_len (pa_cons (pe_lc (own := [("hour", 8)]) rfl sc_hushed_between.nd (pi_range1 (by rfl) T.n_range (pa_cons (pe_glob (v := .int 24) rfl T.g_DAY.choose_spec ⟨_, rfl⟩) pa_nil)) (blkOk_by (N := n_hushed_between) (sc := defScope s_hushed_between) (own := [("hour", 8)]) (by decide +kernel)) (fun _ _ _ _ _ => (pg_name (i := 8) sc_hushed_between.nd rfl (by first | exact Or.inl rfl | exact Or.inr rfl))) (fun _ _ _ _ _ => pts_one (pt_val (pe_call (ok_hush_at T) (hr.mono (by decide)) rfl T.g_hush_at T.F_hush_at.kp T.b_hush_at .nil pass0 (pa_cons (pv 4) (pa_cons (pv 8) pa_nil))))) (fun _ _ _ _ _ => (pv 8))) pa_nil)))
    (pss_one (ps_ret (pe_op (op_addK K) (pe_op op_mulA (pv 6) (pv 5)) (pe_callB (call_lenK K) (by rfl) T.n_len PySem.boot_len (pa_cons (pe_lc (own := [("moment", 9)]) rfl sc_hushed_between.nd (pi_range2 (by rfl) T.n_range (pa_cons (pv 2) (pa_cons (pe_op (op_addK K) (pv 2) (pv 7)) pa_nil))) (blkOk_by (N := n_hushed_between) (sc := defScope s_hushed_between) (own := [("moment", 9)]) (by decide +kernel)) (fun _ _ _ _ _ => (pg_name (i := 9) sc_hushed_between.nd rfl (by first | exact Or.inl rfl | exact Or.inr rfl))) (fun _ _ _ _ _ => pts_one (pt_val (pe_call (ok_hush_at T) (hr.mono (by decide)) rfl T.g_hush_at T.F_hush_at.kp T.b_hush_at .nil pass0 (pa_cons (pv 4) (pa_cons (pv 9) pa_nil))))) (fun _ _ _ _ _ => (pv 9))) pa_nil)))))))))))), ?_⟩
  exact (snd_xseq (snd_xs (snd_expr (snd_call (dvs := []) (snd_cons (snd_nm 0) snd_nil) nod den_len)))
    (snd_xseq (snd_xexpr (snd_xcall (dvs := []) (snd_cons (snd_nm 0) (snd_cons (snd_nm 1) snd_nil)) nod denX_len))
    (snd_xseq (snd_xexpr (snd_xcall (dvs := []) (snd_cons (snd_nm 2) snd_nil) nod denX_len))
    (snd_xseq (snd_xexpr (snd_xcall (dvs := []) (snd_cons (snd_nm 3) snd_nil) nod denX_len))
    (snd_xseq (snd_xs (snd_set (i := 4) (snd_op snd_ix (snd_nm 0) (snd_nm 1))))
    (snd_xseq (snd_xs (snd_asg (snd_cb snd_divmod (snd_cons (snd_cb snd_max (snd_cons snd_int (snd_cons (snd_op snd_sub (snd_nm 3) (snd_nm 2)) snd_nil))) (snd_cons snd_int snd_nil))) (snd_gtup (n := 2) (snd_gcons (snd_gname (i := 6)) (snd_gcons (snd_gname (i := 7)) snd_gnil)))))
    (snd_xseq (snd_xs (snd_set (i := 5) (snd_cb snd_len (snd_cons (snd_lc (snd_ir1 (snd_cons snd_int snd_nil)) (snd_gname (i := 8)) (snd_tB (snd_call (dvs := []) (snd_cons (snd_nm 4) (snd_cons (snd_nm 8) snd_nil)) nod den_len)) (snd_nm 8) (by decide)) snd_nil))))
    (snd_xs (snd_ret (snd_op snd_add (snd_op snd_mul (snd_nm 6) (snd_nm 5)) (snd_cb snd_len (snd_cons (snd_lc (snd_ir2 (snd_cons (snd_nm 2) (snd_cons (snd_op snd_add (snd_nm 2) (snd_nm 7)) snd_nil))) (snd_gname (i := 9)) (snd_tB (snd_call (dvs := []) (snd_cons (snd_nm 4) (snd_cons (snd_nm 9) snd_nil)) nod den_len)) (snd_nm 9) (by decide)) snd_nil))))))))))))
theorem ok_hushed_between (T : Txt K mg A) : FnOk P w K mg base CX0 6 A.f_hushed_between A.fd_hushed_between ["rules", "person", "begin", "end"] (spI (gm K A) 4 d_hushed_between) := by
  refine fn_I T.F_hushed_between sc_hushed_between fun cdv A0 outer s H E hr => ?_
  refine ⟨_, (pss_cons (ps_expr (pe_call (ok_need_rules T) (hr.mono (by decide)) rfl T.g_need_rules T.F_need_rules.kp T.b_need_rules .nil pass0 (pa_cons (pv 0) pa_nil)))
    (pss_cons (ps_expr (pe_call (ok_need_person T) (hr.mono (by decide)) rfl T.g_need_person T.F_need_person.kp T.b_need_person .nil pass0 (pa_cons (pv 0) (pa_cons (pv 1) pa_nil))))
    (pss_cons (ps_expr (pe_call (ok_need_moment T) (hr.mono (by decide)) rfl T.g_need_moment T.F_need_moment.kp T.b_need_moment .nil pass0 (pa_cons (pv 2) pa_nil)))
    (pss_cons (ps_expr (pe_call (ok_need_moment T) (hr.mono (by decide)) rfl T.g_need_moment T.F_need_moment.kp T.b_need_moment .nil pass0 (pa_cons (pv 3) pa_nil)))
    (pss_cons (ps_set (i := 4) sc_hushed_between.nd rfl (by first | exact Or.inl rfl | exact Or.inr rfl) (pe_ix (ix_seqK K) (pv 0) (pv 1) (fun _ _ => rfl)))
    (pss_cons (ps_asg (pe_callB call_divmod (by rfl) T.n_divmod boot_divmod (pa_cons (pe_callB (call_maxK K rfl) (by rfl) T.n_max PyProof.Rows.boot_max (pa_cons pe_int (pa_cons (pe_op op_sub (pv 3) (pv 2)) pa_nil))) (pa_cons (pe_glob (v := .int 24) rfl T.g_DAY.choose_spec ⟨_, rfl⟩) pa_nil))) (pg_tupK (n := 2) K rfl (pgs_cons (pg_name (i := 6) sc_hushed_between.nd rfl (by first | exact Or.inl rfl | exact Or.inr rfl)) (pgs_cons (pg_name (i := 7) sc_hushed_between.nd rfl (by first | exact Or.inl rfl | exact Or.inr rfl)) pgs_nil))))
    (pss_cons (ps_set (i := 5) sc_hushed_between.nd rfl (by first | exact Or.inl rfl | exact Or.inr rfl) (pe_callB (call_lenK K) (by rfl) T.n_len PySem.boot_len (pa_cons (pe_lc (own := [("hour", 8)]) rfl sc_hushed_between.nd (pi_range1 (by rfl) T.n_range (pa_cons (pe_glob (v := .int 24) rfl T.g_DAY.choose_spec ⟨_, rfl⟩) pa_nil)) (blkOk_by (N := n_hushed_between) (sc := defScope s_hushed_between) (own := [("hour", 8)]) (by decide +kernel)) (fun _ _ _ _ _ => (pg_name (i := 8) sc_hushed_between.nd rfl (by first | exact Or.inl rfl | exact Or.inr rfl))) (fun _ _ _ _ _ => pts_one (pt_val (pe_call (ok_hush_at T) (hr.mono (by decide)) rfl T.g_hush_at T.F_hush_at.kp T.b_hush_at .nil pass0 (pa_cons (pv 4) (pa_cons (pv 8) pa_nil))))) (fun _ _ _ _ _ => (pv 8))) pa_nil)))
    (pss_one (ps_ret (pe_op (op_addK K) (pe_op op_mulA (pv 6) (pv 5)) (pe_callB (call_lenK K) (by rfl) T.n_len PySem.boot_len (pa_cons (pe_lc (own := [("moment", 9)]) rfl sc_hushed_between.nd (pi_range2 (by rfl) T.n_range (pa_cons (pv 2) (pa_cons (pe_op (op_addK K) (pv 2) (pv 7)) pa_nil))) (blkOk_by (N := n_hushed_between) (sc := defScope s_hushed_between) (own := [("moment", 9)]) (by decide +kernel)) (fun _ _ _ _ _ => (pg_name (i := 9) sc_hushed_between.nd rfl (by first | exact Or.inl rfl | exact Or.inr rfl))) (fun _ _ _ _ _ => pts_one (pt_val (pe_call (ok_hush_at T) (hr.mono (by decide)) rfl T.g_hush_at T.F_hush_at.kp T.b_hush_at .nil pass0 (pa_cons (pv 4) (pa_cons (pv 9) pa_nil))))) (fun _ _ _ _ _ => (pv 9))) pa_nil)))))))))))), ?_⟩
  exact (snd_seq (snd_expr (snd_call (dvs := []) (snd_cons (snd_nm 0) snd_nil) nod den_len))
    (snd_seq (snd_expr (snd_call (dvs := []) (snd_cons (snd_nm 0) (snd_cons (snd_nm 1) snd_nil)) nod den_len))
    (snd_seq (snd_expr (snd_call (dvs := []) (snd_cons (snd_nm 2) snd_nil) nod den_len))
    (snd_seq (snd_expr (snd_call (dvs := []) (snd_cons (snd_nm 3) snd_nil) nod den_len))
    (snd_seq (snd_set (i := 4) (snd_op snd_ix (snd_nm 0) (snd_nm 1)))
    (snd_seq (snd_asg (snd_cb snd_divmod (snd_cons (snd_cb snd_max (snd_cons snd_int (snd_cons (snd_op snd_sub (snd_nm 3) (snd_nm 2)) snd_nil))) (snd_cons snd_int snd_nil))) (snd_gtup (n := 2) (snd_gcons (snd_gname (i := 6)) (snd_gcons (snd_gname (i := 7)) snd_gnil))))
    (snd_seq (snd_set (i := 5) (snd_cb snd_len (snd_cons (snd_lc (snd_ir1 (snd_cons snd_int snd_nil)) (snd_gname (i := 8)) (snd_tB (snd_call (dvs := []) (snd_cons (snd_nm 4) (snd_cons (snd_nm 8) snd_nil)) nod den_len)) (snd_nm 8) (by decide)) snd_nil)))
    (snd_ret (snd_op snd_add (snd_op snd_mul (snd_nm 6) (snd_nm 5)) (snd_cb snd_len (snd_cons (snd_lc (snd_ir2 (snd_cons (snd_nm 2) (snd_cons (snd_op snd_add (snd_nm 2) (snd_nm 7)) snd_nil))) (snd_gname (i := 9)) (snd_tB (snd_call (dvs := []) (snd_cons (snd_nm 4) (snd_cons (snd_nm 9) snd_nil)) nod den_len)) (snd_nm 9) (by decide)) snd_nil)))))))))))
theorem ok_law_begun (T : Txt K mg A) : FnOk P w K mg base CX0 1 A.f_law_begun A.fd_law_begun ["_law_script"] (spI (gm K A) 1 d_law_begun) := by
  refine fn_I T.F_law_begun sc_law_begun fun cdv A0 outer s H E hr => ?_
  refine ⟨_, (pss_cons (ps_set (i := 1) sc_law_begun.nd rfl (by first | exact Or.inl rfl | exact Or.inr rfl) pe_int)
    (pss_cons (ps_for PassesOwn.never rfl (pi_seqK K (pv 0)) (pg_name (i := 2) sc_law_begun.nd rfl (by first | exact Or.inl rfl | exact Or.inr rfl)) (pss_one (ps_set (i := 1) sc_law_begun.nd rfl (by first | exact Or.inl rfl | exact Or.inr rfl) (pe_op op_mod (pe_op (op_addK K) (pe_op (op_addK K) (pe_op op_mulA (pv 1) pe_int) (pe_op op_mulA (pv 2) pe_int)) pe_int) pe_int))))
    (pss_one (ps_ret (pe_lst (pa_cons (pe_callTy (call_listK K) (by rfl) T.n_list PyProof.Rows.boot_list (pa_cons (pv 0) pa_nil)) (pa_cons (pe_op op_mulA (pv 1) (pe_callTy call_intA (by rfl) T.n_int PyProof.Rows.boot_int (pa_cons (pe_cmpR op_gt (pe_callB (call_lenK K) (by rfl) T.n_len PySem.boot_len (pa_cons (pv 0) pa_nil)) pe_int (nomark _)) pa_nil))) pa_nil))))))), ?_⟩
  exact (snd_seq (snd_set (i := 1) snd_int)
    (snd_seq (snd_for (mb := m_law_begun_1) (snd_iseq (snd_nm 0)) (snd_gname (i := 2)) (snd_set (i := 1) (snd_op snd_mod (snd_op snd_add (snd_op snd_add (snd_op snd_mul (snd_nm 1) snd_int) (snd_op snd_mul (snd_nm 2) snd_int)) snd_int) snd_int)))
    (snd_ret (snd_lst (snd_cons (snd_box (snd_cb snd_list (snd_cons (snd_nm 0) snd_nil))) (snd_cons (snd_op snd_mul (snd_nm 1) (snd_cb snd_fint (snd_cons (snd_op snd_gt (snd_cb snd_len (snd_cons (snd_nm 0) snd_nil)) snd_int) snd_nil))) snd_nil))))))
theorem ok_law_take (T : Txt K mg A) : FnOk P w K mg base CX0 1 A.f_law_take A.fd_law_take ["_law_box", "_law_many"] (spI (gm K A) 2 d_law_take) := by
  refine fn_I T.F_law_take sc_law_take fun cdv A0 outer s H E hr => ?_
  refine ⟨_, (pss_cons (ps_if (pt_cmpR (op_eqK K hr.units) (pe_ix (ix_seqK K) (pv 0) pe_int (fun _ _ => rfl)) (pe_lst pa_nil) (nomark _)) (pss_cons (ps_asg (pe_op op_mod (pe_op op_mulA (pe_ix (ix_seqK K) (pv 0) pe_int (fun _ _ => rfl)) pe_int) pe_int) (pg_sub (pv 0) pe_int set_list (fun _ => rfl)))
    (pss_one (ps_ret (pe_op op_mod (pe_op op_fdivW (pe_ix (ix_seqK K) (pv 0) pe_int (fun _ _ => rfl)) pe_int) (pv 1))))) pss_nil)
    (pss_cons (ps_set (i := 2) sc_law_take.nd rfl (by first | exact Or.inl rfl | exact Or.inr rfl) (pe_ix (ix_seqK K) (pe_ix (ix_seqK K) (pv 0) pe_int (fun _ _ => rfl)) pe_int (fun _ _ => rfl)))
    (pss_cons (ps_asg (pe_op op_fdivW (pv 2) (pv 1)) (pg_sub (pe_ix (ix_seqK K) (pv 0) pe_int (fun _ _ => rfl)) pe_int set_list (fun _ => rfl)))
    (pss_cons (ps_if (PW.pt (pw_or (pt_cmpR (op_eqK K hr.units) (pe_ix (ix_seqK K) (pe_ix (ix_seqK K) (pv 0) pe_int (fun _ _ => rfl)) pe_int (fun _ _ => rfl)) pe_int (nomark _)) (pw_or1 (pt_cmpR (op_eqK K hr.units) (pe_ix (ix_seqK K) (pe_ix (ix_seqK K) (pv 0) pe_int (fun _ _ => rfl)) pe_int (fun _ _ => rfl)) (pe_un un_neg pe_int) (nomark _))))) (pss_one (ps_expr (pe_bmK K PySem.F.plainAttrs_list PySem.F.slot_list_pop PySem.F.type_list_pop mt_popAt (pe_ix (ix_seqK K) (pv 0) pe_int (fun _ _ => rfl)) (pa_cons pe_int pa_nil)))) pss_nil)
    (pss_one (ps_ret (pe_op op_mod (pv 2) (pv 1)))))))), ?_⟩
  exact (snd_seq (snd_ifS (snd_test (snd_op snd_eq (snd_op snd_ix (snd_nm 0) snd_int) (snd_lst snd_nil))) (snd_seq (snd_setIx (snd_nm 0) snd_int (snd_op snd_mod (snd_op snd_mul (snd_op snd_ix (snd_nm 0) snd_int) snd_int) snd_int))
    (snd_ret (snd_op snd_mod (snd_op snd_div (snd_op snd_ix (snd_nm 0) snd_int) snd_int) (snd_nm 1)))) snd_next)
    (snd_seq (snd_set (i := 2) (snd_op snd_ix (snd_op snd_ix (snd_nm 0) snd_int) snd_int))
    (snd_seq (snd_setIx (snd_op snd_ix (snd_nm 0) snd_int) snd_int (snd_op snd_div (snd_nm 2) (snd_nm 1)))
    (snd_seq (snd_ifS (snd_or (snd_test (snd_op snd_eq (snd_op snd_ix (snd_op snd_ix (snd_nm 0) snd_int) snd_int) snd_int)) (snd_test (snd_op snd_eq (snd_op snd_ix (snd_op snd_ix (snd_nm 0) snd_int) snd_int) (snd_un snd_neg snd_int)))) (snd_expr (snd_bm ty_lst snd_mPopAt (snd_op snd_ix (snd_nm 0) snd_int) (snd_cons snd_int snd_nil))) snd_next)
    (snd_ret (snd_op snd_mod (snd_nm 2) (snd_nm 1)))))))
theorem okr_law_alike (T : Txt K mg A) : ∀ n : Nat, FnOk P w K mg base CX0 (1 + n) A.f_law_alike A.fd_law_alike ["_law_found", "_law_due"] (spI (gm K A) 2 (dr_law_alike n))
  | 0 => fn_0 T.F_law_alike sc_law_alike
  | n + 1 => by
    have hn : ∀ ds S w S', dr_law_alike n ds S = some (w, S') → ds.length = 2 := by cases n with | zero => exact fun _ _ _ _ e => by cases e | succ n => exact den_len
    refine fn_I T.F_law_alike sc_law_alike fun cdv A0 outer s H E hr => ?_
    have ih := okr_law_alike T n
    generalize dr_law_alike n = fr at ih hn ⊢
    refine ⟨_, (pss_cons (ps_if (pt_cmpR op_isN (pv 1) pe_non (nomark _)) (pss_one (ps_ret (pe_cmpR op_isN (pv 0) pe_non (nomark _)))) pss_nil)
    (pss_cons (ps_if (pt_val (pe_callB (call_isiK K) (by rfl) T.n_isinstance PyProof.Rows.boot_isinstance (pa_cons (pv 1) (pa_cons (pe_bltn (v := .ty "bool") (by rfl) T.n_bool PyProof.Rows.boot_bool rfl) pa_nil)))) (pss_one (ps_ret (pe_and (pe_callB (call_isiK K) (by rfl) T.n_isinstance PyProof.Rows.boot_isinstance (pa_cons (pv 0) (pa_cons (pe_bltn (v := .ty "bool") (by rfl) T.n_bool PyProof.Rows.boot_bool rfl) pa_nil))) (pe_one (pe_cmpR (op_eqK K hr.units) (pv 0) (pv 1) (nomark _)))))) pss_nil)
    (pss_cons (ps_if (pt_val (pe_callB (call_isiK K) (by rfl) T.n_isinstance PyProof.Rows.boot_isinstance (pa_cons (pv 1) (pa_cons (pe_bltn (v := .ty "int") (by rfl) T.n_int PyProof.Rows.boot_int rfl) pa_nil)))) (pss_one (ps_ret (pe_and (pe_callB (call_isiK K) (by rfl) T.n_isinstance PyProof.Rows.boot_isinstance (pa_cons (pv 0) (pa_cons (pe_bltn (v := .ty "int") (by rfl) T.n_int PyProof.Rows.boot_int rfl) pa_nil))) (pe_and (pe_not (pe_callB (call_isiK K) (by rfl) T.n_isinstance PyProof.Rows.boot_isinstance (pa_cons (pv 0) (pa_cons (pe_bltn (v := .ty "bool") (by rfl) T.n_bool PyProof.Rows.boot_bool rfl) pa_nil)))) (pe_one (pe_cmpR (op_eqK K hr.units) (pv 0) (pv 1) (nomark _))))))) pss_nil)
    (pss_cons (ps_if (pt_val (pe_callB (call_isiK K) (by rfl) T.n_isinstance PyProof.Rows.boot_isinstance (pa_cons (pv 1) (pa_cons (pe_bltn (v := .ty "str") (by rfl) T.n_str PyProof.Rows.boot_str rfl) pa_nil)))) (pss_one (ps_ret (pe_and (pe_callB (call_isiK K) (by rfl) T.n_isinstance PyProof.Rows.boot_isinstance (pa_cons (pv 0) (pa_cons (pe_bltn (v := .ty "str") (by rfl) T.n_str PyProof.Rows.boot_str rfl) pa_nil))) (pe_one (pe_cmpR (op_eqK K hr.units) (pv 0) (pv 1) (nomark _)))))) pss_nil)
    (pss_cons (ps_if (PW.pt (pw_or (pt_cmpR (op_neK K hr.units) (pe_callB (call_isiK K) (by rfl) T.n_isinstance PyProof.Rows.boot_isinstance (pa_cons (pv 1) (pa_cons (pe_bltn (v := .ty "tuple") (by rfl) T.n_tuple PyProof.Rows.boot_tuple rfl) pa_nil))) (pe_callB (call_isiK K) (by rfl) T.n_isinstance PyProof.Rows.boot_isinstance (pa_cons (pv 0) (pa_cons (pe_bltn (v := .ty "tuple") (by rfl) T.n_tuple PyProof.Rows.boot_tuple rfl) pa_nil))) (nomark _)) (pw_or1 (pt_cmpR (op_neK K hr.units) (pe_callB (call_isiK K) (by rfl) T.n_isinstance PyProof.Rows.boot_isinstance (pa_cons (pv 1) (pa_cons (pe_bltn (v := .ty "list") (by rfl) T.n_list PyProof.Rows.boot_list rfl) pa_nil))) (pe_callB (call_isiK K) (by rfl) T.n_isinstance PyProof.Rows.boot_isinstance (pa_cons (pv 0) (pa_cons (pe_bltn (v := .ty "list") (by rfl) T.n_list PyProof.Rows.boot_list rfl) pa_nil))) (nomark _))))) (pss_one (ps_ret pe_bl)) pss_nil)
    (pss_cons (ps_if (pt_cmpR (op_neK K hr.units) (pe_callB (call_lenK K) (by rfl) T.n_len PySem.boot_len (pa_cons (pv 0) pa_nil)) (pe_callB (call_lenK K) (by rfl) T.n_len PySem.boot_len (pa_cons (pv 1) pa_nil)) (nomark _)) (pss_one (ps_ret pe_bl)) pss_nil)
    (pss_cons (ps_for PassesOwn.never rfl (pi_range1 (by rfl) T.n_range (pa_cons (pe_callB (call_lenK K) (by rfl) T.n_len PySem.boot_len (pa_cons (pv 1) pa_nil)) pa_nil)) (pg_name (i := 2) sc_law_alike.nd rfl (by first | exact Or.inl rfl | exact Or.inr rfl)) (pss_one (ps_if (pt_not (pt_val (pe_call ih (hr.mono (Nat.le_refl _)) rfl T.g_law_alike T.F_law_alike.kp T.b_law_alike .nil pass0 (pa_cons (pe_ix (ix_seqK K) (pv 0) (pv 2) (fun _ _ => rfl)) (pa_cons (pe_ix (ix_seqK K) (pv 1) (pv 2) (fun _ _ => rfl)) pa_nil))))) (pss_one (ps_ret pe_bl)) pss_nil)))
    (pss_one (ps_ret pe_bl))))))))), ?_⟩
    exact (snd_seq (snd_ifS (snd_test (snd_op snd_isN (snd_nm 1) snd_non)) (snd_ret (snd_op snd_isN (snd_nm 0) snd_non)) snd_next)
    (snd_seq (snd_ifS (snd_tB (snd_cb snd_isi (snd_cons (snd_nm 1) (snd_cons snd_ty snd_nil)))) (snd_ret (snd_andV (snd_cb snd_isi (snd_cons (snd_nm 0) (snd_cons snd_ty snd_nil))) (snd_op snd_eq (snd_nm 0) (snd_nm 1)))) snd_next)
    (snd_seq (snd_ifS (snd_tB (snd_cb snd_isi (snd_cons (snd_nm 1) (snd_cons snd_ty snd_nil)))) (snd_ret (snd_andV (snd_cb snd_isi (snd_cons (snd_nm 0) (snd_cons snd_ty snd_nil))) (snd_andV (snd_notV (snd_cb snd_isi (snd_cons (snd_nm 0) (snd_cons snd_ty snd_nil)))) (snd_op snd_eq (snd_nm 0) (snd_nm 1))))) snd_next)
    (snd_seq (snd_ifS (snd_tB (snd_cb snd_isi (snd_cons (snd_nm 1) (snd_cons snd_ty snd_nil)))) (snd_ret (snd_andV (snd_cb snd_isi (snd_cons (snd_nm 0) (snd_cons snd_ty snd_nil))) (snd_op snd_eq (snd_nm 0) (snd_nm 1)))) snd_next)
    (snd_seq (snd_ifS (snd_or (snd_test (snd_op snd_ne (snd_cb snd_isi (snd_cons (snd_nm 1) (snd_cons snd_ty snd_nil))) (snd_cb snd_isi (snd_cons (snd_nm 0) (snd_cons snd_ty snd_nil))))) (snd_test (snd_op snd_ne (snd_cb snd_isi (snd_cons (snd_nm 1) (snd_cons snd_ty snd_nil))) (snd_cb snd_isi (snd_cons (snd_nm 0) (snd_cons snd_ty snd_nil)))))) (snd_ret snd_bl) snd_next)
    (snd_seq (snd_ifS (snd_test (snd_op snd_ne (snd_cb snd_len (snd_cons (snd_nm 0) snd_nil)) (snd_cb snd_len (snd_cons (snd_nm 1) snd_nil)))) (snd_ret snd_bl) snd_next)
    (snd_seq (snd_for (mb := m_law_alike_1 fr) (snd_ir1 (snd_cons (snd_cb snd_len (snd_cons (snd_nm 1) snd_nil)) snd_nil)) (snd_gname (i := 2)) (snd_ifS (snd_not (snd_tB (snd_call (dvs := []) (snd_cons (snd_op snd_ix (snd_nm 0) (snd_nm 2)) (snd_cons (snd_op snd_ix (snd_nm 1) (snd_nm 2)) snd_nil)) nod hn))) (snd_ret snd_bl) snd_next))
    (snd_ret snd_bl))))))))
theorem d_law_alike_len : ∀ ds S w S', d_law_alike ds S = some (w, S') → ds.length = 2 := den_len
theorem ok_law_alike (T : Txt K mg A) : FnOk P w K mg base CX0 9 A.f_law_alike A.fd_law_alike ["_law_found", "_law_due"] (spI (gm K A) 2 d_law_alike) := okr_law_alike T 8
theorem ok_law_stretches (T : Txt K mg A) : FnOk P w K mg base CX0 2 A.f_law_stretches A.fd_law_stretches ["_law_box"] (spI (gm K A) 1 d_law_stretches) := by
  refine fn_I T.F_law_stretches sc_law_stretches fun cdv A0 outer s H E hr => ?_
  refine ⟨_, (pss_cons (ps_set (i := 1) sc_law_stretches.nd rfl (by first | exact Or.inl rfl | exact Or.inr rfl) (pe_lst pa_nil))
    (pss_cons (ps_for PassesOwn.never rfl (pi_range1 (by rfl) T.n_range (pa_cons (pe_call (ok_law_take T) (hr.mono (by decide)) rfl T.g_law_take T.F_law_take.kp T.b_law_take .nil pass0 (pa_cons (pv 0) (pa_cons pe_int pa_nil))) pa_nil)) (pg_name (i := 2) sc_law_stretches.nd rfl (by first | exact Or.inl rfl | exact Or.inr rfl)) (pss_cons (ps_set (i := 3) sc_law_stretches.nd rfl (by first | exact Or.inl rfl | exact Or.inr rfl) (pe_call (ok_law_take T) (hr.mono (by decide)) rfl T.g_law_take T.F_law_take.kp T.b_law_take .nil pass0 (pa_cons (pv 0) (pa_cons pe_int pa_nil))))
    (pss_one (ps_expr (pe_bmK K PySem.F.plainAttrs_list PySem.F.slot_list_append PySem.F.type_list_append mt_append (pv 1) (pa_cons (pe_tup (pa_cons (pv 3) (pa_cons (pe_op op_mod (pe_op (op_addK K) (pe_op (op_addK K) (pv 3) pe_int) (pe_call (ok_law_take T) (hr.mono (by decide)) rfl T.g_law_take T.F_law_take.kp T.b_law_take .nil pass0 (pa_cons (pv 0) (pa_cons (pe_ix (ix_seqK K) (pe_lst (pa_cons pe_int (pa_cons pe_int pa_nil))) (pe_call (ok_law_take T) (hr.mono (by decide)) rfl T.g_law_take T.F_law_take.kp T.b_law_take .nil pass0 (pa_cons (pv 0) (pa_cons pe_int pa_nil))) (fun _ _ => rfl)) pa_nil)))) pe_int) pa_nil))) pa_nil))))))
    (pss_one (ps_ret (pe_callTy (call_tupleK K) (by rfl) T.n_tuple PyProof.Rows.boot_tuple (pa_cons (pv 1) pa_nil)))))), ?_⟩
  exact (snd_seq (snd_set (i := 1) (snd_lst snd_nil))
    (snd_seq (snd_for (mb := m_law_stretches_1) (snd_ir1 (snd_cons (snd_call (dvs := []) (snd_cons (snd_nm 0) (snd_cons snd_int snd_nil)) nod den_len) snd_nil)) (snd_gname (i := 2)) (snd_seq (snd_set (i := 3) (snd_call (dvs := []) (snd_cons (snd_nm 0) (snd_cons snd_int snd_nil)) nod den_len))
    (snd_appO (i := 1) (snd_tup (snd_cons (snd_nm 3) (snd_cons (snd_op snd_mod (snd_op snd_add (snd_op snd_add (snd_nm 3) snd_int) (snd_call (dvs := []) (snd_cons (snd_nm 0) (snd_cons (snd_op snd_ix (snd_lst (snd_cons snd_int (snd_cons snd_int snd_nil))) (snd_call (dvs := []) (snd_cons (snd_nm 0) (snd_cons snd_int snd_nil)) nod den_len)) snd_nil)) nod den_len)) snd_int) snd_nil))))))
    (snd_frz 1 (snd_ret (snd_cb snd_tuple (snd_cons (snd_nm 1) snd_nil))))))
theorem ok_law_rule (T : Txt K mg A) : FnOk P w K mg base CX0 3 A.f_law_rule A.fd_law_rule ["_law_box", "_law_many"] (spI (gm K A) 2 d_law_rule) := by
  refine fn_I T.F_law_rule sc_law_rule fun cdv A0 outer s H E hr => ?_
  refine ⟨_, (pss_cons (ps_set (i := 2) sc_law_rule.nd rfl (by first | exact Or.inl rfl | exact Or.inr rfl) (pe_lst pa_nil))
    (pss_cons (ps_for PassesOwn.never rfl (pi_range1 (by rfl) T.n_range (pa_cons pe_int pa_nil)) (pg_name (i := 3) sc_law_rule.nd rfl (by first | exact Or.inl rfl | exact Or.inr rfl)) (pss_one (ps_if (PW.pt (pw_and (pt_cmpR op_lt (pe_callB (call_lenK K) (by rfl) T.n_len PySem.boot_len (pa_cons (pv 2) pa_nil)) pe_int (nomark _)) (pw_and1 (pt_cmpR (op_eqK K hr.units) (pe_call (ok_law_take T) (hr.mono (by decide)) rfl T.g_law_take T.F_law_take.kp T.b_law_take .nil pass0 (pa_cons (pv 0) (pa_cons pe_int pa_nil))) pe_int (nomark _))))) (pss_one (ps_expr (pe_bmK K PySem.F.plainAttrs_list PySem.F.slot_list_append PySem.F.type_list_append mt_append (pv 2) (pa_cons (pe_tup (pa_cons (pv 3) (pa_cons (pe_op (op_addK K) pe_int (pe_call (ok_law_take T) (hr.mono (by decide)) rfl T.g_law_take T.F_law_take.kp T.b_law_take .nil pass0 (pa_cons (pv 0) (pa_cons (pe_ix (ix_seqK K) (pe_lst (pa_cons pe_int (pa_cons pe_int pa_nil))) (pe_call (ok_law_take T) (hr.mono (by decide)) rfl T.g_law_take T.F_law_take.kp T.b_law_take .nil pass0 (pa_cons (pv 0) (pa_cons pe_int pa_nil))) (fun _ _ => rfl)) pa_nil)))) pa_nil))) pa_nil)))) pss_nil)))
    (pss_cons (ps_set (i := 4) sc_law_rule.nd rfl (by first | exact Or.inl rfl | exact Or.inr rfl) (pe_ix (ix_seqK K) (pe_lst (pa_cons pe_non (pa_cons (pe_op (op_addK K) pe_int (pe_call (ok_law_take T) (hr.mono (by decide)) rfl T.g_law_take T.F_law_take.kp T.b_law_take .nil pass0 (pa_cons (pv 0) (pa_cons (pe_ix (ix_seqK K) (pe_lst (pa_cons pe_int (pa_cons pe_int pa_nil))) (pe_call (ok_law_take T) (hr.mono (by decide)) rfl T.g_law_take T.F_law_take.kp T.b_law_take .nil pass0 (pa_cons (pv 0) (pa_cons pe_int pa_nil))) (fun _ _ => rfl)) pa_nil)))) (pa_cons pe_int pa_nil)))) (pe_call (ok_law_take T) (hr.mono (by decide)) rfl T.g_law_take T.F_law_take.kp T.b_law_take .nil pass0 (pa_cons (pv 0) (pa_cons pe_int pa_nil))) (fun _ _ => rfl)))
    (pss_cons (ps_set (i := 5) sc_law_rule.nd rfl (by first | exact Or.inl rfl | exact Or.inr rfl) (pe_ix (ix_seqK K) (pe_lst (pa_cons pe_non (pa_cons (pe_call (ok_law_take T) (hr.mono (by decide)) rfl T.g_law_take T.F_law_take.kp T.b_law_take .nil pass0 (pa_cons (pv 0) (pa_cons (pv 1) pa_nil))) (pa_cons (pe_call (ok_law_take T) (hr.mono (by decide)) rfl T.g_law_take T.F_law_take.kp T.b_law_take .nil pass0 (pa_cons (pv 0) (pa_cons (pv 1) pa_nil))) pa_nil)))) (pe_call (ok_law_take T) (hr.mono (by decide)) rfl T.g_law_take T.F_law_take.kp T.b_law_take .nil pass0 (pa_cons (pv 0) (pa_cons pe_int pa_nil))) (fun _ _ => rfl)))
    (pss_one (ps_ret (pe_tup (pa_cons (pe_call (ok_law_stretches T) (hr.mono (by decide)) rfl T.g_law_stretches T.F_law_stretches.kp T.b_law_stretches .nil pass0 (pa_cons (pv 0) pa_nil)) (pa_cons (pe_call (ok_law_take T) (hr.mono (by decide)) rfl T.g_law_take T.F_law_take.kp T.b_law_take .nil pass0 (pa_cons (pv 0) (pa_cons pe_int pa_nil))) (pa_cons (pe_callTy (call_tupleK K) (by rfl) T.n_tuple PyProof.Rows.boot_tuple (pa_cons (pv 2) pa_nil)) (pa_cons (pv 4) (pa_cons (pv 5) pa_nil)))))))))))), ?_⟩
  exact (snd_seq (snd_set (i := 2) (snd_lst snd_nil))
    (snd_seq (snd_for (mb := m_law_rule_1) (snd_ir1 (snd_cons snd_int snd_nil)) (snd_gname (i := 3)) (snd_ifS (snd_and (snd_test (snd_op snd_lt (snd_oLen (i := 2)) snd_int)) (snd_test (snd_op snd_eq (snd_call (dvs := []) (snd_cons (snd_nm 0) (snd_cons snd_int snd_nil)) nod den_len) snd_int))) (snd_appO (i := 2) (snd_tup (snd_cons (snd_nm 3) (snd_cons (snd_op snd_add snd_int (snd_call (dvs := []) (snd_cons (snd_nm 0) (snd_cons (snd_op snd_ix (snd_lst (snd_cons snd_int (snd_cons snd_int snd_nil))) (snd_call (dvs := []) (snd_cons (snd_nm 0) (snd_cons snd_int snd_nil)) nod den_len)) snd_nil)) nod den_len)) snd_nil)))) snd_next))
    (snd_seq (snd_set (i := 4) (snd_op snd_ix (snd_lst (snd_cons snd_non (snd_cons (snd_op snd_add snd_int (snd_call (dvs := []) (snd_cons (snd_nm 0) (snd_cons (snd_op snd_ix (snd_lst (snd_cons snd_int (snd_cons snd_int snd_nil))) (snd_call (dvs := []) (snd_cons (snd_nm 0) (snd_cons snd_int snd_nil)) nod den_len)) snd_nil)) nod den_len)) (snd_cons snd_int snd_nil)))) (snd_call (dvs := []) (snd_cons (snd_nm 0) (snd_cons snd_int snd_nil)) nod den_len)))
    (snd_seq (snd_set (i := 5) (snd_op snd_ix (snd_lst (snd_cons snd_non (snd_cons (snd_call (dvs := []) (snd_cons (snd_nm 0) (snd_cons (snd_nm 1) snd_nil)) nod den_len) (snd_cons (snd_call (dvs := []) (snd_cons (snd_nm 0) (snd_cons (snd_nm 1) snd_nil)) nod den_len) snd_nil)))) (snd_call (dvs := []) (snd_cons (snd_nm 0) (snd_cons snd_int snd_nil)) nod den_len)))
    (snd_frz 2 (snd_ret (snd_tup (snd_cons (snd_call (dvs := []) (snd_cons (snd_nm 0) snd_nil) nod den_len) (snd_cons (snd_call (dvs := []) (snd_cons (snd_nm 0) (snd_cons snd_int snd_nil)) nod den_len) (snd_cons (snd_cb snd_tuple (snd_cons (snd_nm 2) snd_nil)) (snd_cons (snd_nm 4) (snd_cons (snd_nm 5) snd_nil))))))))))))
theorem ok_law_rules (T : Txt K mg A) : FnOk P w K mg base CX0 4 A.f_law_rules A.fd_law_rules ["_law_box"] (spI (gm K A) 1 d_law_rules) := by
  refine fn_I T.F_law_rules sc_law_rules fun cdv A0 outer s H E hr => ?_
  refine ⟨_, (pss_cons (ps_set (i := 1) sc_law_rules.nd rfl (by first | exact Or.inl rfl | exact Or.inr rfl) (pe_op (op_addK K) pe_int (pe_call (ok_law_take T) (hr.mono (by decide)) rfl T.g_law_take T.F_law_take.kp T.b_law_take .nil pass0 (pa_cons (pv 0) (pa_cons pe_int pa_nil)))))
    (pss_one (ps_ret (pe_callTy (call_tupleK K) (by rfl) T.n_tuple PyProof.Rows.boot_tuple (pa_cons (pe_lc (own := [("_law_person", 2)]) rfl sc_law_rules.nd (pi_range1 (by rfl) T.n_range (pa_cons (pv 1) pa_nil)) (blkOk_by (N := n_law_rules) (sc := defScope s_law_rules) (own := [("_law_person", 2)]) (by decide +kernel)) (fun _ _ _ _ _ => (pg_name (i := 2) sc_law_rules.nd rfl (by first | exact Or.inl rfl | exact Or.inr rfl))) (fun _ _ _ _ _ => pts_nil) (fun _ _ _ _ _ => (pe_call (ok_law_rule T) (hr.mono (by decide)) rfl T.g_law_rule T.F_law_rule.kp T.b_law_rule .nil pass0 (pa_cons (pv 0) (pa_cons (pv 1) pa_nil))))) pa_nil))))), ?_⟩
  exact (snd_seq (snd_set (i := 1) (snd_op snd_add snd_int (snd_call (dvs := []) (snd_cons (snd_nm 0) (snd_cons snd_int snd_nil)) nod den_len)))
    (snd_ret (snd_cb snd_tuple (snd_cons (snd_lc (snd_ir1 (snd_cons (snd_nm 1) snd_nil)) (snd_gname (i := 2)) snd_yes (snd_call (dvs := []) (snd_cons (snd_nm 0) (snd_cons (snd_nm 1) snd_nil)) nod den_len) (by decide)) snd_nil))))
theorem ok_law_hush (T : Txt K mg A) : FnOk P w K mg base CX0 1 A.f_law_hush A.fd_law_hush ["_law_rule_here", "_law_moment"] (spI (gm K A) 2 d_law_hush) := by
  refine fn_I T.F_law_hush sc_law_hush fun cdv A0 outer s H E hr => ?_
  refine ⟨_, (pss_cons (ps_set (i := 2) sc_law_hush.nd rfl (by first | exact Or.inl rfl | exact Or.inr rfl) (pe_op op_mod (pv 1) pe_int))
    (pss_cons (ps_setLc (i := 3) (own := [("_law_begin", 4), ("_law_end", 5)]) rfl sc_law_hush.nd rfl rfl (sw_true rfl rfl rfl (by decide +kernel)) (pi_seqK K (pe_ix (ix_seqK K) (pv 0) pe_int (fun _ _ => rfl))) (blkOk_by (N := n_law_hush) (sc := defScope s_law_hush) (own := [("_law_begin", 4), ("_law_end", 5)]) (by decide +kernel)) (fun _ _ _ _ _ => (pg_tupK (n := 2) K rfl (pgs_cons (pg_name (i := 4) sc_law_hush.nd rfl (by first | exact Or.inl rfl | exact Or.inr rfl)) (pgs_cons (pg_name (i := 5) sc_law_hush.nd rfl (by first | exact Or.inl rfl | exact Or.inr rfl)) pgs_nil)))) (fun _ _ _ _ _ => pts_one (pt_cmpR op_lt (pe_op op_mod (pe_op op_sub (pv 2) (pv 4)) pe_int) (pe_op op_mod (pe_op op_sub (pv 5) (pv 4)) pe_int) (nomark _))) (fun _ _ _ _ _ => (pe_tup (pa_cons (pv 4) (pa_cons (pv 5) pa_nil)))))
    (pss_one (ps_ret (pe_cmpR (op_neK K hr.units) (pv 3) (pe_lst pa_nil) (nomark _)))))), ?_⟩
  exact (snd_seq (snd_set (i := 2) (snd_op snd_mod (snd_nm 1) snd_int))
    (snd_seq (snd_set (i := 3) (snd_v (snd_d (snd_lc (snd_iseq (snd_op snd_ix (snd_nm 0) snd_int)) (snd_gtup (n := 2) (snd_gcons (snd_gname (i := 4)) (snd_gcons (snd_gname (i := 5)) snd_gnil))) (snd_test (snd_op snd_lt (snd_op snd_mod (snd_op snd_sub (snd_nm 2) (snd_nm 4)) snd_int) (snd_op snd_mod (snd_op snd_sub (snd_nm 5) (snd_nm 4)) snd_int))) (snd_tup (snd_cons (snd_nm 4) (snd_cons (snd_nm 5) snd_nil))) (by decide)))))
    (snd_ret (snd_op snd_ne (snd_nm 3) (snd_lst snd_nil)))))
theorem ok_law_told_ (T : Txt K mg A) : FnOk P w K mg base CX0 8 A.f_law_told A.fd_law_told ["_law_work"] (spTold P w K mg base 6 (gm K A).xc) := ok_told T.ask T.ten T.gNE T.F_law_told 6
theorem ok_law_all_ (T : Txt K mg A) : FnOk P w K mg base CX0 10 A.f_law_all A.fd_law_all ["_law_works", "_law_due"] (spAll (spTold P w K mg base 6 (gm K A).xc) (spI (gm K A) 2 d_law_alike)) := ok_all T.F_law_all (ok_law_told_ T) T.g_law_told T.F_law_told.kp T.b_law_told (ok_law_alike T) T.g_law_alike T.F_law_alike.kp T.b_law_alike (by decide) (by decide)
theorem bods_ok_law_is_refused (T : Txt K mg A) : Bods P w mg base 6 (gm K A) (defScope s_law_is_refused) n_law_is_refused bods_law_is_refused := fun n x h => by
  unfold bods_law_is_refused at h
  split at h
  · cases h
    exact ⟨lam_0, _, rfl, lamok_0, lambind_0, rfl, rfl, fun t f c' A0 outer s H E hr => (pe_call (okx_is_hushed T) (hr.mono (by decide)) rfl T.g_is_hushed T.F_is_hushed.kp T.b_is_hushed .nil (passes_call (takes_of rfl rfl rfl rfl) fun _ _ _ _ h => h) (pa_cons (pv 1) (pa_cons (pv 4) (pa_cons (pv 5) pa_nil)))),
      fun E => (snd_xcall (dvs := []) (snd_cons (snd_nm 1) (snd_cons (snd_nm 4) (snd_cons (snd_nm 5) snd_nil))) nod denX_len)⟩
  · cases h
    exact ⟨lam_1, _, rfl, lamok_1, lambind_1, rfl, rfl, fun t f c' A0 outer s H E hr => (pe_call (okx_free_from T) (hr.mono (by decide)) rfl T.g_free_from T.F_free_from.kp T.b_free_from .nil (passes_call (takes_of rfl rfl rfl rfl) fun _ _ _ _ h => h) (pa_cons (pv 1) (pa_cons (pv 4) (pa_cons (pv 5) pa_nil)))),
      fun E => (snd_xcall (dvs := []) (snd_cons (snd_nm 1) (snd_cons (snd_nm 4) (snd_cons (snd_nm 5) snd_nil))) nod denX_len)⟩
  · cases h
    exact ⟨lam_2, _, rfl, lamok_2, lambind_2, rfl, rfl, fun t f c' A0 outer s H E hr => (pe_call (okx_hushed_between T) (hr.mono (by decide)) rfl T.g_hushed_between T.F_hushed_between.kp T.b_hushed_between .nil (passes_call (takes_of rfl rfl rfl rfl) fun _ _ _ _ h => h) (pa_cons (pv 1) (pa_cons (pv 4) (pa_cons (pv 5) (pa_cons (pv 5) pa_nil))))),
      fun E => (snd_xcall (dvs := []) (snd_cons (snd_nm 1) (snd_cons (snd_nm 4) (snd_cons (snd_nm 5) (snd_cons (snd_nm 5) snd_nil)))) nod denX_len)⟩
  · cases h
    exact ⟨lam_3, _, rfl, lamok_3, lambind_3, rfl, rfl, fun t f c' A0 outer s H E hr => (pe_call (okx_is_hushed T) (hr.mono (by decide)) rfl T.g_is_hushed T.F_is_hushed.kp T.b_is_hushed .nil (passes_call (takes_of rfl rfl rfl rfl) fun _ _ _ _ h => h) (pa_cons (pv 1) (pa_cons pe_int (pa_cons (pv 5) pa_nil)))),
      fun E => (snd_xcall (dvs := []) (snd_cons (snd_nm 1) (snd_cons snd_int (snd_cons (snd_nm 5) snd_nil))) nod denX_len)⟩
  · cases h
    exact ⟨lam_4, _, rfl, lamok_4, lambind_4, rfl, rfl, fun t f c' A0 outer s H E hr => (pe_call (okx_free_from T) (hr.mono (by decide)) rfl T.g_free_from T.F_free_from.kp T.b_free_from .nil (passes_call (takes_of rfl rfl rfl rfl) fun _ _ _ _ h => h) (pa_cons (pv 1) (pa_cons pe_int (pa_cons (pv 5) pa_nil)))),
      fun E => (snd_xcall (dvs := []) (snd_cons (snd_nm 1) (snd_cons snd_int (snd_cons (snd_nm 5) snd_nil))) nod denX_len)⟩
  · cases h
    exact ⟨lam_5, _, rfl, lamok_5, lambind_5, rfl, rfl, fun t f c' A0 outer s H E hr => (pe_call (okx_hushed_between T) (hr.mono (by decide)) rfl T.g_hushed_between T.F_hushed_between.kp T.b_hushed_between .nil (passes_call (takes_of rfl rfl rfl rfl) fun _ _ _ _ h => h) (pa_cons (pv 1) (pa_cons pe_int (pa_cons (pv 5) (pa_cons (pv 2) pa_nil))))),
      fun E => (snd_xcall (dvs := []) (snd_cons (snd_nm 1) (snd_cons snd_int (snd_cons (snd_nm 5) (snd_cons (snd_nm 2) snd_nil)))) nod denX_len)⟩
  · cases h
    exact ⟨lam_6, _, rfl, lamok_6, lambind_6, rfl, rfl, fun t f c' A0 outer s H E hr => (pe_call (okx_hushed_between T) (hr.mono (by decide)) rfl T.g_hushed_between T.F_hushed_between.kp T.b_hushed_between .nil (passes_call (takes_of rfl rfl rfl rfl) fun _ _ _ _ h => h) (pa_cons (pv 1) (pa_cons pe_int (pa_cons (pv 2) (pa_cons (pv 5) pa_nil))))),
      fun E => (snd_xcall (dvs := []) (snd_cons (snd_nm 1) (snd_cons snd_int (snd_cons (snd_nm 2) (snd_cons (snd_nm 5) snd_nil)))) nod denX_len)⟩
  · cases h
theorem d_law_is_refused_len : ∀ ds S w S', d_law_is_refused ds S = some (w, S') → ds.length = 3 := denT_len
theorem ok_law_is_refused (T : Txt K mg A) (TB : TBs mg base A) : FnOk P w K mg base CX0 11 A.f_law_is_refused A.fd_law_is_refused ["_law_box", "_law_rules_here", "_law_moment"] (spI (gm K A) 3 d_law_is_refused) := by
  refine fn_IT T.F_law_is_refused T.cd_law_is_refused sc_law_is_refused fun A0 outer s H E hr => ?_
  refine ⟨_, (pss_cons (ps_set (i := 3) sc_law_is_refused.nd rfl (by first | exact Or.inl rfl | exact Or.inr rfl) (pe_call (ok_law_take T) (hr.mono (by decide)) rfl T.g_law_take T.F_law_take.kp T.b_law_take .nil pass0 (pa_cons (pv 0) (pa_cons (pe_ix (ix_seqK K) (pe_lst (pa_cons pe_int (pa_cons (pe_op op_pow pe_int pe_int) pa_nil))) (pe_call (ok_law_take T) (hr.mono (by decide)) rfl T.g_law_take T.F_law_take.kp T.b_law_take .nil pass0 (pa_cons (pv 0) (pa_cons pe_int pa_nil))) (fun _ _ => rfl)) pa_nil))))
    (pss_cons (ps_set (i := 4) sc_law_is_refused.nd rfl (by first | exact Or.inl rfl | exact Or.inr rfl) (pe_ix (ix_seqK K) (pe_lst (pa_cons (pe_op (op_addK K) (pe_callB (call_lenK K) (by rfl) T.n_len PySem.boot_len (pa_cons (pv 1) pa_nil)) (pv 3)) (pa_cons (pe_op op_sub (pe_un un_neg pe_int) (pv 3)) (pa_cons pe_non (pa_cons pe_bl pa_nil))))) (pe_call (ok_law_take T) (hr.mono (by decide)) rfl T.g_law_take T.F_law_take.kp T.b_law_take .nil pass0 (pa_cons (pv 0) (pa_cons pe_int pa_nil))) (fun _ _ => rfl)))
    (pss_cons (ps_set (i := 5) sc_law_is_refused.nd rfl (by first | exact Or.inl rfl | exact Or.inr rfl) (pe_ix (ix_seqK K) (pe_lst (pa_cons (pe_op op_sub (pe_un un_neg pe_int) (pv 3)) (pa_cons (pe_op (op_addK K) (pe_op (op_addK K) (pe_op op_pow pe_int pe_int) pe_int) (pv 3)) (pa_cons pe_non (pa_cons pe_bl pa_nil))))) (pe_call (ok_law_take T) (hr.mono (by decide)) rfl T.g_law_take T.F_law_take.kp T.b_law_take .nil pass0 (pa_cons (pv 0) (pa_cons pe_int pa_nil))) (fun _ _ => rfl)))
    (pss_cons (ps_set (i := 6) sc_law_is_refused.nd rfl (by first | exact Or.inl rfl | exact Or.inr rfl) (pe_lst (pa_cons (pe_lam0 (l := lam_0) TB.law_is_refused rfl rfl rfl lamok_0 rfl rfl) (pa_cons (pe_lam1 (l := lam_1) TB.law_is_refused rfl rfl rfl lamok_1 rfl rfl rfl) pa_nil))))
    (pss_cons (ps_if (pt_not (pt_val (pe_callP (ok_law_all_ T) (hr.mono (by decide)) rfl T.g_law_all T.F_law_all.kp T.b_law_all ⟨rfl, rfl, rfl, rfl⟩ (pa_cons (pe_op (op_addK K) (pv 6) (pe_lst (pa_cons (pe_lam1 (l := lam_2) TB.law_is_refused rfl rfl rfl lamok_2 rfl rfl rfl) pa_nil))) (pa_cons (pe_tup (pa_cons pe_str (pa_cons pe_int pa_nil))) pa_nil))))) (pss_one (ps_ret pe_bl)) pss_nil)
    (pss_cons (ps_set (i := 6) sc_law_is_refused.nd rfl (by first | exact Or.inl rfl | exact Or.inr rfl) (pe_lst (pa_cons (pe_lam0 (l := lam_3) TB.law_is_refused rfl rfl rfl lamok_3 rfl rfl) (pa_cons (pe_lam1 (l := lam_4) TB.law_is_refused rfl rfl rfl lamok_4 rfl rfl rfl) pa_nil))))
    (pss_cons (ps_set (i := 6) sc_law_is_refused.nd rfl (by first | exact Or.inl rfl | exact Or.inr rfl) (pe_op (op_addK K) (pv 6) (pe_lst (pa_cons (pe_lam1 (l := lam_5) TB.law_is_refused rfl rfl rfl lamok_5 rfl rfl rfl) pa_nil))))
    (pss_cons (ps_expr (pe_bmK K PySem.F.plainAttrs_list PySem.F.slot_list_append PySem.F.type_list_append mt_append (pv 6) (pa_cons (pe_lam1 (l := lam_6) TB.law_is_refused rfl rfl rfl lamok_6 rfl rfl rfl) pa_nil)))
    (pss_one (ps_ret (pe_callP (ok_law_all_ T) (hr.mono (by decide)) rfl T.g_law_all T.F_law_all.kp T.b_law_all ⟨rfl, rfl, rfl, rfl⟩ (pa_cons (pv 6) (pa_cons (pe_tup (pa_cons pe_str (pa_cons pe_int pa_nil))) pa_nil))))))))))))), ?_⟩
  exact (snd_seq (snd_set (i := 3) (snd_call (dvs := []) (snd_cons (snd_nm 0) (snd_cons (snd_op snd_ix (snd_lst (snd_cons snd_int (snd_cons (snd_op snd_pow snd_int snd_int) snd_nil))) (snd_call (dvs := []) (snd_cons (snd_nm 0) (snd_cons snd_int snd_nil)) nod den_len)) snd_nil)) nod den_len))
    (snd_seq (snd_set (i := 4) (snd_op snd_ix (snd_lst (snd_cons (snd_op snd_add (snd_cb snd_len (snd_cons (snd_nm 1) snd_nil)) (snd_nm 3)) (snd_cons (snd_op snd_sub (snd_un snd_neg snd_int) (snd_nm 3)) (snd_cons snd_non (snd_cons snd_bl snd_nil))))) (snd_call (dvs := []) (snd_cons (snd_nm 0) (snd_cons snd_int snd_nil)) nod den_len)))
    (snd_seq (snd_set (i := 5) (snd_op snd_ix (snd_lst (snd_cons (snd_op snd_sub (snd_un snd_neg snd_int) (snd_nm 3)) (snd_cons (snd_op snd_add (snd_op snd_add (snd_op snd_pow snd_int snd_int) snd_int) (snd_nm 3)) (snd_cons snd_non (snd_cons snd_bl snd_nil))))) (snd_call (dvs := []) (snd_cons (snd_nm 0) (snd_cons snd_int snd_nil)) nod den_len)))
    (snd_seq (snd_set (i := 6) (snd_lst (snd_cons (snd_lam (G := gm K A) (n := 0) (l := lam_0) rfl (tbm_law_is_refused A) (tbu_law_is_refused T)) (snd_cons (snd_lam (G := gm K A) (n := 1) (l := lam_1) rfl (tbm_law_is_refused A) (tbu_law_is_refused T)) snd_nil))))
    (snd_seq (snd_frz 6 (snd_ifS (snd_not (snd_tB (snd_allL (bods_ok_law_is_refused T) d_law_alike_len (snd_cons (snd_op snd_add (snd_nm 6) (snd_lst (snd_cons (snd_lam (G := gm K A) (n := 2) (l := lam_2) rfl (tbm_law_is_refused A) (tbu_law_is_refused T)) snd_nil))) (snd_cons (snd_tup (snd_cons snd_str (snd_cons snd_int snd_nil))) snd_nil))))) (snd_ret snd_bl) snd_next))
    (snd_seq (snd_set (i := 6) (snd_lst (snd_cons (snd_lam (G := gm K A) (n := 3) (l := lam_3) rfl (tbm_law_is_refused A) (tbu_law_is_refused T)) (snd_cons (snd_lam (G := gm K A) (n := 4) (l := lam_4) rfl (tbm_law_is_refused A) (tbu_law_is_refused T)) snd_nil))))
    (snd_seq (snd_frz 6 (snd_set (i := 6) (snd_op snd_add (snd_nm 6) (snd_lst (snd_cons (snd_lam (G := gm K A) (n := 5) (l := lam_5) rfl (tbm_law_is_refused A) (tbu_law_is_refused T)) snd_nil)))))
    (snd_seq (snd_appO (i := 6) (snd_lam (G := gm K A) (n := 6) (l := lam_6) rfl (tbm_law_is_refused A) (tbu_law_is_refused T)))
    (snd_frz 6 (snd_ret (snd_allL (bods_ok_law_is_refused T) d_law_alike_len (snd_cons (snd_nm 6) (snd_cons (snd_tup (snd_cons snd_str (snd_cons snd_int snd_nil))) snd_nil)))))))))))))
theorem ok_law (T : Txt K mg A) (TB : TBs mg base A) (pl : ∀ ns : List Int, ns.length ≤ 63 → ∃ S', d_law [.lk ns] [] = some (.d (.bl true), S')) {cs : List (Addr × Addr)} (hcs : ∀ p ∈ (gm K A).tb, ∃ q ∈ cs, q.2 = p.1) : FnOk P w K mg base CX0 12 A.f_law A.fd_law ["_law_script"] (spLawT K cs) := by
  refine law_IN (G := gm K A) rfl hcs T.F_law sc_law (fun cdv A0 outer s H E hr => ?_) pl
  refine ⟨_, (pss_cons (ps_set (i := 1) sc_law.nd rfl (by first | exact Or.inl rfl | exact Or.inr rfl) (pe_call (ok_law_begun T) (hr.mono (by decide)) rfl T.g_law_begun T.F_law_begun.kp T.b_law_begun .nil pass0 (pa_cons (pv 0) pa_nil)))
    (pss_cons (ps_for PassesOwn.never rfl (pi_range1 (by rfl) T.n_range (pa_cons pe_int pa_nil)) (pg_name (i := 2) sc_law.nd rfl (by first | exact Or.inl rfl | exact Or.inr rfl)) (pss_cons (ps_set (i := 3) sc_law.nd rfl (by first | exact Or.inl rfl | exact Or.inr rfl) (pe_call (ok_law_rules T) (hr.mono (by decide)) rfl T.g_law_rules T.F_law_rules.kp T.b_law_rules .nil pass0 (pa_cons (pv 1) pa_nil)))
    (pss_cons (ps_set (i := 4) sc_law.nd rfl (by first | exact Or.inl rfl | exact Or.inr rfl) (pe_call (ok_law_take T) (hr.mono (by decide)) rfl T.g_law_take T.F_law_take.kp T.b_law_take .nil pass0 (pa_cons (pv 1) (pa_cons (pe_callB (call_lenK K) (by rfl) T.n_len PySem.boot_len (pa_cons (pv 3) pa_nil)) pa_nil))))
    (pss_cons (ps_if (pt_cmpR (op_eqK K hr.units) (pe_call (ok_law_take T) (hr.mono (by decide)) rfl T.g_law_take T.F_law_take.kp T.b_law_take .nil pass0 (pa_cons (pv 1) (pa_cons pe_int pa_nil))) pe_int (nomark _)) (pss_cons (ps_set (i := 5) sc_law.nd rfl (by first | exact Or.inl rfl | exact Or.inr rfl) (pe_call (ok_law_take T) (hr.mono (by decide)) rfl T.g_law_take T.F_law_take.kp T.b_law_take .nil pass0 (pa_cons (pv 1) (pa_cons pe_int pa_nil))))
    (pss_cons (ps_set (i := 3) sc_law.nd rfl (by first | exact Or.inl rfl | exact Or.inr rfl) (pe_op (op_addK K) (pe_tup (pa_cons (pe_op (op_addK K) (pe_tup (pa_cons (pe_tup (pa_cons (pe_tup (pa_cons (pv 5) (pa_cons (pe_op op_mod (pe_op (op_addK K) (pv 5) pe_int) pe_int) pa_nil))) (pa_cons (pe_tup (pa_cons (pe_op op_mod (pe_op (op_addK K) (pv 5) pe_int) pe_int) (pa_cons (pv 5) pa_nil))) pa_nil))) pa_nil)) (pe_slice (sl_anyK K) (pe_ix (ix_seqK K) (pv 3) pe_int (fun _ _ => rfl)) (po_some pe_int) po_none)) pa_nil)) (pe_slice (sl_anyK K) (pv 3) (po_some pe_int) po_none)))
    (pss_one (ps_set (i := 4) sc_law.nd rfl (by first | exact Or.inl rfl | exact Or.inr rfl) pe_int)))) pss_nil)
    (pss_cons (ps_set (i := 5) sc_law.nd rfl (by first | exact Or.inl rfl | exact Or.inr rfl) (pe_ix (ix_seqK K) (pe_lst (pa_cons (pe_call (ok_law_take T) (hr.mono (by decide)) rfl T.g_law_take T.F_law_take.kp T.b_law_take .nil pass0 (pa_cons (pv 1) (pa_cons pe_int pa_nil))) (pa_cons (pe_call (ok_law_take T) (hr.mono (by decide)) rfl T.g_law_take T.F_law_take.kp T.b_law_take .nil pass0 (pa_cons (pv 1) (pa_cons (pe_op (op_addK K) (pe_op op_pow pe_int pe_int) pe_int) pa_nil))) pa_nil))) (pe_call (ok_law_take T) (hr.mono (by decide)) rfl T.g_law_take T.F_law_take.kp T.b_law_take .nil pass0 (pa_cons (pv 1) (pa_cons pe_int pa_nil))) (fun _ _ => rfl)))
    (pss_cons (ps_set (i := 6) sc_law.nd rfl (by first | exact Or.inl rfl | exact Or.inr rfl) (pe_callB (call_minK K rfl) (by rfl) T.n_min PyProof.Rows.boot_min (pa_cons (pe_op op_pow pe_int pe_int) (pa_cons (pe_callB (call_maxK K rfl) (by rfl) T.n_max PyProof.Rows.boot_max (pa_cons pe_int (pa_cons (pe_op op_sub (pe_op (op_addK K) (pv 5) (pe_call (ok_law_take T) (hr.mono (by decide)) rfl T.g_law_take T.F_law_take.kp T.b_law_take .nil pass0 (pa_cons (pv 1) (pa_cons (pe_ix (ix_seqK K) (pe_lst (pa_cons pe_int (pa_cons pe_int pa_nil))) (pe_call (ok_law_take T) (hr.mono (by decide)) rfl T.g_law_take T.F_law_take.kp T.b_law_take .nil pass0 (pa_cons (pv 1) (pa_cons pe_int pa_nil))) (fun _ _ => rfl)) pa_nil)))) pe_int) pa_nil))) pa_nil))))
    (pss_cons (ps_setLc (i := 7) (own := [("_law_hour", 12)]) rfl sc_law.nd rfl rfl (sw_true rfl rfl rfl (by decide +kernel)) (pi_range2 (by rfl) T.n_range (pa_cons (pv 5) (pa_cons (pe_op (op_addK K) (pv 5) pe_int) pa_nil))) (blkOk_by (N := n_law) (sc := defScope s_law) (own := [("_law_hour", 12)]) (by decide +kernel)) (fun _ _ _ _ _ => (pg_name (i := 12) sc_law.nd rfl (by first | exact Or.inl rfl | exact Or.inr rfl))) (fun _ _ _ _ _ => pts_nil) (fun _ _ _ _ _ => (pe_call (ok_law_hush T) (hr.mono (by decide)) rfl T.g_law_hush T.F_law_hush.kp T.b_law_hush .nil pass0 (pa_cons (pe_ix (ix_seqK K) (pv 3) (pv 4) (fun _ _ => rfl)) (pa_cons (pv 12) pa_nil)))))
    (pss_cons (ps_set (i := 8) sc_law.nd rfl (by first | exact Or.inl rfl | exact Or.inr rfl) (pe_ifExp (pt_cmpR (op_inK K) pe_bl (pv 7) (by with_unfolding_all rfl)) (pe_op (op_addK K) (pv 5) (pe_bmK K PySem.F.plainAttrs_list PySem.F.slot_list_index PySem.F.type_list_index (mt_indexK K) (pv 7) (pa_cons pe_bl pa_nil))) pe_non))
    (pss_cons (ps_set (i := 9) sc_law.nd rfl (by first | exact Or.inl rfl | exact Or.inr rfl) (pe_callB (call_lenK K) (by rfl) T.n_len PySem.boot_len (pa_cons (pe_lc (own := [("_law_moment", 13)]) rfl sc_law.nd (pi_range2 (by rfl) T.n_range (pa_cons (pv 5) (pa_cons (pv 6) pa_nil))) (blkOk_by (N := n_law) (sc := defScope s_law) (own := [("_law_moment", 13)]) (by decide +kernel)) (fun _ _ _ _ _ => (pg_name (i := 13) sc_law.nd rfl (by first | exact Or.inl rfl | exact Or.inr rfl))) (fun _ _ _ _ _ => pts_one (pt_val (pe_call (ok_law_hush T) (hr.mono (by decide)) rfl T.g_law_hush T.F_law_hush.kp T.b_law_hush .nil pass0 (pa_cons (pe_ix (ix_seqK K) (pv 3) (pv 4) (fun _ _ => rfl)) (pa_cons (pv 13) pa_nil))))) (fun _ _ _ _ _ => (pv 13))) pa_nil)))
    (pss_cons (ps_for PassesOwn.never rfl (pi_range1 (by rfl) T.n_range (pa_cons pe_int pa_nil)) (pg_name (i := 10) sc_law.nd rfl (by first | exact Or.inl rfl | exact Or.inr rfl)) (pss_cons (ps_set (i := 11) sc_law.nd rfl (by first | exact Or.inl rfl | exact Or.inr rfl) (pe_lst (pa_cons (pe_call (ok_is_hushed T) (hr.mono (by decide)) rfl T.g_is_hushed T.F_is_hushed.kp T.b_is_hushed .nil pass0 (pa_cons (pv 3) (pa_cons (pv 4) (pa_cons (pv 5) pa_nil)))) (pa_cons (pe_call (ok_free_from T) (hr.mono (by decide)) rfl T.g_free_from T.F_free_from.kp T.b_free_from .nil pass0 (pa_cons (pv 3) (pa_cons (pv 4) (pa_cons (pv 5) pa_nil)))) pa_nil))))
    (pss_one (ps_if (PW.pt (pw_or (pt_not (pt_val (pe_call (ok_law_alike T) (hr.mono (by decide)) rfl T.g_law_alike T.F_law_alike.kp T.b_law_alike .nil pass0 (pa_cons (pv 11) (pa_cons (pe_lst (pa_cons (pe_ix (ix_seqK K) (pv 7) pe_int (fun _ _ => rfl)) (pa_cons (pv 8) pa_nil))) pa_nil))))) (pw_or1 (pt_not (pt_val (pe_call (ok_law_alike T) (hr.mono (by decide)) rfl T.g_law_alike T.F_law_alike.kp T.b_law_alike .nil pass0 (pa_cons (pe_call (ok_hushed_between T) (hr.mono (by decide)) rfl T.g_hushed_between T.F_hushed_between.kp T.b_hushed_between .nil pass0 (pa_cons (pv 3) (pa_cons (pv 4) (pa_cons (pv 5) (pa_cons (pv 6) pa_nil))))) (pa_cons (pv 9) pa_nil)))))))) (pss_one (ps_ret pe_bl)) pss_nil))))
    (pss_one (ps_if (pt_not (pt_val (pe_call (ok_law_is_refused T TB) (hr.mono (by decide)) rfl T.g_law_is_refused T.F_law_is_refused.kp T.b_law_is_refused .nil pass0 (pa_cons (pv 1) (pa_cons (pv 3) (pa_cons (pv 5) pa_nil)))))) (pss_one (ps_ret pe_bl)) pss_nil))))))))))))
    (pss_one (ps_ret pe_bl)))), ?_⟩
  exact (snd_seq (snd_set (i := 1) (snd_box (snd_call (dvs := []) (snd_cons (snd_nm 0) snd_nil) nod den_len)))
    (snd_seq (snd_for (mb := m_law_2) (snd_ir1 (snd_cons snd_int snd_nil)) (snd_gname (i := 2)) (snd_seq (snd_set (i := 3) (snd_call (dvs := []) (snd_cons (snd_nm 1) snd_nil) nod den_len))
    (snd_seq (snd_set (i := 4) (snd_call (dvs := []) (snd_cons (snd_nm 1) (snd_cons (snd_cb snd_len (snd_cons (snd_nm 3) snd_nil)) snd_nil)) nod den_len))
    (snd_seq (snd_ifS (snd_test (snd_op snd_eq (snd_call (dvs := []) (snd_cons (snd_nm 1) (snd_cons snd_int snd_nil)) nod den_len) snd_int)) (snd_seq (snd_set (i := 5) (snd_call (dvs := []) (snd_cons (snd_nm 1) (snd_cons snd_int snd_nil)) nod den_len))
    (snd_seq (snd_set (i := 3) (snd_v (snd_d (snd_op snd_add (snd_tup (snd_cons (snd_op snd_add (snd_tup (snd_cons (snd_tup (snd_cons (snd_tup (snd_cons (snd_nm 5) (snd_cons (snd_op snd_mod (snd_op snd_add (snd_nm 5) snd_int) snd_int) snd_nil))) (snd_cons (snd_tup (snd_cons (snd_op snd_mod (snd_op snd_add (snd_nm 5) snd_int) snd_int) (snd_cons (snd_nm 5) snd_nil))) snd_nil))) snd_nil)) (snd_sl (snd_op snd_ix (snd_nm 3) snd_int) (snd_oPart snd_int) snd_oNo)) snd_nil)) (snd_sl (snd_nm 3) (snd_oPart snd_int) snd_oNo)))))
    (snd_set (i := 4) snd_int))) snd_next)
    (snd_seq (snd_set (i := 5) (snd_op snd_ix (snd_lst (snd_cons (snd_call (dvs := []) (snd_cons (snd_nm 1) (snd_cons snd_int snd_nil)) nod den_len) (snd_cons (snd_call (dvs := []) (snd_cons (snd_nm 1) (snd_cons (snd_op snd_add (snd_op snd_pow snd_int snd_int) snd_int) snd_nil)) nod den_len) snd_nil))) (snd_call (dvs := []) (snd_cons (snd_nm 1) (snd_cons snd_int snd_nil)) nod den_len)))
    (snd_seq (snd_set (i := 6) (snd_cb snd_min (snd_cons (snd_op snd_pow snd_int snd_int) (snd_cons (snd_cb snd_max (snd_cons snd_int (snd_cons (snd_op snd_sub (snd_op snd_add (snd_nm 5) (snd_call (dvs := []) (snd_cons (snd_nm 1) (snd_cons (snd_op snd_ix (snd_lst (snd_cons snd_int (snd_cons snd_int snd_nil))) (snd_call (dvs := []) (snd_cons (snd_nm 1) (snd_cons snd_int snd_nil)) nod den_len)) snd_nil)) nod den_len)) snd_int) snd_nil))) snd_nil))))
    (snd_seq (snd_set (i := 7) (snd_v (snd_d (snd_lc (snd_ir2 (snd_cons (snd_nm 5) (snd_cons (snd_op snd_add (snd_nm 5) snd_int) snd_nil))) (snd_gname (i := 12)) snd_yes (snd_call (dvs := []) (snd_cons (snd_op snd_ix (snd_nm 3) (snd_nm 4)) (snd_cons (snd_nm 12) snd_nil)) nod den_len) (by decide)))))
    (snd_seq (snd_set (i := 8) (snd_if (snd_test (snd_op snd_in snd_bl (snd_nm 7))) (snd_op snd_add (snd_nm 5) (snd_bm ty_lst snd_mIdx (snd_nm 7) (snd_cons snd_bl snd_nil))) snd_non))
    (snd_seq (snd_set (i := 9) (snd_cb snd_len (snd_cons (snd_lc (snd_ir2 (snd_cons (snd_nm 5) (snd_cons (snd_nm 6) snd_nil))) (snd_gname (i := 13)) (snd_tB (snd_call (dvs := []) (snd_cons (snd_op snd_ix (snd_nm 3) (snd_nm 4)) (snd_cons (snd_nm 13) snd_nil)) nod den_len)) (snd_nm 13) (by decide)) snd_nil)))
    (snd_seq (snd_for (mb := m_law_1) (snd_ir1 (snd_cons snd_int snd_nil)) (snd_gname (i := 10)) (snd_seq (snd_set (i := 11) (snd_v (snd_d (snd_lst (snd_cons (snd_call (dvs := []) (snd_cons (snd_nm 3) (snd_cons (snd_nm 4) (snd_cons (snd_nm 5) snd_nil))) nod den_len) (snd_cons (snd_call (dvs := []) (snd_cons (snd_nm 3) (snd_cons (snd_nm 4) (snd_cons (snd_nm 5) snd_nil))) nod den_len) snd_nil))))))
    (snd_ifS (snd_or (snd_not (snd_tB (snd_call (dvs := []) (snd_cons (snd_nm 11) (snd_cons (snd_lst (snd_cons (snd_op snd_ix (snd_nm 7) snd_int) (snd_cons (snd_nm 8) snd_nil))) snd_nil)) nod d_law_alike_len))) (snd_not (snd_tB (snd_call (dvs := []) (snd_cons (snd_call (dvs := []) (snd_cons (snd_nm 3) (snd_cons (snd_nm 4) (snd_cons (snd_nm 5) (snd_cons (snd_nm 6) snd_nil)))) nod den_len) (snd_cons (snd_nm 9) snd_nil)) nod d_law_alike_len)))) (snd_ret snd_bl) snd_next)))
    (snd_ifS (snd_not (snd_tB (snd_call (dvs := []) (snd_cons (snd_nm 1) (snd_cons (snd_nm 3) (snd_cons (snd_nm 5) snd_nil))) nod d_law_is_refused_len))) (snd_ret snd_bl) snd_next)))))))))))
    (snd_ret snd_bl)))
end
end Wk
namespace Wk
open PySem L2 Yi
theorem dgen : True := trivial
set_option maxHeartbeats 0 in
theorem all_mk {l : PySem.W.OpenLaw} {w : World} {K : PySem.W.Frag} {h : Heap} {mg mb : Str → Option Value} {q : Program} {loose : List Str} {mean : ExcName → Option Value} {fa X_BadBell X_BadDevice X_BadHears X_BadMoment X_BadNotices X_BadPerson X_BadRules X_BadText X_IsOff X_NotRinging X_NoticeError f0 f1 f2 f3 f4 f5 f6 f7 f8 f9 f10 f11 f12 f13 f14 f15 f16 f17 f18 f19 f20 f21 f22 f23 co23 pt23 f24 : Addr} (pl : ∀ ns : List Int, ns.length ≤ 63 → ∃ S', d_law [.lk ns] [] = some (.d (.bl true), S')) (X : K.In h) (T0 : PyProof.Rows.Top q loose mean mg mb h) (hfa : mg "law" = some (.ref fa))
    {od0 an0 od1 an1 od2 an2 od3 an3 od4 an4 od5 an5 od6 an6 od7 an7 od8 an8 od9 an9 od10 an10 od11 an11 od12 an12 od13 an13 od14 an14 od15 an15 od16 an16 od17 an17 od18 an18 od19 an19 od20 an20 od21 an21 od22 an22 od23 an23 od24 an24 : Option Addr} {sl0 sl1 sl2 sl3 sl4 sl5 sl6 sl7 sl8 sl9 sl10 sl11 sl12 sl13 sl14 sl15 sl16 sl17 sl18 sl19 sl20 sl21 sl22 sl23 sl24 : Array (Option Value)} {oc0 kV0 dc0 pm0 cd0 ct0 oc1 kV1 dc1 pm1 cd1 ct1 oc2 kV2 dc2 pm2 cd2 ct2 oc3 kV3 dc3 pm3 cd3 ct3 oc4 kV4 dc4 pm4 cd4 ct4 oc5 kV5 dc5 pm5 cd5 ct5 oc6 kV6 dc6 pm6 cd6 ct6 oc7 kV7 dc7 pm7 cd7 ct7 oc8 kV8 dc8 pm8 cd8 ct8 oc9 kV9 dc9 pm9 cd9 ct9 oc10 kV10 dc10 pm10 cd10 ct10 oc11 kV11 dc11 pm11 cd11 ct11 oc12 kV12 dc12 pm12 cd12 ct12 oc13 kV13 dc13 pm13 cd13 ct13 oc14 kV14 dc14 pm14 cd14 ct14 oc15 kV15 dc15 pm15 cd15 ct15 oc16 kV16 dc16 pm16 cd16 ct16 oc17 kV17 dc17 pm17 cd17 ct17 oc18 kV18 dc18 pm18 cd18 ct18 oc19 kV19 dc19 pm19 cd19 ct19 oc20 kV20 dc20 pm20 cd20 ct20 oc21 kV21 dc21 pm21 cd21 ct21 oc22 kV22 dc22 pm22 cd22 ct22 oc23 kV23 dc23 pm23 ct23 oc24 kV24 dc24 pm24 cd24 ct24 : Value} {t_DAY t_HUSHED t_MOST_GATHERED t_MOST_HUSHED t_MOST_KIND t_MOST_MOMENT t_MOST_PERSONS t_MOST_RANK t_MOST_SPAN t_MOST_WAIT : Tok} {occ23 : Value} {odc23 : Option Addr} {vsc23 : Array Value} {slc23 : Array (Option Value)}
    (aX_BadBell : PySem.W.nsIn K mainGlobals "BadBell" = some (some (.ref X_BadBell)))
    (aX_BadDevice : PySem.W.nsIn K mainGlobals "BadDevice" = some (some (.ref X_BadDevice)))
    (aX_BadHears : PySem.W.nsIn K mainGlobals "BadHears" = some (some (.ref X_BadHears)))
    (aX_BadMoment : PySem.W.nsIn K mainGlobals "BadMoment" = some (some (.ref X_BadMoment)))
    (aX_BadNotices : PySem.W.nsIn K mainGlobals "BadNotices" = some (some (.ref X_BadNotices)))
    (aX_BadPerson : PySem.W.nsIn K mainGlobals "BadPerson" = some (some (.ref X_BadPerson)))
    (aX_BadRules : PySem.W.nsIn K mainGlobals "BadRules" = some (some (.ref X_BadRules)))
    (aX_BadText : PySem.W.nsIn K mainGlobals "BadText" = some (some (.ref X_BadText)))
    (aX_IsOff : PySem.W.nsIn K mainGlobals "IsOff" = some (some (.ref X_IsOff)))
    (aX_NotRinging : PySem.W.nsIn K mainGlobals "NotRinging" = some (some (.ref X_NotRinging)))
    (aX_NoticeError : PySem.W.nsIn K mainGlobals "NoticeError" = some (some (.ref X_NoticeError)))
    (xi_BadMoment : PySem.W.excIn K X_BadMoment [.type "ValueError", .type "Exception", .type "BaseException", .type "object"] "ValueError.__new__" = true)
    (kx_BadMoment : PySem.W.keepIn K (.ref X_BadMoment) = true)
    (sx_BadMoment : PySem.W.subIn K (.ref X_BadMoment) (.type "BaseException") = some true)
    (tx_BadMoment : PySem.W.typeIn K (.ref X_BadMoment) = some (.type "type"))
    (xi_BadPerson : PySem.W.excIn K X_BadPerson [.type "ValueError", .type "Exception", .type "BaseException", .type "object"] "ValueError.__new__" = true)
    (kx_BadPerson : PySem.W.keepIn K (.ref X_BadPerson) = true)
    (sx_BadPerson : PySem.W.subIn K (.ref X_BadPerson) (.type "BaseException") = some true)
    (tx_BadPerson : PySem.W.typeIn K (.ref X_BadPerson) = some (.type "type"))
    (nisx : PySem.W.nsIn K mainGlobals "isinstance" = some none)
    (nvex : PySem.W.nsIn K mainGlobals "ValueError" = some none)
    (tenx : tenB K (xcOf X_BadBell X_BadDevice X_BadHears X_BadMoment X_BadNotices X_BadPerson X_BadRules X_BadText X_IsOff X_NotRinging) X_NoticeError = true)
    (a0 : PySem.W.nsIn K mainGlobals "is_number" = some (some (.ref f0)))
    (l0 : K.lookup f0 = some ⟨oc0, od0, .func (PySem.W.fnOf "is_number" "is_number" (defArgs s_is_number) (defBody s_is_number) (defScope s_is_number) .none kV0 dc0 pm0 an0 cd0 ct0), sl0⟩)
    (c0 : PySem.W.codeIn K cd0 "is_number" = true)
    (k0 : PySem.W.keepIn K (.ref f0) = true)
    (a1 : PySem.W.nsIn K mainGlobals "is_stretch" = some (some (.ref f1)))
    (l1 : K.lookup f1 = some ⟨oc1, od1, .func (PySem.W.fnOf "is_stretch" "is_stretch" (defArgs s_is_stretch) (defBody s_is_stretch) (defScope s_is_stretch) .none kV1 dc1 pm1 an1 cd1 ct1), sl1⟩)
    (c1 : PySem.W.codeIn K cd1 "is_stretch" = true)
    (k1 : PySem.W.keepIn K (.ref f1) = true)
    (a2 : PySem.W.nsIn K mainGlobals "is_gathered" = some (some (.ref f2)))
    (l2 : K.lookup f2 = some ⟨oc2, od2, .func (PySem.W.fnOf "is_gathered" "is_gathered" (defArgs s_is_gathered) (defBody s_is_gathered) (defScope s_is_gathered) .none kV2 dc2 pm2 an2 cd2 ct2), sl2⟩)
    (c2 : PySem.W.codeIn K cd2 "is_gathered" = true)
    (k2 : PySem.W.keepIn K (.ref f2) = true)
    (a3 : PySem.W.nsIn K mainGlobals "are_pairs" = some (some (.ref f3)))
    (l3 : K.lookup f3 = some ⟨oc3, od3, .func (PySem.W.fnOf "are_pairs" "are_pairs" (defArgs s_are_pairs) (defBody s_are_pairs) (defScope s_are_pairs) .none kV3 dc3 pm3 an3 cd3 ct3), sl3⟩)
    (c3 : PySem.W.codeIn K cd3 "are_pairs" = true)
    (k3 : PySem.W.keepIn K (.ref f3) = true)
    (a4 : PySem.W.nsIn K mainGlobals "bad_part" = some (some (.ref f4)))
    (l4 : K.lookup f4 = some ⟨oc4, od4, .func (PySem.W.fnOf "bad_part" "bad_part" (defArgs s_bad_part) (defBody s_bad_part) (defScope s_bad_part) .none kV4 dc4 pm4 an4 cd4 ct4), sl4⟩)
    (c4 : PySem.W.codeIn K cd4 "bad_part" = true)
    (k4 : PySem.W.keepIn K (.ref f4) = true)
    (a5 : PySem.W.nsIn K mainGlobals "need_rules" = some (some (.ref f5)))
    (l5 : K.lookup f5 = some ⟨oc5, od5, .func (PySem.W.fnOf "need_rules" "need_rules" (defArgs s_need_rules) (defBody s_need_rules) (defScope s_need_rules) .none kV5 dc5 pm5 an5 cd5 ct5), sl5⟩)
    (c5 : PySem.W.codeIn K cd5 "need_rules" = true)
    (k5 : PySem.W.keepIn K (.ref f5) = true)
    (a6 : PySem.W.nsIn K mainGlobals "need_person" = some (some (.ref f6)))
    (l6 : K.lookup f6 = some ⟨oc6, od6, .func (PySem.W.fnOf "need_person" "need_person" (defArgs s_need_person) (defBody s_need_person) (defScope s_need_person) .none kV6 dc6 pm6 an6 cd6 ct6), sl6⟩)
    (c6 : PySem.W.codeIn K cd6 "need_person" = true)
    (k6 : PySem.W.keepIn K (.ref f6) = true)
    (a7 : PySem.W.nsIn K mainGlobals "need_moment" = some (some (.ref f7)))
    (l7 : K.lookup f7 = some ⟨oc7, od7, .func (PySem.W.fnOf "need_moment" "need_moment" (defArgs s_need_moment) (defBody s_need_moment) (defScope s_need_moment) .none kV7 dc7 pm7 an7 cd7 ct7), sl7⟩)
    (c7 : PySem.W.codeIn K cd7 "need_moment" = true)
    (k7 : PySem.W.keepIn K (.ref f7) = true)
    (a8 : PySem.W.nsIn K mainGlobals "is_in" = some (some (.ref f8)))
    (l8 : K.lookup f8 = some ⟨oc8, od8, .func (PySem.W.fnOf "is_in" "is_in" (defArgs s_is_in) (defBody s_is_in) (defScope s_is_in) .none kV8 dc8 pm8 an8 cd8 ct8), sl8⟩)
    (c8 : PySem.W.codeIn K cd8 "is_in" = true)
    (k8 : PySem.W.keepIn K (.ref f8) = true)
    (a9 : PySem.W.nsIn K mainGlobals "hush_at" = some (some (.ref f9)))
    (l9 : K.lookup f9 = some ⟨oc9, od9, .func (PySem.W.fnOf "hush_at" "hush_at" (defArgs s_hush_at) (defBody s_hush_at) (defScope s_hush_at) .none kV9 dc9 pm9 an9 cd9 ct9), sl9⟩)
    (c9 : PySem.W.codeIn K cd9 "hush_at" = true)
    (k9 : PySem.W.keepIn K (.ref f9) = true)
    (a10 : PySem.W.nsIn K mainGlobals "is_hushed" = some (some (.ref f10)))
    (l10 : K.lookup f10 = some ⟨oc10, od10, .func (PySem.W.fnOf "is_hushed" "is_hushed" (defArgs s_is_hushed) (defBody s_is_hushed) (defScope s_is_hushed) .none kV10 dc10 pm10 an10 cd10 ct10), sl10⟩)
    (c10 : PySem.W.codeIn K cd10 "is_hushed" = true)
    (k10 : PySem.W.keepIn K (.ref f10) = true)
    (a11 : PySem.W.nsIn K mainGlobals "free_at" = some (some (.ref f11)))
    (l11 : K.lookup f11 = some ⟨oc11, od11, .func (PySem.W.fnOf "free_at" "free_at" (defArgs s_free_at) (defBody s_free_at) (defScope s_free_at) .none kV11 dc11 pm11 an11 cd11 ct11), sl11⟩)
    (c11 : PySem.W.codeIn K cd11 "free_at" = true)
    (k11 : PySem.W.keepIn K (.ref f11) = true)
    (a12 : PySem.W.nsIn K mainGlobals "free_from" = some (some (.ref f12)))
    (l12 : K.lookup f12 = some ⟨oc12, od12, .func (PySem.W.fnOf "free_from" "free_from" (defArgs s_free_from) (defBody s_free_from) (defScope s_free_from) .none kV12 dc12 pm12 an12 cd12 ct12), sl12⟩)
    (c12 : PySem.W.codeIn K cd12 "free_from" = true)
    (k12 : PySem.W.keepIn K (.ref f12) = true)
    (a13 : PySem.W.nsIn K mainGlobals "hushed_between" = some (some (.ref f13)))
    (l13 : K.lookup f13 = some ⟨oc13, od13, .func (PySem.W.fnOf "hushed_between" "hushed_between" (defArgs s_hushed_between) (defBody s_hushed_between) (defScope s_hushed_between) .none kV13 dc13 pm13 an13 cd13 ct13), sl13⟩)
    (c13 : PySem.W.codeIn K cd13 "hushed_between" = true)
    (k13 : PySem.W.keepIn K (.ref f13) = true)
    (a14 : PySem.W.nsIn K mainGlobals "_law_begun" = some (some (.ref f14)))
    (l14 : K.lookup f14 = some ⟨oc14, od14, .func (PySem.W.fnOf "_law_begun" "_law_begun" (defArgs s_law_begun) (defBody s_law_begun) (defScope s_law_begun) .none kV14 dc14 pm14 an14 cd14 ct14), sl14⟩)
    (c14 : PySem.W.codeIn K cd14 "_law_begun" = true)
    (k14 : PySem.W.keepIn K (.ref f14) = true)
    (a15 : PySem.W.nsIn K mainGlobals "_law_take" = some (some (.ref f15)))
    (l15 : K.lookup f15 = some ⟨oc15, od15, .func (PySem.W.fnOf "_law_take" "_law_take" (defArgs s_law_take) (defBody s_law_take) (defScope s_law_take) .none kV15 dc15 pm15 an15 cd15 ct15), sl15⟩)
    (c15 : PySem.W.codeIn K cd15 "_law_take" = true)
    (k15 : PySem.W.keepIn K (.ref f15) = true)
    (a16 : PySem.W.nsIn K mainGlobals "_law_alike" = some (some (.ref f16)))
    (l16 : K.lookup f16 = some ⟨oc16, od16, .func (PySem.W.fnOf "_law_alike" "_law_alike" (defArgs s_law_alike) (defBody s_law_alike) (defScope s_law_alike) .none kV16 dc16 pm16 an16 cd16 ct16), sl16⟩)
    (c16 : PySem.W.codeIn K cd16 "_law_alike" = true)
    (k16 : PySem.W.keepIn K (.ref f16) = true)
    (a17 : PySem.W.nsIn K mainGlobals "_law_stretches" = some (some (.ref f17)))
    (l17 : K.lookup f17 = some ⟨oc17, od17, .func (PySem.W.fnOf "_law_stretches" "_law_stretches" (defArgs s_law_stretches) (defBody s_law_stretches) (defScope s_law_stretches) .none kV17 dc17 pm17 an17 cd17 ct17), sl17⟩)
    (c17 : PySem.W.codeIn K cd17 "_law_stretches" = true)
    (k17 : PySem.W.keepIn K (.ref f17) = true)
    (a18 : PySem.W.nsIn K mainGlobals "_law_rule" = some (some (.ref f18)))
    (l18 : K.lookup f18 = some ⟨oc18, od18, .func (PySem.W.fnOf "_law_rule" "_law_rule" (defArgs s_law_rule) (defBody s_law_rule) (defScope s_law_rule) .none kV18 dc18 pm18 an18 cd18 ct18), sl18⟩)
    (c18 : PySem.W.codeIn K cd18 "_law_rule" = true)
    (k18 : PySem.W.keepIn K (.ref f18) = true)
    (a19 : PySem.W.nsIn K mainGlobals "_law_rules" = some (some (.ref f19)))
    (l19 : K.lookup f19 = some ⟨oc19, od19, .func (PySem.W.fnOf "_law_rules" "_law_rules" (defArgs s_law_rules) (defBody s_law_rules) (defScope s_law_rules) .none kV19 dc19 pm19 an19 cd19 ct19), sl19⟩)
    (c19 : PySem.W.codeIn K cd19 "_law_rules" = true)
    (k19 : PySem.W.keepIn K (.ref f19) = true)
    (a20 : PySem.W.nsIn K mainGlobals "_law_hush" = some (some (.ref f20)))
    (l20 : K.lookup f20 = some ⟨oc20, od20, .func (PySem.W.fnOf "_law_hush" "_law_hush" (defArgs s_law_hush) (defBody s_law_hush) (defScope s_law_hush) .none kV20 dc20 pm20 an20 cd20 ct20), sl20⟩)
    (c20 : PySem.W.codeIn K cd20 "_law_hush" = true)
    (k20 : PySem.W.keepIn K (.ref f20) = true)
    (a21 : PySem.W.nsIn K mainGlobals "_law_told" = some (some (.ref f21)))
    (l21 : K.lookup f21 = some ⟨oc21, od21, .func (PySem.W.fnOf "_law_told" "_law_told" (defArgs s_law_told) (defBody s_law_told) (defScope s_law_told) .none kV21 dc21 pm21 an21 cd21 ct21), sl21⟩)
    (c21 : PySem.W.codeIn K cd21 "_law_told" = true)
    (k21 : PySem.W.keepIn K (.ref f21) = true)
    (a22 : PySem.W.nsIn K mainGlobals "_law_all" = some (some (.ref f22)))
    (l22 : K.lookup f22 = some ⟨oc22, od22, .func (PySem.W.fnOf "_law_all" "_law_all" (defArgs s_law_all) (defBody s_law_all) (defScope s_law_all) .none kV22 dc22 pm22 an22 cd22 ct22), sl22⟩)
    (c22 : PySem.W.codeIn K cd22 "_law_all" = true)
    (k22 : PySem.W.keepIn K (.ref f22) = true)
    (a23 : PySem.W.nsIn K mainGlobals "_law_is_refused" = some (some (.ref f23)))
    (l23 : K.lookup f23 = some ⟨oc23, od23, .func (PySem.W.fnOf "_law_is_refused" "_law_is_refused" (defArgs s_law_is_refused) (defBody s_law_is_refused) (defScope s_law_is_refused) .none kV23 dc23 pm23 an23 (.ref co23) ct23), sl23⟩)
    (c23 : PySem.W.codeIn K (.ref co23) "_law_is_refused" = true)
    (lc23 : K.lookup co23 = some ⟨occ23, odc23, .fields vsc23, slc23⟩)
    (lp23 : (vsc23[11]? : Option Value) = some (.ref pt23))
    (np23 : K.lookup pt23 = none)
    (tt23 : PySem.W.CodeHd h co23 pt23 ∧ h.get? pt23 = some { cls := .none, data := .fields #[] })
    (k23 : PySem.W.keepIn K (.ref f23) = true)
    (a24 : PySem.W.nsIn K mainGlobals "law" = some (some (.ref f24)))
    (l24 : K.lookup f24 = some ⟨oc24, od24, .func (PySem.W.fnOf "law" "law" (defArgs s_law) (defBody s_law) (defScope s_law) .none kV24 dc24 pm24 an24 cd24 ct24), sl24⟩)
    (c24 : PySem.W.codeIn K cd24 "law" = true)
    (k24 : PySem.W.keepIn K (.ref f24) = true)
    (n_all : PySem.W.nsIn K mainGlobals "all" = some none)
    (n_any : PySem.W.nsIn K mainGlobals "any" = some none)
    (n_bool : PySem.W.nsIn K mainGlobals "bool" = some none)
    (n_divmod : PySem.W.nsIn K mainGlobals "divmod" = some none)
    (n_enumerate : PySem.W.nsIn K mainGlobals "enumerate" = some none)
    (n_int : PySem.W.nsIn K mainGlobals "int" = some none)
    (n_isinstance : PySem.W.nsIn K mainGlobals "isinstance" = some none)
    (n_len : PySem.W.nsIn K mainGlobals "len" = some none)
    (n_list : PySem.W.nsIn K mainGlobals "list" = some none)
    (n_max : PySem.W.nsIn K mainGlobals "max" = some none)
    (n_min : PySem.W.nsIn K mainGlobals "min" = some none)
    (n_range : PySem.W.nsIn K mainGlobals "range" = some none)
    (n_set : PySem.W.nsIn K mainGlobals "set" = some none)
    (n_sorted : PySem.W.nsIn K mainGlobals "sorted" = some none)
    (n_str : PySem.W.nsIn K mainGlobals "str" = some none)
    (n_tuple : PySem.W.nsIn K mainGlobals "tuple" = some none)
    (g_DAY : PySem.W.nsIn K mainGlobals "DAY" = some (some (.int 24 t_DAY)))
    (g_HUSHED : PySem.W.nsIn K mainGlobals "HUSHED" = some (some (.int 0 t_HUSHED)))
    (g_MOST_GATHERED : PySem.W.nsIn K mainGlobals "MOST_GATHERED" = some (some (.int 4 t_MOST_GATHERED)))
    (g_MOST_HUSHED : PySem.W.nsIn K mainGlobals "MOST_HUSHED" = some (some (.int 3 t_MOST_HUSHED)))
    (g_MOST_KIND : PySem.W.nsIn K mainGlobals "MOST_KIND" = some (some (.int 7 t_MOST_KIND)))
    (g_MOST_MOMENT : PySem.W.nsIn K mainGlobals "MOST_MOMENT" = some (some (.int 1000000 t_MOST_MOMENT)))
    (g_MOST_PERSONS : PySem.W.nsIn K mainGlobals "MOST_PERSONS" = some (some (.int 6 t_MOST_PERSONS)))
    (g_MOST_RANK : PySem.W.nsIn K mainGlobals "MOST_RANK" = some (some (.int 3 t_MOST_RANK)))
    (g_MOST_SPAN : PySem.W.nsIn K mainGlobals "MOST_SPAN" = some (some (.int 12 t_MOST_SPAN)))
    (g_MOST_WAIT : PySem.W.nsIn K mainGlobals "MOST_WAIT" = some (some (.int 24 t_MOST_WAIT))) :
    LamX.LawAtS l w K CX0 12 63 "_law_script" mg fa h := by
  have G : h.Ns mainGlobals mg := T0.g
  have e : f24 = fa := by
    have q := hfa.symm.trans (PySem.W.mg_of X G a24)
    cases q
    rfl
  subst e
  let A : Ad := { f_is_number := f0, fd_is_number := PySem.W.fnOf "is_number" "is_number" (defArgs s_is_number) (defBody s_is_number) (defScope s_is_number) .none kV0 dc0 pm0 an0 cd0 ct0, f_is_stretch := f1, fd_is_stretch := PySem.W.fnOf "is_stretch" "is_stretch" (defArgs s_is_stretch) (defBody s_is_stretch) (defScope s_is_stretch) .none kV1 dc1 pm1 an1 cd1 ct1, f_is_gathered := f2, fd_is_gathered := PySem.W.fnOf "is_gathered" "is_gathered" (defArgs s_is_gathered) (defBody s_is_gathered) (defScope s_is_gathered) .none kV2 dc2 pm2 an2 cd2 ct2, f_are_pairs := f3, fd_are_pairs := PySem.W.fnOf "are_pairs" "are_pairs" (defArgs s_are_pairs) (defBody s_are_pairs) (defScope s_are_pairs) .none kV3 dc3 pm3 an3 cd3 ct3, f_bad_part := f4, fd_bad_part := PySem.W.fnOf "bad_part" "bad_part" (defArgs s_bad_part) (defBody s_bad_part) (defScope s_bad_part) .none kV4 dc4 pm4 an4 cd4 ct4, f_need_rules := f5, fd_need_rules := PySem.W.fnOf "need_rules" "need_rules" (defArgs s_need_rules) (defBody s_need_rules) (defScope s_need_rules) .none kV5 dc5 pm5 an5 cd5 ct5, f_need_person := f6, fd_need_person := PySem.W.fnOf "need_person" "need_person" (defArgs s_need_person) (defBody s_need_person) (defScope s_need_person) .none kV6 dc6 pm6 an6 cd6 ct6, f_need_moment := f7, fd_need_moment := PySem.W.fnOf "need_moment" "need_moment" (defArgs s_need_moment) (defBody s_need_moment) (defScope s_need_moment) .none kV7 dc7 pm7 an7 cd7 ct7, f_is_in := f8, fd_is_in := PySem.W.fnOf "is_in" "is_in" (defArgs s_is_in) (defBody s_is_in) (defScope s_is_in) .none kV8 dc8 pm8 an8 cd8 ct8, f_hush_at := f9, fd_hush_at := PySem.W.fnOf "hush_at" "hush_at" (defArgs s_hush_at) (defBody s_hush_at) (defScope s_hush_at) .none kV9 dc9 pm9 an9 cd9 ct9, f_is_hushed := f10, fd_is_hushed := PySem.W.fnOf "is_hushed" "is_hushed" (defArgs s_is_hushed) (defBody s_is_hushed) (defScope s_is_hushed) .none kV10 dc10 pm10 an10 cd10 ct10, f_free_at := f11, fd_free_at := PySem.W.fnOf "free_at" "free_at" (defArgs s_free_at) (defBody s_free_at) (defScope s_free_at) .none kV11 dc11 pm11 an11 cd11 ct11, f_free_from := f12, fd_free_from := PySem.W.fnOf "free_from" "free_from" (defArgs s_free_from) (defBody s_free_from) (defScope s_free_from) .none kV12 dc12 pm12 an12 cd12 ct12, f_hushed_between := f13, fd_hushed_between := PySem.W.fnOf "hushed_between" "hushed_between" (defArgs s_hushed_between) (defBody s_hushed_between) (defScope s_hushed_between) .none kV13 dc13 pm13 an13 cd13 ct13, f_law_begun := f14, fd_law_begun := PySem.W.fnOf "_law_begun" "_law_begun" (defArgs s_law_begun) (defBody s_law_begun) (defScope s_law_begun) .none kV14 dc14 pm14 an14 cd14 ct14, f_law_take := f15, fd_law_take := PySem.W.fnOf "_law_take" "_law_take" (defArgs s_law_take) (defBody s_law_take) (defScope s_law_take) .none kV15 dc15 pm15 an15 cd15 ct15, f_law_alike := f16, fd_law_alike := PySem.W.fnOf "_law_alike" "_law_alike" (defArgs s_law_alike) (defBody s_law_alike) (defScope s_law_alike) .none kV16 dc16 pm16 an16 cd16 ct16, f_law_stretches := f17, fd_law_stretches := PySem.W.fnOf "_law_stretches" "_law_stretches" (defArgs s_law_stretches) (defBody s_law_stretches) (defScope s_law_stretches) .none kV17 dc17 pm17 an17 cd17 ct17, f_law_rule := f18, fd_law_rule := PySem.W.fnOf "_law_rule" "_law_rule" (defArgs s_law_rule) (defBody s_law_rule) (defScope s_law_rule) .none kV18 dc18 pm18 an18 cd18 ct18, f_law_rules := f19, fd_law_rules := PySem.W.fnOf "_law_rules" "_law_rules" (defArgs s_law_rules) (defBody s_law_rules) (defScope s_law_rules) .none kV19 dc19 pm19 an19 cd19 ct19, f_law_hush := f20, fd_law_hush := PySem.W.fnOf "_law_hush" "_law_hush" (defArgs s_law_hush) (defBody s_law_hush) (defScope s_law_hush) .none kV20 dc20 pm20 an20 cd20 ct20, f_law_told := f21, fd_law_told := PySem.W.fnOf "_law_told" "_law_told" (defArgs s_law_told) (defBody s_law_told) (defScope s_law_told) .none kV21 dc21 pm21 an21 cd21 ct21, f_law_all := f22, fd_law_all := PySem.W.fnOf "_law_all" "_law_all" (defArgs s_law_all) (defBody s_law_all) (defScope s_law_all) .none kV22 dc22 pm22 an22 cd22 ct22, f_law_is_refused := f23, fd_law_is_refused := PySem.W.fnOf "_law_is_refused" "_law_is_refused" (defArgs s_law_is_refused) (defBody s_law_is_refused) (defScope s_law_is_refused) .none kV23 dc23 pm23 an23 (.ref co23) ct23, f_law := f24, fd_law := PySem.W.fnOf "law" "law" (defArgs s_law) (defBody s_law) (defScope s_law) .none kV24 dc24 pm24 an24 cd24 ct24, x_BadBell := X_BadBell, x_BadDevice := X_BadDevice, x_BadHears := X_BadHears, x_BadMoment := X_BadMoment, x_BadNotices := X_BadNotices, x_BadPerson := X_BadPerson, x_BadRules := X_BadRules, x_BadText := X_BadText, x_IsOff := X_IsOff, x_NotRinging := X_NotRinging, x_NoticeError := X_NoticeError, co_law_is_refused := co23, tb_law_is_refused := pt23 }
  have F0 : Fun K "is_number" "is_number" s_is_number f0 (PySem.W.fnOf "is_number" "is_number" (defArgs s_is_number) (defBody s_is_number) (defScope s_is_number) .none kV0 dc0 pm0 an0 cd0 ct0) := fun_mk (st := s_is_number) l0 c0 k0
  have F1 : Fun K "is_stretch" "is_stretch" s_is_stretch f1 (PySem.W.fnOf "is_stretch" "is_stretch" (defArgs s_is_stretch) (defBody s_is_stretch) (defScope s_is_stretch) .none kV1 dc1 pm1 an1 cd1 ct1) := fun_mk (st := s_is_stretch) l1 c1 k1
  have F2 : Fun K "is_gathered" "is_gathered" s_is_gathered f2 (PySem.W.fnOf "is_gathered" "is_gathered" (defArgs s_is_gathered) (defBody s_is_gathered) (defScope s_is_gathered) .none kV2 dc2 pm2 an2 cd2 ct2) := fun_mk (st := s_is_gathered) l2 c2 k2
  have F3 : Fun K "are_pairs" "are_pairs" s_are_pairs f3 (PySem.W.fnOf "are_pairs" "are_pairs" (defArgs s_are_pairs) (defBody s_are_pairs) (defScope s_are_pairs) .none kV3 dc3 pm3 an3 cd3 ct3) := fun_mk (st := s_are_pairs) l3 c3 k3
  have F4 : Fun K "bad_part" "bad_part" s_bad_part f4 (PySem.W.fnOf "bad_part" "bad_part" (defArgs s_bad_part) (defBody s_bad_part) (defScope s_bad_part) .none kV4 dc4 pm4 an4 cd4 ct4) := fun_mk (st := s_bad_part) l4 c4 k4
  have F5 : Fun K "need_rules" "need_rules" s_need_rules f5 (PySem.W.fnOf "need_rules" "need_rules" (defArgs s_need_rules) (defBody s_need_rules) (defScope s_need_rules) .none kV5 dc5 pm5 an5 cd5 ct5) := fun_mk (st := s_need_rules) l5 c5 k5
  have F6 : Fun K "need_person" "need_person" s_need_person f6 (PySem.W.fnOf "need_person" "need_person" (defArgs s_need_person) (defBody s_need_person) (defScope s_need_person) .none kV6 dc6 pm6 an6 cd6 ct6) := fun_mk (st := s_need_person) l6 c6 k6
  have F7 : Fun K "need_moment" "need_moment" s_need_moment f7 (PySem.W.fnOf "need_moment" "need_moment" (defArgs s_need_moment) (defBody s_need_moment) (defScope s_need_moment) .none kV7 dc7 pm7 an7 cd7 ct7) := fun_mk (st := s_need_moment) l7 c7 k7
  have F8 : Fun K "is_in" "is_in" s_is_in f8 (PySem.W.fnOf "is_in" "is_in" (defArgs s_is_in) (defBody s_is_in) (defScope s_is_in) .none kV8 dc8 pm8 an8 cd8 ct8) := fun_mk (st := s_is_in) l8 c8 k8
  have F9 : Fun K "hush_at" "hush_at" s_hush_at f9 (PySem.W.fnOf "hush_at" "hush_at" (defArgs s_hush_at) (defBody s_hush_at) (defScope s_hush_at) .none kV9 dc9 pm9 an9 cd9 ct9) := fun_mk (st := s_hush_at) l9 c9 k9
  have F10 : Fun K "is_hushed" "is_hushed" s_is_hushed f10 (PySem.W.fnOf "is_hushed" "is_hushed" (defArgs s_is_hushed) (defBody s_is_hushed) (defScope s_is_hushed) .none kV10 dc10 pm10 an10 cd10 ct10) := fun_mk (st := s_is_hushed) l10 c10 k10
  have F11 : Fun K "free_at" "free_at" s_free_at f11 (PySem.W.fnOf "free_at" "free_at" (defArgs s_free_at) (defBody s_free_at) (defScope s_free_at) .none kV11 dc11 pm11 an11 cd11 ct11) := fun_mk (st := s_free_at) l11 c11 k11
  have F12 : Fun K "free_from" "free_from" s_free_from f12 (PySem.W.fnOf "free_from" "free_from" (defArgs s_free_from) (defBody s_free_from) (defScope s_free_from) .none kV12 dc12 pm12 an12 cd12 ct12) := fun_mk (st := s_free_from) l12 c12 k12
  have F13 : Fun K "hushed_between" "hushed_between" s_hushed_between f13 (PySem.W.fnOf "hushed_between" "hushed_between" (defArgs s_hushed_between) (defBody s_hushed_between) (defScope s_hushed_between) .none kV13 dc13 pm13 an13 cd13 ct13) := fun_mk (st := s_hushed_between) l13 c13 k13
  have F14 : Fun K "_law_begun" "_law_begun" s_law_begun f14 (PySem.W.fnOf "_law_begun" "_law_begun" (defArgs s_law_begun) (defBody s_law_begun) (defScope s_law_begun) .none kV14 dc14 pm14 an14 cd14 ct14) := fun_mk (st := s_law_begun) l14 c14 k14
  have F15 : Fun K "_law_take" "_law_take" s_law_take f15 (PySem.W.fnOf "_law_take" "_law_take" (defArgs s_law_take) (defBody s_law_take) (defScope s_law_take) .none kV15 dc15 pm15 an15 cd15 ct15) := fun_mk (st := s_law_take) l15 c15 k15
  have F16 : Fun K "_law_alike" "_law_alike" s_law_alike f16 (PySem.W.fnOf "_law_alike" "_law_alike" (defArgs s_law_alike) (defBody s_law_alike) (defScope s_law_alike) .none kV16 dc16 pm16 an16 cd16 ct16) := fun_mk (st := s_law_alike) l16 c16 k16
  have F17 : Fun K "_law_stretches" "_law_stretches" s_law_stretches f17 (PySem.W.fnOf "_law_stretches" "_law_stretches" (defArgs s_law_stretches) (defBody s_law_stretches) (defScope s_law_stretches) .none kV17 dc17 pm17 an17 cd17 ct17) := fun_mk (st := s_law_stretches) l17 c17 k17
  have F18 : Fun K "_law_rule" "_law_rule" s_law_rule f18 (PySem.W.fnOf "_law_rule" "_law_rule" (defArgs s_law_rule) (defBody s_law_rule) (defScope s_law_rule) .none kV18 dc18 pm18 an18 cd18 ct18) := fun_mk (st := s_law_rule) l18 c18 k18
  have F19 : Fun K "_law_rules" "_law_rules" s_law_rules f19 (PySem.W.fnOf "_law_rules" "_law_rules" (defArgs s_law_rules) (defBody s_law_rules) (defScope s_law_rules) .none kV19 dc19 pm19 an19 cd19 ct19) := fun_mk (st := s_law_rules) l19 c19 k19
  have F20 : Fun K "_law_hush" "_law_hush" s_law_hush f20 (PySem.W.fnOf "_law_hush" "_law_hush" (defArgs s_law_hush) (defBody s_law_hush) (defScope s_law_hush) .none kV20 dc20 pm20 an20 cd20 ct20) := fun_mk (st := s_law_hush) l20 c20 k20
  have F21 : Fun K "_law_told" "_law_told" s_law_told f21 (PySem.W.fnOf "_law_told" "_law_told" (defArgs s_law_told) (defBody s_law_told) (defScope s_law_told) .none kV21 dc21 pm21 an21 cd21 ct21) := fun_mk (st := s_law_told) l21 c21 k21
  have F22 : Fun K "_law_all" "_law_all" s_law_all f22 (PySem.W.fnOf "_law_all" "_law_all" (defArgs s_law_all) (defBody s_law_all) (defScope s_law_all) .none kV22 dc22 pm22 an22 cd22 ct22) := fun_mk (st := s_law_all) l22 c22 k22
  have F23 : Fun K "_law_is_refused" "_law_is_refused" s_law_is_refused f23 (PySem.W.fnOf "_law_is_refused" "_law_is_refused" (defArgs s_law_is_refused) (defBody s_law_is_refused) (defScope s_law_is_refused) .none kV23 dc23 pm23 an23 (.ref co23) ct23) := fun_mk (st := s_law_is_refused) l23 c23 k23
  have F24 : Fun K "law" "law" s_law f24 (PySem.W.fnOf "law" "law" (defArgs s_law) (defBody s_law) (defScope s_law) .none kV24 dc24 pm24 an24 cd24 ct24) := fun_mk (st := s_law) l24 c24 k24
  have T : Txt K mg A := {
    F_is_number := F0
    b_is_number := F0.binds (ps := ["part", "low", "high"]) fun _ _ _ _ _ _ us hl => match us, hl with | [_, _, _], _ => rfl
    g_is_number := PySem.W.mg_of X G a0
    F_is_stretch := F1
    b_is_stretch := F1.binds (ps := ["pair"]) fun _ _ _ _ _ _ us hl => match us, hl with | [_], _ => rfl
    g_is_stretch := PySem.W.mg_of X G a1
    F_is_gathered := F2
    b_is_gathered := F2.binds (ps := ["pair"]) fun _ _ _ _ _ _ us hl => match us, hl with | [_], _ => rfl
    g_is_gathered := PySem.W.mg_of X G a2
    F_are_pairs := F3
    b_are_pairs := F3.binds (ps := ["some", "most", "is_good"]) fun _ _ _ _ _ _ us hl => match us, hl with | [_, _, _], _ => rfl
    g_are_pairs := PySem.W.mg_of X G a3
    F_bad_part := F4
    b_bad_part := F4.binds (ps := ["rule", "many"]) fun _ _ _ _ _ _ us hl => match us, hl with | [_, _], _ => rfl
    g_bad_part := PySem.W.mg_of X G a4
    F_need_rules := F5
    b_need_rules := F5.binds (ps := ["rules"]) fun _ _ _ _ _ _ us hl => match us, hl with | [_], _ => rfl
    g_need_rules := PySem.W.mg_of X G a5
    F_need_person := F6
    b_need_person := F6.binds (ps := ["rules", "person"]) fun _ _ _ _ _ _ us hl => match us, hl with | [_, _], _ => rfl
    g_need_person := PySem.W.mg_of X G a6
    F_need_moment := F7
    b_need_moment := F7.binds (ps := ["moment"]) fun _ _ _ _ _ _ us hl => match us, hl with | [_], _ => rfl
    g_need_moment := PySem.W.mg_of X G a7
    F_is_in := F8
    b_is_in := F8.binds (ps := ["stretch", "hour"]) fun _ _ _ _ _ _ us hl => match us, hl with | [_, _], _ => rfl
    g_is_in := PySem.W.mg_of X G a8
    F_hush_at := F9
    b_hush_at := F9.binds (ps := ["rule", "moment"]) fun _ _ _ _ _ _ us hl => match us, hl with | [_, _], _ => rfl
    g_hush_at := PySem.W.mg_of X G a9
    F_is_hushed := F10
    b_is_hushed := F10.binds (ps := ["rules", "person", "moment"]) fun _ _ _ _ _ _ us hl => match us, hl with | [_, _, _], _ => rfl
    g_is_hushed := PySem.W.mg_of X G a10
    F_free_at := F11
    b_free_at := F11.binds (ps := ["rule", "moment"]) fun _ _ _ _ _ _ us hl => match us, hl with | [_, _], _ => rfl
    g_free_at := PySem.W.mg_of X G a11
    F_free_from := F12
    b_free_from := F12.binds (ps := ["rules", "person", "moment"]) fun _ _ _ _ _ _ us hl => match us, hl with | [_, _, _], _ => rfl
    g_free_from := PySem.W.mg_of X G a12
    F_hushed_between := F13
    b_hushed_between := F13.binds (ps := ["rules", "person", "begin", "end"]) fun _ _ _ _ _ _ us hl => match us, hl with | [_, _, _, _], _ => rfl
    g_hushed_between := PySem.W.mg_of X G a13
    F_law_begun := F14
    b_law_begun := F14.binds (ps := ["_law_script"]) fun _ _ _ _ _ _ us hl => match us, hl with | [_], _ => rfl
    g_law_begun := PySem.W.mg_of X G a14
    F_law_take := F15
    b_law_take := F15.binds (ps := ["_law_box", "_law_many"]) fun _ _ _ _ _ _ us hl => match us, hl with | [_, _], _ => rfl
    g_law_take := PySem.W.mg_of X G a15
    F_law_alike := F16
    b_law_alike := F16.binds (ps := ["_law_found", "_law_due"]) fun _ _ _ _ _ _ us hl => match us, hl with | [_, _], _ => rfl
    g_law_alike := PySem.W.mg_of X G a16
    F_law_stretches := F17
    b_law_stretches := F17.binds (ps := ["_law_box"]) fun _ _ _ _ _ _ us hl => match us, hl with | [_], _ => rfl
    g_law_stretches := PySem.W.mg_of X G a17
    F_law_rule := F18
    b_law_rule := F18.binds (ps := ["_law_box", "_law_many"]) fun _ _ _ _ _ _ us hl => match us, hl with | [_, _], _ => rfl
    g_law_rule := PySem.W.mg_of X G a18
    F_law_rules := F19
    b_law_rules := F19.binds (ps := ["_law_box"]) fun _ _ _ _ _ _ us hl => match us, hl with | [_], _ => rfl
    g_law_rules := PySem.W.mg_of X G a19
    F_law_hush := F20
    b_law_hush := F20.binds (ps := ["_law_rule_here", "_law_moment"]) fun _ _ _ _ _ _ us hl => match us, hl with | [_, _], _ => rfl
    g_law_hush := PySem.W.mg_of X G a20
    F_law_told := F21
    b_law_told := F21.binds (ps := ["_law_work"]) fun _ _ _ _ _ _ us hl => match us, hl with | [_], _ => rfl
    g_law_told := PySem.W.mg_of X G a21
    F_law_all := F22
    b_law_all := F22.binds (ps := ["_law_works", "_law_due"]) fun _ _ _ _ _ _ us hl => match us, hl with | [_, _], _ => rfl
    g_law_all := PySem.W.mg_of X G a22
    F_law_is_refused := F23
    b_law_is_refused := F23.binds (ps := ["_law_box", "_law_rules_here", "_law_moment"]) fun _ _ _ _ _ _ us hl => match us, hl with | [_, _, _], _ => rfl
    g_law_is_refused := PySem.W.mg_of X G a23
    F_law := F24
    g_law := PySem.W.mg_of X G a24
    ask := ⟨PySem.W.mg_none_of X G nisx, PySem.W.mg_none_of X G nvex, PySem.W.mg_of X G aX_BadBell, PySem.W.mg_of X G aX_BadDevice, PySem.W.mg_of X G aX_BadHears, PySem.W.mg_of X G aX_BadMoment, PySem.W.mg_of X G aX_BadNotices, PySem.W.mg_of X G aX_BadPerson, PySem.W.mg_of X G aX_BadRules, PySem.W.mg_of X G aX_BadText, PySem.W.mg_of X G aX_IsOff, PySem.W.mg_of X G aX_NotRinging⟩
    ten := tenB_ok tenx
    gNE := PySem.W.mg_of X G aX_NoticeError
    gx_BadMoment := PySem.W.mg_of X G aX_BadMoment
    xi_BadMoment := xi_BadMoment
    kx_BadMoment := kx_BadMoment
    sx_BadMoment := sx_BadMoment
    tx_BadMoment := tx_BadMoment
    gx_BadPerson := PySem.W.mg_of X G aX_BadPerson
    xi_BadPerson := xi_BadPerson
    kx_BadPerson := kx_BadPerson
    sx_BadPerson := sx_BadPerson
    tx_BadPerson := tx_BadPerson
    cd_law_is_refused := rfl
    n_all := PySem.W.mg_none_of X G n_all
    n_any := PySem.W.mg_none_of X G n_any
    n_bool := PySem.W.mg_none_of X G n_bool
    n_divmod := PySem.W.mg_none_of X G n_divmod
    n_enumerate := PySem.W.mg_none_of X G n_enumerate
    n_int := PySem.W.mg_none_of X G n_int
    n_isinstance := PySem.W.mg_none_of X G n_isinstance
    n_len := PySem.W.mg_none_of X G n_len
    n_list := PySem.W.mg_none_of X G n_list
    n_max := PySem.W.mg_none_of X G n_max
    n_min := PySem.W.mg_none_of X G n_min
    n_range := PySem.W.mg_none_of X G n_range
    n_set := PySem.W.mg_none_of X G n_set
    n_sorted := PySem.W.mg_none_of X G n_sorted
    n_str := PySem.W.mg_none_of X G n_str
    n_tuple := PySem.W.mg_none_of X G n_tuple
    g_DAY := ⟨_, PySem.W.mg_of X G g_DAY⟩
    g_HUSHED := ⟨_, PySem.W.mg_of X G g_HUSHED⟩
    g_MOST_GATHERED := ⟨_, PySem.W.mg_of X G g_MOST_GATHERED⟩
    g_MOST_HUSHED := ⟨_, PySem.W.mg_of X G g_MOST_HUSHED⟩
    g_MOST_KIND := ⟨_, PySem.W.mg_of X G g_MOST_KIND⟩
    g_MOST_MOMENT := ⟨_, PySem.W.mg_of X G g_MOST_MOMENT⟩
    g_MOST_PERSONS := ⟨_, PySem.W.mg_of X G g_MOST_PERSONS⟩
    g_MOST_RANK := ⟨_, PySem.W.mg_of X G g_MOST_RANK⟩
    g_MOST_SPAN := ⟨_, PySem.W.mg_of X G g_MOST_SPAN⟩
    g_MOST_WAIT := ⟨_, PySem.W.mg_of X G g_MOST_WAIT⟩
  }
  exact ⟨PySem.W.fnOf "law" "law" (defArgs s_law) (defBody s_law) (defScope s_law) .none kV24 dc24 pm24 an24 cd24 ct24, [(co23, pt23)], spLawT K [(co23, pt23)], (by
    intro p hp
    simp only [List.mem_cons, List.not_mem_nil, or_false] at hp
    rcases hp with rfl
    · exact tt23.2), (by
    intro p hp
    simp only [List.mem_cons, List.not_mem_nil, or_false] at hp
    rcases hp with rfl
    · exact np23), (by
    intro p hp
    simp only [List.mem_cons, List.not_mem_nil, or_false] at hp
    rcases hp with rfl
    · exact tt23.1), fun s v => .of_eq rfl, fun H a ns hl _ hT hs => ⟨a, ns, rfl, hs, hl, hT, fun _ => rfl⟩, fun base _ _ TB => ok_law (A := A) T ⟨TB (co23, pt23) (by simp)⟩ pl (by
    intro p hp
    have hp : p ∈ [(A.tb_law_is_refused, (("_law_is_refused" : Str) ++ ".<locals>." : Str) ++ "<lambda>")] := hp
    simp only [List.mem_cons, List.not_mem_nil, or_false] at hp
    rcases hp with rfl
    · exact ⟨(co23, pt23), by simp, rfl⟩)⟩
theorem walk {l : PySem.W.OpenLaw} {q : Program} {loose : List Str} {XP : (Str → Option Value) → Heap → Prop} {YP : World → Heap → Prop} {d : DefRec} {K : Params → PySem.W.Frag} (hn : l.most = some 63) (hdf : d.params.defaults = [])
    (hY : ∀ (w : World) (h : Heap), YP w h → (K w.params).In h)
    (F : ∀ (w : World) (mean : ExcName → Option Value) (mg mb : Str → Option Value) (fa : Addr) (h : Heap), YP w h → (K w.params).In h → PyProof.Rows.Top q (PySem.W.looseW q loose) mean mg mb h → mg d.name = some (.ref fa) → LamX.LawAtS l w (K w.params) CX0 12 63 "_law_script" mg fa h) :
    PySem.W.WalkO q loose XP YP l.row.toRowW d [] (fun f vs => PySem.call f vs) :=
  walk_T (n := 63) (k := 12) (x := "_law_script") (CX := fun _ => CX0) hn (by decide) hdf ⟨rfl, by decide, by decide⟩ hY F fun _ _ _ _ _ z => z
end Wk
open PySem PySem.W PyProof.Rows in
set_option maxRecDepth 100000 in
set_option maxHeartbeats 0 in
theorem PySem.Challenge.cw_hushnotice_k02_hours_holds : PySem.Challenge.rw_hushnotice_k02_hours.Holds := by
  w_on; o_law; k_head; (case hw => w_witness2)
  k_fill
  refine Wk.walk (l := PySem.Challenge.rw_hushnotice_k02_hours) rfl rfl (fun w h Y => PySem.W.km_in_of Y) ?F
  case F =>
    intro w mean mg mb fa h Y KX T0 hmg
    refine' Wk.all_mk Wk.plain KX T0 hmg ?aX_BadBell ?aX_BadDevice ?aX_BadHears ?aX_BadMoment ?aX_BadNotices ?aX_BadPerson ?aX_BadRules ?aX_BadText ?aX_IsOff ?aX_NotRinging ?aX_NoticeError ?xi_BadMoment ?kx_BadMoment ?sx_BadMoment ?tx_BadMoment ?xi_BadPerson ?kx_BadPerson ?sx_BadPerson ?tx_BadPerson ?nisx ?nvex ?tenx ?a0 ?l0 ?c0 ?k0 ?a1 ?l1 ?c1 ?k1 ?a2 ?l2 ?c2 ?k2 ?a3 ?l3 ?c3 ?k3 ?a4 ?l4 ?c4 ?k4 ?a5 ?l5 ?c5 ?k5 ?a6 ?l6 ?c6 ?k6 ?a7 ?l7 ?c7 ?k7 ?a8 ?l8 ?c8 ?k8 ?a9 ?l9 ?c9 ?k9 ?a10 ?l10 ?c10 ?k10 ?a11 ?l11 ?c11 ?k11 ?a12 ?l12 ?c12 ?k12 ?a13 ?l13 ?c13 ?k13 ?a14 ?l14 ?c14 ?k14 ?a15 ?l15 ?c15 ?k15 ?a16 ?l16 ?c16 ?k16 ?a17 ?l17 ?c17 ?k17 ?a18 ?l18 ?c18 ?k18 ?a19 ?l19 ?c19 ?k19 ?a20 ?l20 ?c20 ?k20 ?a21 ?l21 ?c21 ?k21 ?a22 ?l22 ?c22 ?k22 ?a23 ?l23 ?c23 ?lc23 ?lp23 ?np23 ?tt23 ?k23 ?a24 ?l24 ?c24 ?k24 ?n_all ?n_any ?n_bool ?n_divmod ?n_enumerate ?n_int ?n_isinstance ?n_len ?n_list ?n_max ?n_min ?n_range ?n_set ?n_sorted ?n_str ?n_tuple ?g_DAY ?g_HUSHED ?g_MOST_GATHERED ?g_MOST_HUSHED ?g_MOST_KIND ?g_MOST_MOMENT ?g_MOST_PERSONS ?g_MOST_RANK ?g_MOST_SPAN ?g_MOST_WAIT
    (case aX_BadBell => k_is)
    (case aX_BadDevice => k_is)
    (case aX_BadHears => k_is)
    (case aX_BadMoment => k_is)
    (case aX_BadNotices => k_is)
    (case aX_BadPerson => k_is)
    (case aX_BadRules => k_is)
    (case aX_BadText => k_is)
    (case aX_IsOff => k_is)
    (case aX_NotRinging => k_is)
    (case aX_NoticeError => k_is)
    (case xi_BadMoment => k_exc)
    (case kx_BadMoment => k_is)
    (case sx_BadMoment => k_is)
    (case tx_BadMoment => k_is)
    (case xi_BadPerson => k_exc)
    (case kx_BadPerson => k_is)
    (case sx_BadPerson => k_is)
    (case tx_BadPerson => k_is)
    (case nisx => k_is)
    (case nvex => k_is)
    (case tenx => kernel_rfl)
    (case a0 => k_is)
    (case l0 => k_is)
    (case c0 => k_is)
    (case k0 => k_is)
    (case a1 => k_is)
    (case l1 => k_is)
    (case c1 => k_is)
    (case k1 => k_is)
    (case a2 => k_is)
    (case l2 => k_is)
    (case c2 => k_is)
    (case k2 => k_is)
    (case a3 => k_is)
    (case l3 => k_is)
    (case c3 => k_is)
    (case k3 => k_is)
    (case a4 => k_is)
    (case l4 => k_is)
    (case c4 => k_is)
    (case k4 => k_is)
    (case a5 => k_is)
    (case l5 => k_is)
    (case c5 => k_is)
    (case k5 => k_is)
    (case a6 => k_is)
    (case l6 => k_is)
    (case c6 => k_is)
    (case k6 => k_is)
    (case a7 => k_is)
    (case l7 => k_is)
    (case c7 => k_is)
    (case k7 => k_is)
    (case a8 => k_is)
    (case l8 => k_is)
    (case c8 => k_is)
    (case k8 => k_is)
    (case a9 => k_is)
    (case l9 => k_is)
    (case c9 => k_is)
    (case k9 => k_is)
    (case a10 => k_is)
    (case l10 => k_is)
    (case c10 => k_is)
    (case k10 => k_is)
    (case a11 => k_is)
    (case l11 => k_is)
    (case c11 => k_is)
    (case k11 => k_is)
    (case a12 => k_is)
    (case l12 => k_is)
    (case c12 => k_is)
    (case k12 => k_is)
    (case a13 => k_is)
    (case l13 => k_is)
    (case c13 => k_is)
    (case k13 => k_is)
    (case a14 => k_is)
    (case l14 => k_is)
    (case c14 => k_is)
    (case k14 => k_is)
    (case a15 => k_is)
    (case l15 => k_is)
    (case c15 => k_is)
    (case k15 => k_is)
    (case a16 => k_is)
    (case l16 => k_is)
    (case c16 => k_is)
    (case k16 => k_is)
    (case a17 => k_is)
    (case l17 => k_is)
    (case c17 => k_is)
    (case k17 => k_is)
    (case a18 => k_is)
    (case l18 => k_is)
    (case c18 => k_is)
    (case k18 => k_is)
    (case a19 => k_is)
    (case l19 => k_is)
    (case c19 => k_is)
    (case k19 => k_is)
    (case a20 => k_is)
    (case l20 => k_is)
    (case c20 => k_is)
    (case k20 => k_is)
    (case a21 => k_is)
    (case l21 => k_is)
    (case c21 => k_is)
    (case k21 => k_is)
    (case a22 => k_is)
    (case l22 => k_is)
    (case c22 => k_is)
    (case k22 => k_is)
    (case a23 => k_is)
    (case l23 => k_is)
    (case c23 => k_is)
    (case lc23 => k_is)
    (case lp23 => rfl)
    (case np23 => kernel_rfl)
    (case tt23 => exact ⟨PySem.W.codeHd_of_K KX (by kernel_rfl), PySem.W.km_tabs_of Y _ (by k_mem)⟩)
    (case k23 => k_is)
    (case a24 => k_is)
    (case l24 => k_is)
    (case c24 => k_is)
    (case k24 => k_is)
    (case n_all => k_is)
    (case n_any => k_is)
    (case n_bool => k_is)
    (case n_divmod => k_is)
    (case n_enumerate => k_is)
    (case n_int => k_is)
    (case n_isinstance => k_is)
    (case n_len => k_is)
    (case n_list => k_is)
    (case n_max => k_is)
    (case n_min => k_is)
    (case n_range => k_is)
    (case n_set => k_is)
    (case n_sorted => k_is)
    (case n_str => k_is)
    (case n_tuple => k_is)
    (case g_DAY => k_is)
    (case g_HUSHED => k_is)
    (case g_MOST_GATHERED => k_is)
    (case g_MOST_HUSHED => k_is)
    (case g_MOST_KIND => k_is)
    (case g_MOST_MOMENT => k_is)
    (case g_MOST_PERSONS => k_is)
    (case g_MOST_RANK => k_is)
    (case g_MOST_SPAN => k_is)
    (case g_MOST_WAIT => k_is)
